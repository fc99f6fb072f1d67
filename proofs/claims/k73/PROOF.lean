import PyProof.Rows.All
import Wide.All
import OpenK.AllK
import Wide.FinOn
import HandS.Base
import HandS.Call
import HandS.List
import HandS.Comp
import HandS.Exc
import HandS.SlotsVar
import KE.KDictKeyed
import KE.KDictDisplayH
import HandS.Lambda
import HandS.Slots
import KE.IntBitsLaws
import HandS.TupAny
import PyProof.P3In
import HandS.Deep
import HandS.Star
import HandS.Flow
import HandS.SortInts
import HandS.TupMul
import HandS.Iter
import HandS.Zip
import HandS.SlotsOwn
import HandS.IsInst
import HandS.ExcOwn
import HandS.DictComp
import HandS.TupLen
import KE.KDictCopyH
import HandS.Style
import HandS.Words
import KE.GoesEnum
import KE.DatumOrd
import KE.SortData
import HandS.GenList
import HandS.AnyAll
import KE.KDictIter
import KE.KExcSuper
import HandS.WordsDict
import HandS.ClsMeth
import HandS.TryMany
import HandS.ExcField
import HandS.EndTab
import HandS.Defaults
import HandS.HeadHook4
import HandS.HeadWalk
import HandS.NestedK
import HandS.Head0
import HandS.Head1
import HandS.Head2
import PySem.Challenge.RW_underwords_k73_errors_of_smooth_members
set_option Elab.async false
set_option linter.all false
section
set_option maxRecDepth 100000
set_option maxHeartbeats 4000000
/-! Engine, part A: values, the heap of mutable things, how they lie in the abstract heap. -/
noncomputable section
namespace Eng
open PySem PySem.Spec PyProof.Rows L2

/-- a value of the evaluator -/
inductive W where
  | non | bl (b : Bool) | int (i : Int) | str (s : Str) | tup (ws : List W) | lst (ws : List W) | ref (n : Nat) | sta (n : Nat) | ty (n : String) | und

inductive MO where
  | lst (ws : List W)
  | ins (c : Nat) (fs : List W)
  | dct (kvs : List (W × W))
  | fdc (kvs : List (W × W))
  | flc (ws : List W)

inductive BT where
  | nil
  | node (v : MO) (l r : BT)

structure EH where
  n : Nat
  t : BT

inductive Ans where
  | bad
  | ok (w : W) (h : EH)
  | exc (c : Nat) (w : W) (h : EH)

/-! ### choices by recursors (the kernel runs these) -/
def cB {α : Type} (b : Bool) (t f : α) : α := Bool.rec (motive := fun _ => α) f t b
theorem cB_eq {α : Type} (b : Bool) (t f : α) : cB b t f = if b = true then t else f := by cases b <;> rfl
theorem cBn {α : Type} (n m : Nat) (t f : α) : cB (Nat.beq n m) t f = if n = m then t else f := by
  by_cases h : n = m
  · subst h
    rw [if_pos rfl, Nat.beq_refl]
    rfl
  · rw [if_neg h]
    cases hb : Nat.beq n m with
    | true => exact absurd (Nat.eq_of_beq_eq_true hb) h
    | false => rfl
def frN {α : Type} (n : Nat) (k : Nat → α) : α := Nat.rec (motive := fun _ => α) (k 0) (fun m _ => k (Nat.succ m)) n
theorem frN_eq {α : Type} (n : Nat) (k : Nat → α) : frN n k = k n := by cases n <;> rfl

namespace BT
def get : BT → Nat → Option MO
  | .nil, _ => none
  | .node v l r, i => if i = 0 then some v else if i % 2 = 1 then l.get (i / 2) else r.get (i / 2 - 1)
def ins : BT → Nat → MO → Option BT
  | .nil, i, o => if i = 0 then some (.node o .nil .nil) else none
  | .node v l r, i, o => if i = 0 then some (.node o l r) else if i % 2 = 1 then (l.ins (i / 2) o).map fun l => .node v l r else (r.ins (i / 2 - 1) o).map fun r => .node v l r
def getC (t : BT) (n : Nat) (k : MO → Ans) : Ans := BT.rec (motive := fun _ => Nat → Ans) (fun _ => .bad) (fun v _ _ ihl ihr n => cB (Nat.beq n 0) (k v) (cB (Nat.beq (Nat.mod n 2) 1) (ihl (Nat.div n 2)) (ihr (Nat.sub (Nat.div n 2) 1)))) t n
def insC (t : BT) (n : Nat) (o : MO) (k : BT → Ans) : Ans := BT.rec (motive := fun _ => Nat → (BT → Ans) → Ans) (fun n k => cB (Nat.beq n 0) (k (.node o .nil .nil)) .bad)
  (fun v l r ihl ihr n k => cB (Nat.beq n 0) (k (.node o l r)) (cB (Nat.beq (Nat.mod n 2) 1) (ihl (Nat.div n 2) fun l => k (.node v l r)) (ihr (Nat.sub (Nat.div n 2) 1) fun r => k (.node v l r)))) t n k
theorem getC_ok {k : MO → Ans} {a : Ans} (ha : a ≠ .bad) : ∀ {t : BT} {n : Nat}, getC t n k = a → ∃ o, t.get n = some o ∧ k o = a
  | .nil, n, h => absurd (show Ans.bad = a from h).symm ha
  | .node v l r, n, h => by
    have h1 : cB (Nat.beq n 0) (k v) (cB (Nat.beq (Nat.mod n 2) 1) (getC l (Nat.div n 2) k) (getC r (Nat.sub (Nat.div n 2) 1) k)) = a := h
    rw [cBn, cBn] at h1
    unfold get
    by_cases e : n = 0
    · rw [if_pos e] at h1 ⊢
      exact ⟨v, rfl, h1⟩
    · rw [if_neg e] at h1 ⊢
      by_cases e2 : n % 2 = 1
      · rw [if_pos (show Nat.mod n 2 = 1 from e2)] at h1
        rw [if_pos e2]
        exact getC_ok ha h1
      · rw [if_neg (show ¬ Nat.mod n 2 = 1 from e2)] at h1
        rw [if_neg e2]
        exact getC_ok ha h1
theorem insC_ok {o : MO} {a : Ans} (ha : a ≠ .bad) : ∀ {t : BT} {n : Nat} {k : BT → Ans}, insC t n o k = a → ∃ t', t.ins n o = some t' ∧ k t' = a
  | .nil, n, k, h => by
    have h1 : cB (Nat.beq n 0) (k (.node o .nil .nil)) .bad = a := h
    rw [cBn] at h1
    unfold ins
    by_cases e : n = 0
    · rw [if_pos e] at h1 ⊢
      exact ⟨_, rfl, h1⟩
    · rw [if_neg e] at h1
      exact absurd h1.symm ha
  | .node v l r, n, k, h => by
    have h1 : cB (Nat.beq n 0) (k (.node o l r)) (cB (Nat.beq (Nat.mod n 2) 1) (insC l (Nat.div n 2) o fun l => k (.node v l r)) (insC r (Nat.sub (Nat.div n 2) 1) o fun r => k (.node v l r))) = a := h
    rw [cBn, cBn] at h1
    unfold ins
    by_cases e : n = 0
    · rw [if_pos e] at h1 ⊢
      exact ⟨_, rfl, h1⟩
    · rw [if_neg e] at h1 ⊢
      by_cases e2 : n % 2 = 1
      · rw [if_pos (show Nat.mod n 2 = 1 from e2)] at h1
        rw [if_pos e2]
        obtain ⟨t', e3, e4⟩ := insC_ok ha h1
        exact ⟨_, by rw [show n / 2 = Nat.div n 2 from rfl, e3]; rfl, e4⟩
      · rw [if_neg (show ¬ Nat.mod n 2 = 1 from e2)] at h1
        rw [if_neg e2]
        obtain ⟨t', e3, e4⟩ := insC_ok ha h1
        exact ⟨_, by rw [show n / 2 - 1 = Nat.sub (Nat.div n 2) 1 from rfl, e3]; rfl, e4⟩
theorem get_ins {o : MO} : ∀ {t t' : BT} {n : Nat}, t.ins n o = some t' → ∀ m, t'.get m = if m = n then some o else t.get m
  | .nil, t', n, h, m => by
    unfold ins at h
    by_cases e : n = 0
    · rw [if_pos e] at h
      cases h
      subst e
      by_cases e2 : m = 0
      · simp [get, e2]
      · simp [get, e2]
    · rw [if_neg e] at h
      cases h
  | .node v l r, t', n, h, m => by
    unfold ins at h
    by_cases e : n = 0
    · rw [if_pos e] at h
      cases h
      subst e
      by_cases e2 : m = 0
      · simp [get, e2]
      · simp [get, e2]
    · rw [if_neg e] at h
      by_cases e2 : n % 2 = 1
      · rw [if_pos e2] at h
        obtain ⟨l', e3, e4⟩ := Option.map_eq_some_iff.mp h
        subst e4
        have ih := get_ins e3
        unfold get
        by_cases m0 : m = 0
        · rw [if_pos m0, if_pos m0, if_neg (by omega)]
        · rw [if_neg m0, if_neg m0]
          by_cases m1 : m % 2 = 1
          · rw [if_pos m1, if_pos m1, ih]
            by_cases q : m = n
            · rw [if_pos q, if_pos (by rw [q])]
            · rw [if_neg q, if_neg (by omega)]
          · rw [if_neg m1, if_neg m1, if_neg (by omega)]
      · rw [if_neg e2] at h
        obtain ⟨r', e3, e4⟩ := Option.map_eq_some_iff.mp h
        subst e4
        have ih := get_ins e3
        unfold get
        by_cases m0 : m = 0
        · rw [if_pos m0, if_pos m0, if_neg (by omega)]
        · rw [if_neg m0, if_neg m0]
          by_cases m1 : m % 2 = 1
          · rw [if_pos m1, if_pos m1, if_neg (by omega)]
          · rw [if_neg m1, if_neg m1, ih]
            by_cases q : m = n
            · rw [if_pos q, if_pos (by rw [q])]
            · rw [if_neg q, if_neg (by omega)]
end BT

/-! ### how values lie in the abstract heap -/
/-- the written places: those of the evaluator's objects, in their order, and those that a comprehension fills just now -/
structure Rg where
  l : List Addr
  b : List Addr
instance : Membership Addr Rg := ⟨fun r a => a ∈ r.l ∨ a ∈ r.b⟩
theorem Rg.mem {r : Rg} {a : Addr} : a ∈ r ↔ a ∈ r.l ∨ a ∈ r.b := Iff.rfl
def Rg.add (r : Rg) (p : Addr) : Rg := ⟨r.l ++ [p], r.b⟩
def Rg.blk (r : Rg) (p : Addr) : Rg := ⟨r.l, p :: r.b⟩
/-- a tuple, a list of the written part -/
def KTup (K : PySem.W.Frag) (a : Addr) (vs : List V) : Prop := ∃ (o : Obj) (its : Array Value) (n : Nat), K.lookup a = some o ∧ o.cls = .type "tuple" ∧ o.data = .seq its n ∧ its.size ≤ sizeLine ∧ Vals vs its.toList
/-- a tuple, a list that nobody writes: the places at r are written -/
def TupAt (K : PySem.W.Frag) (r : Rg) (H : Hp) (a : Addr) (vs : List V) : Prop := (Rd H a (.tup vs) ∧ a ∉ r) ∨ KTup K a vs
def LstAt (_ : PySem.W.Frag) (r : Rg) (H : Hp) (a : Addr) (vs : List V) : Prop := H a = some (.lst vs) ∧ a ∉ r
theorem TupAt.sq {K : PySem.W.Frag} {r : Rg} {H : Hp} {a : Addr} {vs : List V} (h : TupAt K r H a vs) : SqT K H a vs := h.elim (fun x => .inl x.1) .inr
theorem LstAt.sq {K : PySem.W.Frag} {r : Rg} {H : Hp} {a : Addr} {vs : List V} (h : LstAt K r H a vs) : SqL K H a vs := .inl (.inl h.1)

/-- no table of code objects -/
def NT (o : HO) : Prop := ∀ ps, o ≠ .tbl ps
/-- later: more written places (new ones), all else as it was -/
structure Ext0 (r : Rg) (H : Hp) (r' : Rg) (H' : Hp) : Prop where
  more : ∃ t, r'.l = r.l ++ t
  keep : ∀ a o, H a = some o → NT o → a ∉ r → H' a = some o ∧ a ∉ r'
structure Ext (r : Rg) (H : Hp) (r' : Rg) (H' : Hp) : Prop extends Ext0 r H r' H' where
  bb : ∃ f, r'.b = r.b ++ f ∧ ∀ a ∈ f, a ∉ r.b
  bk : ∀ a o, a ∈ r.b → H a = some o → H' a = some o
theorem Ext0.refl {r : Rg} {H : Hp} : Ext0 r H r H := ⟨⟨[], by simp⟩, fun _ _ h _ n => ⟨h, n⟩⟩
theorem Ext0.trans {r r1 r2 : Rg} {H H1 H2 : Hp} (a : Ext0 r H r1 H1) (b : Ext0 r1 H1 r2 H2) : Ext0 r H r2 H2 := by
  obtain ⟨t, e⟩ := a.more
  obtain ⟨u, e2⟩ := b.more
  refine ⟨⟨t ++ u, by rw [e2, e, List.append_assoc]⟩, fun x o h z n => ?_⟩
  obtain ⟨h1, n1⟩ := a.keep x o h z n
  exact b.keep x o h1 z n1
theorem Ext0.at {r r' : Rg} {H H' : Hp} (e : Ext0 r H r' H') {n : Nat} {a : Addr} (h : r.l[n]? = some a) : r'.l[n]? = some a := by
  obtain ⟨t, q⟩ := e.more
  rw [q, List.getElem?_append_left (List.getElem?_eq_some_iff.mp h).1]
  exact h
theorem Ext.refl {r : Rg} {H : Hp} : Ext r H r H := ⟨Ext0.refl, ⟨[], by simp, by simp⟩, fun _ _ _ h => h⟩
theorem Ext.bmem {r r' : Rg} {H H' : Hp} (e : Ext r H r' H') {a : Addr} (h : a ∈ r.b) : a ∈ r'.b := by
  obtain ⟨f, q, _⟩ := e.bb
  rw [q]
  exact List.mem_append_left _ h
theorem Ext.trans {r r1 r2 : Rg} {H H1 H2 : Hp} (a : Ext r H r1 H1) (b : Ext r1 H1 r2 H2) : Ext r H r2 H2 := by
  obtain ⟨f, q, n⟩ := a.bb
  obtain ⟨f2, q2, n2⟩ := b.bb
  exact ⟨a.toExt0.trans b.toExt0, ⟨f ++ f2, by rw [q2, q, List.append_assoc], fun x hx hb => by
    rcases List.mem_append.mp hx with z | z
    · exact n x z hb
    · exact n2 x z (by rw [q]; exact List.mem_append_left _ hb)⟩, fun x o hx h => b.bk x o (a.bmem hx) (a.bk x o hx h)⟩
theorem Ext.at {r r' : Rg} {H H' : Hp} (e : Ext r H r' H') {n : Nat} {a : Addr} (h : r.l[n]? = some a) : r'.l[n]? = some a := e.toExt0.at h
theorem Ext.mem {r r' : Rg} {H H' : Hp} (e : Ext r H r' H') {a : Addr} (h : a ∈ r) : a ∈ r' := by
  obtain ⟨t, q⟩ := e.more
  rcases h with h | h
  · exact .inl (by rw [q]; exact List.mem_append_left _ h)
  · exact .inr (e.bmem h)
theorem Ext.new {r : Rg} {H : Hp} {p : Addr} {o : HO} (hp : H p = none) : Ext r H r (upd H p o) :=
  ⟨⟨⟨[], by simp⟩, fun a u h _ n => ⟨by rw [upd_ne (ne_of_none h hp)]; exact h, n⟩⟩, ⟨[], by simp, by simp⟩, fun a u _ h => by rw [upd_ne (ne_of_none h hp)]; exact h⟩
theorem Ext0.mut {r : Rg} {H : Hp} {p : Addr} {o : HO} (hp : p ∈ r) : Ext0 r H r (upd H p o) :=
  ⟨⟨[], by simp⟩, fun a u h _ n => ⟨by rw [upd_ne (fun e : a = p => n (by rw [e]; exact hp))]; exact h, n⟩⟩
theorem Ext.mut {r : Rg} {H : Hp} {p : Addr} {o : HO} (hp : p ∈ r.l) (hb : p ∉ r.b) : Ext r H r (upd H p o) :=
  ⟨Ext0.mut (.inl hp), ⟨[], by simp, by simp⟩, fun a u ha h => by rw [upd_ne (fun e : a = p => hb (by rw [← e]; exact ha))]; exact h⟩
theorem Ext.grow {r : Rg} {H H' : Hp} (h : ∀ a o, H a = some o → H' a = some o) : Ext r H r H' := ⟨⟨⟨[], by simp⟩, fun a o q _ n => ⟨h a o q, n⟩⟩, ⟨[], by simp, by simp⟩, fun a o _ q => h a o q⟩
theorem Ext.owned {r : Rg} {H H' : Hp} {p : Addr} (hp : H p = none) (h : ∀ a o, H a = some o → H' a = some o) : Ext r H (r.add p) H' :=
  ⟨⟨⟨[p], rfl⟩, fun a u q _ n => ⟨h a u q, fun hm => by
    rcases hm with z | z
    · rcases List.mem_append.mp z with z | z
      · exact n (.inl z)
      · rw [List.mem_singleton.mp z, hp] at q
        cases q
    · exact n (.inr z)⟩⟩, ⟨[], by simp [Rg.add], by simp⟩, fun a o _ q => h a o q⟩
theorem Ext.own {r : Rg} {H : Hp} {p : Addr} {o : HO} (hp : H p = none) : Ext r H (r.add p) (upd H p o) :=
  Ext.owned hp fun a u h => by rw [upd_ne (ne_of_none h hp)]; exact h
/-- a place for a comprehension's list -/
theorem Ext0.blk {r : Rg} {H : Hp} {p : Addr} {o : HO} (hp : H p = none) : Ext0 r H (r.blk p) (upd H p o) :=
  ⟨⟨[], by simp [Rg.blk]⟩, fun a u h _ n => ⟨by rw [upd_ne (ne_of_none h hp)]; exact h, fun hm => by
    rcases hm with z | z
    · exact n (.inl z)
    · rcases List.mem_cons.mp z with z | z
      · rw [z, hp] at h
        cases h
      · exact n (.inr z)⟩⟩
theorem Ext0.unblk {r : Rg} {H : Hp} {p : Addr} : Ext0 (r.blk p) H r H :=
  ⟨⟨[], by simp [Rg.blk]⟩, fun a u h _ n => ⟨h, fun hm => n (hm.elim .inl fun z => .inr (List.mem_cons_of_mem _ z))⟩⟩

theorem Ext0.blkAdd {r : Rg} {H : Hp} {p : Addr} : Ext0 (r.blk p) H (r.add p) H := ⟨⟨[p], rfl⟩, fun a u q _ n => ⟨q, fun hm => by
  rcases hm with z | z
  · rcases List.mem_append.mp z with z | z
    · exact n (.inl z)
    · exact n (.inr (by rw [List.mem_singleton.mp z]; exact List.mem_cons_self ..))
  · exact n (.inr (List.mem_cons_of_mem _ z))⟩⟩

section
variable {K : PySem.W.Frag} {r r' : Rg} {H H' : Hp} {a : Addr} {vs : List V}
theorem Rd.ext {u : HO} (e : Ext0 r H r' H') (h : Rd H a u) (nt : NT u) (n : a ∉ r) : Rd H' a u ∧ a ∉ r' := by
  rcases h with h | ⟨o, h⟩
  · exact ⟨.inl (e.keep a _ h nt n).1, (e.keep a _ h nt n).2⟩
  · exact ⟨.inr ⟨o, (e.keep a _ h (fun _ z => nomatch z) n).1⟩, (e.keep a _ h (fun _ z => nomatch z) n).2⟩
theorem TupAt.ext0 (e : Ext0 r H r' H') (h : TupAt K r H a vs) : TupAt K r' H' a vs := h.elim (fun x => .inl (Rd.ext e x.1 (fun _ z => nomatch z) x.2)) .inr
theorem LstAt.ext0 (e : Ext0 r H r' H') (h : LstAt K r H a vs) : LstAt K r' H' a vs := e.keep a _ h.1 (fun _ z => nomatch z) h.2
theorem TupAt.ext (e : Ext r H r' H') (h : TupAt K r H a vs) : TupAt K r' H' a vs := h.ext0 e.toExt0
theorem LstAt.ext (e : Ext r H r' H') (h : LstAt K r H a vs) : LstAt K r' H' a vs := h.ext0 e.toExt0
end

mutual
/-- the value w is v in the abstract heap; g: where the module's own things stand -/
def RelW (K : PySem.W.Frag) (g : Nat → Addr) (r : Rg) (H : Hp) : W → V → Prop
  | .non, v => v = .non
  | .bl b, v => v = .bl b
  | .int i, v => v = .int i
  | .str s, v => v = .str s
  | .tup ws, v => ∃ a vs, v = .ref a ∧ ws.length ≤ 16777216 ∧ TupAt K r H a vs ∧ RelWs K g r H ws vs
  | .lst ws, v => ∃ a vs, v = .ref a ∧ ws.length ≤ 16777216 ∧ LstAt K r H a vs ∧ RelWs K g r H ws vs
  | .ref n, v => ∃ a, v = .ref a ∧ r.l[n]? = some a
  | .sta n, v => v = .ref (g n)
  | .ty n, v => v = .ty n
  | .und, _ => False
def RelWs (K : PySem.W.Frag) (g : Nat → Addr) (r : Rg) (H : Hp) : List W → List V → Prop
  | [], vs => vs = []
  | w :: ws, vs => ∃ v q, vs = v :: q ∧ RelW K g r H w v ∧ RelWs K g r H ws q
end
section
variable {K : PySem.W.Frag} {g : Nat → Addr} {r r' : Rg} {H H' : Hp}
mutual
theorem RelW.ext0 (e : Ext0 r H r' H') : ∀ {w : W} {v : V}, RelW K g r H w v → RelW K g r' H' w v
  | .non, _, h => h
  | .bl _, _, h => h
  | .int _, _, h => h
  | .str _, _, h => h
  | .tup ws, _, h => let ⟨a, vs, q, z, t, l⟩ := h; ⟨a, vs, q, z, t.ext0 e, RelWs.ext0 e l⟩
  | .lst ws, _, h => let ⟨a, vs, q, z, t, l⟩ := h; ⟨a, vs, q, z, t.ext0 e, RelWs.ext0 e l⟩
  | .ref n, _, h => let ⟨a, q, t⟩ := h; ⟨a, q, e.at t⟩
  | .sta _, _, h => h
  | .ty _, _, h => h
  | .und, _, h => h
theorem RelWs.ext0 (e : Ext0 r H r' H') : ∀ {ws : List W} {vs : List V}, RelWs K g r H ws vs → RelWs K g r' H' ws vs
  | [], _, h => h
  | w :: ws, _, h => let ⟨v, q, e1, a, b⟩ := h; ⟨v, q, e1, RelW.ext0 e a, RelWs.ext0 e b⟩
end
theorem RelW.ext (e : Ext r H r' H') {w : W} {v : V} (h : RelW K g r H w v) : RelW K g r' H' w v := h.ext0 e.toExt0
theorem RelWs.ext (e : Ext r H r' H') {ws : List W} {vs : List V} (h : RelWs K g r H ws vs) : RelWs K g r' H' ws vs := h.ext0 e.toExt0
theorem RelWs.length : ∀ {ws : List W} {vs : List V}, RelWs K g r H ws vs → ws.length = vs.length
  | [], vs, h => by rw [show vs = [] from h]; rfl
  | w :: ws, vs, h => by
    obtain ⟨v, q, e, _, b⟩ := (show ∃ v q, vs = v :: q ∧ RelW K g r H w v ∧ RelWs K g r H ws q from h)
    rw [e, List.length_cons, List.length_cons, RelWs.length b]
theorem RelWs.append : ∀ {ws us : List W} {vs xs : List V}, RelWs K g r H ws vs → RelWs K g r H us xs → RelWs K g r H (ws ++ us) (vs ++ xs)
  | [], us, vs, xs, h, h2 => by rw [show vs = [] from h]; exact h2
  | w :: ws, us, vs, xs, h, h2 => by
    obtain ⟨v, q, e, a, b⟩ := (show ∃ v q, vs = v :: q ∧ RelW K g r H w v ∧ RelWs K g r H ws q from h)
    rw [e]
    exact ⟨v, q ++ xs, rfl, a, RelWs.append b h2⟩
theorem RelWs.get : ∀ {ws : List W} {vs : List V} {i : Nat} {w : W}, RelWs K g r H ws vs → ws[i]? = some w → ∃ v, vs[i]? = some v ∧ RelW K g r H w v
  | [], _, i, w, _, e => by simp at e
  | w :: ws, vs, i, w', h, e => by
    obtain ⟨v, q, e1, a, b⟩ := (show ∃ v q, vs = v :: q ∧ RelW K g r H w v ∧ RelWs K g r H ws q from h)
    subst e1
    cases i with
    | zero =>
      have e2 : w = w' := by simpa using e
      subst e2
      exact ⟨v, by simp, a⟩
    | succ i =>
      obtain ⟨v', h1, h2⟩ := RelWs.get (i := i) b (by simpa using e)
      exact ⟨v', by simpa using h1, h2⟩
theorem RelWs.get' : ∀ {ws : List W} {vs : List V} {i : Nat} {v : V}, RelWs K g r H ws vs → vs[i]? = some v → ∃ w, ws[i]? = some w ∧ RelW K g r H w v
  | [], vs, i, v, h, e => by rw [show vs = [] from h] at e; simp at e
  | w :: ws, vs, i, v', h, e => by
    obtain ⟨v, q, e1, a, b⟩ := (show ∃ v q, vs = v :: q ∧ RelW K g r H w v ∧ RelWs K g r H ws q from h)
    subst e1
    cases i with
    | zero =>
      have e2 : v = v' := by simpa using e
      subst e2
      exact ⟨w, by simp, a⟩
    | succ i =>
      obtain ⟨w', h1, h2⟩ := RelWs.get' (i := i) b (by simpa using e)
      exact ⟨w', by simpa using h1, h2⟩
theorem RelWs.set {w : W} {v : V} (x : RelW K g r H w v) : ∀ {ws : List W} {vs : List V} (i : Nat), RelWs K g r H ws vs → RelWs K g r H (ws.set i w) (vs.set i v)
  | [], vs, i, h => by rw [show vs = [] from h]; exact rfl
  | w' :: ws, vs, i, h => by
    obtain ⟨v', q, e1, a, b⟩ := (show ∃ v q, vs = v :: q ∧ RelW K g r H w' v ∧ RelWs K g r H ws q from h)
    subst e1
    cases i with
    | zero => exact ⟨v, q, rfl, x, b⟩
    | succ i => exact ⟨v', q.set i v, rfl, a, RelWs.set x i b⟩
theorem RelWs.take : ∀ {ws : List W} {vs : List V} (i : Nat), RelWs K g r H ws vs → RelWs K g r H (ws.take i) (vs.take i)
  | [], vs, i, h => by rw [show vs = [] from h]; simp; exact rfl
  | w' :: ws, vs, i, h => by
    obtain ⟨v', q, e1, a, b⟩ := (show ∃ v q, vs = v :: q ∧ RelW K g r H w' v ∧ RelWs K g r H ws q from h)
    subst e1
    cases i with
    | zero => exact rfl
    | succ i => exact ⟨v', q.take i, rfl, a, RelWs.take i b⟩
theorem RelWs.drop : ∀ {ws : List W} {vs : List V} (i : Nat), RelWs K g r H ws vs → RelWs K g r H (ws.drop i) (vs.drop i)
  | [], vs, i, h => by rw [show vs = [] from h]; simp; exact rfl
  | w' :: ws, vs, i, h => by
    obtain ⟨v', q, e1, a, b⟩ := (show ∃ v q, vs = v :: q ∧ RelW K g r H w' v ∧ RelWs K g r H ws q from h)
    subst e1
    cases i with
    | zero => exact ⟨v', q, rfl, a, b⟩
    | succ i => exact RelWs.drop i b
theorem RelWs.reverse {ws : List W} {vs : List V} (h : RelWs K g r H ws vs) : RelWs K g r H ws.reverse vs.reverse := by
  induction ws generalizing vs with
  | nil => rw [show vs = [] from h]; exact rfl
  | cons w ws ih =>
    obtain ⟨v, q, e, a, b⟩ := (show ∃ v q, vs = v :: q ∧ RelW K g r H w v ∧ RelWs K g r H ws q from h)
    rw [e, List.reverse_cons, List.reverse_cons]
    exact (ih b).append ⟨v, [], rfl, a, rfl⟩
end

/-- the slots of an instance -/
def RelSl (K : PySem.W.Frag) (g : Nat → Addr) (r : Rg) (H : Hp) (fs : List W) (vs : List (Option V)) : Prop := ∀ (i : Nat) (w : W), fs[i]? = some w → w ≠ .und → ∃ v, vs[i]? = some (some v) ∧ RelW K g r H w v

end Eng
end
end

section
set_option maxRecDepth 100000
set_option maxHeartbeats 4000000
/-! Engine, part B: the state's likeness, readings of codes, first rules. -/
noncomputable section
namespace Eng
open PySem PySem.Spec L2
open PyProof.Rows hiding St

/-! ### the heap of mutable things -/
/-- an entry of a dict whose keys are tuples -/
abbrev DEnt := NestedKey × Addr × Value
def DctP (P : Program) (w : World) (a : Addr) (xs : List DEnt) (h : Heap) : Prop :=
  (a == sysModules) = false ∧ ∃ o es ep, h.get? a = some o ∧ o.ExactDict ∧ o.data = .dict es ep ∧ es.toList = xs.map (entryOfKey (nestedKind P w)) ∧ (xs.map (·.1)).Nodup
def DctO (P : Program) (w : World) (a : Addr) (xs : List DEnt) : HO := .ext (DctP P w a xs)
mutual
def keyOf : W → Option NestedKey
  | .non => some .none
  | .int i => some (.num i)
  | .bl b => some (.num (if b then 1 else 0))
  | .str s => some (.text s)
  | .tup ws => (keysOf ws).map .tup
  | _ => none
def keysOf : List W → Option (List NestedKey)
  | [] => some []
  | w :: ws => match keyOf w, keysOf ws with
    | some k, some ks => some (k :: ks)
    | _, _ => none
end
/-- what all readings lean on -/
structure Mo where
  P : Program
  w : World
  K : PySem.W.Frag
  g : Nat → Addr
  /-- an exception class' one variable -/
  fld : Nat → Option Str
  /-- tables of code objects; all of a table bear one name -/
  tabs : List (Addr × Str)
  /-- lists of whole numbers from outside, that nobody writes -/
  outs : List (Nat × List Int)

def RelD (M : Mo) (r : Rg) (H : Hp) : List (W × W) → List DEnt → Prop
  | [], xs => xs = []
  | (kw, vw) :: q, xs => ∃ k ka u v ys, xs = (k, ka, u) :: ys ∧ keyOf kw = some k ∧ k.depth ≤ 8 ∧ RelW M.K M.g r H kw (.ref ka) ∧ RelV v u ∧ RelW M.K M.g r H vw v ∧ RelD M r H q ys
def MOk (M : Mo) (r : Rg) (H : Hp) (a : Addr) : MO → Prop
  | .lst ws => ws.length ≤ 16777216 ∧ ∃ vs, H a = some (.lst vs) ∧ RelWs M.K M.g r H ws vs
  | .ins c fs => ∃ dx vs, H a = some (SlX.SlO a (M.g c) dx vs) ∧ H dx = some (.xd []) ∧ dx ∉ r ∧ RelSl M.K M.g r H fs vs
  | .dct kvs => kvs.length ≤ 16777216 ∧ ∃ xs, H a = some (DctO M.P M.w a xs) ∧ RelD M r H kvs xs
  | .fdc kvs => a ∈ r.b ∧ kvs.length ≤ 16777216 ∧ ∃ od xs, H a = some (.frz od (DctO M.P M.w a xs)) ∧ RelD M r H kvs xs
  | .flc ws => a ∈ r.b ∧ ws.length ≤ 16777216 ∧ ∃ od vs, H a = some (.frz od (.lst vs)) ∧ RelWs M.K M.g r H ws vs
def TabK (r : Rg) (H : Hp) (P : Addr) (q : Str) : Prop := P ∉ r.b ∧ LamX.TabS H P q
/-- neither a table of code objects nor a code object -/
def NT2 (o : HO) : Prop := NT o ∧ ∀ c q, o ≠ LamX.CodeO c q
def Out (M : Mo) (r : Rg) (H : Hp) (a : Addr) (ns : List Int) : Prop := (Rd H a (.lst (ns.map V.int)) ∧ a ∉ r) ∨ ∃ (o : Obj) (its : Array Value) (n : Nat), M.K.lookup a = some o ∧ o.cls = .type "list" ∧ o.dict = none ∧ o.data = .seq its n ∧ its.size ≤ sizeLine ∧ Vals (ns.map V.int) its.toList
structure HSim (M : Mo) (r : Rg) (H : Hp) (h : EH) : Prop where
  len : r.l.length = h.n
  nd : r.l.Nodup
  obj : ∀ (i : Nat) (a : Addr), r.l[i]? = some a → ∃ o, h.t.get i = some o ∧ MOk M r H a o
  dis : ∀ a, a ∈ r.b → H a ≠ none ∧ (a ∉ r.l ∨ ∃ o u, H a = some (.frz o u))
  tab : ∀ p ∈ M.tabs, TabK r H p.1 p.2
  ntb : ∀ a o, a ∈ r.b → H a = some o → NT2 o
  out : ∀ p ∈ M.outs, Out M r H (M.g p.1) p.2
section
variable {M : Mo} {r r' : Rg} {H H' : Hp} {h : EH} {a : Addr} {o : MO} {i : Nat}
theorem RelD.ext0 (e : Ext0 r H r' H') : ∀ {kvs : List (W × W)} {xs : List DEnt}, RelD M r H kvs xs → RelD M r' H' kvs xs
  | [], _, h => h
  | (kw, vw) :: q, _, h => let ⟨k, ka, u, v, ys, e1, e2, e3, e4, e5, e6, e7⟩ := h; ⟨k, ka, u, v, ys, e1, e2, e3, RelW.ext0 e e4, e5, RelW.ext0 e e6, RelD.ext0 e e7⟩
theorem RelD.ext (e : Ext r H r' H') {kvs : List (W × W)} {xs : List DEnt} (h : RelD M r H kvs xs) : RelD M r' H' kvs xs := h.ext0 e.toExt0
theorem RelSl.ext0 {K : PySem.W.Frag} {g : Nat → Addr} (e : Ext0 r H r' H') {fs : List W} {vs : List (Option V)} (h : RelSl K g r H fs vs) : RelSl K g r' H' fs vs := fun i w q n =>
  let ⟨v, a, b⟩ := h i w q n
  ⟨v, a, b.ext0 e⟩
theorem RelSl.ext {K : PySem.W.Frag} {g : Nat → Addr} (e : Ext r H r' H') {fs : List W} {vs : List (Option V)} (h : RelSl K g r H fs vs) : RelSl K g r' H' fs vs := h.ext0 e.toExt0
theorem heap_with (c : Addr) (o : Obj) (ho : ∀ oc od sl, o ≠ ⟨oc, od, .freed, sl⟩) : ∃ h : Heap, h.get? c = some o ∧ ∀ a o', h.get? a = some o' → o' = o := by
  have key : ∀ x : Option Obj, x = some o → (match x with | some ⟨_, _, .freed, _⟩ => none | o => o) = some o := fun x e => by
    subst e
    split
    · rename_i h
      exact absurd (Option.some.inj h) (ho _ _ _)
    · rfl
  refine ⟨⟨Array.replicate (c + 1) o, {}⟩, key _ (by simp), fun a o' e => ?_⟩
  by_cases h : a < c + 1
  · have e2 := key ((Array.replicate (c + 1) o)[a]?) (by simp [h])
    exact Option.some.inj (e.symm.trans e2)
  · have e3 : (Array.replicate (c + 1) o)[a]? = none := by
      rw [Array.getElem?_replicate, if_neg h]
    have e4 : (match (Array.replicate (c + 1) o)[a]? with | some ⟨_, _, .freed, _⟩ => none | o => o) = some o' := e
    rw [e3] at e4
    cases e4
/-- what a code object's place holds is told of no other kind of object -/
theorem codeO_ne {c a : Addr} {q : Str} {φ : Heap → Prop} (h : ∀ g, φ g → ∃ o, g.get? a = some o ∧ ∀ vs, o.data ≠ .fields vs) : (LamX.CodeO c q) ≠ .ext φ := fun z => by
  unfold LamX.CodeO at z
  have e := HO.ext.inj z
  obtain ⟨g, hg, ha⟩ := heap_with c { cls := .none, data := .fields #[.none, .str q 0] } (fun _ _ _ e => nomatch (congrArg Obj.data e))
  have p : φ g := by
    rw [← e]
    exact ⟨_, _, 0, hg, rfl, rfl⟩
  obtain ⟨o, h1, h2⟩ := h g p
  rw [ha a o h1] at h2
  exact h2 _ rfl
theorem dctO_nt {P : Program} {w : World} {a : Addr} {xs : List DEnt} : NT (DctO P w a xs) := fun ps z => by unfold DctO at z; cases z
theorem dctO_nca {P : Program} {w : World} {a : Addr} {xs : List DEnt} (c : Addr) (q : Str) : DctO P w a xs ≠ LamX.CodeO c q := fun z => by
  unfold DctO at z
  refine codeO_ne (c := c) (a := a) (q := q) (fun g p => ?_) z.symm
  obtain ⟨_, o', es, ep, h1, _, h3, _⟩ := p
  exact ⟨o', h1, fun vs e => by rw [e] at h3; cases h3⟩
theorem slO_nc {a C dx : Addr} {vs : List (Option V)} (c : Addr) (q : Str) : SlX.SlO a C dx vs ≠ LamX.CodeO c q := fun z => by
  unfold SlX.SlO at z
  refine codeO_ne (c := c) (a := a) (q := q) (fun g p => ?_) z.symm
  obtain ⟨sl, h1, _⟩ := p
  exact ⟨_, h1, fun vs e => nomatch e⟩
theorem dctO_nt2 {P : Program} {w : World} {a : Addr} {xs : List DEnt} : NT2 (DctO P w a xs) := ⟨dctO_nt, dctO_nca⟩
theorem frz_nt2 {o : Obj} {u : HO} : NT2 (.frz o u) := ⟨(fun _ z => nomatch z), fun _ _ z => by unfold LamX.CodeO at z; cases z⟩
theorem nt_upd {H : Hp} {p b : Addr} {u o : HO} (hu : NT2 u) (h : ∀ o, H b = some o → NT2 o) (z : upd H p u b = some o) : NT2 o := by
  by_cases e : b = p
  · rw [e, upd_same] at z; cases z; exact hu
  · rw [upd_ne e] at z; exact h o z
theorem codeO_nt {c : Addr} {q : Str} : NT (LamX.CodeO c q) := fun ps z => by unfold LamX.CodeO at z; cases z
theorem TabK.ext {P : Addr} {q : Str} (x : TabK r H P q) (e : Ext0 r H r' H') (hP : H' P = H P) (hb : P ∉ r'.b) (hc : ∀ c q, H c = some (LamX.CodeO c q) → c ∉ r) : TabK r' H' P q := by
  obtain ⟨_, ps, e1, e2, e3⟩ := x
  refine ⟨hb, ps, hP.trans e1, e2, fun pos cv h => ?_⟩
  obtain ⟨c, e4, e5⟩ := e3 pos cv h
  exact ⟨c, e4, (e.keep c _ e5 codeO_nt (hc c q e5)).1⟩
theorem Out.ext0 {ns : List Int} (x : Out M r H a ns) (e : Ext0 r H r' H') : Out M r' H' a ns := x.imp (fun y => Rd.ext e y.1 (fun _ z => nomatch z) y.2) id
theorem Out.sq {ns : List Int} (x : Out M r H a ns) : SqL M.K H a (ns.map V.int) := x.imp (fun y => y.1) id
theorem MOk.nt (x : MOk M r H a o) : ∀ ps, H a ≠ some (.tbl ps) := fun ps z => by
  cases o with
  | lst ws => obtain ⟨_, vs, e, _⟩ := x; rw [z] at e; cases e
  | ins c fs => obtain ⟨dx, vs, e, _⟩ := x; rw [z] at e; unfold SlX.SlO at e; cases e
  | dct kvs => obtain ⟨_, xs, e, _⟩ := x; rw [z] at e; unfold DctO at e; cases e
  | fdc kvs => obtain ⟨_, _, _, xs, e, _⟩ := x; rw [z] at e; cases e
  | flc ws => obtain ⟨_, _, _, xs, e, _⟩ := x; rw [z] at e; cases e
theorem MOk.nc (x : MOk M r H a o) : ∀ q, H a ≠ some (LamX.CodeO a q) := fun q z => by
  cases o with
  | lst ws => obtain ⟨_, vs, e, _⟩ := x; rw [z] at e; unfold LamX.CodeO at e; cases e
  | ins c fs => obtain ⟨dx, vs, e, _⟩ := x; rw [z] at e; exact slO_nc a q (Option.some.inj e).symm
  | dct kvs => obtain ⟨_, xs, e, _⟩ := x; rw [z] at e; exact dctO_nca a q (Option.some.inj e).symm
  | fdc kvs => obtain ⟨_, _, _, xs, e, _⟩ := x; rw [z] at e; unfold LamX.CodeO at e; cases e
  | flc ws => obtain ⟨_, _, _, xs, e, _⟩ := x; rw [z] at e; unfold LamX.CodeO at e; cases e
theorem MOk.tracked (x : MOk M r H a o) : H a ≠ none := by
  cases o with
  | lst ws => obtain ⟨_, vs, e, _⟩ := x; rw [e]; exact fun z => nomatch z
  | ins c fs =>
    obtain ⟨dx, vs, e, _⟩ := x
    rw [e]
    exact fun z => nomatch z
  | dct kvs => obtain ⟨_, xs, e, _⟩ := x; rw [e]; exact fun z => nomatch z
  | fdc kvs => obtain ⟨_, _, _, xs, e, _⟩ := x; rw [e]; exact fun z => nomatch z
  | flc ws => obtain ⟨_, _, _, xs, e, _⟩ := x; rw [e]; exact fun z => nomatch z
/-- the object at a stays, all else goes on -/
theorem MOk.ext (x : MOk M r H a o) (e : Ext0 r H r' H') (ha : H' a = H a) (hb : a ∈ r.b → a ∈ r'.b) : MOk M r' H' a o := by
  cases o with
  | lst ws => obtain ⟨z, vs, e1, q⟩ := x; exact ⟨z, vs, ha.trans e1, q.ext0 e⟩
  | ins c fs =>
    obtain ⟨dx, vs, e1, d1, n, q⟩ := x
    obtain ⟨k1, k2⟩ := e.keep dx _ d1 (fun _ z => nomatch z) n
    exact ⟨dx, vs, ha.trans e1, k1, k2, q.ext0 e⟩
  | dct kvs => obtain ⟨z, xs, e1, q⟩ := x; exact ⟨z, xs, ha.trans e1, q.ext0 e⟩
  | fdc kvs => obtain ⟨y, z, od, xs, e1, q⟩ := x; exact ⟨hb y, z, od, xs, ha.trans e1, q.ext0 e⟩
  | flc ws => obtain ⟨y, z, od, xs, e1, q⟩ := x; exact ⟨hb y, z, od, xs, ha.trans e1, q.ext0 e⟩
def NFrz (H : Hp) (a : Addr) : Prop := ∀ o u, H a ≠ some (.frz o u)
theorem NFrz.of {u : HO} (e : H a = some u) (h : ∀ o v, u ≠ .frz o v) : NFrz H a := fun o v q => h o v (Option.some.inj (e.symm.trans q))
theorem HSim.tracked (x : HSim M r H h) (hm : a ∈ r) : H a ≠ none := by
  rcases hm with hm | hm
  · obtain ⟨i, hi⟩ := List.getElem?_of_mem hm
    obtain ⟨o, _, q⟩ := x.obj i a hi
    exact q.tracked
  · exact (x.dis a hm).1
theorem HSim.fresh (x : HSim M r H h) (hn : H a = none) : a ∉ r := fun hm => x.tracked hm hn
theorem HSim.nb (x : HSim M r H h) (hl : a ∈ r.l) (hn : NFrz H a) : a ∉ r.b := fun hb => by
  rcases (x.dis a hb).2 with z | ⟨o, u, z⟩
  · exact z hl
  · exact hn o u z
theorem HSim.tne (x : HSim M r H h) {p : Addr × Str} (hp : p ∈ M.tabs) (hi : r.l[i]? = some a) : p.1 ≠ a := fun z => by
  obtain ⟨o, _, q⟩ := x.obj i a hi
  obtain ⟨_, ps, e, _⟩ := x.tab p hp
  exact q.nt ps (by rw [← z]; exact e)
theorem HSim.tnew (x : HSim M r H h) {p : Addr × Str} (hp : p ∈ M.tabs) (hn : H a = none) : p.1 ≠ a := fun z => by
  obtain ⟨_, ps, e, _⟩ := x.tab p hp
  rw [z, hn] at e
  cases e
theorem HSim.tkeep (x : HSim M r H h) (e : ∀ a o, H a = some o → H' a = some o) {p : Addr × Str} (hp : p ∈ M.tabs) : H' p.1 = H p.1 := by
  obtain ⟨_, ps, e1, _⟩ := x.tab p hp
  rw [e1, e _ _ e1]
theorem HSim.ntg (x : HSim M r H h) (e : ∀ a o, H a = some o → H' a = some o) {a : Addr} {o : HO} (ha : a ∈ r.b) (z : H' a = some o) : NT2 o := by
  cases q : H a with
  | none => exact absurd q (x.dis a ha).1
  | some u =>
    rw [e a u q] at z
    cases z
    exact x.ntb a _ ha q
/-- code objects are not written -/
theorem HSim.cnr (x : HSim M r H h) : ∀ c q, H c = some (LamX.CodeO c q) → c ∉ r := fun c q e hm => by
  rcases hm with hm | hm
  · obtain ⟨i, hi⟩ := List.getElem?_of_mem hm
    obtain ⟨o, _, ok⟩ := x.obj i c hi
    exact ok.nc q e
  · exact (x.ntb c _ hm e).2 c q rfl
/-- nothing written changes -/
theorem HSim.grow (x : HSim M r H h) (e : ∀ a o, H a = some o → H' a = some o) : HSim M r H' h := by
  have ex : Ext r H r H' := Ext.grow e
  refine ⟨x.len, x.nd, fun i a q => ?_, fun a ha => ⟨?_, (x.dis a ha).2.imp id fun ⟨o, u, z⟩ => ⟨o, u, e a _ z⟩⟩, fun p hp => (x.tab p hp).ext ex.toExt0 (x.tkeep e hp) (x.tab p hp).1 x.cnr, fun a o ha z => x.ntg e ha z, fun p hp => (x.out p hp).ext0 ex.toExt0⟩
  · obtain ⟨o, e1, e2⟩ := x.obj i a q
    refine ⟨o, e1, e2.ext ex.toExt0 ?_ id⟩
    cases z : H a with
    | none => exact absurd z e2.tracked
    | some u => exact e a u z
  · cases z : H a with
    | none => exact absurd z (x.dis a ha).1
    | some u => rw [e a u z]; exact fun q => nomatch q
theorem HSim.new (x : HSim M r H h) {p : Addr} {u : HO} (hp : H p = none) : HSim M r (upd H p u) h := x.grow fun a o q => by rw [upd_ne (ne_of_none q hp)]; exact q
theorem upd_some {H : Hp} {p a : Addr} {u : HO} (h : H a ≠ none) : upd H p u a ≠ none := by
  by_cases e : a = p
  · rw [e, upd_same]; exact fun q => nomatch q
  · rw [upd_ne e]; exact h
/-- the i-th object is written -/
theorem HSim.set (x : HSim M r H h) {t' : BT} {u : HO} (hn : NFrz H a) (hi : r.l[i]? = some a) (ht : h.t.ins i o = some t') (ok : MOk M r (upd H a u) a o) : HSim M r (upd H a u) ⟨h.n, t'⟩ := by
  have hl : a ∈ r.l := List.mem_of_getElem? hi
  have hm : a ∈ r := .inl hl
  have hb := x.nb hl hn
  refine ⟨x.len, x.nd, fun j b q => ?_, fun b hb' => ⟨upd_some (x.dis b hb').1, (x.dis b hb').2.imp id fun ⟨o, u, z⟩ => ⟨o, u, by rw [upd_ne fun e => hb (by rw [← e]; exact hb')]; exact z⟩⟩, fun p hp => (x.tab p hp).ext (Ext0.mut hm) (upd_ne (x.tne hp hi)) (x.tab p hp).1 x.cnr, fun b o hb' z => by rw [upd_ne fun e => hb (by rw [← e]; exact hb')] at z; exact x.ntb b o hb' z, fun p hp => (x.out p hp).ext0 (Ext0.mut hm)⟩
  have g := BT.get_ins ht j
  by_cases e : j = i
  · subst e
    rw [hi] at q
    cases q
    exact ⟨o, by rw [g, if_pos rfl], ok⟩
  · have ne : b ≠ a := fun z => e (by
      subst z
      obtain ⟨h1, e1⟩ := List.getElem?_eq_some_iff.mp q
      obtain ⟨h2, e2⟩ := List.getElem?_eq_some_iff.mp hi
      exact (List.getElem_inj x.nd).mp (e1.trans e2.symm))
    obtain ⟨o', e1, e2⟩ := x.obj j b q
    exact ⟨o', by rw [g, if_neg e]; exact e1, e2.ext (Ext0.mut hm) (upd_ne ne) id⟩
/-- a comprehension's list grows -/
theorem HSim.mutB (x : HSim M r H h) {u : HO} (hb : a ∈ r.b) (hl : a ∉ r.l) (hu : NT2 u := by first | exact ⟨(fun _ z => nomatch z), fun _ _ z => by unfold LamX.CodeO at z; cases z⟩ | exact dctO_nt2) : HSim M r (upd H a u) h := by
  refine ⟨x.len, x.nd, fun j b q => ?_, fun b hb' => ⟨upd_some (x.dis b hb').1, ?_⟩, fun p hp => (x.tab p hp).ext (Ext0.mut (.inr hb)) (upd_ne fun z => (x.tab p hp).1 (by rw [z]; exact hb)) (x.tab p hp).1 x.cnr, fun b o hb' z => nt_upd hu (x.ntb b · hb') z, fun p hp => (x.out p hp).ext0 (Ext0.mut (.inr hb))⟩
  · obtain ⟨o', e1, e2⟩ := x.obj j b q
    have ne : b ≠ a := fun z => hl (by rw [← z]; exact List.mem_of_getElem? q)
    exact ⟨o', e1, e2.ext (Ext0.mut (.inr hb)) (upd_ne ne) id⟩
  · by_cases e : b = a
    · exact .inl (by rw [e]; exact hl)
    · exact (x.dis b hb').2.imp id fun ⟨o, u, z⟩ => ⟨o, u, by rw [upd_ne e]; exact z⟩
theorem HSim.blk (x : HSim M r H h) {p : Addr} {u : HO} (hp : H p = none) (hu : NT2 u := by first | exact ⟨(fun _ z => nomatch z), fun _ _ z => by unfold LamX.CodeO at z; cases z⟩ | exact dctO_nt2) : HSim M (r.blk p) (upd H p u) h := by
  have hf := x.fresh hp
  refine ⟨x.len, x.nd, fun j b q => ?_, fun b hb => ?_, fun t ht => (x.tab t ht).ext (Ext0.blk hp) (upd_ne (x.tnew ht hp)) (fun z => (List.mem_cons.mp z).elim (x.tnew ht hp) (x.tab t ht).1) x.cnr, fun b o hb y => by
    rcases List.mem_cons.mp hb with z | z
    · rw [z, upd_same] at y; cases y; exact hu
    · exact nt_upd hu (x.ntb b · z) y, fun t ht => (x.out t ht).ext0 (Ext0.blk hp)⟩
  · obtain ⟨o', e1, e2⟩ := x.obj j b q
    refine ⟨o', e1, e2.ext (Ext0.blk hp) (upd_ne fun z => hf (.inl ?_)) fun z => List.mem_cons_of_mem _ z⟩
    rw [← z]
    exact List.mem_of_getElem? q
  · rcases List.mem_cons.mp hb with z | z
    · rw [z]
      exact ⟨by rw [upd_same]; exact (fun q => nomatch q), .inl fun m => hf (.inl m)⟩
    · have hbp : b ≠ p := fun e => (x.dis b z).1 (by rw [e]; exact hp)
      exact ⟨upd_some (x.dis b z).1, (x.dis b z).2.imp id fun ⟨o, u, q⟩ => ⟨o, u, by rw [upd_ne hbp]; exact q⟩⟩
theorem HSim.unblk {p : Addr} (x : HSim M (r.blk p) H h) (hl : p ∉ r.l) : HSim M r H h := by
  refine ⟨x.len, x.nd, fun j b q => ?_, fun b hb => x.dis b (List.mem_cons_of_mem _ hb), fun t ht => (x.tab t ht).ext Ext0.unblk rfl (fun z => (x.tab t ht).1 (List.mem_cons_of_mem _ z)) x.cnr, fun b o hb => x.ntb b o (List.mem_cons_of_mem _ hb), fun t ht => (x.out t ht).ext0 Ext0.unblk⟩
  obtain ⟨o', e1, e2⟩ := x.obj j b q
  have ne : b ≠ p := fun z => hl (by rw [← z]; exact List.mem_of_getElem? q)
  exact ⟨o', e1, e2.ext Ext0.unblk rfl fun z => (List.mem_cons.mp z).resolve_left ne⟩
theorem HSim.mutE (x : HSim M r H h) {u : HO} (hn : NFrz H a) (hi : a ∈ r.l) : Ext r H r (upd H a u) := Ext.mut hi (x.nb hi hn)
/-- a comprehension's list becomes an object -/
theorem HSim.ownB {t' : BT} {p : Addr} (x : HSim M (r.blk p) H h) (hl : p ∉ r.l) (hp : p ∉ r.b) (ht : h.t.ins h.n o = some t') (ok : MOk M (r.add p) H p o) : HSim M (r.add p) H ⟨h.n + 1, t'⟩ := by
  have ex : Ext0 (r.blk p) H (r.add p) H := Ext0.blkAdd
  have len : r.l.length = h.n := x.len
  refine ⟨by show (r.l ++ [p]).length = _; rw [List.length_append, len]; rfl, List.nodup_append.mpr ⟨x.nd, by simp, fun a ha b hb z => hl (by rw [List.mem_singleton.mp hb] at z; rw [← z]; exact ha)⟩, fun j b q => ?_, fun b hb => ?_, fun t ht => (x.tab t ht).ext ex rfl (fun z => (x.tab t ht).1 (List.mem_cons_of_mem _ z)) x.cnr, fun b o hb => x.ntb b o (List.mem_cons_of_mem _ hb), fun t ht => (x.out t ht).ext0 ex⟩
  · have g := BT.get_ins ht j
    have q : (r.l ++ [p])[j]? = some b := q
    by_cases hj : j < r.l.length
    · rw [List.getElem?_append_left hj] at q
      obtain ⟨o', e1, e2⟩ := x.obj j b q
      have ne : b ≠ p := fun z => hl (by rw [← z]; exact List.mem_of_getElem? q)
      exact ⟨o', by rw [g, if_neg (by rw [← len]; omega)]; exact e1, e2.ext ex rfl fun z => (List.mem_cons.mp z).resolve_left ne⟩
    · have hj2 : j = r.l.length := by
        have := (List.getElem?_eq_some_iff.mp q).1
        rw [List.length_append, List.length_singleton] at this
        omega
      subst hj2
      rw [List.getElem?_append_right (Nat.le_refl _), Nat.sub_self] at q
      have : p = b := by simpa using q
      subst this
      exact ⟨o, by rw [g, if_pos len], ok⟩
  · have hb : b ∈ r.b := hb
    have hbp : b ≠ p := fun e => hp (by rw [← e]; exact hb)
    obtain ⟨d1, d2⟩ := x.dis b (List.mem_cons_of_mem _ hb)
    refine ⟨d1, d2.imp (fun z m => ?_) id⟩
    rcases List.mem_append.mp m with q | q
    · exact z q
    · exact hbp (List.mem_singleton.mp q)
/-- a new object -/
theorem HSim.own (x : HSim M r H h) {t' : BT} {p : Addr} (hp : H p = none) (e : ∀ a o, H a = some o → H' a = some o) (ht : h.t.ins h.n o = some t') (ok : MOk M (r.add p) H' p o) : HSim M (r.add p) H' ⟨h.n + 1, t'⟩ := by
  have ex : Ext r H (r.add p) H' := Ext.owned hp e
  have hf := x.fresh hp
  refine ⟨by show (r.l ++ [p]).length = _; rw [List.length_append, x.len]; rfl, List.nodup_append.mpr ⟨x.nd, by simp, fun a ha b hb z => hf (.inl (by rw [List.mem_singleton.mp hb] at z; rw [← z]; exact ha))⟩, fun j b q => ?_, fun b hb => ?_, fun t ht => (x.tab t ht).ext ex.toExt0 (x.tkeep e ht) (x.tab t ht).1 x.cnr, fun b o hb z => x.ntg e hb z, fun t ht => (x.out t ht).ext0 ex.toExt0⟩
  · have g := BT.get_ins ht j
    have q : (r.l ++ [p])[j]? = some b := q
    by_cases hj : j < r.l.length
    · rw [List.getElem?_append_left hj] at q
      obtain ⟨o', e1, e2⟩ := x.obj j b q
      refine ⟨o', by rw [g, if_neg (by rw [← x.len]; omega)]; exact e1, e2.ext ex.toExt0 ?_ id⟩
      cases z : H b with
      | none => exact absurd z e2.tracked
      | some u => exact e b u z
    · have hj2 : j = r.l.length := by
        have := (List.getElem?_eq_some_iff.mp q).1
        rw [List.length_append, List.length_singleton] at this
        omega
      subst hj2
      rw [List.getElem?_append_right (Nat.le_refl _), Nat.sub_self] at q
      have : p = b := by simpa using q
      subst this
      exact ⟨o, by rw [g, if_pos x.len], ok⟩
  · have hb : b ∈ r.b := hb
    obtain ⟨d1, d2⟩ := x.dis b hb
    refine ⟨?_, d2.imp (fun z m => ?_) fun ⟨o, u, z⟩ => ⟨o, u, e b _ z⟩⟩
    · cases z : H b with
      | none => exact absurd z d1
      | some u => rw [e b u z]; exact fun q => nomatch q
    · rcases List.mem_append.mp m with q | q
      · exact z q
      · exact hf (.inr (by rw [← List.mem_singleton.mp q]; exact hb))
/-- a dict is read only, from now on -/
def Rg.frz (r : Rg) (p : Addr) : Rg := ⟨r.l, r.b ++ [p]⟩
theorem HSim.frz (x : HSim M r H h) {t' : BT} {kvs : List (W × W)} {xs : List DEnt} {od : Obj} (hi : r.l[i]? = some a) (hd : H a = some (DctO M.P M.w a xs)) (hl : kvs.length ≤ 16777216) (q0 : RelD M r H kvs xs) (ht : h.t.ins i (.fdc kvs) = some t') :
    HSim M (r.frz a) (upd H a (.frz od (DctO M.P M.w a xs))) ⟨h.n, t'⟩ ∧ Ext r H (r.frz a) (upd H a (.frz od (DctO M.P M.w a xs))) := by
  have hl : a ∈ r.l := List.mem_of_getElem? hi
  have hn : NFrz H a := NFrz.of hd fun o v z => by unfold DctO at z; cases z
  have hb := x.nb hl hn
  have e0 : Ext0 r H (r.frz a) (upd H a (.frz od (DctO M.P M.w a xs))) := ⟨⟨[], by simp [Rg.frz]⟩, fun b u q _ n => ⟨by rw [upd_ne fun e => n (.inl (by rw [e]; exact hl))]; exact q, fun hm => by
    rcases hm with z | z
    · exact n (.inl z)
    · rcases List.mem_append.mp z with z | z
      · exact n (.inr z)
      · exact n (.inl (by rw [List.mem_singleton.mp z]; exact hl))⟩⟩
  refine ⟨⟨x.len, x.nd, fun j b q => ?_, fun b hb' => ?_, fun t ht => (x.tab t ht).ext e0 (upd_ne (x.tne ht hi)) (fun z => (List.mem_append.mp z).elim (x.tab t ht).1 fun z => x.tne ht hi (List.mem_singleton.mp z)) x.cnr, fun b o hb' y => by
    rcases List.mem_append.mp hb' with z | z
    · exact nt_upd frz_nt2 (x.ntb b · z) y
    · rw [List.mem_singleton.mp z, upd_same] at y; cases y; exact frz_nt2, fun t ht => (x.out t ht).ext0 e0⟩, ⟨e0, ⟨[a], rfl, fun z hz => by rw [List.mem_singleton.mp hz]; exact hb⟩, fun b u hb' q => by rw [upd_ne fun e => hb (by rw [← e]; exact hb')]; exact q⟩⟩
  · have g := BT.get_ins ht j
    by_cases e : j = i
    · subst e
      have q : r.l[j]? = some b := q
      rw [hi] at q
      cases q
      exact ⟨.fdc kvs, by rw [g, if_pos rfl], List.mem_append_right _ (by simp), by assumption, od, xs, upd_same, q0.ext0 e0⟩
    · have q : r.l[j]? = some b := q
      have ne : b ≠ a := fun z => e (by
        subst z
        obtain ⟨h1, e1⟩ := List.getElem?_eq_some_iff.mp q
        obtain ⟨h2, e2⟩ := List.getElem?_eq_some_iff.mp hi
        exact (List.getElem_inj x.nd).mp (e1.trans e2.symm))
      obtain ⟨o', e1, e2⟩ := x.obj j b q
      exact ⟨o', by rw [g, if_neg e]; exact e1, e2.ext e0 (upd_ne ne) fun z => List.mem_append_left _ z⟩
  · rcases List.mem_append.mp hb' with z | z
    · have hba : b ≠ a := fun e => hb (by rw [← e]; exact z)
      exact ⟨upd_some (x.dis b z).1, (x.dis b z).2.imp id fun ⟨o, u, q⟩ => ⟨o, u, by rw [upd_ne hba]; exact q⟩⟩
    · rw [List.mem_singleton.mp z]
      exact ⟨by rw [upd_same]; exact (fun q => nomatch q), .inr ⟨_, _, upd_same⟩⟩
theorem HSim.frzL (x : HSim M r H h) {t' : BT} {ws : List W} {vs : List V} {od : Obj} (hi : r.l[i]? = some a) (hd : H a = some (.lst vs)) (hl : ws.length ≤ 16777216) (q0 : RelWs M.K M.g r H ws vs) (ht : h.t.ins i (.flc ws) = some t') :
    HSim M (r.frz a) (upd H a (.frz od (.lst vs))) ⟨h.n, t'⟩ ∧ Ext r H (r.frz a) (upd H a (.frz od (.lst vs))) := by
  have hl : a ∈ r.l := List.mem_of_getElem? hi
  have hn : NFrz H a := NFrz.of hd fun o v z => nomatch z
  have hb := x.nb hl hn
  have e0 : Ext0 r H (r.frz a) (upd H a (.frz od (.lst vs))) := ⟨⟨[], by simp [Rg.frz]⟩, fun b u q _ n => ⟨by rw [upd_ne fun e => n (.inl (by rw [e]; exact hl))]; exact q, fun hm => by
    rcases hm with z | z
    · exact n (.inl z)
    · rcases List.mem_append.mp z with z | z
      · exact n (.inr z)
      · exact n (.inl (by rw [List.mem_singleton.mp z]; exact hl))⟩⟩
  refine ⟨⟨x.len, x.nd, fun j b q => ?_, fun b hb' => ?_, fun t ht => (x.tab t ht).ext e0 (upd_ne (x.tne ht hi)) (fun z => (List.mem_append.mp z).elim (x.tab t ht).1 fun z => x.tne ht hi (List.mem_singleton.mp z)) x.cnr, fun b o hb' y => by
    rcases List.mem_append.mp hb' with z | z
    · exact nt_upd frz_nt2 (x.ntb b · z) y
    · rw [List.mem_singleton.mp z, upd_same] at y; cases y; exact frz_nt2, fun t ht => (x.out t ht).ext0 e0⟩, ⟨e0, ⟨[a], rfl, fun z hz => by rw [List.mem_singleton.mp hz]; exact hb⟩, fun b u hb' q => by rw [upd_ne fun e => hb (by rw [← e]; exact hb')]; exact q⟩⟩
  · have g := BT.get_ins ht j
    by_cases e : j = i
    · subst e
      have q : r.l[j]? = some b := q
      rw [hi] at q
      cases q
      exact ⟨.flc ws, by rw [g, if_pos rfl], List.mem_append_right _ (by simp), by assumption, od, vs, upd_same, q0.ext0 e0⟩
    · have q : r.l[j]? = some b := q
      have ne : b ≠ a := fun z => e (by
        subst z
        obtain ⟨h1, e1⟩ := List.getElem?_eq_some_iff.mp q
        obtain ⟨h2, e2⟩ := List.getElem?_eq_some_iff.mp hi
        exact (List.getElem_inj x.nd).mp (e1.trans e2.symm))
      obtain ⟨o', e1, e2⟩ := x.obj j b q
      exact ⟨o', by rw [g, if_neg e]; exact e1, e2.ext e0 (upd_ne ne) fun z => List.mem_append_left _ z⟩
  · rcases List.mem_append.mp hb' with z | z
    · have hba : b ≠ a := fun e => hb (by rw [← e]; exact z)
      exact ⟨upd_some (x.dis b z).1, (x.dis b z).2.imp id fun ⟨o, u, q⟩ => ⟨o, u, by rw [upd_ne hba]; exact q⟩⟩
    · rw [List.mem_singleton.mp z]
      exact ⟨by rw [upd_same]; exact (fun q => nomatch q), .inr ⟨_, _, upd_same⟩⟩
end

/-- tables grow, code objects come -/
theorem HSim.grown {M : Mo} {r : Rg} {H H' : Hp} {h : EH} (x : HSim M r H h) (e0 : Ext0 r H r H') (hl : ∀ (i : Nat) (b : Addr), r.l[i]? = some b → H' b = H b) (hb : ∀ b ∈ r.b, H' b = H b) (ht : ∀ p ∈ M.tabs, TabK r H' p.1 p.2) : HSim M r H' h := by
  refine ⟨x.len, x.nd, fun j b q => ?_, fun b q => ⟨by rw [hb b q]; exact (x.dis b q).1, (x.dis b q).2.imp id fun ⟨o, u, z⟩ => ⟨o, u, (hb b q).trans z⟩⟩, ht, fun b o q y => by rw [hb b q] at y; exact x.ntb b o q y, fun p hp => (x.out p hp).ext0 e0⟩
  obtain ⟨o, e1, e2⟩ := x.obj j b q
  exact ⟨o, e1, e2.ext e0 (hl j b q) id⟩
/-- what is frozen stays so -/
def FrzK (H H' : Hp) : Prop := ∀ a o u, H a = some (.frz o u) → H' a = some (.frz o u)
theorem FrzK.refl {H : Hp} : FrzK H H := fun _ _ _ q => q
theorem FrzK.trans {H H1 H2 : Hp} (a : FrzK H H1) (b : FrzK H1 H2) : FrzK H H2 := fun x o u q => b x o u (a x o u q)
theorem FrzK.upd {H : Hp} {p : Addr} {v : HO} (hn : NFrz H p) : FrzK H (upd H p v) := fun a o u q => by rw [upd_ne fun e => hn o u (by rw [← e]; exact q)]; exact q
theorem NFrz.none {H : Hp} {p : Addr} (h : H p = none) : NFrz H p := fun o u q => by rw [h] at q; cases q
theorem Ext.frzK {M : Mo} {r r' : Rg} {H H' : Hp} {h : EH} (e : Ext r H r' H') (x : HSim M r H h) : FrzK H H' := fun a o u q => by
  by_cases hr : a ∈ r
  · rcases hr with z | z
    · obtain ⟨i, hi⟩ := List.getElem?_of_mem z
      obtain ⟨ob, _, ok⟩ := x.obj i a hi
      cases ob with
      | lst ws => obtain ⟨_, vs, e1, _⟩ := ok; rw [q] at e1; cases e1
      | ins c fs => obtain ⟨dx, vs, e1, _⟩ := ok; rw [q] at e1; unfold SlX.SlO at e1; cases e1
      | dct kvs => obtain ⟨_, xs, e1, _⟩ := ok; rw [q] at e1; unfold DctO at e1; cases e1
      | fdc kvs => obtain ⟨hb, _⟩ := ok; exact e.bk a _ hb q
      | flc ws => obtain ⟨hb, _⟩ := ok; exact e.bk a _ hb q
    · exact e.bk a _ z q
  · exact (e.keep a _ q (fun _ z => nomatch z) hr).1

/-! ### slots -/
inductive S4 where
  | nil
  | mk (a b c d : W) (t : S4)
def S4.get : S4 → Nat → W
  | .nil, _ => .und
  | .mk a b c d t, i => match i with
    | 0 => a
    | 1 => b
    | 2 => c
    | 3 => d
    | n + 4 => t.get n
def S4.set : S4 → Nat → W → S4
  | .nil, _, _ => .nil
  | .mk a b c d t, i, x => match i with
    | 0 => .mk x b c d t
    | 1 => .mk a x c d t
    | 2 => .mk a b x d t
    | 3 => .mk a b c x t
    | n + 4 => .mk a b c d (t.set n x)
theorem S4.get_set_self : ∀ (t : S4) (i : Nat) (x : W), (t.set i x).get i = x ∨ (t.set i x).get i = .und
  | .nil, _, _ => .inr rfl
  | .mk _ _ _ _ _, 0, _ => .inl rfl
  | .mk _ _ _ _ _, 1, _ => .inl rfl
  | .mk _ _ _ _ _, 2, _ => .inl rfl
  | .mk _ _ _ _ _, 3, _ => .inl rfl
  | .mk _ _ _ _ t, n + 4, x => S4.get_set_self t n x
theorem S4.get_set_ne : ∀ (t : S4) (i j : Nat) (x : W), j ≠ i → (t.set i x).get j = t.get j := by
  intro t
  induction t with
  | nil => intro i j x h; rfl
  | mk a b c d t ih =>
    intro i j x h
    match i, j with
    | 0, 0 => exact absurd rfl h
    | 1, 1 => exact absurd rfl h
    | 2, 2 => exact absurd rfl h
    | 3, 3 => exact absurd rfl h
    | m + 4, n + 4 => exact ih m n x (fun e => h (by rw [e]))
    | 0, 1 => rfl
    | 0, 2 => rfl
    | 0, 3 => rfl
    | 0, n + 4 => rfl
    | 1, 0 => rfl
    | 1, 2 => rfl
    | 1, 3 => rfl
    | 1, n + 4 => rfl
    | 2, 0 => rfl
    | 2, 1 => rfl
    | 2, 3 => rfl
    | 2, n + 4 => rfl
    | 3, 0 => rfl
    | 3, 1 => rfl
    | 3, 2 => rfl
    | 3, n + 4 => rfl
    | m + 4, 0 => rfl
    | m + 4, 1 => rfl
    | m + 4, 2 => rfl
    | m + 4, 3 => rfl
def SSim (M : Mo) (r : Rg) (H : Hp) (t : S4) (σ : St) : Prop := ∀ i, t.get i ≠ .und → ∃ v, σ[i]? = some (some v) ∧ RelW M.K M.g r H (t.get i) v
theorem SSim.ext0 {M : Mo} {r r' : Rg} {H H' : Hp} {t : S4} {σ : St} (e : Ext0 r H r' H') (x : SSim M r H t σ) : SSim M r' H' t σ := fun i n => let ⟨v, a, b⟩ := x i n; ⟨v, a, b.ext0 e⟩
theorem SSim.ext {M : Mo} {r r' : Rg} {H H' : Hp} {t : S4} {σ : St} (e : Ext r H r' H') (x : SSim M r H t σ) : SSim M r' H' t σ := fun i n => let ⟨v, a, b⟩ := x i n; ⟨v, a, b.ext e⟩
theorem SSim.set {M : Mo} {r : Rg} {H : Hp} {t : S4} {σ : St} {i : Nat} {w : W} {v : V} (x : SSim M r H t σ) (hi : i < σ.length) (q : RelW M.K M.g r H w v) : SSim M r H (t.set i w) (σ.set i (some v)) := fun j n => by
  by_cases e : j = i
  · subst e
    rcases S4.get_set_self t j w with z | z
    · rw [z]
      exact ⟨v, by rw [List.getElem?_set_self hi], q⟩
    · exact absurd z n
  · rw [S4.get_set_ne t i j w e] at n ⊢
    obtain ⟨v', a, b⟩ := x j n
    exact ⟨v', by rw [List.getElem?_set_ne (Ne.symm e)]; exact a, b⟩

/-! ### exceptions as data -/
def XRel (M : Mo) (r : Rg) (H : Hp) (n : Nat) (w : W) (cls : Value) (d : Option Addr) : Prop :=
  cls = .ref (M.g n) ∧ ∀ f, M.fld n = some f → ∃ dx v, d = some dx ∧ H dx = some (.xd [(f, v)]) ∧ dx ∉ r ∧ RelW M.K M.g r H w v
theorem XRel.ext {M : Mo} {r r' : Rg} {H H' : Hp} {n : Nat} {w : W} {cls : Value} {d : Option Addr} (e : Ext r H r' H') (x : XRel M r H n w cls d) : XRel M r' H' n w cls d :=
  ⟨x.1, fun f hf => let ⟨dx, v, a, b, c, q⟩ := x.2 f hf; ⟨dx, v, a, (e.keep dx _ b (fun _ z => nomatch z) c).1, (e.keep dx _ b (fun _ z => nomatch z) c).2, q.ext e⟩⟩

/-! ### codes and their readings -/
abbrev K1 := W → EH → Ans
abbrev KL := List W → EH → Ans
abbrev KX := Nat → W → EH → Ans
abbrev KN := S4 → EH → Ans
abbrev Cl := Nat → List W → EH → KX → K1 → Ans
abbrev Code := Cl → S4 → EH → KX → K1 → Ans
abbrev LCode := Cl → S4 → EH → KX → KL → Ans
abbrev SCode := Cl → S4 → EH → KX → KN → K1 → KN → KN → Ans

def Post (M : Mo) (r : Rg) (H : Hp) (a : Ans) (k : K1) (Q : VK) : Prop := ∀ w h' r' v H', Ext r H r' H' → RelW M.K M.g r' H' w v → HSim M r' H' h' → k w h' = a → Q v H'
def PostL (M : Mo) (r : Rg) (H : Hp) (a : Ans) (k : KL) (Q : List V → Hp → Prop) : Prop := ∀ ws h' r' vs H', Ext r H r' H' → RelWs M.K M.g r' H' ws vs → HSim M r' H' h' → k ws h' = a → Q vs H'
def PostX (M : Mo) (r : Rg) (H : Hp) (a : Ans) (x : KX) (E : XK) : Prop := ∀ n w h' r' cls d H', Ext r H r' H' → XRel M r' H' n w cls d → HSim M r' H' h' → x n w h' = a → E cls d H'
def PostN (M : Mo) (r : Rg) (H : Hp) (a : Ans) (k : KN) (Q : St → Hp → Prop) (n : Nat) : Prop := ∀ t' h' r' σ' H', Ext r H r' H' → SSim M r' H' t' σ' → σ'.length = n → HSim M r' H' h' → k t' h' = a → Q σ' H'
section
variable {M : Mo} {r r' : Rg} {H H' : Hp} {a : Ans}
theorem Post.ext {k : K1} {Q : VK} (e : Ext r H r' H') (p : Post M r H a k Q) : Post M r' H' a k Q := fun w h' r2 v H2 e2 => p w h' r2 v H2 (e.trans e2)
theorem PostL.ext {k : KL} {Q : List V → Hp → Prop} (e : Ext r H r' H') (p : PostL M r H a k Q) : PostL M r' H' a k Q := fun w h' r2 v H2 e2 => p w h' r2 v H2 (e.trans e2)
theorem PostX.ext {x : KX} {E : XK} (e : Ext r H r' H') (p : PostX M r H a x E) : PostX M r' H' a x E := fun n w h' r2 cls d H2 e2 => p n w h' r2 cls d H2 (e.trans e2)
theorem PostN.ext {k : KN} {Q : St → Hp → Prop} {n : Nat} (e : Ext r H r' H') (p : PostN M r H a k Q n) : PostN M r' H' a k Q n := fun t h' r2 σ H2 e2 => p t h' r2 σ H2 (e.trans e2)
end
/-- the state of a code's run: all that the readings have in common -/
structure At (M : Mo) (E : XK) (a : Ans) (t : S4) (h : EH) (x : KX) (r : Rg) (σ : St) (H : Hp) : Prop where
  good : a ≠ .bad
  ss : SSim M r H t σ
  hs : HSim M r H h
  px : PostX M r H a x E
theorem At.ext {M : Mo} {E : XK} {a : Ans} {t : S4} {h h' : EH} {x : KX} {r r' : Rg} {σ : St} {H H' : Hp} (A : At M E a t h x r σ H) (e : Ext r H r' H') (hs : HSim M r' H' h') : At M E a t h' x r' σ H' := ⟨A.good, A.ss.ext e, hs, A.px.ext e⟩
def tE (M : Mo) (cl : Cl) (E : XK) (C : Code) : TE := fun σ H Q => ∃ a t h x k r, At M E a t h x r σ H ∧ C cl t h x k = a ∧ Post M r H a k Q
def tAL (M : Mo) (cl : Cl) (E : XK) (C : LCode) : TA := fun σ H Q => ∃ a t h x k r, At M E a t h x r σ H ∧ C cl t h x k = a ∧ PostL M r H a k Q
def tSt (M : Mo) (cl : Cl) (E : XK) (C : SCode) : TS := fun D σ H => ∃ a t h x n k b c r, At M E a t h x r σ H ∧ C cl t h x n k b c = a ∧ PostN M r H a n D.nx σ.length ∧ Post M r H a k D.rt ∧ PostN M r H a b D.bk σ.length ∧ PostN M r H a c D.ct σ.length
/-- a test: two ways -/
def tT (M : Mo) (cl : Cl) (E : XK) (C : Cl → S4 → EH → KX → (EH → Ans) → (EH → Ans) → Ans) : TT := fun σ H Q => ∃ a t h x kt kf r, At M E a t h x r σ H ∧ C cl t h x kt kf = a ∧
  (∀ h' r' H', Ext r H r' H' → HSim M r' H' h' → kt h' = a → Q true H') ∧ (∀ h' r' H', Ext r H r' H' → HSim M r' H' h' → kf h' = a → Q false H')
abbrev TCode := Cl → S4 → EH → KX → (EH → Ans) → (EH → Ans) → Ans

theorem PE.imp {X : Cx} {e : Expr} {t t' : TE} (h : PE X e t) (i : ∀ σ H Q, t' σ H Q → t σ H Q) : PE X e t' := ⟨fun pins s σ H Q I q => h.run pins s σ H Q I (i σ H Q q)⟩
theorem PT.imp {X : Cx} {e : Expr} {t t' : TT} (h : PT X e t) (i : ∀ σ H Q, t' σ H Q → t σ H Q) : PT X e t' := ⟨fun pins s σ H Q I q => h.run pins s σ H Q I (i σ H Q q)⟩
theorem PA.imp {X : Cx} {es : List Expr} {t t' : TA} (h : PA X es t) (i : ∀ σ H Q, t' σ H Q → t σ H Q) : PA X es t' := ⟨fun pos pins s σ H Q I q => h.run pos pins s σ H Q I (i σ H Q q)⟩
theorem PS.imp {X : Cx} {e : Stmt} {t t' : TS} (h : PS X e t) (i : ∀ D σ H, t' D σ H → t D σ H) : PS X e t' := ⟨fun pins s σ H D I q => h.run pins s σ H D I (i D σ H q)⟩
theorem PSs.imp {X : Cx} {e : List Stmt} {t t' : TS} (h : PSs X e t) (i : ∀ D σ H, t' D σ H → t D σ H) : PSs X e t' := ⟨fun pins s σ H D I q => h.run pins s σ H D I (i D σ H q)⟩

/-! ### names and constants -/
/-- w unless it is not yet there -/
def cU (w : W) (z : Ans) : Ans := W.rec (motive_1 := fun _ => Ans) (motive_2 := fun _ => Unit) z (fun _ => z) (fun _ => z) (fun _ => z) (fun _ _ => z) (fun _ _ => z) (fun _ => z) (fun _ => z) (fun _ => z) .bad () (fun _ _ _ _ => ()) w
theorem cU_ok {w : W} {z a : Ans} (ha : a ≠ .bad) (h : cU w z = a) : w ≠ .und ∧ z = a := by
  cases w with
  | und => exact absurd (show Ans.bad = a from h).symm ha
  | _ => exact ⟨(by intro q; cases q), h⟩
abbrev Gt := S4 → (W → Ans) → Ans
abbrev Stt := W → S4 → (S4 → Ans) → Ans
def g0 : Gt := fun s k => S4.rec (motive := fun _ => Ans) .bad (fun a _ _ _ _ _ => k a) s
def g1 : Gt := fun s k => S4.rec (motive := fun _ => Ans) .bad (fun _ a _ _ _ _ => k a) s
def g2 : Gt := fun s k => S4.rec (motive := fun _ => Ans) .bad (fun _ _ a _ _ _ => k a) s
def g3 : Gt := fun s k => S4.rec (motive := fun _ => Ans) .bad (fun _ _ _ a _ _ => k a) s
def gUp (g : Gt) : Gt := fun s k => S4.rec (motive := fun _ => Ans) .bad (fun _ _ _ _ t _ => g t k) s
def s0 : Stt := fun x s k => S4.rec (motive := fun _ => Ans) .bad (fun _ b c d t _ => k (.mk x b c d t)) s
def s1 : Stt := fun x s k => S4.rec (motive := fun _ => Ans) .bad (fun a _ c d t _ => k (.mk a x c d t)) s
def s2 : Stt := fun x s k => S4.rec (motive := fun _ => Ans) .bad (fun a b _ d t _ => k (.mk a b x d t)) s
def s3 : Stt := fun x s k => S4.rec (motive := fun _ => Ans) .bad (fun a b c _ t _ => k (.mk a b c x t)) s
def sUp (g : Stt) : Stt := fun x s k => S4.rec (motive := fun _ => Ans) .bad (fun a b c d t _ => g x t fun t => k (.mk a b c d t)) s
def gI : Nat → Gt
  | 0 => g0
  | 1 => g1
  | 2 => g2
  | 3 => g3
  | n + 4 => gUp (gI n)
def sI : Nat → Stt
  | 0 => s0
  | 1 => s1
  | 2 => s2
  | 3 => s3
  | n + 4 => sUp (sI n)
theorem gI_ok {a : Ans} (ha : a ≠ .bad) : ∀ (i : Nat) (s : S4) (k : W → Ans), gI i s k = a → k (s.get i) = a
  | 0, .nil, k, h => absurd (show Ans.bad = a from h).symm ha
  | 1, .nil, k, h => absurd (show Ans.bad = a from h).symm ha
  | 2, .nil, k, h => absurd (show Ans.bad = a from h).symm ha
  | 3, .nil, k, h => absurd (show Ans.bad = a from h).symm ha
  | _ + 4, .nil, k, h => absurd (show Ans.bad = a from h).symm ha
  | 0, .mk _ _ _ _ _, k, h => h
  | 1, .mk _ _ _ _ _, k, h => h
  | 2, .mk _ _ _ _ _, k, h => h
  | 3, .mk _ _ _ _ _, k, h => h
  | n + 4, .mk _ _ _ _ t, k, h => gI_ok ha n t k h
theorem sI_ok {a : Ans} (ha : a ≠ .bad) : ∀ (i : Nat) (x : W) (s : S4) (k : S4 → Ans), sI i x s k = a → k (s.set i x) = a
  | 0, x, .nil, k, h => absurd (show Ans.bad = a from h).symm ha
  | 1, x, .nil, k, h => absurd (show Ans.bad = a from h).symm ha
  | 2, x, .nil, k, h => absurd (show Ans.bad = a from h).symm ha
  | 3, x, .nil, k, h => absurd (show Ans.bad = a from h).symm ha
  | _ + 4, x, .nil, k, h => absurd (show Ans.bad = a from h).symm ha
  | 0, x, .mk _ _ _ _ _, k, h => h
  | 1, x, .mk _ _ _ _ _, k, h => h
  | 2, x, .mk _ _ _ _ _, k, h => h
  | 3, x, .mk _ _ _ _ _, k, h => h
  | n + 4, x, .mk a b c d t, k, h => sI_ok ha n x t (fun t => k (.mk a b c d t)) h

def cVar (g : Gt) : Code := fun _ s h _ k => g s fun w => cU w (k w h)
def cCon (w : W) : Code := fun _ _ h _ k => k w h
section
variable {X : Cx} {M : Mo} {cl : Cl} {E : XK}
theorem pec_var {i : Nat} {x : Str} {pos : Pos} (hN : X.N[i]? = some x) (hv : Vis X.env.scope x) (hd : (x == ("__debug__" : Str)) = false) (hcd : (x == ("__classdict__" : Str)) = false) : PE X (.Name x pos) (tE M cl E (cVar (gI i))) := by
  refine PE.imp (pe_var hN hv hd hcd) fun σ H Q ⟨a, t, h, x, k, r, A, eq, p⟩ => ?_
  have eq1 : gI i t (fun w => cU w (k w h)) = a := eq
  have eq2 := gI_ok A.good i t _ eq1
  obtain ⟨n, q⟩ := cU_ok A.good eq2
  obtain ⟨v, e1, e2⟩ := A.ss i n
  exact ⟨v, e1, p _ _ _ _ _ Ext.refl e2 A.hs q⟩
/-- a constant, whatever it is made of -/
theorem pec_con {e : Expr} {w : W} {v : V} (h : PE X e (tC v)) (hr : ∀ r H, RelW M.K M.g r H w v) : PE X e (tE M cl E (cCon w)) :=
  PE.imp h fun σ H Q ⟨a, t, hh, x, k, r, A, eq, p⟩ => p _ _ _ _ _ Ext.refl (hr r H) A.hs eq
end
end Eng
end
end

section
set_option maxRecDepth 100000
set_option maxHeartbeats 4000000
/-! Engine, part C: numbers, tests, comparisons. -/
noncomputable section
namespace Eng
open PySem PySem.Spec L2
open PyProof.Rows hiding St

/-! ### choices of values -/
def cI (w : W) (f : Int → Ans) : Ans := W.rec (motive_1 := fun _ => Ans) (motive_2 := fun _ => Unit) .bad (fun _ => .bad) f (fun _ => .bad) (fun _ _ => .bad) (fun _ _ => .bad) (fun _ => .bad) (fun _ => .bad) (fun _ => .bad) .bad () (fun _ _ _ _ => ()) w
theorem cI_ok {w : W} {f : Int → Ans} {a : Ans} (ha : a ≠ .bad) (h : cI w f = a) : ∃ i, w = .int i ∧ f i = a := by
  cases w with
  | int i => exact ⟨i, rfl, h⟩
  | _ => exact absurd (show Ans.bad = a from h).symm ha
def cBl (w : W) (t f : Ans) : Ans := W.rec (motive_1 := fun _ => Ans) (motive_2 := fun _ => Unit) .bad (fun b => cB b t f) (fun _ => .bad) (fun _ => .bad) (fun _ _ => .bad) (fun _ _ => .bad) (fun _ => .bad) (fun _ => .bad) (fun _ => .bad) .bad () (fun _ _ _ _ => ()) w
theorem cBl_ok {w : W} {t f a : Ans} (ha : a ≠ .bad) (h : cBl w t f = a) : (w = .bl true ∧ t = a) ∨ (w = .bl false ∧ f = a) := by
  cases w with
  | bl b => cases b with
    | true => exact .inl ⟨rfl, h⟩
    | false => exact .inr ⟨rfl, h⟩
  | _ => exact absurd (show Ans.bad = a from h).symm ha
def cTup (w : W) (f : List W → Ans) : Ans := W.rec (motive_1 := fun _ => Ans) (motive_2 := fun _ => Unit) .bad (fun _ => .bad) (fun _ => .bad) (fun _ => .bad) (fun ws _ => f ws) (fun _ _ => .bad) (fun _ => .bad) (fun _ => .bad) (fun _ => .bad) .bad () (fun _ _ _ _ => ()) w
theorem cTup_ok {w : W} {f : List W → Ans} {a : Ans} (ha : a ≠ .bad) (h : cTup w f = a) : ∃ ws, w = .tup ws ∧ f ws = a := by
  cases w with
  | tup ws => exact ⟨ws, rfl, h⟩
  | _ => exact absurd (show Ans.bad = a from h).symm ha
def cRef (w : W) (f : Nat → Ans) : Ans := W.rec (motive_1 := fun _ => Ans) (motive_2 := fun _ => Unit) .bad (fun _ => .bad) (fun _ => .bad) (fun _ => .bad) (fun _ _ => .bad) (fun _ _ => .bad) f (fun _ => .bad) (fun _ => .bad) .bad () (fun _ _ _ _ => ()) w
theorem cRef_ok {w : W} {f : Nat → Ans} {a : Ans} (ha : a ≠ .bad) (h : cRef w f = a) : ∃ n, w = .ref n ∧ f n = a := by
  cases w with
  | ref n => exact ⟨n, rfl, h⟩
  | _ => exact absurd (show Ans.bad = a from h).symm ha
def cMl (o : MO) (f : List W → Ans) : Ans := MO.rec (motive := fun _ => Ans) f (fun _ _ => .bad) (fun _ => .bad) (fun _ => .bad) (fun _ => .bad) o
theorem cMl_ok {o : MO} {f : List W → Ans} {a : Ans} (ha : a ≠ .bad) (h : cMl o f = a) : ∃ ws, o = .lst ws ∧ f ws = a := by
  cases o with
  | lst ws => exact ⟨ws, rfl, h⟩
  | _ => exact absurd (show Ans.bad = a from h).symm ha
def cMi (o : MO) (f : Nat → List W → Ans) : Ans := MO.rec (motive := fun _ => Ans) (fun _ => .bad) f (fun _ => .bad) (fun _ => .bad) (fun _ => .bad) o
theorem cMi_ok {o : MO} {f : Nat → List W → Ans} {a : Ans} (ha : a ≠ .bad) (h : cMi o f = a) : ∃ c fs, o = .ins c fs ∧ f c fs = a := by
  cases o with
  | ins c fs => exact ⟨c, fs, rfl, h⟩
  | _ => exact absurd (show Ans.bad = a from h).symm ha
def cMd (o : MO) (f : List (W × W) → Ans) : Ans := MO.rec (motive := fun _ => Ans) (fun _ => .bad) (fun _ _ => .bad) f (fun _ => .bad) (fun _ => .bad) o
theorem cMd_ok {o : MO} {f : List (W × W) → Ans} {a : Ans} (ha : a ≠ .bad) (h : cMd o f = a) : ∃ ws, o = .dct ws ∧ f ws = a := by
  cases o with
  | dct ws => exact ⟨ws, rfl, h⟩
  | _ => exact absurd (show Ans.bad = a from h).symm ha
theorem cB_ok {b : Bool} {t f a : Ans} (h : cB b t f = a) : (b = true ∧ t = a) ∨ (b = false ∧ f = a) := by
  cases b with
  | true => exact .inl ⟨rfl, h⟩
  | false => exact .inr ⟨rfl, h⟩

/-! ### numbers -/
def frI {α : Type} (i : Int) (k : Int → α) : α := Int.rec (motive := fun _ => α) (fun n => frN n fun n => k (.ofNat n)) (fun n => frN n fun n => k (.negSucc n)) i
theorem frI_eq {α : Type} (i : Int) (k : Int → α) : frI i k = k i := by
  cases i with
  | ofNat n => exact frN_eq n fun n => k (.ofNat n)
  | negSucc n => exact frN_eq n fun n => k (.negSucc n)
def addC {α : Type} (i j : Int) (k : Int → α) : α := Int.rec (motive := fun _ => α) (fun m => Int.rec (motive := fun _ => α) (fun n => frN (Nat.add m n) fun d => k (.ofNat d)) (fun n => frI (Int.add (.ofNat m) (.negSucc n)) k) j) (fun m => frI (Int.add (.negSucc m) j) k) i
theorem addC_eq {α : Type} (i j : Int) (k : Int → α) : addC i j k = k (i + j) := by
  cases i with
  | ofNat m => cases j with
    | ofNat n => exact frN_eq (Nat.add m n) fun d => k (.ofNat d)
    | negSucc n => exact frI_eq _ k
  | negSucc m => exact frI_eq _ k
def mulC {α : Type} (i j : Int) (k : Int → α) : α := Int.rec (motive := fun _ => α) (fun m => Int.rec (motive := fun _ => α) (fun n => frN (Nat.mul m n) fun d => k (.ofNat d)) (fun n => frI (Int.mul (.ofNat m) (.negSucc n)) k) j) (fun m => frI (Int.mul (.negSucc m) j) k) i
theorem mulC_eq {α : Type} (i j : Int) (k : Int → α) : mulC i j k = k (i * j) := by
  cases i with
  | ofNat m => cases j with
    | ofNat n => exact frN_eq (Nat.mul m n) fun d => k (.ofNat d)
    | negSucc n => exact frI_eq _ k
  | negSucc m => exact frI_eq _ k
def ltI (i j : Int) : Bool := Int.rec (motive := fun _ => Bool) (fun m => Int.rec (motive := fun _ => Bool) (fun n => Nat.blt m n) (fun _ => false) j) (fun m => Int.rec (motive := fun _ => Bool) (fun _ => true) (fun n => Nat.blt n m) j) i
def eqI (i j : Int) : Bool := Int.rec (motive := fun _ => Bool) (fun m => Int.rec (motive := fun _ => Bool) (fun n => Nat.beq m n) (fun _ => false) j) (fun m => Int.rec (motive := fun _ => Bool) (fun _ => false) (fun n => Nat.beq m n) j) i
theorem blt_eq (m n : Nat) : Nat.blt m n = decide (m < n) := by
  by_cases h : m < n
  · rw [decide_eq_true h]; exact Nat.ble_eq_true_of_le h
  · rw [decide_eq_false h]
    cases e : Nat.blt m n with
    | true => exact absurd (Nat.le_of_ble_eq_true e) h
    | false => rfl
theorem beq_dec (m n : Nat) : Nat.beq m n = decide (m = n) := by
  by_cases h : m = n
  · rw [decide_eq_true h, h]; exact Nat.beq_refl n
  · rw [decide_eq_false h]
    cases e : Nat.beq m n with
    | true => exact absurd (Nat.eq_of_beq_eq_true e) h
    | false => rfl
theorem ltI_eq (i j : Int) : ltI i j = decide (i < j) := by
  cases i with
  | ofNat m => cases j with
    | ofNat n =>
      show Nat.blt m n = _
      rw [blt_eq]
      exact decide_eq_decide.mpr (by show m < n ↔ ((m : Nat) : Int) < ((n : Nat) : Int); omega)
    | negSucc n =>
      show false = _
      exact (decide_eq_false (by show ¬ ((m : Nat) : Int) < Int.negSucc n; omega)).symm
  | negSucc m => cases j with
    | ofNat n =>
      show true = _
      exact (decide_eq_true (by show Int.negSucc m < ((n : Nat) : Int); omega)).symm
    | negSucc n =>
      show Nat.blt n m = _
      rw [blt_eq]
      exact decide_eq_decide.mpr (by omega)
theorem eqI_eq (i j : Int) : eqI i j = decide (i = j) := by
  cases i with
  | ofNat m => cases j with
    | ofNat n =>
      show Nat.beq m n = _
      rw [beq_dec]
      exact decide_eq_decide.mpr (by show m = n ↔ ((m : Nat) : Int) = ((n : Nat) : Int); omega)
    | negSucc n =>
      show false = _
      exact (decide_eq_false (by show ¬ ((m : Nat) : Int) = Int.negSucc n; omega)).symm
  | negSucc m => cases j with
    | ofNat n =>
      show false = _
      exact (decide_eq_false (by show ¬ Int.negSucc m = ((n : Nat) : Int); omega)).symm
    | negSucc n =>
      show Nat.beq m n = _
      rw [beq_dec]
      exact decide_eq_decide.mpr (by omega)

/-! ### two-place operations by values -/
abbrev BCode := W → W → EH → K1 → Ans
def rB (M : Mo) (f : BCode) : R2 := fun x y H Q => ∃ a u w h k r, a ≠ Ans.bad ∧ f u w h k = a ∧ RelW M.K M.g r H u x ∧ RelW M.K M.g r H w y ∧ HSim M r H h ∧ Post M r H a k Q
def cBin (f : BCode) (A B : Code) : Code := fun c s h x k => A c s h x fun u h => B c s h x fun w h => f u w h k
/-- M fits the context -/
structure Fits (X : Cx) (M : Mo) : Prop where
  P : M.P = X.prog
  w : M.w = X.w
  K : M.K = X.K

section
variable {X : Cx} {M : Mo} {cl : Cl} {E : XK} {a b c : Expr} {A B C : Code} {pos : Pos}
/-- the two operands, then the operation by values -/
theorem bin_im {f : BCode} {r : R2} {σ : St} {H : Hp} {Q : VK} (hr : ∀ x y H Q, rB M f x y H Q → r x y H Q) (h : tE M cl E (cBin f A B) σ H Q) : tOp r (tE M cl E A) (tE M cl E B) σ H Q := by
  obtain ⟨a0, t, h, x, k, rr, At0, eq, p⟩ := h
  refine ⟨a0, t, h, x, _, rr, At0, eq, fun u h1 r1 v1 H1 e1 q1 hs1 eq1 => ?_⟩
  refine ⟨a0, t, h1, x, _, r1, At0.ext e1 hs1, eq1, fun w h2 r2 v2 H2 e2 q2 hs2 eq2 => ?_⟩
  exact hr _ _ _ _ ⟨a0, u, w, h2, k, r2, At0.good, eq2, q1.ext e2, q2, hs2, p.ext (e1.trans e2)⟩
theorem pec_bin {op : Operator} {f : BCode} (ho : OpR X (binaryOp op) (rB M f)) (ha : PE X a (tE M cl E A)) (hb : PE X b (tE M cl E B)) : PE X (.BinOp a op b pos) (tE M cl E (cBin f A B)) :=
  PE.imp (pe_op ho ha hb) fun _ _ _ h => bin_im (fun _ _ _ _ q => q) h
theorem OpR.imp {f : Value → Value → Sem Value} {r r' : R2} (h : OpR X f r) (i : ∀ x y H Q, r' x y H Q → r x y H Q) : OpR X f r' := fun pins s σ H x y v u Q I rx ry q => h pins s σ H x y v u Q I rx ry (i x y H Q q)
/-- ints in, an int out, by a code that goes on with it -/
theorem opb_int {f : Value → Value → Sem Value} {Cn : Int → Int → Prop} {g : Int → Int → Int} (h : OpR X f (rI Cn fun i j => .int (g i j))) {fc : Int → Int → (Int → Ans) → Ans}
    (hf : ∀ i j (k : Int → Ans) a, a ≠ Ans.bad → fc i j k = a → Cn i j ∧ k (g i j) = a) : OpR X f (rB M fun u w h k => cI u fun i => cI w fun j => fc i j fun n => k (.int n) h) :=
  OpR.imp h fun x y H Q ⟨a, u, w, h, k, r, ha, eq, qu, qw, hs, p⟩ => by
    obtain ⟨i, e1, eq⟩ := cI_ok ha eq
    obtain ⟨j, e2, eq⟩ := cI_ok ha eq
    subst e1 e2
    have x1 : x = .int i := qu
    have y1 : y = .int j := qw
    obtain ⟨hc, eq⟩ := hf i j _ a ha eq
    exact ⟨i, j, x1, y1, hc, p (.int (g i j)) h r (.int (g i j)) H Ext.refl rfl hs eq⟩
theorem opb_int0 {f : Value → Value → Sem Value} {g : Int → Int → Int} (h : OpR X f (rI0 fun i j => .int (g i j))) {fc : Int → Int → (Int → Ans) → Ans}
    (hf : ∀ i j (k : Int → Ans), fc i j k = k (g i j)) : OpR X f (rB M fun u w h k => cI u fun i => cI w fun j => fc i j fun n => k (.int n) h) :=
  OpR.imp h fun x y H Q ⟨a, u, w, h, k, r, ha, eq, qu, qw, hs, p⟩ => by
    obtain ⟨i, e1, eq⟩ := cI_ok ha eq
    obtain ⟨j, e2, eq⟩ := cI_ok ha eq
    subst e1 e2
    have x1 : x = .int i := qu
    have y1 : y = .int j := qw
    have eq : fc i j (fun n => k (.int n) h) = a := eq
    rw [hf] at eq
    exact ⟨i, j, x1, y1, p (.int (g i j)) h r (.int (g i j)) H Ext.refl rfl hs eq⟩
def fAdd : BCode := fun u w h k => cI u fun i => cI w fun j => addC i j fun n => k (.int n) h
def fSub : BCode := fun u w h k => cI u fun i => cI w fun j => frI (Int.sub i j) fun n => k (.int n) h
def mulB {α : Type} (i j : Int) (z : α) (k : Int → α) : α := cB (Nat.blt (Int.natAbs i) 18446744073709551616) (mulC i j k) (cB (Nat.blt (Int.natAbs j) 18446744073709551616) (mulC i j k) z)
def fMul : BCode := fun u w h k => cI u fun i => cI w fun j => mulB i j .bad fun n => k (.int n) h
def divB {α : Type} (i j : Int) (z : α) (k : Int → α) : α := cB (eqI j 0) z (cB (Nat.blt (Int.natAbs j) 1073741824) (frI (Int.fdiv i j) k) z)
def fDiv : BCode := fun u w h k => cI u fun i => cI w fun j => divB i j .bad fun n => k (.int n) h
def modB {α : Type} (i j : Int) (z : α) (k : Int → α) : α := cB (eqI j 0) z (frI (Int.fmod i j) k)
def fMod : BCode := fun u w h k => cI u fun i => cI w fun j => modB i j .bad fun n => k (.int n) h
def powB {α : Type} (i j : Int) (z : α) (k : Int → α) : α := cB (ltI j 0) z (cB (ltI 1000000 j) z (cB (Nat.blt (Int.natAbs i) 18446744073709551616) (frI (Int.pow i (Int.toNat j)) k) (cB (ltI 1000 j) z (cB (Nat.blt (Int.natAbs i) (Nat.pow 2 4096)) (frI (Int.pow i (Int.toNat j)) k) z))))
def fPow : BCode := fun u w h k => cI u fun i => cI w fun j => powB i j .bad fun n => k (.int n) h
theorem ob_add : OpR X (binaryOp .Add) (rB M fAdd) := opb_int0 op_add fun i j k => addC_eq i j k
theorem ob_sub : OpR X (binaryOp .Sub) (rB M fSub) := opb_int0 op_sub fun i j k => frI_eq _ k
theorem ob_mul : OpR X (binaryOp .Mult) (rB M fMul) := opb_int op_mul fun i j k a ha e => by
  rcases cB_ok e with ⟨b, e⟩ | ⟨_, e⟩
  · rw [blt_eq] at b
    have b := of_decide_eq_true b
    rw [mulC_eq] at e
    exact ⟨.inl (by omega), e⟩
  · rcases cB_ok e with ⟨b, e⟩ | ⟨_, e⟩
    · rw [blt_eq] at b
      have b := of_decide_eq_true b
      rw [mulC_eq] at e
      exact ⟨.inr (by omega), e⟩
    · exact absurd e.symm ha
theorem ob_div : OpR X (binaryOp .FloorDiv) (rB M fDiv) := opb_int op_fdivN fun i j k a ha e => by
  rcases cB_ok e with ⟨_, e⟩ | ⟨b, e⟩
  · exact absurd e.symm ha
  · rw [eqI_eq] at b
    have b := of_decide_eq_false b
    rcases cB_ok e with ⟨b2, e⟩ | ⟨_, e⟩
    · rw [blt_eq] at b2
      rw [frI_eq] at e
      exact ⟨⟨b, of_decide_eq_true b2⟩, e⟩
    · exact absurd e.symm ha
theorem ob_mod : OpR X (binaryOp .Mod) (rB M fMod) := opb_int op_modN fun i j k a ha e => by
  rcases cB_ok e with ⟨_, e⟩ | ⟨b, e⟩
  · exact absurd e.symm ha
  · rw [eqI_eq] at b
    rw [frI_eq] at e
    exact ⟨of_decide_eq_false b, e⟩
theorem op_powW : OpR X (binaryOp .Pow) (rI (fun i j => 0 ≤ j ∧ (Builtin.Int.intBits i : Int) * j ≤ 2 ^ 27) fun i j => .int (i ^ j.toNat)) := opI fun _ _ _ _ _ _ _ hc q => pow_int hc.1 hc.2 q
theorem bits_mulW {a n : Int} (ha : a.natAbs < 2 ^ 4096) (h0 : 0 ≤ n) (hn : n ≤ 1000) : (Builtin.Int.intBits a : Int) * n ≤ 2 ^ 27 := by
  have hb : Builtin.Int.intBits a ≤ 4096 := PySem.intBits_le_iff.mpr ha
  have h1 : (Builtin.Int.intBits a : Int) * n ≤ 4096 * n := Int.mul_le_mul_of_nonneg_right (by omega) h0
  omega
theorem ob_pow : OpR X (binaryOp .Pow) (rB M fPow) := opb_int op_powW fun i j k a ha e => by
  rcases cB_ok e with ⟨_, e⟩ | ⟨b, e⟩
  · exact absurd e.symm ha
  · rcases cB_ok e with ⟨_, e⟩ | ⟨b2, e⟩
    · exact absurd e.symm ha
    · rw [ltI_eq] at b b2
      have b := of_decide_eq_false b
      have b2 := of_decide_eq_false b2
      rcases cB_ok e with ⟨b3, e⟩ | ⟨_, e⟩
      · rw [blt_eq] at b3
        have b3 := of_decide_eq_true b3
        rw [frI_eq] at e
        exact ⟨⟨by omega, bits_mul_le (by omega) (by omega) (by omega)⟩, e⟩
      · rcases cB_ok e with ⟨_, e⟩ | ⟨b4, e⟩
        · exact absurd e.symm ha
        · rw [ltI_eq] at b4
          have b4 := of_decide_eq_false b4
          rcases cB_ok e with ⟨b5, e⟩ | ⟨_, e⟩
          · rw [blt_eq] at b5
            have b5 : i.natAbs < Nat.pow 2 4096 := of_decide_eq_true b5
            rw [frI_eq] at e
            exact ⟨⟨by omega, bits_mulW b5 (by omega) (by omega)⟩, e⟩
          · exact absurd e.symm ha
/-- - a -/
def cNeg (A : Code) : Code := fun c s h x k => A c s h x fun u h => cI u fun i => frI (Int.neg i) fun n => k (.int n) h
theorem pec_neg (ha : PE X a (tE M cl E A)) : PE X (.UnaryOp .USub a pos) (tE M cl E (cNeg A)) :=
  PE.imp (pe_un un_neg ha) fun σ H Q ⟨a0, t, h, x, k, rr, At0, eq, p⟩ => ⟨a0, t, h, x, _, rr, At0, eq, fun u h1 r1 v1 H1 e1 q1 hs1 eq1 => by
    obtain ⟨i, e, eq1⟩ := cI_ok At0.good eq1
    subst e
    have eq1 : frI (Int.neg i) (fun n => k (.int n) h1) = a0 := eq1
    rw [frI_eq] at eq1
    exact ⟨i, q1, p (.int (-i)) h1 r1 (.int (-i)) H1 e1 rfl hs1 eq1⟩⟩
end
end Eng
end
end

section
set_option maxRecDepth 100000
set_option maxHeartbeats 4000000
/-! Engine, part D: tests. -/
noncomputable section
namespace Eng
open PySem PySem.Spec L2
open PyProof.Rows hiding St

abbrev TB := W → W → EH → Ans → Ans → Ans
def rCmp (M : Mo) (f : TB) : R2 := fun x y H Q => ∃ a u w h t e r, a ≠ Ans.bad ∧ f u w h t e = a ∧ RelW M.K M.g r H u x ∧ RelW M.K M.g r H w y ∧ HSim M r H h ∧ (t = a → Q (.bl true) H) ∧ (e = a → Q (.bl false) H)
def cCmp (f : TB) (A B : Code) : TCode := fun c s h x kt kf => A c s h x fun u h => B c s h x fun w h => f u w h (kt h) (kf h)
def cVal (T : TCode) : Code := fun c s h x k => T c s h x (fun h => k (.bl true) h) (fun h => k (.bl false) h)
def cChain (f g : TB) (A B C : Code) : TCode := fun c s h x kt kf => A c s h x fun u h => B c s h x fun w h => f u w h (C c s h x fun z h => g w z h (kt h) (kf h)) (kf h)
def cNot (T : TCode) : TCode := fun c s h x kt kf => T c s h x kf kt
def cAnd (T U : TCode) : TCode := fun c s h x kt kf => T c s h x (fun h => U c s h x kt kf) kf
def cOr (T U : TCode) : TCode := fun c s h x kt kf => T c s h x kt (fun h => U c s h x kt kf)
def cNotV (A : Code) : Code := fun c s h x k => A c s h x fun u h => cBl u (k (.bl false) h) (k (.bl true) h)
def cAndV (A B : Code) : Code := fun c s h x k => A c s h x fun u h => cBl u (B c s h x k) (k (.bl false) h)
def cOrV (A B : Code) : Code := fun c s h x k => A c s h x fun u h => cBl u (k (.bl true) h) (B c s h x k)
def cIte (T : TCode) (A B : Code) : Code := fun c s h x k => T c s h x (fun h => A c s h x k) (fun h => B c s h x k)

theorem itT {P Q : Prop} (h : P) : if true = true then P else Q := by rw [if_pos rfl]; exact h
theorem itF {P Q : Prop} (h : Q) : if false = true then P else Q := by rw [if_neg Bool.false_ne_true]; exact h
section
variable {X : Cx} {M : Mo} {cl : Cl} {E : XK} {a b c : Expr} {A B C : Code} {T U : TCode} {pos : Pos} {f g : TB} {op op' : CmpOp} {rest : List Expr}
theorem cmp_im {σ : St} {H : Hp} {Q : Bool → Hp → Prop} (h : tT M cl E (cCmp f A B) σ H Q) : tTest (tOp (rCmp M f) (tE M cl E A) (tE M cl E B)) σ H Q := by
  obtain ⟨a0, t, h, x, kt, kf, rr, At0, eq, pt, pf⟩ := h
  refine ⟨a0, t, h, x, _, rr, At0, eq, fun u h1 r1 v1 H1 e1 q1 hs1 eq1 => ?_⟩
  refine ⟨a0, t, h1, x, _, r1, At0.ext e1 hs1, eq1, fun w h2 r2 v2 H2 e2 q2 hs2 eq2 => ?_⟩
  exact ⟨a0, u, w, h2, kt h2, kf h2, r2, At0.good, eq2, q1.ext e2, q2, hs2, fun z => ⟨true, rfl, pt _ _ _ (e1.trans e2) hs2 z⟩, fun z => ⟨false, rfl, pf _ _ _ (e1.trans e2) hs2 z⟩⟩
theorem ptc_cmp (ho : OpR X (compareOp op) (rCmp M f)) (ha : PE X a (tE M cl E A)) (hb : PE X b (tE M cl E B)) (hm : behindInMarks op b = false) : PT X (.Compare a [op] [b] pos) (tT M cl E (cCmp f A B)) :=
  PT.imp (pt_cmpR ho ha hb hm) fun _ _ _ h => cmp_im h
theorem pec_cmp (ho : OpR X (compareOp op) (rCmp M f)) (ha : PE X a (tE M cl E A)) (hb : PE X b (tE M cl E B)) (hm : behindInMarks op b = false) : PE X (.Compare a [op] [b] pos) (tE M cl E (cVal (cCmp f A B))) :=
  PE.imp (pe_cmpR ho ha hb hm) fun σ H Q ⟨a0, t, h, x, k, rr, At0, eq, p⟩ => by
    refine ⟨a0, t, h, x, _, rr, At0, eq, fun u h1 r1 v1 H1 e1 q1 hs1 eq1 => ?_⟩
    refine ⟨a0, t, h1, x, _, r1, At0.ext e1 hs1, eq1, fun w h2 r2 v2 H2 e2 q2 hs2 eq2 => ?_⟩
    exact ⟨a0, u, w, h2, _, _, r2, At0.good, eq2, q1.ext e2, q2, hs2, fun z => p (.bl true) _ _ (.bl true) _ (e1.trans e2) rfl hs2 z, fun z => p (.bl false) _ _ (.bl false) _ (e1.trans e2) rfl hs2 z⟩
theorem chain_im {σ : St} {H : Hp} {Q : Bool → Hp → Prop} (h : tT M cl E (cChain f g A B C) σ H Q) : tTest (tChain (rCmp M f) (rCmp M g) (tE M cl E A) (tE M cl E B) (tE M cl E C)) σ H Q := by
  obtain ⟨a0, t, h, x, kt, kf, rr, At0, eq, pt, pf⟩ := h
  refine ⟨a0, t, h, x, _, rr, At0, eq, fun u h1 r1 v1 H1 e1 q1 hs1 eq1 => ?_⟩
  refine ⟨a0, t, h1, x, _, r1, At0.ext e1 hs1, eq1, fun w h2 r2 v2 H2 e2 q2 hs2 eq2 => ?_⟩
  refine ⟨a0, u, w, h2, _, kf h2, r2, At0.good, eq2, q1.ext e2, q2, hs2, fun z => ⟨true, rfl, ?_⟩, fun z => ⟨false, rfl, ?_⟩⟩
  · refine itT ?_
    refine ⟨a0, t, h2, x, _, r2, At0.ext (e1.trans e2) hs2, z, fun w' h3 r3 v3 H3 e3 q3 hs3 eq3 => ?_⟩
    exact ⟨a0, w, w', h3, kt h3, kf h3, r3, At0.good, eq3, q2.ext e3, q3, hs3, fun z => ⟨true, rfl, pt _ _ _ ((e1.trans e2).trans e3) hs3 z⟩, fun z => ⟨false, rfl, pf _ _ _ ((e1.trans e2).trans e3) hs3 z⟩⟩
  · refine itF ?_
    exact ⟨false, rfl, pf _ _ _ (e1.trans e2) hs2 z⟩
theorem ptc_chain (ho : OpR X (compareOp op) (rCmp M f)) (ho' : OpR X (compareOp op') (rCmp M g)) (ha : PE X a (tE M cl E A)) (hb : PE X b (tE M cl E B)) (hc : PE X c (tE M cl E C)) (hm : lastMarks [op, op'] [b, c] = false) :
    PT X (.Compare a [op, op'] [b, c] pos) (tT M cl E (cChain f g A B C)) :=
  PT.imp (pt_chain ho ho' ha hb hc hm) fun _ _ _ h => chain_im h
theorem pec_chain (ho : OpR X (compareOp op) (rCmp M f)) (ho' : OpR X (compareOp op') (rCmp M g)) (ha : PE X a (tE M cl E A)) (hb : PE X b (tE M cl E B)) (hc : PE X c (tE M cl E C)) (hm : lastMarks [op, op'] [b, c] = false) :
    PE X (.Compare a [op, op'] [b, c] pos) (tE M cl E (cVal (cChain f g A B C))) :=
  PE.imp (pe_chain ho ho' ha hb hc hm) fun σ H Q ⟨a0, t, h, x, k, rr, At0, eq, p⟩ => by
    refine ⟨a0, t, h, x, _, rr, At0, eq, fun u h1 r1 v1 H1 e1 q1 hs1 eq1 => ?_⟩
    refine ⟨a0, t, h1, x, _, r1, At0.ext e1 hs1, eq1, fun w h2 r2 v2 H2 e2 q2 hs2 eq2 => ?_⟩
    refine ⟨a0, u, w, h2, _, _, r2, At0.good, eq2, q1.ext e2, q2, hs2, fun z => ⟨true, rfl, itT ?_⟩, fun z => ⟨false, rfl, itF (p (.bl false) _ _ (.bl false) _ (e1.trans e2) rfl hs2 z)⟩⟩
    refine ⟨a0, t, h2, x, _, r2, At0.ext (e1.trans e2) hs2, z, fun w' h3 r3 v3 H3 e3 q3 hs3 eq3 => ?_⟩
    exact ⟨a0, w, w', h3, _, _, r3, At0.good, eq3, q2.ext e3, q3, hs3, fun z => p (.bl true) _ _ (.bl true) _ ((e1.trans e2).trans e3) rfl hs3 z, fun z => p (.bl false) _ _ (.bl false) _ ((e1.trans e2).trans e3) rfl hs3 z⟩
theorem ptc_not (ha : PT X a (tT M cl E T)) : PT X (.UnaryOp .Not a pos) (tT M cl E (cNot T)) :=
  PT.imp (pt_not ha) fun σ H Q ⟨a0, t, h, x, kt, kf, rr, At0, eq, pt, pf⟩ => ⟨a0, t, h, x, kf, kt, rr, At0, eq, pf, pt⟩
theorem and_im {σ : St} {H : Hp} {Q : Bool → Hp → Prop} (h : tT M cl E (cAnd T U) σ H Q) : tAnd (tT M cl E T) (tT M cl E U) σ H Q := by
  obtain ⟨a0, t, h, x, kt, kf, rr, At0, eq, pt, pf⟩ := h
  refine ⟨a0, t, h, x, _, kf, rr, At0, eq, fun h1 r1 H1 e1 hs1 eq1 => ?_, fun h1 r1 H1 e1 hs1 eq1 => ?_⟩
  · refine itT ?_
    exact ⟨a0, t, h1, x, kt, kf, r1, At0.ext e1 hs1, eq1, fun h2 r2 H2 e2 => pt h2 r2 H2 (e1.trans e2), fun h2 r2 H2 e2 => pf h2 r2 H2 (e1.trans e2)⟩
  · refine itF ?_
    exact pf h1 r1 H1 e1 hs1 eq1
theorem or_im {σ : St} {H : Hp} {Q : Bool → Hp → Prop} (h : tT M cl E (cOr T U) σ H Q) : tOr (tT M cl E T) (tT M cl E U) σ H Q := by
  obtain ⟨a0, t, h, x, kt, kf, rr, At0, eq, pt, pf⟩ := h
  refine ⟨a0, t, h, x, kt, _, rr, At0, eq, fun h1 r1 H1 e1 hs1 eq1 => ?_, fun h1 r1 H1 e1 hs1 eq1 => ?_⟩
  · refine itT ?_
    exact pt h1 r1 H1 e1 hs1 eq1
  · refine itF ?_
    exact ⟨a0, t, h1, x, kt, kf, r1, At0.ext e1 hs1, eq1, fun h2 r2 H2 e2 => pt h2 r2 H2 (e1.trans e2), fun h2 r2 H2 e2 => pf h2 r2 H2 (e1.trans e2)⟩
theorem PW.imp {e : Expr} {t t' : TT} (h : PW X e t) (i : ∀ σ H Q, t' σ H Q → t σ H Q) : PW X e t' := ⟨fun wh pins s σ H Q I q => h.run wh pins s σ H Q I (i σ H Q q)⟩
theorem pwc_and (ha : PT X a (tT M cl E T)) (hb : PW X (.BoolOp .And (b :: rest) pos) (tT M cl E U)) : PW X (.BoolOp .And (a :: b :: rest) pos) (tT M cl E (cAnd T U)) := PW.imp (pw_and ha hb) fun _ _ _ h => and_im h
theorem pwc_or (ha : PT X a (tT M cl E T)) (hb : PW X (.BoolOp .Or (b :: rest) pos) (tT M cl E U)) : PW X (.BoolOp .Or (a :: b :: rest) pos) (tT M cl E (cOr T U)) := PW.imp (pw_or ha hb) fun _ _ _ h => or_im h
theorem pec_notV (ha : PE X a (tE M cl E A)) : PE X (.UnaryOp .Not a pos) (tE M cl E (cNotV A)) :=
  PE.imp (pe_not ha) fun σ H Q ⟨a0, t, h, x, k, rr, At0, eq, p⟩ => ⟨a0, t, h, x, _, rr, At0, eq, fun u h1 r1 v1 H1 e1 q1 hs1 eq1 => by
    rcases cBl_ok At0.good eq1 with ⟨e, z⟩ | ⟨e, z⟩ <;> subst e
    · exact ⟨true, q1, p (.bl false) _ _ (.bl false) _ e1 rfl hs1 z⟩
    · exact ⟨false, q1, p (.bl true) _ _ (.bl true) _ e1 rfl hs1 z⟩⟩
theorem pec_and (ha : PE X a (tE M cl E A)) (hb : PE X (.BoolOp .And (b :: rest) pos) (tE M cl E B)) : PE X (.BoolOp .And (a :: b :: rest) pos) (tE M cl E (cAndV A B)) :=
  PE.imp (pe_and ha hb) fun σ H Q ⟨a0, t, h, x, k, rr, At0, eq, p⟩ => ⟨a0, t, h, x, _, rr, At0, eq, fun u h1 r1 v1 H1 e1 q1 hs1 eq1 => by
    rcases cBl_ok At0.good eq1 with ⟨e, z⟩ | ⟨e, z⟩ <;> subst e
    · refine ⟨true, q1, ?_⟩
      exact itT ⟨a0, t, h1, x, k, r1, At0.ext e1 hs1, z, p.ext e1⟩
    · refine ⟨false, q1, ?_⟩
      refine itF ?_
      exact p (.bl false) _ _ (.bl false) _ e1 rfl hs1 z⟩
theorem pec_or (ha : PE X a (tE M cl E A)) (hb : PE X (.BoolOp .Or (b :: rest) pos) (tE M cl E B)) : PE X (.BoolOp .Or (a :: b :: rest) pos) (tE M cl E (cOrV A B)) :=
  PE.imp (pe_or ha hb) fun σ H Q ⟨a0, t, h, x, k, rr, At0, eq, p⟩ => ⟨a0, t, h, x, _, rr, At0, eq, fun u h1 r1 v1 H1 e1 q1 hs1 eq1 => by
    rcases cBl_ok At0.good eq1 with ⟨e, z⟩ | ⟨e, z⟩ <;> subst e
    · refine ⟨true, q1, ?_⟩
      refine itT ?_
      exact p (.bl true) _ _ (.bl true) _ e1 rfl hs1 z
    · refine ⟨false, q1, ?_⟩
      exact itF ⟨a0, t, h1, x, k, r1, At0.ext e1 hs1, z, p.ext e1⟩⟩
theorem pec_ite (hc : PT X c (tT M cl E T)) (ha : PE X a (tE M cl E A)) (hb : PE X b (tE M cl E B)) : PE X (.IfExp c a b pos) (tE M cl E (cIte T A B)) :=
  PE.imp (pe_ifExp hc ha hb) fun σ H Q ⟨a0, t, h, x, k, rr, At0, eq, p⟩ => ⟨a0, t, h, x, _, _, rr, At0, eq, fun h1 r1 H1 e1 hs1 eq1 => by
      exact itT ⟨a0, t, h1, x, k, r1, At0.ext e1 hs1, eq1, p.ext e1⟩, fun h1 r1 H1 e1 hs1 eq1 => by
      exact itF ⟨a0, t, h1, x, k, r1, At0.ext e1 hs1, eq1, p.ext e1⟩⟩
/-! ### comparisons of ints -/
def tbI (f : Int → Int → Bool) : TB := fun u w _ t e => cI u fun i => cI w fun j => cB (f i j) t e
theorem otb_int {f : Value → Value → Sem Value} {p q : Int → Int → Bool} (h : OpR X f (rI0 fun i j => .bl (p i j))) (hq : ∀ i j, q i j = p i j) : OpR X f (rCmp M (tbI q)) :=
  OpR.imp h fun x y H Q ⟨a, u, w, h, t, e, r, ha, eq, qu, qw, hs, pt, pf⟩ => by
    obtain ⟨i, e1, eq⟩ := cI_ok ha eq
    obtain ⟨j, e2, eq⟩ := cI_ok ha eq
    subst e1 e2
    refine ⟨i, j, qu, qw, ?_⟩
    rcases cB_ok eq with ⟨z, eq⟩ | ⟨z, eq⟩
    · rw [hq] at z
      show Q (.bl (p i j)) H
      rw [z]; exact pt eq
    · rw [hq] at z
      show Q (.bl (p i j)) H
      rw [z]; exact pf eq
theorem ot_lt : OpR X (compareOp .Lt) (rCmp M (tbI ltI)) := otb_int op_lt ltI_eq
theorem ot_gt : OpR X (compareOp .Gt) (rCmp M (tbI fun i j => ltI j i)) := otb_int op_gt fun i j => ltI_eq j i
def leI (i j : Int) : Bool := cB (ltI j i) false true
theorem leI_eq (i j : Int) : leI i j = decide (i ≤ j) := by
  unfold leI
  rw [ltI_eq]
  by_cases h : j < i
  · rw [decide_eq_true h, decide_eq_false (by omega)]; rfl
  · rw [decide_eq_false h, decide_eq_true (by omega)]; rfl
theorem ot_le : OpR X (compareOp .LtE) (rCmp M (tbI leI)) := otb_int op_le leI_eq
theorem ot_ge : OpR X (compareOp .GtE) (rCmp M (tbI fun i j => leI j i)) := otb_int op_ge fun i j => leI_eq j i
end
end Eng
end
end

section
set_option maxRecDepth 100000
set_option maxHeartbeats 4000000
/-! Engine, part E: data, == and in. -/
noncomputable section
namespace Eng
open PySem PySem.Spec L2
open PyProof.Rows hiding St

mutual
def toD : W → PyData
  | .non => .none
  | .bl b => .bool b
  | .int i => .int i
  | .str s => .str s
  | .tup ws => .tuple (toDs ws)
  | .lst ws => .list (toDs ws)
  | _ => .none
def toDs : List W → List PyData
  | [] => []
  | w :: ws => toD w :: toDs ws
end
def strB (s : Str) : Bool := List.rec (motive := fun _ => Bool) true (fun c _ ih => cB (Nat.blt c 1114112) ih false) s.cps.toList
theorem strB_ok {s : Str} (h : strB s = true) : PyData.strOk s = true := by
  have key : ∀ l : List Nat, (List.rec (motive := fun _ => Bool) true (fun c _ ih => cB (Nat.blt c 1114112) ih false) l : Bool) = true → l.all (· < 0x110000) = true := by
    intro l
    induction l with
    | nil => intro _; rfl
    | cons c l ih =>
      intro h
      have h1 : cB (Nat.blt c 1114112) (List.rec (motive := fun _ => Bool) true (fun c _ ih => cB (Nat.blt c 1114112) ih false) l) false = true := h
      rw [cB_eq] at h1
      split at h1
      · rename_i e
        rw [blt_eq] at e
        rw [List.all_cons, ih h1, Bool.and_true]
        exact e
      · cases h1
  unfold PyData.strOk
  rw [← Array.all_toList]
  exact key _ h
/-- data without objects, of a depth below n, its texts in order -/
def dataOk (w : W) : Nat → Bool := W.rec (motive_1 := fun _ => Nat → Bool) (motive_2 := fun _ => Nat → Bool) (fun _ => true) (fun _ _ => true) (fun _ _ => true) (fun s _ => strB s)
  (fun _ ih n => Nat.rec (motive := fun _ => Bool) false (fun m _ => ih m) n) (fun _ ih n => Nat.rec (motive := fun _ => Bool) false (fun m _ => ih m) n) (fun _ _ => false) (fun _ _ => false) (fun _ _ => false) (fun _ => false)
  (fun _ => true) (fun _ _ ihw ihs n => cB (ihw n) (ihs n) false) w
def dataOks (ws : List W) : Nat → Bool := List.rec (motive := fun _ => Nat → Bool) (fun _ => true) (fun w _ ih n => cB (dataOk w n) (ih n) false) ws
theorem dataOk_tup {ws : List W} {n : Nat} : dataOk (.tup ws) n = (match n with | 0 => false | m + 1 => dataOks ws m) := by
  cases n with
  | zero => rfl
  | succ m =>
    show (W.rec_1 (motive_1 := fun _ => Nat → Bool) (motive_2 := fun _ => Nat → Bool) (fun _ => true) (fun _ _ => true) (fun _ _ => true) (fun s _ => strB s)
      (fun _ ih n => Nat.rec (motive := fun _ => Bool) false (fun m _ => ih m) n) (fun _ ih n => Nat.rec (motive := fun _ => Bool) false (fun m _ => ih m) n) (fun _ _ => false) (fun _ _ => false) (fun _ _ => false) (fun _ => false)
      (fun _ => true) (fun _ _ ihw ihs n => cB (ihw n) (ihs n) false) ws : Nat → Bool) m = dataOks ws m
    induction ws with
    | nil => rfl
    | cons w ws ih =>
      show cB (dataOk w m) _ false = cB (dataOk w m) (dataOks ws m) false
      rw [← ih]
theorem dataOk_lst {ws : List W} {n : Nat} : dataOk (.lst ws) n = (match n with | 0 => false | m + 1 => dataOks ws m) := dataOk_tup (ws := ws) (n := n)
theorem dataOks_cons {w : W} {ws : List W} {n : Nat} (h : dataOks (w :: ws) n = true) : dataOk w n = true ∧ dataOks ws n = true := by
  have h1 : cB (dataOk w n) (dataOks ws n) false = true := h
  rw [cB_eq] at h1
  split at h1
  · exact ⟨by assumption, h1⟩
  · cases h1
mutual
theorem dataOk_lay : ∀ (w : W) (n : Nat), dataOk w n = true → (toD w).canLay0 = true ∧ (toD w).depth ≤ n
  | .non, _, _ => ⟨by simp [toD, PyData.canLay0], by simp [toD, PyData.depth]⟩
  | .bl _, _, _ => ⟨by simp [toD, PyData.canLay0], by simp [toD, PyData.depth]⟩
  | .int _, _, _ => ⟨by simp [toD, PyData.canLay0], by simp [toD, PyData.depth]⟩
  | .str s, _, h => ⟨by simp only [toD, PyData.canLay0]; exact strB_ok h, by simp [toD, PyData.depth]⟩
  | .tup ws, n, h => by
    rw [dataOk_tup] at h
    cases n with
    | zero => cases h
    | succ m =>
      obtain ⟨a, b⟩ := dataOks_lay ws m h
      simp only [toD, PyData.canLay0, PyData.depth]
      exact ⟨a, by omega⟩
  | .lst ws, n, h => by
    rw [dataOk_lst] at h
    cases n with
    | zero => cases h
    | succ m =>
      obtain ⟨a, b⟩ := dataOks_lay ws m h
      simp only [toD, PyData.canLay0, PyData.depth]
      exact ⟨a, by omega⟩
  | .ref _, _, h => absurd (show false = true from h) Bool.false_ne_true
  | .sta _, _, h => absurd (show false = true from h) Bool.false_ne_true
  | .ty _, _, h => absurd (show false = true from h) Bool.false_ne_true
  | .und, _, h => absurd (show false = true from h) Bool.false_ne_true
theorem dataOks_lay : ∀ (ws : List W) (n : Nat), dataOks ws n = true → PyData.canLayAll0 (toDs ws) = true ∧ PyData.depthAll (toDs ws) ≤ n
  | [], _, _ => ⟨by simp [toDs, PyData.canLayAll0], by simp [toDs, PyData.depthAll]⟩
  | w :: ws, n, h => by
    obtain ⟨h1, h2⟩ := dataOks_cons h
    obtain ⟨a, b⟩ := dataOk_lay w n h1
    obtain ⟨c, d⟩ := dataOks_lay ws n h2
    simp only [toDs, PyData.canLayAll0, PyData.depthAll, a, c, Bool.true_and]
    exact ⟨trivial, by omega⟩
end
section
variable {K : PySem.W.Frag} {g : Nat → Addr} {r : Rg} {H : Hp}
mutual
theorem dp_of : ∀ (w : W) (n : Nat) (v : V), dataOk w n = true → RelW K g r H w v → Dp K H v (toD w)
  | .non, _, v, _, q => by rw [show v = .non from q]; exact Dp.non
  | .bl b, _, v, _, q => by rw [show v = .bl b from q]; exact Dp.bl b
  | .int b, _, v, _, q => by rw [show v = .int b from q]; exact Dp.int b
  | .str b, _, v, _, q => by rw [show v = .str b from q]; exact Dp.str b
  | .tup ws, n, v, h, q => by
    rw [dataOk_tup] at h
    obtain ⟨a, vs, e, _, t, l⟩ := (show ∃ a vs, v = .ref a ∧ ws.length ≤ 16777216 ∧ TupAt K r H a vs ∧ RelWs K g r H ws vs from q)
    cases n with
    | zero => cases h
    | succ m =>
      rw [e]
      simp only [toD]
      exact Dp.tup t.sq (dps_of ws m vs h l)
  | .lst ws, n, v, h, q => by
    rw [dataOk_lst] at h
    obtain ⟨a, vs, e, _, t, l⟩ := (show ∃ a vs, v = .ref a ∧ ws.length ≤ 16777216 ∧ LstAt K r H a vs ∧ RelWs K g r H ws vs from q)
    cases n with
    | zero => cases h
    | succ m =>
      rw [e]
      simp only [toD]
      exact Dp.lst t.sq (dps_of ws m vs h l)
  | .ref _, _, _, h, _ => absurd (show false = true from h) Bool.false_ne_true
  | .sta _, _, _, h, _ => absurd (show false = true from h) Bool.false_ne_true
  | .ty _, _, _, h, _ => absurd (show false = true from h) Bool.false_ne_true
  | .und, _, _, h, _ => absurd (show false = true from h) Bool.false_ne_true
theorem dps_of : ∀ (ws : List W) (n : Nat) (vs : List V), dataOks ws n = true → RelWs K g r H ws vs → DpAll K H vs (toDs ws)
  | [], _, vs, _, q => by rw [show vs = [] from q]; simp only [toDs]; exact DpAll.nil
  | w :: ws, n, vs, h, q => by
    obtain ⟨h1, h2⟩ := dataOks_cons h
    obtain ⟨v, q2, e, a, b⟩ := (show ∃ v q, vs = v :: q ∧ RelW K g r H w v ∧ RelWs K g r H ws q from q)
    rw [e]
    simp only [toDs]
    exact DpAll.cons (dp_of w n v h1 a) (dps_of ws n q2 h2 b)
end
end
/-! ### == -/
def wB (w : W) (non : Bool) (bl : Bool → Bool) (int : Int → Bool) (str : Str → Bool) (tup lst : List W → Bool) : Bool :=
  W.rec (motive_1 := fun _ => Bool) (motive_2 := fun _ => Unit) non bl int str (fun ws _ => tup ws) (fun ws _ => lst ws) (fun _ => false) (fun _ => false) (fun _ => false) false () (fun _ _ _ _ => ()) w
def fl {α : Type} (_ : α) : Bool := false
def eqB (b c : Bool) : Bool := cB b c (cB c false true)
theorem eqB_eq (b c : Bool) : eqB b c = (b == c) := by cases b <;> cases c <;> rfl
def nilB (us : List W) : Bool := List.rec (motive := fun _ => Bool) true (fun _ _ _ => false) us
def consB (us : List W) (f : W → Bool) (g : List W → Bool) : Bool := List.rec (motive := fun _ => Bool) false (fun u us _ => cB (f u) (g us) false) us
def eqW (u : W) : W → Bool := W.rec (motive_1 := fun _ => W → Bool) (motive_2 := fun _ => List W → Bool)
  (fun w => wB w true fl fl fl fl fl) (fun b w => wB w false (eqB b) (fun j => eqI (cB b 1 0) j) fl fl fl) (fun i w => wB w false (fun c => eqI i (cB c 1 0)) (eqI i) fl fl fl)
  (fun s w => wB w false fl fl (fun z => decide (s = z)) fl fl) (fun _ ih w => wB w false fl fl fl ih fl) (fun _ ih w => wB w false fl fl fl fl ih) (fun _ _ => false) (fun _ _ => false) (fun _ _ => false) (fun _ => false)
  nilB (fun _ _ ihw ihs us => consB us ihw ihs) u
def eqWs (us : List W) : List W → Bool := List.rec (motive := fun _ => List W → Bool) nilB (fun u _ ih ws => consB ws (eqW u) ih) us
theorem eqW_tup {us : List W} {w : W} : eqW (.tup us) w = wB w false fl fl fl (eqWs us) fl := by
  have key : ∀ us : List W, (W.rec_1 (motive_1 := fun _ => W → Bool) (motive_2 := fun _ => List W → Bool)
      (fun w => wB w true fl fl fl fl fl) (fun b w => wB w false (eqB b) (fun j => eqI (cB b 1 0) j) fl fl fl) (fun i w => wB w false (fun c => eqI i (cB c 1 0)) (eqI i) fl fl fl)
      (fun s w => wB w false fl fl (fun z => decide (s = z)) fl fl) (fun _ ih w => wB w false fl fl fl ih fl) (fun _ ih w => wB w false fl fl fl fl ih) (fun _ _ => false) (fun _ _ => false) (fun _ _ => false) (fun _ => false)
      nilB (fun _ _ ihw ihs us => consB us ihw ihs) us : List W → Bool) = eqWs us := by
    intro us
    induction us with
    | nil => rfl
    | cons u us ih =>
      funext ws
      show consB ws (eqW u) _ = consB ws (eqW u) (eqWs us)
      rw [← ih]
  show wB w false fl fl fl _ fl = _
  rw [← key us]
theorem eqW_lst {us : List W} {w : W} : eqW (.lst us) w = wB w false fl fl fl fl (eqWs us) := by
  have key : ∀ us : List W, (W.rec_1 (motive_1 := fun _ => W → Bool) (motive_2 := fun _ => List W → Bool)
      (fun w => wB w true fl fl fl fl fl) (fun b w => wB w false (eqB b) (fun j => eqI (cB b 1 0) j) fl fl fl) (fun i w => wB w false (fun c => eqI i (cB c 1 0)) (eqI i) fl fl fl)
      (fun s w => wB w false fl fl (fun z => decide (s = z)) fl fl) (fun _ ih w => wB w false fl fl fl ih fl) (fun _ ih w => wB w false fl fl fl fl ih) (fun _ _ => false) (fun _ _ => false) (fun _ _ => false) (fun _ => false)
      nilB (fun _ _ ihw ihs us => consB us ihw ihs) us : List W → Bool) = eqWs us := by
    intro us
    induction us with
    | nil => rfl
    | cons u us ih =>
      funext ws
      show consB ws (eqW u) _ = consB ws (eqW u) (eqWs us)
      rw [← ih]
  show wB w false fl fl fl fl _ = _
  rw [← key us]
mutual
theorem eqW_eqv : ∀ (u w : W) (n m : Nat), dataOk u n = true → dataOk w m = true → eqW u w = PyData.eqv (toD u) (toD w)
  | .non, w, _, _, _, h => by
    cases w with
    | ref _ => exact absurd (show false = true from h) Bool.false_ne_true
    | sta _ => exact absurd (show false = true from h) Bool.false_ne_true
    | ty _ => exact absurd (show false = true from h) Bool.false_ne_true
    | und => exact absurd (show false = true from h) Bool.false_ne_true
    | _ => simp only [toD, PyData.eqv]; rfl
  | .bl b, w, _, _, _, h => by
    cases w with
    | ref _ => exact absurd (show false = true from h) Bool.false_ne_true
    | sta _ => exact absurd (show false = true from h) Bool.false_ne_true
    | ty _ => exact absurd (show false = true from h) Bool.false_ne_true
    | und => exact absurd (show false = true from h) Bool.false_ne_true
    | bl c => simp only [toD, PyData.eqv]; exact eqB_eq b c
    | int j =>
      simp only [toD, PyData.eqv]
      show eqI (cB b 1 0) j = _
      rw [eqI_eq, cB_eq]
      rfl
    | _ => simp only [toD, PyData.eqv]; rfl
  | .int i, w, _, _, _, h => by
    cases w with
    | ref _ => exact absurd (show false = true from h) Bool.false_ne_true
    | sta _ => exact absurd (show false = true from h) Bool.false_ne_true
    | ty _ => exact absurd (show false = true from h) Bool.false_ne_true
    | und => exact absurd (show false = true from h) Bool.false_ne_true
    | bl c =>
      simp only [toD, PyData.eqv]
      show eqI i (cB c 1 0) = _
      rw [eqI_eq, cB_eq]
      rfl
    | int j =>
      simp only [toD, PyData.eqv]
      show eqI i j = _
      rw [eqI_eq]
      rfl
    | _ => simp only [toD, PyData.eqv]; rfl
  | .str s, w, _, _, _, h => by
    cases w with
    | ref _ => exact absurd (show false = true from h) Bool.false_ne_true
    | sta _ => exact absurd (show false = true from h) Bool.false_ne_true
    | ty _ => exact absurd (show false = true from h) Bool.false_ne_true
    | und => exact absurd (show false = true from h) Bool.false_ne_true
    | str z => simp only [toD, PyData.eqv]; rfl
    | _ => simp only [toD, PyData.eqv]; rfl
  | .tup us, w, n, m, hu, h => by
    rw [dataOk_tup] at hu
    rw [eqW_tup]
    cases n with
    | zero => cases hu
    | succ n =>
      cases w with
      | ref _ => exact absurd (show false = true from h) Bool.false_ne_true
      | sta _ => exact absurd (show false = true from h) Bool.false_ne_true
      | ty _ => exact absurd (show false = true from h) Bool.false_ne_true
      | und => exact absurd (show false = true from h) Bool.false_ne_true
      | tup ws =>
        rw [dataOk_tup] at h
        cases m with
        | zero => cases h
        | succ m =>
          simp only [toD, PyData.eqv]
          exact eqWs_eqv us ws n m hu h
      | _ => simp only [toD, PyData.eqv]; rfl
  | .lst us, w, n, m, hu, h => by
    rw [dataOk_lst] at hu
    rw [eqW_lst]
    cases n with
    | zero => cases hu
    | succ n =>
      cases w with
      | ref _ => exact absurd (show false = true from h) Bool.false_ne_true
      | sta _ => exact absurd (show false = true from h) Bool.false_ne_true
      | ty _ => exact absurd (show false = true from h) Bool.false_ne_true
      | und => exact absurd (show false = true from h) Bool.false_ne_true
      | lst ws =>
        rw [dataOk_lst] at h
        cases m with
        | zero => cases h
        | succ m =>
          simp only [toD, PyData.eqv]
          exact eqWs_eqv us ws n m hu h
      | _ => simp only [toD, PyData.eqv]; rfl
  | .ref _, _, _, _, h, _ => absurd (show false = true from h) Bool.false_ne_true
  | .sta _, _, _, _, h, _ => absurd (show false = true from h) Bool.false_ne_true
  | .ty _, _, _, _, h, _ => absurd (show false = true from h) Bool.false_ne_true
  | .und, _, _, _, h, _ => absurd (show false = true from h) Bool.false_ne_true
theorem eqWs_eqv : ∀ (us ws : List W) (n m : Nat), dataOks us n = true → dataOks ws m = true → eqWs us ws = PyData.eqvAll (toDs us) (toDs ws)
  | [], [], _, _, _, _ => by simp only [toDs, PyData.eqvAll]; rfl
  | [], _ :: _, _, _, _, _ => by simp only [toDs, PyData.eqvAll]; rfl
  | _ :: _, [], _, _, _, _ => by simp only [toDs, PyData.eqvAll]; rfl
  | u :: us, w :: ws, n, m, hu, hw => by
    obtain ⟨a, b⟩ := dataOks_cons hu
    obtain ⟨c, d⟩ := dataOks_cons hw
    simp only [toDs, PyData.eqvAll]
    rw [← eqW_eqv u w n m a c, ← eqWs_eqv us ws n m b d]
    show cB (eqW u w) (eqWs us ws) false = _
    cases eqW u w <;> rfl
end
end Eng
end
end

section
set_option maxRecDepth 100000
set_option maxHeartbeats 4000000
/-! Engine, part F: == and in by values, is None, truth, displays, items, slices. -/
noncomputable section
namespace Eng
open PySem PySem.Spec L2
open PyProof.Rows hiding St

/-! ### what is behind a reference -/
/-- a list of the heap as a list, all else as it is -/
def drfC (h : EH) (w : W) (k : W → Ans) : Ans := W.rec (motive_1 := fun _ => Ans) (motive_2 := fun _ => Unit) (k w) (fun _ => k w) (fun _ => k w) (fun _ => k w) (fun _ _ => k w) (fun _ _ => k w) (fun n => BT.getC h.t n fun o => cMl o fun ws => k (.lst ws)) (fun _ => k w) (fun _ => k w) .bad () (fun _ _ _ _ => ()) w
/-- w is v, where a list of the heap counts as a list -/
def RelR (M : Mo) (r : Rg) (H : Hp) (w : W) (v : V) : Prop := RelW M.K M.g r H w v ∨ ∃ ws a vs, w = .lst ws ∧ v = .ref a ∧ ws.length ≤ 16777216 ∧ H a = some (.lst vs) ∧ RelWs M.K M.g r H ws vs
section
variable {M : Mo} {r r' : Rg} {H H' : Hp} {h : EH} {a : Ans} {w : W} {v : V} {K : PySem.W.Frag}
theorem HSim.at (x : HSim M r H h) {n : Nat} {p : Addr} {k : MO → Ans} (ha : a ≠ .bad) (e : r.l[n]? = some p) (q : BT.getC h.t n k = a) : ∃ o, MOk M r H p o ∧ k o = a := by
  obtain ⟨o, e1, e2⟩ := BT.getC_ok ha q
  obtain ⟨o', e3, e4⟩ := x.obj n p e
  rw [e1] at e3
  cases e3
  exact ⟨o, e4, e2⟩
theorem drf_ok (x : HSim M r H h) (ha : a ≠ .bad) {k : W → Ans} (rel : RelW M.K M.g r H w v) (q : drfC h w k = a) : ∃ w', RelR M r H w' v ∧ k w' = a := by
  cases w with
  | ref n =>
    obtain ⟨p, e, e1⟩ := (show ∃ a, v = .ref a ∧ r.l[n]? = some a from rel)
    have q1 : BT.getC h.t n (fun o => cMl o fun ws => k (.lst ws)) = a := q
    obtain ⟨o, ok, q2⟩ := x.at ha e1 q1
    obtain ⟨ws, e2, q3⟩ := cMl_ok ha q2
    subst e2
    obtain ⟨z, vs, e3, e4⟩ := ok
    exact ⟨.lst ws, .inr ⟨ws, p, vs, rfl, e, z, e3, e4⟩, q3⟩
  | und => exact absurd (show Ans.bad = a from q).symm ha
  | non => exact ⟨_, .inl rel, q⟩
  | bl _ => exact ⟨_, .inl rel, q⟩
  | int _ => exact ⟨_, .inl rel, q⟩
  | str _ => exact ⟨_, .inl rel, q⟩
  | tup _ => exact ⟨_, .inl rel, q⟩
  | lst _ => exact ⟨_, .inl rel, q⟩
  | sta _ => exact ⟨_, .inl rel, q⟩
  | ty _ => exact ⟨_, .inl rel, q⟩
theorem RelR.dp {n : Nat} (x : RelR M r H w v) (h : dataOk w n = true) : Dp M.K H v (toD w) := by
  rcases x with x | ⟨ws, a, vs, e1, e2, _, e3, e4⟩
  · exact dp_of w n v h x
  · subst e1 e2
    rw [dataOk_lst] at h
    cases n with
    | zero => cases h
    | succ m =>
      simp only [toD]
      exact Dp.lst (SqL.of e3) (dps_of ws m vs h e4)
/-- its items, where it is a tuple or a list -/
def cSeq (w : W) (f : List W → Ans) : Ans := W.rec (motive_1 := fun _ => Ans) (motive_2 := fun _ => Unit) .bad (fun _ => .bad) (fun _ => .bad) (fun _ => .bad) (fun ws _ => f ws) (fun ws _ => f ws) (fun _ => .bad) (fun _ => .bad) (fun _ => .bad) .bad () (fun _ _ _ _ => ()) w
theorem cSeq_ok {f : List W → Ans} (ha : a ≠ .bad) (h : cSeq w f = a) : ∃ ws, (w = .tup ws ∨ w = .lst ws) ∧ f ws = a := by
  cases w with
  | tup ws => exact ⟨ws, .inl rfl, h⟩
  | lst ws => exact ⟨ws, .inr rfl, h⟩
  | _ => exact absurd (show Ans.bad = a from h).symm ha
/-- the items of what is a tuple or a list, of the heap too -/
def itemsC (h : EH) (w : W) (f : List W → Ans) : Ans := drfC h w fun w => cSeq w f
/-- v is a tuple or a list of ws -/
def SeqV (M : Mo) (r : Rg) (H : Hp) (ws : List W) (v : V) : Prop := ws.length ≤ 16777216 ∧ ∃ p vs, v = .ref p ∧ (SqT M.K H p vs ∨ H p = some (.lst vs)) ∧ RelWs M.K M.g r H ws vs
theorem RelR.tup {ws : List W} (x : RelR M r H (.tup ws) v) : ws.length ≤ 16777216 ∧ ∃ p vs, v = .ref p ∧ TupAt M.K r H p vs ∧ RelWs M.K M.g r H ws vs := by
  rcases x with x | ⟨ws', a, vs, e1, _⟩
  · obtain ⟨p, vs, e, z, t, l⟩ := (show ∃ a vs, v = .ref a ∧ ws.length ≤ 16777216 ∧ TupAt M.K r H a vs ∧ RelWs M.K M.g r H ws vs from x)
    exact ⟨z, p, vs, e, t, l⟩
  · cases e1
theorem RelR.lst {ws : List W} (x : RelR M r H (.lst ws) v) : ws.length ≤ 16777216 ∧ ∃ p vs, v = .ref p ∧ H p = some (.lst vs) ∧ RelWs M.K M.g r H ws vs := by
  rcases x with x | ⟨ws', a, vs, e1, e2, z, e3, e4⟩
  · obtain ⟨p, vs, e, z, t, l⟩ := (show ∃ a vs, v = .ref a ∧ ws.length ≤ 16777216 ∧ LstAt M.K r H a vs ∧ RelWs M.K M.g r H ws vs from x)
    exact ⟨z, p, vs, e, t.1, l⟩
  · cases e1
    exact ⟨z, a, vs, e2, e3, e4⟩
theorem items_ok (x : HSim M r H h) (ha : a ≠ .bad) {f : List W → Ans} (rel : RelW M.K M.g r H w v) (q : itemsC h w f = a) : ∃ ws, SeqV M r H ws v ∧ f ws = a := by
  obtain ⟨w', e1, q1⟩ := drf_ok x ha rel q
  obtain ⟨ws, e2, q2⟩ := cSeq_ok ha q1
  rcases e2 with e2 | e2 <;> subst e2
  · obtain ⟨z, p, vs, e, t, l⟩ := e1.tup
    exact ⟨ws, ⟨z, p, vs, e, .inl t.sq, l⟩, q2⟩
  · obtain ⟨z, p, vs, e, t, l⟩ := e1.lst
    exact ⟨ws, ⟨z, p, vs, e, .inr t, l⟩, q2⟩
end

/-! ### ==, in -/
def deepEq : TB := fun u w h t e => drfC h u fun u => drfC h w fun w => cB (dataOk u 60) (cB (dataOk w 60) (cB (eqW u w) t e) .bad) .bad
def isI (w : W) (f : Int → Ans) (z : Ans) : Ans := W.rec (motive_1 := fun _ => Ans) (motive_2 := fun _ => Unit) z (fun _ => z) f (fun _ => z) (fun _ _ => z) (fun _ _ => z) (fun _ => z) (fun _ => z) (fun _ => z) .bad () (fun _ _ _ _ => ()) w
def fEq : TB := fun u w h t e => isI u (fun i => isI w (fun j => cB (eqI i j) t e) (deepEq u w h t e)) (deepEq u w h t e)
def fNe : TB := fun u w h t e => fEq u w h e t
def anyEq (ws : List W) (u : W) : Bool := List.rec (motive := fun _ => Bool) false (fun z _ ih => cB (eqW z u) true ih) ws
theorem anyEq_any {u : W} {n m : Nat} (hu : dataOk u n = true) : ∀ ws : List W, dataOks ws m = true → anyEq ws u = (toDs ws).any fun z => PyData.eqv z (toD u)
  | [], _ => by simp only [toDs]; rfl
  | w :: ws, h => by
    obtain ⟨a, b⟩ := dataOks_cons h
    simp only [toDs, List.any_cons]
    rw [← eqW_eqv w u m n a hu, ← anyEq_any hu ws b]
    show cB (eqW w u) true (anyEq ws u) = _
    cases eqW w u <;> rfl
theorem isI_ok {w : W} {f : Int → Ans} {z a : Ans} (ha : a ≠ .bad) (h : isI w f z = a) : (∃ i, w = .int i ∧ f i = a) ∨ z = a := by
  cases w with
  | int i => exact .inl ⟨i, rfl, h⟩
  | und => exact absurd (show Ans.bad = a from h).symm ha
  | _ => exact .inr h
theorem dataOk_shaped {w : W} {n : Nat} (hn : n ≤ 64) (h : dataOk w n = true) : SeqAt.shaped (toD w) = true := by
  obtain ⟨a, b⟩ := dataOk_lay w n h
  show ((toD w).canLay0 && decide ((toD w).depth ≤ 64)) = true
  rw [a, decide_eq_true (by omega)]
  rfl
section
variable {X : Cx} {M : Mo} {cl : Cl} {E : XK}
/-- what == of two values comes to -/
theorem eq_ok {r : Rg} {H : Hp} {u w : W} {h : EH} {t e a : Ans} {x y : V} (ha : a ≠ .bad) (hs : HSim M r H h) (qu : RelW M.K M.g r H u x) (qw : RelW M.K M.g r H w y) (eq : fEq u w h t e = a) :
    ∃ d z, Dp M.K H x d ∧ Dp M.K H y z ∧ SeqAt.shaped d = true ∧ SeqAt.shaped z = true ∧ (PyData.eqv d z = true → t = a) ∧ (PyData.eqv d z = false → e = a) := by
  have deep : deepEq u w h t e = a → ∃ d z, Dp M.K H x d ∧ Dp M.K H y z ∧ SeqAt.shaped d = true ∧ SeqAt.shaped z = true ∧ (PyData.eqv d z = true → t = a) ∧ (PyData.eqv d z = false → e = a) := fun eq => by
    obtain ⟨u', ru, eq⟩ := drf_ok hs ha qu eq
    obtain ⟨w', rw', eq⟩ := drf_ok hs ha qw eq
    rcases cB_ok eq with ⟨b1, eq⟩ | ⟨_, eq⟩
    · rcases cB_ok eq with ⟨b2, eq⟩ | ⟨_, eq⟩
      · refine ⟨toD u', toD w', ru.dp b1, rw'.dp b2, dataOk_shaped (by decide) b1, dataOk_shaped (by decide) b2, ?_, ?_⟩
        · intro z
          rw [← eqW_eqv u' w' 60 60 b1 b2] at z
          rw [z] at eq
          exact eq
        · intro z
          rw [← eqW_eqv u' w' 60 60 b1 b2] at z
          rw [z] at eq
          exact eq
      · exact absurd eq.symm ha
    · exact absurd eq.symm ha
  rcases isI_ok ha eq with ⟨i, e1, eq⟩ | eq
  · rcases isI_ok ha eq with ⟨j, e2, eq⟩ | eq
    · subst e1 e2
      have x1 : x = .int i := qu
      have y1 : y = .int j := qw
      subst x1 y1
      have eq : cB (eqI i j) t e = a := eq
      refine ⟨.int i, .int j, Dp.int i, Dp.int j, dataOk_shaped (w := .int i) (n := 0) (by decide) rfl, dataOk_shaped (w := .int j) (n := 0) (by decide) rfl, ?_, ?_⟩
      · intro z
        simp only [PyData.eqv] at z
        rw [show eqI i j = true by rw [eqI_eq]; exact z] at eq
        exact eq
      · intro z
        simp only [PyData.eqv] at z
        rw [show eqI i j = false by rw [eqI_eq]; exact z] at eq
        exact eq
    · exact deep eq
  · exact deep eq
theorem ot_eq (f : Fits X M) (hu : X.A.units + 64 < cLine) : OpR X (compareOp .Eq) (rCmp M fEq) :=
  OpR.imp (op_eqD hu) fun x y H Q ⟨a, u, w, h, t, e, r, ha, eq, qu, qw, hs, pt, pf⟩ => by
    obtain ⟨d, z, h1, h2, h3, h4, h5, h6⟩ := eq_ok ha hs qu qw eq
    rw [f.K] at h1 h2
    refine ⟨d, z, h1, h2, h3, h4, ?_⟩
    cases q : PyData.eqv d z with
    | true => exact pt (h5 q)
    | false => exact pf (h6 q)
theorem ot_ne (f : Fits X M) (hu : X.A.units + 64 < cLine) : OpR X (compareOp .NotEq) (rCmp M fNe) :=
  OpR.imp (op_neD hu) fun x y H Q ⟨a, u, w, h, t, e, r, ha, eq, qu, qw, hs, pt, pf⟩ => by
    obtain ⟨d, z, h1, h2, h3, h4, h5, h6⟩ := eq_ok ha hs qu qw eq
    rw [f.K] at h1 h2
    refine ⟨d, z, h1, h2, h3, h4, ?_⟩
    cases q : PyData.eqv d z with
    | true => exact pf (h5 q)
    | false => exact pt (h6 q)
/-- x in a list, a tuple -/
def seqIn : W → List W → Ans → Ans → Ans := fun u ws t e => cB (dataOk u 60) (cB (dataOks ws 60) (cB (anyEq ws u) t e) .bad) .bad
theorem seqIn_ok {u : W} {ws : List W} {t e a : Ans} (ha : a ≠ .bad) (eq : seqIn u ws t e = a) : dataOk u 60 = true ∧ dataOks ws 60 = true ∧ (((toDs ws).any fun z => PyData.eqv z (toD u)) = true → t = a) ∧ (((toDs ws).any fun z => PyData.eqv z (toD u)) = false → e = a) := by
  rcases cB_ok eq with ⟨b1, eq⟩ | ⟨_, eq⟩
  · rcases cB_ok eq with ⟨b2, eq⟩ | ⟨_, eq⟩
    · rw [anyEq_any b1 ws b2] at eq
      refine ⟨b1, b2, fun z => ?_, fun z => ?_⟩
      · rw [z] at eq; exact eq
      · rw [z] at eq; exact eq
    · exact absurd eq.symm ha
  · exact absurd eq.symm ha
theorem dataOks_lays {ws : List W} {n : Nat} (h : dataOks ws n = true) : PyData.canLayAll0 (toDs ws) = true := (dataOks_lay ws n h).1
/-- the model's in, over either -/
theorem in_seq (hu : X.A.units + 65 < cLine) {pins : List (Addr × Obj)} {s : Shared} {σ : St} {H : Hp} {r : Rg} {x y : V} {vx vy : Value} {u : W} {ws : List W} {E' : Value → Shared → Prop} (I : Inv X pins σ H s) (rx : RelV x vx) (ry : RelV y vy)
    (f : Fits X M) (qu : RelW M.K M.g r H u x) (qs : SeqV M r H ws y) (d1 : dataOk u 60 = true) (d2 : dataOks ws 60 = true) :
    (∀ Q : Value → Shared → Prop, Q (.bool ((toDs ws).any fun z => PyData.eqv z (toD u))) s → wpAny (model X.prog X.w) X.A (compareOp .In vx vy) Q E' s) ∧
    (∀ Q : Value → Shared → Prop, Q (.bool (!(toDs ws).any fun z => PyData.eqv z (toD u))) s → wpAny (model X.prog X.w) X.A (compareOp .NotIn vx vy) Q E' s) := by
  have dx := dp_of u 60 x d1 qu
  rw [f.K] at dx
  obtain ⟨as, r1⟩ := Dp.reads I _ x vx dx rx
  have sx := dataOk_shaped (by decide) d1
  obtain ⟨_, p, vs, e, hsq, l⟩ := qs
  have dl := dps_of ws 60 vs d2 l
  have hl := dataOks_lays d2
  rcases hsq with hsq | hsq
  · have dy : Dp M.K H y (.tuple (toDs ws)) := by rw [e]; exact Dp.tup hsq dl
    rw [f.K] at dy
    obtain ⟨bs, r2⟩ := Dp.reads I _ y vy dy ry
    exact ⟨fun Q q => SeqAt.in_tuple_reads r2 r1 hl (SeqAt.canLay_of_shaped sx) (PyProof.Rows.room_in_shaped sx hu) q, fun Q q => SeqAt.notIn_tuple_reads r2 r1 hl (SeqAt.canLay_of_shaped sx) (PyProof.Rows.room_in_shaped sx hu) q⟩
  · have dy : Dp M.K H y (.list (toDs ws)) := by rw [e]; exact Dp.lst (SqL.of hsq) dl
    rw [f.K] at dy
    obtain ⟨bs, r2⟩ := Dp.reads I _ y vy dy ry
    exact ⟨fun Q q => SeqAt.in_list_reads r2 r1 hl (SeqAt.canLay_of_shaped sx) (PyProof.Rows.room_in_shaped sx hu) q, fun Q q => SeqAt.notIn_list_reads r2 r1 hl (SeqAt.canLay_of_shaped sx) (PyProof.Rows.room_in_shaped sx hu) q⟩
end
end Eng
end
end

section
set_option maxRecDepth 100000
set_option maxHeartbeats 4000000
/-! Engine, part G: dicts whose keys are tuples. -/
noncomputable section
namespace Eng
open PySem PySem.Spec L2
open PyProof.Rows hiding St

/-! ### keys -/
def keyB (w : W) : Nat → Bool := W.rec (motive_1 := fun _ => Nat → Bool) (motive_2 := fun _ => Nat → Bool) (fun _ => true) (fun _ _ => true) (fun _ _ => true) (fun _ _ => true)
  (fun _ ih n => Nat.rec (motive := fun _ => Bool) false (fun m _ => ih m) n) (fun _ _ _ => false) (fun _ _ => false) (fun _ _ => false) (fun _ _ => false) (fun _ => false)
  (fun _ => true) (fun _ _ ihw ihs n => cB (ihw n) (ihs n) false) w
def keyBs (ws : List W) : Nat → Bool := List.rec (motive := fun _ => Nat → Bool) (fun _ => true) (fun w _ ih n => cB (keyB w n) (ih n) false) ws
theorem keyB_tup {ws : List W} {n : Nat} : keyB (.tup ws) n = (match n with | 0 => false | m + 1 => keyBs ws m) := by
  cases n with
  | zero => rfl
  | succ m =>
    show (W.rec_1 (motive_1 := fun _ => Nat → Bool) (motive_2 := fun _ => Nat → Bool) (fun _ => true) (fun _ _ => true) (fun _ _ => true) (fun _ _ => true)
      (fun _ ih n => Nat.rec (motive := fun _ => Bool) false (fun m _ => ih m) n) (fun _ _ _ => false) (fun _ _ => false) (fun _ _ => false) (fun _ _ => false) (fun _ => false)
      (fun _ => true) (fun _ _ ihw ihs n => cB (ihw n) (ihs n) false) ws : Nat → Bool) m = keyBs ws m
    induction ws with
    | nil => rfl
    | cons w ws ih =>
      show cB (keyB w m) _ false = cB (keyB w m) (keyBs ws m) false
      rw [← ih]
mutual
theorem keyB_ok : ∀ (w : W) (n : Nat), keyB w n = true → ∃ k, keyOf w = some k ∧ k.depth ≤ n
  | .non, _, _ => ⟨.none, by simp [keyOf], by simp [NestedKey.depth]⟩
  | .bl b, _, _ => ⟨.num (if b then 1 else 0), by simp only [keyOf], by simp [NestedKey.depth]⟩
  | .int i, _, _ => ⟨.num i, by simp only [keyOf], by simp [NestedKey.depth]⟩
  | .str s, _, _ => ⟨.text s, by simp only [keyOf], by simp [NestedKey.depth]⟩
  | .tup ws, n, h => by
    rw [keyB_tup] at h
    cases n with
    | zero => cases h
    | succ m =>
      obtain ⟨ks, e1, e2⟩ := keyBs_ok ws m h
      refine ⟨.tup ks, by simp only [keyOf, e1, Option.map_some], ?_⟩
      simp only [NestedKey.depth]
      omega
  | .lst _, _, h => absurd (show false = true from h) Bool.false_ne_true
  | .ref _, _, h => absurd (show false = true from h) Bool.false_ne_true
  | .sta _, _, h => absurd (show false = true from h) Bool.false_ne_true
  | .ty _, _, h => absurd (show false = true from h) Bool.false_ne_true
  | .und, _, h => absurd (show false = true from h) Bool.false_ne_true
theorem keyBs_ok : ∀ (ws : List W) (n : Nat), keyBs ws n = true → ∃ ks, keysOf ws = some ks ∧ NestedKey.depthAll ks ≤ n
  | [], _, _ => ⟨[], by simp [keysOf], by simp [NestedKey.depthAll]⟩
  | w :: ws, n, h => by
    have h1 : cB (keyB w n) (keyBs ws n) false = true := h
    rw [cB_eq] at h1
    split at h1
    · rename_i hb
      obtain ⟨k, e1, e2⟩ := keyB_ok w n hb
      obtain ⟨ks, e3, e4⟩ := keyBs_ok ws n h1
      refine ⟨k :: ks, by simp only [keysOf, e1, e3], ?_⟩
      simp only [NestedKey.depthAll]
      omega
    · cases h1
end
mutual
/-- == of keys -/
theorem eqW_key : ∀ (u w : W) (k l : NestedKey), keyOf u = some k → keyOf w = some l → eqW u w = NestedKey.beq k l
  | .non, w, k, l, hk, hl => by
    simp only [keyOf, Option.some.injEq] at hk
    subst hk
    cases w with
    | tup ws =>
      simp only [keyOf] at hl
      obtain ⟨ks, _, e⟩ := Option.map_eq_some_iff.mp hl
      subst e
      simp only [NestedKey.beq]
      rfl
    | non => simp only [keyOf, Option.some.injEq] at hl; subst hl; simp only [NestedKey.beq]; rfl
    | bl _ => simp only [keyOf, Option.some.injEq] at hl; subst hl; simp only [NestedKey.beq]; rfl
    | int _ => simp only [keyOf, Option.some.injEq] at hl; subst hl; simp only [NestedKey.beq]; rfl
    | str _ => simp only [keyOf, Option.some.injEq] at hl; subst hl; simp only [NestedKey.beq]; rfl
    | _ => simp [keyOf] at hl
  | .bl b, w, k, l, hk, hl => by
    simp only [keyOf, Option.some.injEq] at hk
    subst hk
    cases w with
    | tup ws =>
      simp only [keyOf] at hl
      obtain ⟨ks, _, e⟩ := Option.map_eq_some_iff.mp hl
      subst e
      simp only [NestedKey.beq]
      rfl
    | non => simp only [keyOf, Option.some.injEq] at hl; subst hl; simp only [NestedKey.beq]; rfl
    | bl c =>
      simp only [keyOf, Option.some.injEq] at hl
      subst hl
      simp only [NestedKey.beq]
      cases b <;> cases c <;> rfl
    | int j =>
      simp only [keyOf, Option.some.injEq] at hl
      subst hl
      simp only [NestedKey.beq]
      show eqI (cB b 1 0) j = _
      rw [eqI_eq, cB_eq]
    | str _ => simp only [keyOf, Option.some.injEq] at hl; subst hl; simp only [NestedKey.beq]; rfl
    | _ => simp [keyOf] at hl
  | .int i, w, k, l, hk, hl => by
    simp only [keyOf, Option.some.injEq] at hk
    subst hk
    cases w with
    | tup ws =>
      simp only [keyOf] at hl
      obtain ⟨ks, _, e⟩ := Option.map_eq_some_iff.mp hl
      subst e
      simp only [NestedKey.beq]
      rfl
    | non => simp only [keyOf, Option.some.injEq] at hl; subst hl; simp only [NestedKey.beq]; rfl
    | bl c =>
      simp only [keyOf, Option.some.injEq] at hl
      subst hl
      simp only [NestedKey.beq]
      show eqI i (cB c 1 0) = _
      rw [eqI_eq, cB_eq]
    | int j =>
      simp only [keyOf, Option.some.injEq] at hl
      subst hl
      simp only [NestedKey.beq]
      exact eqI_eq i j
    | str _ => simp only [keyOf, Option.some.injEq] at hl; subst hl; simp only [NestedKey.beq]; rfl
    | _ => simp [keyOf] at hl
  | .str s, w, k, l, hk, hl => by
    simp only [keyOf, Option.some.injEq] at hk
    subst hk
    cases w with
    | tup ws =>
      simp only [keyOf] at hl
      obtain ⟨ks, _, e⟩ := Option.map_eq_some_iff.mp hl
      subst e
      simp only [NestedKey.beq]
      rfl
    | non => simp only [keyOf, Option.some.injEq] at hl; subst hl; simp only [NestedKey.beq]; rfl
    | bl _ => simp only [keyOf, Option.some.injEq] at hl; subst hl; simp only [NestedKey.beq]; rfl
    | int _ => simp only [keyOf, Option.some.injEq] at hl; subst hl; simp only [NestedKey.beq]; rfl
    | str z => simp only [keyOf, Option.some.injEq] at hl; subst hl; simp only [NestedKey.beq]; rfl
    | _ => simp [keyOf] at hl
  | .tup us, w, k, l, hk, hl => by
    simp only [keyOf] at hk
    obtain ⟨ks, e1, e⟩ := Option.map_eq_some_iff.mp hk
    subst e
    rw [eqW_tup]
    cases w with
    | tup ws =>
      simp only [keyOf] at hl
      obtain ⟨ls, e2, e⟩ := Option.map_eq_some_iff.mp hl
      subst e
      simp only [NestedKey.beq]
      exact eqWs_key us ws ks ls e1 e2
    | non => simp only [keyOf, Option.some.injEq] at hl; subst hl; simp only [NestedKey.beq]; rfl
    | bl _ => simp only [keyOf, Option.some.injEq] at hl; subst hl; simp only [NestedKey.beq]; rfl
    | int _ => simp only [keyOf, Option.some.injEq] at hl; subst hl; simp only [NestedKey.beq]; rfl
    | str _ => simp only [keyOf, Option.some.injEq] at hl; subst hl; simp only [NestedKey.beq]; rfl
    | _ => simp [keyOf] at hl
  | .lst _, _, _, _, hk, _ => by simp [keyOf] at hk
  | .ref _, _, _, _, hk, _ => by simp [keyOf] at hk
  | .sta _, _, _, _, hk, _ => by simp [keyOf] at hk
  | .ty _, _, _, _, hk, _ => by simp [keyOf] at hk
  | .und, _, _, _, hk, _ => by simp [keyOf] at hk
theorem eqWs_key : ∀ (us ws : List W) (ks ls : List NestedKey), keysOf us = some ks → keysOf ws = some ls → eqWs us ws = NestedKey.beqAll ks ls
  | [], [], ks, ls, hk, hl => by
    simp only [keysOf, Option.some.injEq] at hk hl
    subst hk hl
    simp only [NestedKey.beqAll]
    rfl
  | [], w :: ws, ks, ls, hk, hl => by
    simp only [keysOf, Option.some.injEq] at hk
    subst hk
    simp only [keysOf] at hl
    split at hl
    · simp only [Option.some.injEq] at hl
      subst hl
      simp only [NestedKey.beqAll]
      rfl
    · cases hl
  | u :: us, [], ks, ls, hk, hl => by
    simp only [keysOf, Option.some.injEq] at hl
    subst hl
    simp only [keysOf] at hk
    split at hk
    · simp only [Option.some.injEq] at hk
      subst hk
      simp only [NestedKey.beqAll]
      rfl
    · cases hk
  | u :: us, w :: ws, ks, ls, hk, hl => by
    simp only [keysOf] at hk hl
    split at hk
    · rename_i k ks' e1 e2
      split at hl
      · rename_i l ls' e3 e4
        simp only [Option.some.injEq] at hk hl
        subst hk hl
        simp only [NestedKey.beqAll]
        rw [← eqW_key u w k l e1 e3, ← eqWs_key us ws ks' ls' e2 e4]
        show cB (eqW u w) (eqWs us ws) false = _
        cases eqW u w <;> rfl
      · cases hl
    · cases hk
end
theorem eqW_dec {u w : W} {k l : NestedKey} (a : keyOf u = some k) (b : keyOf w = some l) : eqW u w = decide (k = l) := by rw [eqW_key u w k l a b, NestedKey.decide_eq]

/-! ### the model's keys -/
section
variable {X : Cx} {M : Mo} {pins : List (Addr × Obj)} {s : Shared} {σ : St} {H : Hp} {r : Rg}
mutual
theorem nested_is (I : Inv X pins σ H s) (f : Fits X M) : ∀ (w : W) (v : V) (u : Value) (k : NestedKey), RelW M.K M.g r H w v → RelV v u → keyOf w = some k → NestedIs s.heap k u
  | .non, v, u, k, q, rv, e => by
    have ev : v = .non := q
    subst ev
    simp only [keyOf, Option.some.injEq] at e
    subst e
    cases rv
    exact NestedIs.none
  | .bl b, v, u, k, q, rv, e => by
    have ev : v = .bl b := q
    subst ev
    simp only [keyOf, Option.some.injEq] at e
    subst e
    cases rv
    exact NestedIs.bool rfl
  | .int b, v, u, k, q, rv, e => by
    have ev : v = .int b := q
    subst ev
    simp only [keyOf, Option.some.injEq] at e
    subst e
    obtain ⟨t, rfl⟩ := rv
    exact NestedIs.int b t
  | .str b, v, u, k, q, rv, e => by
    have ev : v = .str b := q
    subst ev
    simp only [keyOf, Option.some.injEq] at e
    subst e
    obtain ⟨t, rfl⟩ := rv
    exact NestedIs.text b t
  | .tup ws, v, u, k, q, rv, e => by
    obtain ⟨p, vs, ev, z, t, l⟩ := (show ∃ a vs, v = .ref a ∧ ws.length ≤ 16777216 ∧ TupAt M.K r H a vs ∧ RelWs M.K M.g r H ws vs from q)
    subst ev
    simp only [keyOf] at e
    obtain ⟨ks, e1, e2⟩ := Option.map_eq_some_iff.mp e
    subst e2
    cases rv
    have t1 := t.sq
    rw [f.K] at t1
    obtain ⟨its, r1, ⟨o, h1, h2, n, h3⟩, _⟩ := I.tuple t1
    exact NestedIs.tup h1 h2 h3 (by simpa using nested_all I f ws vs its ks l r1 e1)
  | .lst _, _, _, _, _, _, e => by simp [keyOf] at e
  | .ref _, _, _, _, _, _, e => by simp [keyOf] at e
  | .sta _, _, _, _, _, _, e => by simp [keyOf] at e
  | .ty _, _, _, _, _, _, e => by simp [keyOf] at e
  | .und, _, _, _, _, _, e => by simp [keyOf] at e
theorem nested_all (I : Inv X pins σ H s) (f : Fits X M) : ∀ (ws : List W) (vs : List V) (us : List Value) (ks : List NestedKey), RelWs M.K M.g r H ws vs → Vals vs us → keysOf ws = some ks → NestedAll s.heap ks us
  | [], vs, us, ks, q, rv, e => by
    have ev : vs = [] := q
    subst ev
    simp only [keysOf, Option.some.injEq] at e
    subst e
    cases rv
    exact NestedAll.nil
  | w :: ws, vs, us, ks, q, rv, e => by
    obtain ⟨v, vr, ev, a, b⟩ := (show ∃ v q, vs = v :: q ∧ RelW M.K M.g r H w v ∧ RelWs M.K M.g r H ws q from q)
    subst ev
    simp only [keysOf] at e
    split at e
    · rename_i k ks' e1 e2
      simp only [Option.some.injEq] at e
      subst e
      cases rv with
      | cons rv rvs => exact NestedAll.cons (nested_is I f w v _ k a rv e1) (nested_all I f ws vr _ ks' b rvs e2)
    · cases e
end
theorem key_is (I : Inv X pins σ H s) (f : Fits X M) {w : W} {a : Addr} {k : NestedKey} (q : RelW M.K M.g r H w (.ref a)) (e : keyOf w = some k) (d : k.depth ≤ 8) : (nestedKind X.prog X.w).is s.heap k a :=
  ⟨nested_is I f w (.ref a) (.ref a) k q rfl e, d⟩
theorem RelD.is (I : Inv X pins σ H s) (f : Fits X M) : ∀ {kvs : List (W × W)} {xs : List DEnt}, RelD M r H kvs xs → ∀ x ∈ xs, (nestedKind X.prog X.w).is s.heap x.1 x.2.1
  | [], xs, h, x, hx => by rw [show xs = [] from h] at hx; cases hx
  | (kw, vw) :: q, xs, h, x, hx => by
    obtain ⟨k, ka, u, v, ys, e, e1, e2, e3, e4, e5, e6⟩ := h
    subst e
    rcases List.mem_cons.mp hx with z | z
    · subst z
      exact key_is I f e3 e1 e2
    · exact RelD.is I f e6 x z
/-- the model's dict -/
theorem dct_of (I : Inv X pins σ H s) (f : Fits X M) {a : Addr} {kvs : List (W × W)} {xs : List DEnt} (e : Rd H a (DctO M.P M.w a xs)) (q : RelD M r H kvs xs) : (a == sysModules) = false ∧ s.heap.DictOfH (nestedKind X.prog X.w) a xs := by
  obtain ⟨⟨hS, o, es, ep, h1, h2, h3, h4, h5⟩, _⟩ : DctP M.P M.w a xs s.heap ∧ _ := e.ok I.hok
  rw [f.P, f.w] at h4
  exact ⟨hS, o, es, ep, h1, h2, h3, h4, q.is I f, h5⟩
end

/-! ### looking a key up -/
def lookD (kvs : List (W × W)) (k : W) (f : W → Ans) (z : Ans) : Ans := List.rec (motive := fun _ => Ans) z (fun kv _ ih => cB (eqW kv.1 k) (f kv.2) ih) kvs
theorem lookD_ok {M : Mo} {r : Rg} {H : Hp} {kw : W} {key : NestedKey} (hk : keyOf kw = some key) {f : W → Ans} {z a : Ans} : ∀ {kvs : List (W × W)} {xs : List DEnt}, RelD M r H kvs xs → lookD kvs kw f z = a →
    (∃ ka u v w, atKey xs key = some (ka, u) ∧ RelV v u ∧ RelW M.K M.g r H w v ∧ f w = a) ∨ (atKey xs key = none ∧ z = a)
  | [], xs, h, e => by
    rw [show xs = [] from h]
    exact .inr ⟨rfl, e⟩
  | (kw', vw) :: q, xs, h, e => by
    obtain ⟨k, ka, u, v, ys, e1, e2, e3, e4, e5, e6, e7⟩ := h
    subst e1
    have e8 : cB (eqW kw' kw) (f vw) (lookD q kw f z) = a := e
    rw [eqW_dec e2 hk, cB_eq] at e8
    by_cases hq : k = key
    · rw [if_pos (decide_eq_true hq)] at e8
      exact .inl ⟨ka, u, v, vw, by simp [atKey, hq], e5, e6, e8⟩
    · rw [if_neg (by simpa using hq)] at e8
      rcases lookD_ok hk e7 e8 with ⟨ka', u', v', w', a1, a2, a3, a4⟩ | ⟨a1, a2⟩
      · exact .inl ⟨ka', u', v', w', by simpa [atKey, hq] using a1, a2, a3, a4⟩
      · exact .inr ⟨by simpa [atKey, hq] using a1, a2⟩
/-- a key's value stored -/
def storeD (kvs : List (W × W)) (k v : W) (g : List (W × W) → Ans) : Ans := List.rec (motive := fun _ => (List (W × W) → Ans) → Ans) (fun g => g [(k, v)]) (fun kv q ih g => cB (eqW kv.1 k) (g ((kv.1, v) :: q)) (ih fun l => g (kv :: l))) kvs g
theorem atKey_cons_ne {x : DEnt} {xs : List DEnt} {k : NestedKey} (h : x.1 ≠ k) : atKey (x :: xs) k = atKey xs k := by simp [atKey, h]
theorem storedH_cons_ne {x : DEnt} {xs : List DEnt} {k : NestedKey} {a : Addr} {v : Value} (h : x.1 ≠ k) : storedH (x :: xs) k a v = x :: storedH xs k a v := by
  unfold storedH
  rw [atKey_cons_ne h]
  split
  · rw [List.map_cons]
    congr 1
    simp [putAt, h]
  · rfl
theorem putAt_not {k : NestedKey} {v : Value} : ∀ {xs : List DEnt}, k ∉ xs.map (·.1) → xs.map (putAt k v) = xs
  | [], _ => rfl
  | x :: xs, h => by
    rw [List.map_cons, List.mem_cons, not_or] at h
    rw [List.map_cons, putAt_not h.2]
    congr 1
    have : ¬ x.1 = k := fun e => h.1 e.symm
    simp [putAt, this]
theorem storeD_ok {M : Mo} {r : Rg} {H : Hp} {kw vw : W} {key : NestedKey} (hk : keyOf kw = some key) (hd : key.depth ≤ 8) {ka : Addr} {u : Value} {v : V} (qk : RelW M.K M.g r H kw (.ref ka)) (rv : RelV v u) (qv : RelW M.K M.g r H vw v) {a : Ans} :
    ∀ {kvs : List (W × W)} {xs : List DEnt} {g : List (W × W) → Ans}, RelD M r H kvs xs → (xs.map (·.1)).Nodup → storeD kvs kw vw g = a → ∃ kvs', RelD M r H kvs' (storedH xs key ka u) ∧ kvs'.length ≤ kvs.length + 1 ∧ g kvs' = a
  | [], xs, g, h, _, e => by
    rw [show xs = [] from h]
    exact ⟨[(kw, vw)], ⟨key, ka, u, v, [], by simp [storedH, atKey], hk, hd, qk, rv, qv, rfl⟩, by simp, e⟩
  | (kw', vw') :: q, xs, g, h, nd, e => by
    obtain ⟨k, ka', u', v', ys, e1, e2, e3, e4, e5, e6, e7⟩ := h
    subst e1
    have e8 : cB (eqW kw' kw) (g ((kw', vw) :: q)) (storeD q kw vw fun l => g ((kw', vw') :: l)) = a := e
    rw [eqW_dec e2 hk, cB_eq] at e8
    rw [List.map_cons, List.nodup_cons] at nd
    by_cases hq : k = key
    · rw [if_pos (decide_eq_true hq)] at e8
      subst hq
      refine ⟨(kw', vw) :: q, ⟨k, ka', u, v, ys, ?_, e2, e3, e4, rv, qv, e7⟩, by simp, e8⟩
      unfold storedH
      have z : (atKey ((k, ka', u') :: ys) k).isSome = true := by simp [atKey]
      rw [if_pos z, List.map_cons, putAt_not nd.1]
      congr 1
      simp [putAt]
    · rw [if_neg (by simpa using hq)] at e8
      obtain ⟨kvs', a1, a2, a3⟩ := storeD_ok hk hd qk rv qv e7 nd.2 e8
      refine ⟨(kw', vw') :: kvs', ⟨k, ka', u', v', storedH ys key ka u, storedH_cons_ne hq, e2, e3, e4, e5, e6, a1⟩, by simp only [List.length_cons]; omega, a3⟩
end Eng
end
end

section
set_option maxRecDepth 100000
set_option maxHeartbeats 4000000
/-! Engine, part H: arguments, displays, len, tuple, list, items, slices, concatenation, is None, truth. -/
noncomputable section
namespace Eng
open PySem PySem.Spec L2
open PyProof.Rows hiding St

/-- all that an engine's step asks of its context -/
structure Good (X : Cx) (M : Mo) : Prop extends Fits X M where
  calm : X.calm = true
  un : X.A.units + 72 < cLine

/-! ### lists of values by recursors -/
def lenN (ws : List W) : Nat := List.rec (motive := fun _ => Nat) 0 (fun _ _ ih => Nat.succ ih) ws
theorem lenN_eq (ws : List W) : lenN ws = ws.length := by
  induction ws with
  | nil => rfl
  | cons w ws ih => show Nat.succ (lenN ws) = _; rw [ih]; rfl
def lenC (ws : List W) (k : Ans) : Ans := cB (Nat.ble (lenN ws) 16777216) k .bad
theorem lenC_ok {ws : List W} {k a : Ans} (ha : a ≠ .bad) (h : lenC ws k = a) : ws.length ≤ 16777216 ∧ k = a := by
  rcases cB_ok h with ⟨e, h⟩ | ⟨_, h⟩
  · rw [lenN_eq] at e
    exact ⟨Nat.le_of_ble_eq_true e, h⟩
  · exact absurd h.symm ha
def appC {α : Type} (ws us : List W) (k : List W → α) : α := List.rec (motive := fun _ => (List W → α) → α) (fun k => k us) (fun w _ ih k => ih fun r => k (w :: r)) ws k
theorem appC_eq {α : Type} (ws us : List W) (k : List W → α) : appC ws us k = k (ws ++ us) := by
  induction ws generalizing k with
  | nil => rfl
  | cons w ws ih => exact ih _
def revC {α : Type} (ws acc : List W) (k : List W → α) : α := List.rec (motive := fun _ => List W → α) (fun acc => k acc) (fun w _ ih acc => ih (w :: acc)) ws acc
theorem revC_eq {α : Type} (ws acc : List W) (k : List W → α) : revC ws acc k = k (ws.reverse ++ acc) := by
  induction ws generalizing acc with
  | nil => rfl
  | cons w ws ih =>
    show revC ws (w :: acc) k = _
    rw [ih]
    simp
def nthC (ws : List W) (n : Nat) (f : W → Ans) : Ans := List.rec (motive := fun _ => Nat → Ans) (fun _ => .bad) (fun w _ ih n => Nat.rec (motive := fun _ => Ans) (f w) (fun m _ => ih m) n) ws n
theorem nthC_ok {f : W → Ans} {a : Ans} (ha : a ≠ .bad) : ∀ {ws : List W} {n : Nat}, nthC ws n f = a → ∃ w, ws[n]? = some w ∧ f w = a
  | [], n, h => absurd (show Ans.bad = a from h).symm ha
  | w :: ws, 0, h => ⟨w, rfl, h⟩
  | w :: ws, n + 1, h => by
    obtain ⟨w', e, q⟩ := nthC_ok ha (ws := ws) (n := n) h
    exact ⟨w', by simpa using e, q⟩
def dropC {α : Type} (ws : List W) (n : Nat) (k : List W → α) : α := List.rec (motive := fun _ => Nat → α) (fun _ => k []) (fun w ws ih n => Nat.rec (motive := fun _ => α) (k (w :: ws)) (fun m _ => ih m) n) ws n
theorem dropC_eq {α : Type} : ∀ (ws : List W) (n : Nat) (k : List W → α), dropC ws n k = k (ws.drop n)
  | [], n, k => by simp; rfl
  | w :: ws, 0, k => rfl
  | w :: ws, n + 1, k => dropC_eq ws n k
def takeC {α : Type} (ws : List W) (n : Nat) (k : List W → α) : α := List.rec (motive := fun _ => Nat → (List W → α) → α) (fun _ k => k []) (fun w _ ih n k => Nat.rec (motive := fun _ => α) (k []) (fun m _ => ih m fun r => k (w :: r)) n) ws n k
theorem takeC_eq {α : Type} : ∀ (ws : List W) (n : Nat) (k : List W → α), takeC ws n k = k (ws.take n)
  | [], n, k => by simp; rfl
  | w :: ws, 0, k => rfl
  | w :: ws, n + 1, k => takeC_eq ws n fun r => k (w :: r)
def setC (ws : List W) (n : Nat) (x : W) (k : List W → Ans) : Ans := List.rec (motive := fun _ => Nat → (List W → Ans) → Ans) (fun _ _ => .bad) (fun w ws ih n k => Nat.rec (motive := fun _ => Ans) (k (x :: ws)) (fun m _ => ih m fun r => k (w :: r)) n) ws n k
theorem setC_ok {x : W} {a : Ans} (ha : a ≠ .bad) : ∀ {ws : List W} {n : Nat} {k : List W → Ans}, setC ws n x k = a → n < ws.length ∧ k (ws.set n x) = a
  | [], n, k, h => absurd (show Ans.bad = a from h).symm ha
  | w :: ws, 0, k, h => ⟨by simp, h⟩
  | w :: ws, n + 1, k, h => by
    obtain ⟨e, q⟩ := setC_ok ha (ws := ws) (n := n) h
    exact ⟨by simpa using e, q⟩
/-- a place by an index -/
def plcC (n : Nat) (i : Int) (f : Nat → Ans) : Ans := Int.rec (motive := fun _ => Ans) (fun m => f m) (fun m => cB (Nat.ble (Nat.succ m) n) (f (Nat.sub n (Nat.succ m))) .bad) i
theorem plcC_ok {n : Nat} {i : Int} {f : Nat → Ans} {a : Ans} (ha : a ≠ .bad) (h : plcC n i f = a) : ∃ j, f j = a ∧ (j < n → ixN n i = some j) := by
  cases i with
  | ofNat m =>
    refine ⟨m, h, fun hj => ?_⟩
    unfold ixN
    rw [if_pos (by exact Int.natCast_nonneg m), if_pos (by show ((m : Nat) : Int) < _; omega)]
    rfl
  | negSucc m =>
    rcases cB_ok (show cB (Nat.ble (Nat.succ m) n) (f (Nat.sub n (Nat.succ m))) .bad = a from h) with ⟨e, h⟩ | ⟨_, h⟩
    · have e := Nat.le_of_ble_eq_true e
      refine ⟨_, h, fun hj => ?_⟩
      unfold ixN
      rw [if_neg (by omega), if_pos (by omega)]
      congr 1
      show (Int.negSucc m + (n : Int)).toNat = n - (m + 1)
      omega
    · exact absurd h.symm ha
def idxC (ws : List W) (i : Int) (f : W → Ans) : Ans := plcC (lenN ws) i fun n => nthC ws n f
theorem idxC_ok {ws : List W} {i : Int} {f : W → Ans} {a : Ans} (ha : a ≠ .bad) (h : idxC ws i f = a) : ∃ w, atI ws i = some w ∧ f w = a := by
  obtain ⟨j, h, e⟩ := plcC_ok ha h
  obtain ⟨w, e2, q⟩ := nthC_ok ha h
  rw [lenN_eq] at e
  refine ⟨w, ?_, q⟩
  unfold atI
  rw [e (List.getElem?_eq_some_iff.mp e2).1]
  exact e2
theorem atI_rel {K : PySem.W.Frag} {g : Nat → Addr} {r : Rg} {H : Hp} {ws : List W} {vs : List V} {i : Int} {w : W} (q : RelWs K g r H ws vs) (e : atI ws i = some w) : ∃ v, atI vs i = some v ∧ RelW K g r H w v := by
  unfold atI at e ⊢
  rw [q.length] at e
  cases h : ixN vs.length i with
  | none => rw [h] at e; cases e
  | some j =>
    rw [h] at e
    exact q.get e

/-! ### new objects -/
def ownC (h : EH) (o : MO) (k : K1) : Ans := BT.insC h.t h.n o fun t => k (.ref h.n) ⟨Nat.succ h.n, t⟩
theorem own_ok {M : Mo} {r : Rg} {H H' : Hp} {h : EH} {o : MO} {k : K1} {a : Ans} {p : Addr} (ha : a ≠ .bad) (x : HSim M r H h) (hp : H p = none) (e : ∀ a o, H a = some o → H' a = some o) (ok : MOk M (r.add p) H' p o) (q : ownC h o k = a) :
    ∃ h', HSim M (r.add p) H' h' ∧ RelW M.K M.g (r.add p) H' (.ref h.n) (.ref p) ∧ k (.ref h.n) h' = a := by
  obtain ⟨t', e1, e2⟩ := BT.insC_ok ha q
  exact ⟨⟨h.n + 1, t'⟩, x.own hp e e1 ok, ⟨p, rfl, by show (r.l ++ [p])[h.n]? = _; rw [← x.len]; simp⟩, e2⟩
section
variable {M : Mo} {r : Rg} {H : Hp} {h : EH} {ws : List W} {vs : List V} {p : Addr} {a : Ans} {k : K1} {Q : VK}
/-- a new tuple, a new list that stays as it is, a new list -/
theorem new_tup (x : HSim M r H h) (hp : H p = none) (q : RelWs M.K M.g r H ws vs) (hl : ws.length ≤ 16777216) : RelW M.K M.g r (upd H p (.tup vs)) (.tup ws) (.ref p) :=
  ⟨p, vs, rfl, hl, .inl ⟨.inl upd_same, x.fresh hp⟩, q.ext (Ext.new hp)⟩
theorem new_lst (x : HSim M r H h) (hp : H p = none) (q : RelWs M.K M.g r H ws vs) (hl : ws.length ≤ 16777216) : RelW M.K M.g r (upd H p (.lst vs)) (.lst ws) (.ref p) :=
  ⟨p, vs, rfl, hl, ⟨upd_same, x.fresh hp⟩, q.ext (Ext.new hp)⟩
theorem fin_tup (ha : a ≠ .bad) (x : HSim M r H h) (q : RelWs M.K M.g r H ws vs) (hl : ws.length ≤ 16777216) (P : Post M r H a k Q) (eq : k (.tup ws) h = a) : vs.length ≤ sizeLine ∧ ∀ p, H p = none → Q (.ref p) (upd H p (.tup vs)) :=
  ⟨by rw [sizeLine_eq, ← q.length]; exact hl, fun p hp => P _ _ _ _ _ (Ext.new hp) (new_tup x hp q hl) (x.new hp) eq⟩
theorem fin_lst (ha : a ≠ .bad) (x : HSim M r H h) (q : RelWs M.K M.g r H ws vs) (hl : ws.length ≤ 16777216) (P : Post M r H a k Q) (eq : k (.lst ws) h = a) : vs.length ≤ sizeLine ∧ ∀ p, H p = none → Q (.ref p) (upd H p (.lst vs)) :=
  ⟨by rw [sizeLine_eq, ← q.length]; exact hl, fun p hp => P _ _ _ _ _ (Ext.new hp) (new_lst x hp q hl) (x.new hp) eq⟩
theorem fin_own (ha : a ≠ .bad) (x : HSim M r H h) (q : RelWs M.K M.g r H ws vs) (hl : ws.length ≤ 16777216) (P : Post M r H a k Q) (eq : ownC h (.lst ws) k = a) : vs.length ≤ sizeLine ∧ ∀ p, H p = none → Q (.ref p) (upd H p (.lst vs)) :=
  ⟨by rw [sizeLine_eq, ← q.length]; exact hl, fun p hp => by
    have e : ∀ a o, H a = some o → upd H p (.lst vs) a = some o := fun a o q => by rw [upd_ne (ne_of_none q hp)]; exact q
    obtain ⟨h', x', rel, eq'⟩ := own_ok (o := .lst ws) (H' := upd H p (.lst vs)) ha x hp e ⟨hl, vs, upd_same, q.ext (Ext.own hp)⟩ eq
    exact P _ _ _ _ _ (Ext.own hp) rel x' eq'⟩
end

/-! ### arguments -/
def aNil : LCode := fun _ _ h _ k => k [] h
def aCons (A : Code) (L : LCode) : LCode := fun c s h x k => A c s h x fun u h => L c s h x fun us h => k (u :: us) h
def aStar (A : Code) (L : LCode) : LCode := fun c s h x k => A c s h x fun u h => itemsC h u fun ws => L c s h x fun us h => appC ws us fun l => k l h
section
variable {X : Cx} {M : Mo} {cl : Cl} {E : XK} {e : Expr} {es : List Expr} {A : Code} {L : LCode} {pos p : Pos}
theorem pac_nil : PA X [] (tAL M cl E aNil) := PA.imp pa_nil fun σ H Q ⟨a0, t, h, x, k, r, At0, eq, P⟩ => P [] h r [] H Ext.refl rfl At0.hs eq
theorem pac_cons (ha : PE X e (tE M cl E A)) (hr : PA X es (tAL M cl E L)) (hs : starEach (e :: es) X.env = (false, eval e X.env) :: starEach es X.env := by rfl) : PA X (e :: es) (tAL M cl E (aCons A L)) :=
  PA.imp (pa_cons ha hr hs) fun σ H Q ⟨a0, t, h, x, k, r, At0, eq, P⟩ => ⟨a0, t, h, x, _, r, At0, eq, fun u h1 r1 v1 H1 e1 q1 hs1 eq1 =>
    ⟨a0, t, h1, x, _, r1, At0.ext e1 hs1, eq1, fun us h2 r2 vs H2 e2 q2 hs2 eq2 => P (u :: us) h2 r2 (v1 :: vs) H2 (e1.trans e2) ⟨v1, vs, rfl, q1.ext e2, q2⟩ hs2 eq2⟩⟩
theorem pac_star (f : Fits X M) (ha : PE X e (tE M cl E A)) (hr : PA X es (tAL M cl E L)) (hs : starEach (.Starred e p :: es) X.env = (true, eval e X.env) :: starEach es X.env := by rfl) : PA X (.Starred e p :: es) (tAL M cl E (aStar A L)) :=
  PA.imp (StX.pa_star ha hr hs) fun σ H Q ⟨a0, t, h, x, k, r, At0, eq, P⟩ => ⟨a0, t, h, x, _, r, At0, eq, fun u h1 r1 v1 H1 e1 q1 hs1 eq1 => by
    obtain ⟨ws, ⟨z, p, vs, ev, sq, q⟩, eq1⟩ := items_ok hs1 At0.good q1 eq1
    refine ⟨p, vs, ev, ?_, a0, t, h1, x, _, r1, At0.ext e1 hs1, eq1, fun us h2 r2 vs2 H2 e2 q2 hs2 eq2 => ?_⟩
    · rw [f.K] at sq
      exact sq.elim .inl fun z => .inr (SqL.of z)
    · rw [appC_eq] at eq2
      exact P _ h2 r2 _ H2 (e1.trans e2) ((q.ext e2).append q2) hs2 eq2⟩

/-! ### displays -/
def cTupD (L : LCode) : Code := fun c s h x k => L c s h x fun ws h => lenC ws (k (.tup ws) h)
def cLstD (L : LCode) : Code := fun c s h x k => L c s h x fun ws h => lenC ws (k (.lst ws) h)
def cLstO (L : LCode) : Code := fun c s h x k => L c s h x fun ws h => lenC ws (ownC h (.lst ws) k)
theorem pec_tup {x1} (h : PA X es (tAL M cl E L)) : PE X (.Tuple es x1 pos) (tE M cl E (cTupD L)) :=
  PE.imp (pe_tup h) fun σ H Q ⟨a0, t, h, x, k, r, At0, eq, P⟩ => ⟨a0, t, h, x, _, r, At0, eq, fun ws h1 r1 vs H1 e1 q1 hs1 eq1 => by
    obtain ⟨hl, eq1⟩ := lenC_ok At0.good eq1
    exact fin_tup At0.good hs1 q1 hl (P.ext e1) eq1⟩
theorem pec_lst (h : PA X es (tAL M cl E L)) : PE X (.List es pos) (tE M cl E (cLstD L)) :=
  PE.imp (pe_lst h) fun σ H Q ⟨a0, t, h, x, k, r, At0, eq, P⟩ => ⟨a0, t, h, x, _, r, At0, eq, fun ws h1 r1 vs H1 e1 q1 hs1 eq1 => by
    obtain ⟨hl, eq1⟩ := lenC_ok At0.good eq1
    exact fin_lst At0.good hs1 q1 hl (P.ext e1) eq1⟩
theorem pec_lstO (h : PA X es (tAL M cl E L)) : PE X (.List es pos) (tE M cl E (cLstO L)) :=
  PE.imp (pe_lst h) fun σ H Q ⟨a0, t, h, x, k, r, At0, eq, P⟩ => ⟨a0, t, h, x, _, r, At0, eq, fun ws h1 r1 vs H1 e1 q1 hs1 eq1 => by
    obtain ⟨hl, eq1⟩ := lenC_ok At0.good eq1
    exact fin_own At0.good hs1 q1 hl (P.ext e1) eq1⟩

/-! ### builtins called -/
abbrev FCode := List W → EH → K1 → Ans
def cFn (f : FCode) (L : LCode) : Code := fun c s h x k => L c s h x fun ws h => f ws h k
/-- a builtin by values -/
def rF (M : Mo) (f : FCode) : List V → Hp → VK → Prop := fun vs H Q => ∃ a ws h k r, a ≠ Ans.bad ∧ f ws h k = a ∧ RelWs M.K M.g r H ws vs ∧ HSim M r H h ∧ Post M r H a k Q
theorem CallR.imp {f : Value} {r r' : List V → Hp → VK → Prop} (h : CallR X f r) (i : ∀ xs H Q, r' xs H Q → r xs H Q) : CallR X f r' := fun pins s σ H xs us Q I rx q => h pins s σ H xs us Q I rx (i xs H Q q)
theorem fn_im {f : FCode} {σ : St} {H : Hp} {Q : VK} (h : tE M cl E (cFn f L) σ H Q) : tCB (rF M f) (tAL M cl E L) σ H Q := by
  obtain ⟨a0, t, h, x, k, r, At0, eq, P⟩ := h
  exact ⟨a0, t, h, x, _, r, At0, eq, fun ws h1 r1 vs H1 e1 q1 hs1 eq1 => ⟨a0, ws, h1, k, r1, At0.good, eq1, q1, hs1, P.ext e1⟩⟩
theorem pec_fn {id : String} {x : Str} {p : Pos} {f : FCode} (hc : CallR X (.builtin id) (rF M f)) (hg : Gl X x) (hm : X.mg x = none) (hv : bootBuiltins x = some (.builtin id)) (ha : PA X (e :: es) (tAL M cl E L)) (hn : x ≠ "__name__" := by decide) (hdb : (x == ("__debug__" : Str)) = false := by decide)
    (hs : starEach (e :: es) X.env = (false, eval e X.env) :: starEach es X.env := by rfl) (hpl : (backTo pos (starEach es X.env)).any (·.1) = false := by rfl) : PE X (.Call (.Name x p) (e :: es) [] pos) (tE M cl E (cFn f L)) := PE.imp (pe_callB hc hg hm hv ha hn hdb hs hpl) fun _ _ _ h => fn_im h
theorem pec_ty {T : String} {x : Str} {p : Pos} {f : FCode} (hc : CallR X (.type T) (rF M f)) (hg : Gl X x) (hm : X.mg x = none) (hv : bootBuiltins x = some (.type T)) (ha : PA X (e :: es) (tAL M cl E L)) (hn : x ≠ "__name__" := by decide) (hdb : (x == ("__debug__" : Str)) = false := by decide)
    (hs : starEach (e :: es) X.env = (false, eval e X.env) :: starEach es X.env := by rfl) (hpl : (backTo pos (starEach es X.env)).any (·.1) = false := by rfl) : PE X (.Call (.Name x p) (e :: es) [] pos) (tE M cl E (cFn f L)) := PE.imp (pe_callTy hc hg hm hv ha hn hdb hs hpl) fun _ _ _ h => fn_im h
end
end Eng
end
end

section
set_option maxRecDepth 100000
set_option maxHeartbeats 4000000
/-! Engine, part I: builtins. -/
noncomputable section
namespace Eng
open PySem PySem.Spec L2
open PyProof.Rows hiding St

def c1 (ws : List W) (f : W → Ans) : Ans := List.rec (motive := fun _ => Ans) .bad (fun w t _ => List.rec (motive := fun _ => Ans) (f w) (fun _ _ _ => .bad) t) ws
theorem c1_ok {ws : List W} {f : W → Ans} {a : Ans} (ha : a ≠ .bad) (h : c1 ws f = a) : ∃ w, ws = [w] ∧ f w = a := by
  match ws with
  | [] => exact absurd (show Ans.bad = a from h).symm ha
  | [w] => exact ⟨w, rfl, h⟩
  | _ :: _ :: _ => exact absurd (show Ans.bad = a from h).symm ha
def c2 (ws : List W) (f : W → W → Ans) : Ans := List.rec (motive := fun _ => Ans) .bad (fun w t _ => c1 t (f w)) ws
theorem c2_ok {ws : List W} {f : W → W → Ans} {a : Ans} (ha : a ≠ .bad) (h : c2 ws f = a) : ∃ u w, ws = [u, w] ∧ f u w = a := by
  match ws with
  | [] => exact absurd (show Ans.bad = a from h).symm ha
  | w :: t =>
    obtain ⟨w', e, q⟩ := c1_ok ha (show c1 t (f w) = a from h)
    exact ⟨w, w', by rw [e], q⟩
section
variable {K : PySem.W.Frag} {g : Nat → Addr} {r : Rg} {H : Hp}
theorem rel1 {w : W} {vs : List V} (q : RelWs K g r H [w] vs) : ∃ v, vs = [v] ∧ RelW K g r H w v := by
  obtain ⟨v, t, e, a, b⟩ := (show ∃ v q, vs = v :: q ∧ RelW K g r H w v ∧ RelWs K g r H [] q from q)
  exact ⟨v, by rw [e, show t = [] from b], a⟩
theorem rel2 {w u : W} {vs : List V} (q : RelWs K g r H [w, u] vs) : ∃ v x, vs = [v, x] ∧ RelW K g r H w v ∧ RelW K g r H u x := by
  obtain ⟨v, t, e, a, b⟩ := (show ∃ v q, vs = v :: q ∧ RelW K g r H w v ∧ RelWs K g r H [u] q from q)
  obtain ⟨x, e2, c⟩ := rel1 b
  exact ⟨v, x, by rw [e, e2], a, c⟩
theorem rel_ints : ∀ {ns : List Int} {vs : List V}, RelWs K g r H (ns.map W.int) vs → vs = ns.map V.int
  | [], vs, q => q
  | n :: ns, vs, q => by
    obtain ⟨v, t, e, a, b⟩ := (show ∃ v q, vs = v :: q ∧ RelW K g r H (.int n) v ∧ RelWs K g r H (ns.map W.int) q from q)
    rw [e, show v = .int n from a, rel_ints b]
    rfl
theorem rel_bls : ∀ {ns : List Bool} {vs : List V}, RelWs K g r H (ns.map W.bl) vs → vs = ns.map V.bl
  | [], vs, q => q
  | n :: ns, vs, q => by
    obtain ⟨v, t, e, a, b⟩ := (show ∃ v q, vs = v :: q ∧ RelW K g r H (.bl n) v ∧ RelWs K g r H (ns.map W.bl) q from q)
    rw [e, show v = .bl n from a, rel_bls b]
    rfl
theorem ints_rel : ∀ (ns : List Int), RelWs K g r H (ns.map W.int) (ns.map V.int)
  | [] => rfl
  | n :: ns => ⟨.int n, ns.map V.int, rfl, rfl, ints_rel ns⟩
end

/-! ### folds over ints and bools -/
def sumC (ws : List W) (acc : Int) (k : Int → Ans) : Ans := List.rec (motive := fun _ => Int → Ans) (fun acc => k acc) (fun w _ ih acc => cI w fun i => addC acc i fun s => ih s) ws acc
theorem sumC_ok {k : Int → Ans} {a : Ans} (ha : a ≠ .bad) : ∀ {ws : List W} {acc : Int}, sumC ws acc k = a → ∃ ns : List Int, ws = ns.map W.int ∧ k (acc + ns.sum) = a
  | [], acc, h => ⟨[], rfl, by rw [List.sum_nil, Int.add_zero]; exact h⟩
  | w :: ws, acc, h => by
    obtain ⟨i, e, h1⟩ := cI_ok ha (show cI w (fun i => addC acc i fun s => sumC ws s k) = a from h)
    rw [addC_eq] at h1
    obtain ⟨ns, e2, q⟩ := sumC_ok ha h1
    exact ⟨i :: ns, by rw [e, e2]; rfl, by rw [List.sum_cons, ← Int.add_assoc]; exact q⟩
/-- the greatest by lt: lt acc i = true means that i is taken -/
def bestC (lt : Int → Int → Bool) (ws : List W) (acc : Int) (k : Int → Ans) : Ans := List.rec (motive := fun _ => Int → Ans) (fun acc => k acc) (fun w _ ih acc => cI w fun i => cB (lt acc i) (ih i) (ih acc)) ws acc
theorem bestC_ok {le : Int → Int → Prop} {lt : Int → Int → Bool} (refl : ∀ i, le i i) (tr : ∀ i j l, le i j → le j l → le i l) (ht : ∀ i j, lt i j = true → le i j) (hf : ∀ i j, lt i j = false → le j i) {k : Int → Ans} {a : Ans} (ha : a ≠ .bad) :
    ∀ {ws : List W} {acc : Int}, bestC lt ws acc k = a → ∃ (ns : List Int) (m : Int), ws = ns.map W.int ∧ k m = a ∧ m ∈ acc :: ns ∧ ∀ y ∈ acc :: ns, le y m
  | [], acc, h => ⟨[], acc, rfl, h, by simp, fun y hy => by rw [List.mem_singleton.mp hy]; exact refl _⟩
  | w :: ws, acc, h => by
    obtain ⟨i, e, h1⟩ := cI_ok ha (show cI w (fun i => cB (lt acc i) (bestC lt ws i k) (bestC lt ws acc k)) = a from h)
    rcases cB_ok h1 with ⟨z, h1⟩ | ⟨z, h1⟩
    · obtain ⟨ns, m, e2, q, q2, q3⟩ := bestC_ok refl tr ht hf ha h1
      refine ⟨i :: ns, m, by rw [e, e2]; rfl, q, List.mem_cons_of_mem _ q2, fun y hy => ?_⟩
      rcases List.mem_cons.mp hy with hy | hy
      · rw [hy]
        exact tr _ _ _ (ht _ _ z) (q3 i (by simp))
      · exact q3 y hy
    · obtain ⟨ns, m, e2, q, q2, q3⟩ := bestC_ok refl tr ht hf ha h1
      refine ⟨i :: ns, m, by rw [e, e2]; rfl, q, ?_, fun y hy => ?_⟩
      · rcases List.mem_cons.mp q2 with q2 | q2
        · rw [q2]; simp
        · exact List.mem_cons_of_mem _ (List.mem_cons_of_mem _ q2)
      · rcases List.mem_cons.mp hy with hy | hy
        · rw [hy]
          exact q3 acc (by simp)
        · rcases List.mem_cons.mp hy with hy | hy
          · rw [hy]
            exact tr _ _ _ (hf _ _ z) (q3 acc (by simp))
          · exact q3 y (List.mem_cons_of_mem _ hy)
def best1 (lt : Int → Int → Bool) (ws : List W) (k : Int → Ans) : Ans := List.rec (motive := fun _ => Ans) .bad (fun w ws _ => cI w fun i => bestC lt ws i k) ws
theorem best1_ok {le : Int → Int → Prop} {lt : Int → Int → Bool} (refl : ∀ i, le i i) (tr : ∀ i j l, le i j → le j l → le i l) (ht : ∀ i j, lt i j = true → le i j) (hf : ∀ i j, lt i j = false → le j i) {k : Int → Ans} {a : Ans} (ha : a ≠ .bad) {ws : List W} (h : best1 lt ws k = a) :
    ∃ (ns : List Int) (m : Int), ws = ns.map W.int ∧ 0 < ns.length ∧ k m = a ∧ m ∈ ns ∧ ∀ y ∈ ns, le y m := by
  match ws with
  | [] => exact absurd (show Ans.bad = a from h).symm ha
  | w :: ws =>
    obtain ⟨i, e, h1⟩ := cI_ok ha (show cI w (fun i => bestC lt ws i k) = a from h)
    obtain ⟨ns, m, e2, q, q2, q3⟩ := bestC_ok refl tr ht hf ha h1
    exact ⟨i :: ns, m, by rw [e, e2]; rfl, by simp, q, q2, q3⟩
def anyC (ws : List W) (b : Bool) (t e : Ans) : Ans := List.rec (motive := fun _ => Bool → Ans) (fun b => cB b t e) (fun w _ ih b => cBl w (ih true) (ih b)) ws b
theorem anyC_ok {t e a : Ans} (ha : a ≠ .bad) : ∀ {ws : List W} {b : Bool}, anyC ws b t e = a → ∃ bs : List Bool, ws = bs.map W.bl ∧ cB (b || bs.any id) t e = a
  | [], b, h => ⟨[], rfl, by simpa using (show cB b t e = a from h)⟩
  | w :: ws, b, h => by
    rcases cBl_ok ha (show cBl w (anyC ws true t e) (anyC ws b t e) = a from h) with ⟨e1, h1⟩ | ⟨e1, h1⟩
    · obtain ⟨bs, e2, q⟩ := anyC_ok ha h1
      exact ⟨true :: bs, by rw [e1, e2]; rfl, by simpa using q⟩
    · obtain ⟨bs, e2, q⟩ := anyC_ok ha h1
      exact ⟨false :: bs, by rw [e1, e2]; rfl, by simpa using q⟩
def allC (ws : List W) (b : Bool) (t e : Ans) : Ans := List.rec (motive := fun _ => Bool → Ans) (fun b => cB b t e) (fun w _ ih b => cBl w (ih b) (ih false)) ws b
theorem allC_ok {t e a : Ans} (ha : a ≠ .bad) : ∀ {ws : List W} {b : Bool}, allC ws b t e = a → ∃ bs : List Bool, ws = bs.map W.bl ∧ cB (b && bs.all id) t e = a
  | [], b, h => ⟨[], rfl, by simpa using (show cB b t e = a from h)⟩
  | w :: ws, b, h => by
    rcases cBl_ok ha (show cBl w (allC ws b t e) (allC ws false t e) = a from h) with ⟨e1, h1⟩ | ⟨e1, h1⟩
    · obtain ⟨bs, e2, q⟩ := allC_ok ha h1
      exact ⟨true :: bs, by rw [e1, e2]; rfl, by simpa using q⟩
    · obtain ⟨bs, e2, q⟩ := allC_ok ha h1
      exact ⟨false :: bs, by rw [e1, e2]; rfl, by simpa using q⟩
/-- the items of a list, of the heap too -/
def lstC (h : EH) (w : W) (f : List W → Ans) : Ans := W.rec (motive_1 := fun _ => Ans) (motive_2 := fun _ => Unit) .bad (fun _ => .bad) (fun _ => .bad) (fun _ => .bad) (fun _ _ => .bad) (fun ws _ => f ws) (fun n => BT.getC h.t n fun o => cMl o f) (fun _ => .bad) (fun _ => .bad) .bad () (fun _ _ _ _ => ()) w
theorem lstC_ok {M : Mo} {r : Rg} {H : Hp} {h : EH} {w : W} {v : V} {f : List W → Ans} {a : Ans} (ha : a ≠ .bad) (x : HSim M r H h) (q : RelW M.K M.g r H w v) (e : lstC h w f = a) : ∃ ws, ws.length ≤ 16777216 ∧ ∃ p vs, v = .ref p ∧ H p = some (.lst vs) ∧ RelWs M.K M.g r H ws vs ∧ f ws = a := by
  cases w with
  | lst ws =>
    obtain ⟨p, vs, e1, z, t, l⟩ := (show ∃ a vs, v = .ref a ∧ ws.length ≤ 16777216 ∧ LstAt M.K r H a vs ∧ RelWs M.K M.g r H ws vs from q)
    exact ⟨ws, z, p, vs, e1, t.1, l, e⟩
  | ref n =>
    obtain ⟨p, e1, e2⟩ := (show ∃ a, v = .ref a ∧ r.l[n]? = some a from q)
    obtain ⟨o, ok, e3⟩ := x.at ha e2 (show BT.getC h.t n (fun o => cMl o f) = a from e)
    obtain ⟨ws, e4, e5⟩ := cMl_ok ha e3
    subst e4
    obtain ⟨z, vs, e6, e7⟩ := ok
    exact ⟨ws, z, p, vs, e1, e6, e7, e5⟩
  | _ => exact absurd (show Ans.bad = a from e).symm ha
theorem cTup_rel {M : Mo} {r : Rg} {H : Hp} {w : W} {v : V} {f : List W → Ans} {a : Ans} (ha : a ≠ .bad) (q : RelW M.K M.g r H w v) (e : cTup w f = a) : ∃ ws, w = .tup ws ∧ ws.length ≤ 16777216 ∧ ∃ p vs, v = .ref p ∧ TupAt M.K r H p vs ∧ RelWs M.K M.g r H ws vs ∧ f ws = a := by
  obtain ⟨ws, e1, e2⟩ := cTup_ok ha e
  subst e1
  obtain ⟨p, vs, e1, z, t, l⟩ := (show ∃ a vs, v = .ref a ∧ ws.length ≤ 16777216 ∧ TupAt M.K r H a vs ∧ RelWs M.K M.g r H ws vs from q)
  exact ⟨ws, rfl, z, p, vs, e1, t, l, e2⟩

section
variable {M : Mo} {r : Rg} {H : Hp} {h : EH} {a : Ans} {k : K1} {Q : VK}
theorem fin_int {i : Int} (P : Post M r H a k Q) (hs : HSim M r H h) (eq : k (.int i) h = a) : Q (.int i) H := P (.int i) h r (.int i) H Ext.refl rfl hs eq
theorem fin_bl {i : Bool} (P : Post M r H a k Q) (hs : HSim M r H h) (eq : k (.bl i) h = a) : Q (.bl i) H := P (.bl i) h r (.bl i) H Ext.refl rfl hs eq
theorem fin_non (P : Post M r H a k Q) (hs : HSim M r H h) (eq : k .non h = a) : Q .non H := P .non h r .non H Ext.refl rfl hs eq
theorem fin_at {w : W} {v : V} (P : Post M r H a k Q) (hs : HSim M r H h) (q : RelW M.K M.g r H w v) (eq : k w h = a) : Q v H := P w h r v H Ext.refl q hs eq
end

/-! ### the builtins -/
def fLen : FCode := fun ws h k => c1 ws fun u => itemsC h u fun us => frN (lenN us) fun n => k (.int (.ofNat n)) h
def fTuple : FCode := fun ws h k => c1 ws fun u => itemsC h u fun us => k (.tup us) h
def fList : FCode := fun ws h k => c1 ws fun u => itemsC h u fun us => k (.lst us) h
def fListO : FCode := fun ws h k => c1 ws fun u => itemsC h u fun us => ownC h (.lst us) k
def fInt : FCode := fun ws h k => c1 ws fun u => W.rec (motive_1 := fun _ => Ans) (motive_2 := fun _ => Unit) .bad (fun b => cB b (k (.int 1) h) (k (.int 0) h)) (fun i => k (.int i) h) (fun _ => .bad) (fun _ _ => .bad) (fun _ _ => .bad) (fun _ => .bad) (fun _ => .bad) (fun _ => .bad) .bad () (fun _ _ _ _ => ()) u
def fAbs : FCode := fun ws h k => c1 ws fun u => cI u fun i => cB (ltI i 0) (frI (Int.neg i) fun n => k (.int n) h) (k (.int i) h)
def fMax2 : FCode := fun ws h k => c2 ws fun u w => cI u fun i => cI w fun j => cB (ltI i j) (k (.int j) h) (k (.int i) h)
def fMin2 : FCode := fun ws h k => c2 ws fun u w => cI u fun i => cI w fun j => cB (ltI j i) (k (.int j) h) (k (.int i) h)
def fSum : FCode := fun ws h k => c1 ws fun u => lstC h u fun us => sumC us 0 fun i => k (.int i) h
def fAny : FCode := fun ws h k => c1 ws fun u => lstC h u fun us => anyC us false (k (.bl true) h) (k (.bl false) h)
def fAll : FCode := fun ws h k => c1 ws fun u => lstC h u fun us => allC us true (k (.bl true) h) (k (.bl false) h)
def fMaxL : FCode := fun ws h k => c1 ws fun u => lstC h u fun us => best1 ltI us fun i => k (.int i) h
def fMinL : FCode := fun ws h k => c1 ws fun u => lstC h u fun us => best1 (fun i j => ltI j i) us fun i => k (.int i) h
section
variable {X : Cx} {M : Mo}
theorem cf_len (f : Fits X M) : CallR X (.builtin "len") (rF M fLen) := CallR.imp call_len_seq fun vs H Q ⟨a, ws, h, k, r, ha, eq, q, hs, P⟩ => by
  obtain ⟨u, e, eq1_⟩ := c1_ok ha eq
  subst e
  obtain ⟨v, e, q1_⟩ := rel1 q
  obtain ⟨us, ⟨z, p, xs, e2, sq, l⟩, eq2_⟩ := items_ok hs ha q1_ eq1_
  have eq3_ : frN (lenN us) (fun n => k (.int (.ofNat n)) h) = a := eq2_
  rw [frN_eq, lenN_eq, l.length] at eq3_
  refine ⟨p, xs, by rw [e, e2], ?_, fin_int P hs eq3_⟩
  rw [f.K] at sq
  exact sq.elim .inr fun z => .inl (SqL.of z)
theorem cf_tuple (f : Fits X M) : CallR X (.type "tuple") (rF M fTuple) := CallR.imp call_tuple_of fun vs H Q ⟨a, ws, h, k, r, ha, eq, q, hs, P⟩ => by
  obtain ⟨u, e, eq1_⟩ := c1_ok ha eq
  subst e
  obtain ⟨v, e, q1_⟩ := rel1 q
  obtain ⟨w', e1, q1⟩ := drf_ok hs ha q1_ eq1_
  obtain ⟨us, e2, q2⟩ := cSeq_ok ha q1
  rcases e2 with e2 | e2 <;> subst e2
  · obtain ⟨z, p, xs, e2, t, l⟩ := e1.tup
    refine ⟨p, xs, by rw [e, e2], .inr ⟨by rw [← f.K]; exact t.sq, fin_at P hs (show RelW M.K M.g r H (.tup us) (.ref p) from ⟨p, xs, rfl, z, t, l⟩) q2⟩⟩
  · obtain ⟨z, p, xs, e2, t, l⟩ := e1.lst
    refine ⟨p, xs, by rw [e, e2], .inl ⟨SqL.of t, (fin_tup ha hs l z P q2).2⟩⟩
theorem cf_list (f : Fits X M) : CallR X (.type "list") (rF M fList) := CallR.imp call_list_of fun vs H Q ⟨a, ws, h, k, r, ha, eq, q, hs, P⟩ => by
  obtain ⟨u, e, eq1_⟩ := c1_ok ha eq
  subst e
  obtain ⟨v, e, q1_⟩ := rel1 q
  obtain ⟨us, ⟨z, p, xs, e2, sq, l⟩, eq2_⟩ := items_ok hs ha q1_ eq1_
  refine ⟨p, xs, by rw [e, e2], ?_, (fin_lst ha hs l z P eq2_).2⟩
  rw [f.K] at sq
  exact sq.elim .inr fun z => .inl (SqL.of z)
theorem cf_listO (f : Fits X M) : CallR X (.type "list") (rF M fListO) := CallR.imp call_list_of fun vs H Q ⟨a, ws, h, k, r, ha, eq, q, hs, P⟩ => by
  obtain ⟨u, e, eq1_⟩ := c1_ok ha eq
  subst e
  obtain ⟨v, e, q1_⟩ := rel1 q
  obtain ⟨us, ⟨z, p, xs, e2, sq, l⟩, eq2_⟩ := items_ok hs ha q1_ eq1_
  refine ⟨p, xs, by rw [e, e2], ?_, (fin_own ha hs l z P eq2_).2⟩
  rw [f.K] at sq
  exact sq.elim .inr fun z => .inl (SqL.of z)
theorem cf_int : CallR X (.type "int") (rF M fInt) := CallR.imp call_int1 fun vs H Q ⟨a, ws, h, k, r, ha, eq, q, hs, P⟩ => by
  obtain ⟨u, e, eq1_⟩ := c1_ok ha eq
  subst e
  obtain ⟨v, e, q1_⟩ := rel1 q
  subst e
  cases u with
  | bl b =>
    have q2_ : v = .bl b := q1_
    subst q2_
    refine .inr ⟨b, rfl, ?_⟩
    cases b with
    | true => exact fin_int P hs eq1_
    | false => exact fin_int P hs eq1_
  | int i =>
    have q3_ : v = .int i := q1_
    subst q3_
    exact .inl ⟨i, rfl, fin_int P hs eq1_⟩
  | _ => exact absurd (show Ans.bad = a from eq1_).symm ha
theorem cf_abs : CallR X (.builtin "abs") (rF M fAbs) := CallR.imp call_abs fun vs H Q ⟨a, ws, h, k, r, ha, eq, q, hs, P⟩ => by
  obtain ⟨u, e, eq1_⟩ := c1_ok ha eq
  subst e
  obtain ⟨v, e, q1_⟩ := rel1 q
  subst e
  obtain ⟨i, e, eq2_⟩ := cI_ok ha eq1_
  subst e
  refine ⟨i, by rw [show v = .int i from q1_], ?_⟩
  rcases cB_ok eq2_ with ⟨z, eq3_⟩ | ⟨z, eq3_⟩ <;> rw [ltI_eq] at z
  · rw [if_pos (of_decide_eq_true z)]
    rw [frI_eq] at eq3_
    exact fin_int P hs eq3_
  · rw [if_neg (of_decide_eq_false z)]
    exact fin_int P hs eq3_
theorem cf_max2 (hc : X.calm = true) : CallR X (.builtin "max") (rF M fMax2) := CallR.imp (call_max2 hc) fun vs H Q ⟨a, ws, h, k, r, ha, eq, q, hs, P⟩ => by
  obtain ⟨u, w, e, eq1_⟩ := c2_ok ha eq
  subst e
  obtain ⟨v, v2, e, q1_, q2⟩ := rel2 q
  subst e
  obtain ⟨i, e, eq2_⟩ := cI_ok ha eq1_
  obtain ⟨j, e2, eq3_⟩ := cI_ok ha eq2_
  subst e e2
  refine ⟨i, j, by rw [show v = .int i from q1_, show v2 = .int j from q2], ?_⟩
  rcases cB_ok eq3_ with ⟨z, eq4_⟩ | ⟨z, eq4_⟩ <;> rw [ltI_eq] at z
  · rw [if_pos (of_decide_eq_true z)]
    exact fin_int P hs eq4_
  · rw [if_neg (of_decide_eq_false z)]
    exact fin_int P hs eq4_
theorem cf_min2 (hc : X.calm = true) : CallR X (.builtin "min") (rF M fMin2) := CallR.imp (call_min2 hc) fun vs H Q ⟨a, ws, h, k, r, ha, eq, q, hs, P⟩ => by
  obtain ⟨u, w, e, eq1_⟩ := c2_ok ha eq
  subst e
  obtain ⟨v, v2, e, q1_, q2⟩ := rel2 q
  subst e
  obtain ⟨i, e, eq2_⟩ := cI_ok ha eq1_
  obtain ⟨j, e2, eq3_⟩ := cI_ok ha eq2_
  subst e e2
  refine ⟨i, j, by rw [show v = .int i from q1_, show v2 = .int j from q2], ?_⟩
  rcases cB_ok eq3_ with ⟨z, eq4_⟩ | ⟨z, eq4_⟩ <;> rw [ltI_eq] at z
  · rw [if_pos (of_decide_eq_true z)]
    exact fin_int P hs eq4_
  · rw [if_neg (of_decide_eq_false z)]
    exact fin_int P hs eq4_
theorem cf_sum (hc : X.calm = true) : CallR X (.builtin "sum") (rF M fSum) := CallR.imp (cr_sum hc) fun vs H Q ⟨a, ws, h, k, r, ha, eq, q, hs, P⟩ => by
  obtain ⟨u, e, eq1_⟩ := c1_ok ha eq
  subst e
  obtain ⟨v, e, q1_⟩ := rel1 q
  obtain ⟨us, z, p, xs, e2, t, l, eq2_⟩ := lstC_ok ha hs q1_ eq1_
  obtain ⟨ns, e3, eq3_⟩ := sumC_ok ha eq2_
  subst e3
  have e4 := rel_ints l
  rw [Int.zero_add] at eq3_
  exact ⟨p, ns, by rw [e, e2], by rw [← e4]; exact SqL.of t, fin_int P hs eq3_⟩
theorem cf_any (hc : X.calm = true) : CallR X (.builtin "any") (rF M fAny) := CallR.imp (cr_any hc) fun vs H Q ⟨a, ws, h, k, r, ha, eq, q, hs, P⟩ => by
  obtain ⟨u, e, eq1_⟩ := c1_ok ha eq
  subst e
  obtain ⟨v, e, q1_⟩ := rel1 q
  obtain ⟨us, z, p, xs, e2, t, l, eq2_⟩ := lstC_ok ha hs q1_ eq1_
  obtain ⟨ns, e3, eq3_⟩ := anyC_ok ha eq2_
  subst e3
  have e4 := rel_bls l
  refine ⟨p, ns, by rw [e, e2], by rw [← e4]; exact SqL.of t, ?_⟩
  rw [Bool.false_or] at eq3_
  rcases cB_ok eq3_ with ⟨z, eq4_⟩ | ⟨z, eq4_⟩ <;> rw [z] <;> exact fin_bl P hs eq4_
theorem cf_all (hc : X.calm = true) : CallR X (.builtin "all") (rF M fAll) := CallR.imp (cr_all hc) fun vs H Q ⟨a, ws, h, k, r, ha, eq, q, hs, P⟩ => by
  obtain ⟨u, e, eq1_⟩ := c1_ok ha eq
  subst e
  obtain ⟨v, e, q1_⟩ := rel1 q
  obtain ⟨us, z, p, xs, e2, t, l, eq2_⟩ := lstC_ok ha hs q1_ eq1_
  obtain ⟨ns, e3, eq3_⟩ := allC_ok ha eq2_
  subst e3
  have e4 := rel_bls l
  refine ⟨p, ns, by rw [e, e2], by rw [← e4]; exact SqL.of t, ?_⟩
  rw [Bool.true_and] at eq3_
  rcases cB_ok eq3_ with ⟨z, eq4_⟩ | ⟨z, eq4_⟩ <;> rw [z] <;> exact fin_bl P hs eq4_
theorem cf_maxL (hc : X.calm = true) : CallR X (.builtin "max") (rF M fMaxL) := CallR.imp (cr_max hc) fun vs H Q ⟨a, ws, h, k, r, ha, eq, q, hs, P⟩ => by
  obtain ⟨u, e, eq1_⟩ := c1_ok ha eq
  subst e
  obtain ⟨v, e, q1_⟩ := rel1 q
  obtain ⟨us, z, p, xs, e2, t, l, eq2_⟩ := lstC_ok ha hs q1_ eq1_
  obtain ⟨ns, m, e3, z2, eq3_, q2, q3⟩ := best1_ok (le := fun i j => i ≤ j) (fun i => Int.le_refl i) (fun i j l a b => Int.le_trans a b) (fun i j z => by rw [ltI_eq] at z; exact Int.le_of_lt (of_decide_eq_true z)) (fun i j z => by rw [ltI_eq] at z; exact Int.not_lt.mp (of_decide_eq_false z)) ha eq2_
  subst e3
  have e4 := rel_ints l
  refine ⟨p, ns, by rw [e, e2], by rw [← e4]; exact SqL.of t, z2, fun m' hm hy => ?_⟩
  have : m' = m := Int.le_antisymm (q3 _ hm) (hy _ q2)
  subst this
  exact fin_int P hs eq3_
theorem cf_minL (hc : X.calm = true) : CallR X (.builtin "min") (rF M fMinL) := CallR.imp (cr_min hc) fun vs H Q ⟨a, ws, h, k, r, ha, eq, q, hs, P⟩ => by
  obtain ⟨u, e, eq1_⟩ := c1_ok ha eq
  subst e
  obtain ⟨v, e, q1_⟩ := rel1 q
  obtain ⟨us, z, p, xs, e2, t, l, eq2_⟩ := lstC_ok ha hs q1_ eq1_
  obtain ⟨ns, m, e3, z2, eq3_, q2, q3⟩ := best1_ok (le := fun i j => j ≤ i) (fun i => Int.le_refl i) (fun i j l a b => Int.le_trans b a) (fun i j z => by rw [ltI_eq] at z; exact Int.le_of_lt (of_decide_eq_true z)) (fun i j z => by rw [ltI_eq] at z; exact Int.not_lt.mp (of_decide_eq_false z)) ha eq2_
  subst e3
  have e4 := rel_ints l
  refine ⟨p, ns, by rw [e, e2], by rw [← e4]; exact SqL.of t, z2, fun m' hm hy => ?_⟩
  have : m' = m := Int.le_antisymm (hy _ q2) (q3 _ hm)
  subst this
  exact fin_int P hs eq3_
end
end Eng
end
end

section
set_option maxRecDepth 100000
set_option maxHeartbeats 4000000
/-! Engine, part J: items, slices, sums of sequences, dicts, tests of None, methods. -/
noncomputable section
namespace Eng
open PySem PySem.Spec L2
open PyProof.Rows hiding St

theorem Good.room {X : Cx} {M : Mo} (f : Good X M) : (nestedKind X.prog X.w).room X.A.in1 := by
  show X.A.in1.units + 8 < cLine
  have h := f.un
  have e : X.A.in1.units = X.A.units + 1 := rfl
  omega
def cMO (o : MO) (fl : List W → Ans) (fd : List (W × W) → Ans) : Ans := MO.rec (motive := fun _ => Ans) fl (fun _ _ => .bad) fd fd (fun _ => .bad) o
/-- an operation on what may be read by an index -/
def ixW (u : W) (h : EH) (ft : List W → Ans) (fd : List (W × W) → Ans) : Ans := W.rec (motive_1 := fun _ => Ans) (motive_2 := fun _ => Unit) .bad (fun _ => .bad) (fun _ => .bad) (fun _ => .bad) (fun ws _ => ft ws) (fun ws _ => ft ws)
  (fun n => BT.getC h.t n fun o => cMO o ft fd) (fun _ => .bad) (fun _ => .bad) .bad () (fun _ _ _ _ => ()) u
def fIx : BCode := fun u w h k => ixW u h (fun ws => cI w fun i => idxC ws i fun x => k x h) (fun kvs => cTup w fun _ => cB (keyB w 8) (lookD kvs w (fun x => k x h) .bad) .bad)
/-- the three cases -/
theorem ixW_ok {M : Mo} {r : Rg} {H : Hp} {h : EH} {u : W} {v : V} {ft : List W → Ans} {fd : List (W × W) → Ans} {a : Ans} (ha : a ≠ .bad) (x : HSim M r H h) (q : RelW M.K M.g r H u v) (e : ixW u h ft fd = a) :
    (∃ ws p vs, v = .ref p ∧ ws.length ≤ 16777216 ∧ TupAt M.K r H p vs ∧ RelWs M.K M.g r H ws vs ∧ ft ws = a) ∨ (∃ ws p vs, v = .ref p ∧ ws.length ≤ 16777216 ∧ H p = some (.lst vs) ∧ RelWs M.K M.g r H ws vs ∧ ft ws = a) ∨
    ∃ n p kvs xs, u = .ref n ∧ v = .ref p ∧ r.l[n]? = some p ∧ kvs.length ≤ 16777216 ∧ Rd H p (DctO M.P M.w p xs) ∧ RelD M r H kvs xs ∧ fd kvs = a := by
  cases u with
  | tup ws =>
    obtain ⟨p, vs, e1, z, t, l⟩ := (show ∃ a vs, v = .ref a ∧ ws.length ≤ 16777216 ∧ TupAt M.K r H a vs ∧ RelWs M.K M.g r H ws vs from q)
    exact .inl ⟨ws, p, vs, e1, z, t, l, e⟩
  | lst ws =>
    obtain ⟨p, vs, e1, z, t, l⟩ := (show ∃ a vs, v = .ref a ∧ ws.length ≤ 16777216 ∧ LstAt M.K r H a vs ∧ RelWs M.K M.g r H ws vs from q)
    exact .inr (.inl ⟨ws, p, vs, e1, z, t.1, l, e⟩)
  | ref n =>
    obtain ⟨p, e1, e2⟩ := (show ∃ a, v = .ref a ∧ r.l[n]? = some a from q)
    obtain ⟨o, ok, e3⟩ := x.at ha e2 (show BT.getC h.t n (fun o => cMO o ft fd) = a from e)
    cases o with
    | lst ws =>
      obtain ⟨z, vs, e6, e7⟩ := ok
      exact .inr (.inl ⟨ws, p, vs, e1, z, e6, e7, e3⟩)
    | dct kvs =>
      obtain ⟨z, xs, e6, e7⟩ := ok
      exact .inr (.inr ⟨n, p, kvs, xs, rfl, e1, e2, z, .inl e6, e7, e3⟩)
    | fdc kvs =>
      obtain ⟨_, z, od, xs, e6, e7⟩ := ok
      exact .inr (.inr ⟨n, p, kvs, xs, rfl, e1, e2, z, .inr ⟨od, e6⟩, e7, e3⟩)
    | ins c fs => exact absurd (show Ans.bad = a from e3).symm ha
    | flc ws => exact absurd (show Ans.bad = a from e3).symm ha
  | _ => exact absurd (show Ans.bad = a from e).symm ha
/-- a key's value in the model -/
theorem key_of {M : Mo} {r : Rg} {H : Hp} {w : W} {y : V} {a b : Ans} {f : List W → Ans} (ha : a ≠ .bad) (q : RelW M.K M.g r H w y) (e : cTup w (fun _ => cB (keyB w 8) b .bad) = a) : ∃ ka key, y = .ref ka ∧ keyOf w = some key ∧ key.depth ≤ 8 ∧ b = a := by
  obtain ⟨ws, e1, z, p, vs, e2, t, l, e3⟩ := cTup_rel ha q e
  rcases cB_ok e3 with ⟨e4, e3⟩ | ⟨_, e3⟩
  · obtain ⟨key, e5, e6⟩ := keyB_ok w 8 e4
    exact ⟨p, key, e2, e5, e6, e3⟩
  · exact absurd e3.symm ha
section
variable {X : Cx} {M : Mo} {cl : Cl} {E : XK} {a b e : Expr} {es : List Expr} {A B : Code} {L : LCode} {pos p1 : Pos}
theorem ixr_all (f : Good X M) : IxR X (rB M fIx) := by
  intro value slice pins s σ H x y v u Q I rx ry hr hs
  obtain ⟨a0, wu, ww, h, k, r, ha, eq, qu, qw, hsim, P⟩ := hr
  rcases ixW_ok ha hsim qu eq with ⟨ws, p, vs, e1, z, t, l, e2⟩ | ⟨ws, p, vs, e1, z, t, l, e2⟩ | ⟨n, p, kvs, xs, _, e1, e0, z, t, l, e2⟩
  · obtain ⟨i, e3, e2⟩ := cI_ok ha e2
    subst e3
    obtain ⟨w, e4, e2⟩ := idxC_ok ha e2
    obtain ⟨v', e5, e6⟩ := atI_rel l e4
    exact ix_tup value slice pins s σ H x y v u Q I rx ry ⟨p, vs, i, v', e1, qw, by rw [← f.K]; exact t.sq, e5, fin_at P hsim e6 e2⟩ hs
  · obtain ⟨i, e3, e2⟩ := cI_ok ha e2
    subst e3
    obtain ⟨w, e4, e2⟩ := idxC_ok ha e2
    obtain ⟨v', e5, e6⟩ := atI_rel l e4
    exact ix_list value slice pins s σ H x y v u Q I rx ry ⟨p, vs, i, v', e1, qw, SqL.of t, e5, fin_at P hsim e6 e2⟩ hs
  · obtain ⟨ka, key, e3, e4, e5, e6⟩ := key_of (f := fun _ => .bad) ha qw e2
    subst e1 e3
    cases rx
    cases ry
    obtain ⟨hS, hm⟩ := dct_of I f.toFits t l
    have hk := key_is I f.toFits qw e4 e5
    rcases lookD_ok e4 l e6 with ⟨ka', u', v', w', e7, e8, e9, e10⟩ | ⟨_, e7⟩
    · exact subscriptTail_builtinR (x := u') hm.typeIs slot_dict_getitem.lookup
        (wpAny_getItem_heap f.room hk hm e7 ⟨rfl, v', H, I.tok _, e8, fin_at P hsim e9 e10⟩) hs
    · exact absurd e7.symm ha
theorem pec_ix (f : Good X M) (ha : PE X a (tE M cl E A)) (hb : PE X b (tE M cl E B)) (hs : PlainIx b) : PE X (.Subscript a b pos) (tE M cl E (cBin fIx A B)) := PE.imp (pe_ix (ixr_all f) ha hb hs) fun _ _ _ h => bin_im (fun _ _ _ _ q => q) h
end

/-! ### slices -/
abbrev OCode := Cl → S4 → EH → KX → (Option Int → EH → Ans) → Ans
def oN : OCode := fun _ _ h _ k => k none h
def oS (A : Code) : OCode := fun c s h x k => A c s h x fun u h => cI u fun i => k (some i) h
def tO (M : Mo) (cl : Cl) (E : XK) (C : OCode) : TO := fun σ H Q => ∃ a t h x k r, At M E a t h x r σ H ∧ C cl t h x k = a ∧ ∀ o h' r' H', Ext r H r' H' → HSim M r' H' h' → k o h' = a → Q o H'
theorem PO.imp {X : Cx} {e : Option Expr} {t t' : TO} (h : PO X e t) (i : ∀ σ H Q, t' σ H Q → t σ H Q) : PO X e t' := ⟨fun pins s σ H Q I q => h.run pins s σ H Q I (i σ H Q q)⟩
def clampN (n d : Nat) (o : Option Int) (k : Nat → Ans) : Ans := Option.rec (motive := fun _ => Ans) (k d) (fun i => Int.rec (motive := fun _ => Ans) (fun m => cB (Nat.ble m n) (frN m k) (frN n k)) (fun m => frN (Nat.sub n (Nat.succ m)) k) i) o
theorem clampN_eq (n d : Nat) (o : Option Int) (k : Nat → Ans) : clampN n d o k = k (HT.sIx n d o) := by
  cases o with
  | none => rfl
  | some i =>
    cases i with
    | ofNat m =>
      show cB (Nat.ble m n) (frN m k) (frN n k) = _
      rw [frN_eq, frN_eq, show HT.sIx n d (some (Int.ofNat m)) = min m n from HT.sIx_nat n d m]
      cases e : Nat.ble m n with
      | true => rw [Nat.min_eq_left (Nat.le_of_ble_eq_true e)]; rfl
      | false =>
        have : ¬ m ≤ n := fun z => by rw [Nat.ble_eq_true_of_le z] at e; cases e
        rw [Nat.min_eq_right (by omega)]
        rfl
    | negSucc m =>
      show frN (Nat.sub n (Nat.succ m)) k = _
      rw [frN_eq]
      have h := HT.clip_eq (Int.negSucc m) n d
      rw [if_pos (by omega)] at h
      congr 1
      show n - (m + 1) = _
      omega
def cutC (ws : List W) (lo hi : Option Int) (k : List W → Ans) : Ans := frN (lenN ws) fun n => clampN n 0 lo fun i => clampN n n hi fun j => dropC ws i fun r => takeC r (Nat.sub j i) k
theorem cutC_eq (ws : List W) (lo hi : Option Int) (k : List W → Ans) : cutC ws lo hi k = k ((ws.drop (HT.sIx ws.length 0 lo)).take (HT.sIx ws.length ws.length hi - HT.sIx ws.length 0 lo)) := by
  unfold cutC
  rw [frN_eq, clampN_eq, clampN_eq, dropC_eq, takeC_eq, lenN_eq]
  rfl
theorem cut_rel {K : PySem.W.Frag} {g : Nat → Addr} {r : Rg} {H : Hp} {ws : List W} {vs : List V} (q : RelWs K g r H ws vs) (lo hi : Option Int) : RelWs K g r H ((ws.drop (HT.sIx ws.length 0 lo)).take (HT.sIx ws.length ws.length hi - HT.sIx ws.length 0 lo)) (cutV vs lo hi) := by
  unfold cutV
  rw [q.length]
  exact (q.drop _).take _
theorem cut_len (ws : List W) (a b : Nat) (h : ws.length ≤ 16777216) : ((ws.drop a).take b).length ≤ 16777216 := by
  rw [List.length_take, List.length_drop]
  omega
/-- slices: of a tuple, of a list -/
def fSl (u : W) (lo hi : Option Int) (h : EH) (k : K1) : Ans := ixW u h (fun ws => cutC ws lo hi fun l => W.rec (motive_1 := fun _ => Ans) (motive_2 := fun _ => Unit) .bad (fun _ => .bad) (fun _ => .bad) (fun _ => .bad) (fun _ _ => k (.tup l) h) (fun _ _ => k (.lst l) h) (fun _ => k (.lst l) h) (fun _ => .bad) (fun _ => .bad) .bad () (fun _ _ _ _ => ()) u) (fun _ => .bad)
def cSl (A : Code) (L U : OCode) : Code := fun c s h x k => A c s h x fun u h => L c s h x fun lo h => U c s h x fun hi h => fSl u lo hi h k
section
variable {X : Cx} {M : Mo} {cl : Cl} {E : XK} {a b e : Expr} {lo hi : Option Expr} {es : List Expr} {A B : Code} {L U : OCode} {pos p2 : Pos}
theorem poc_none : PO X none (tO M cl E oN) := PO.imp po_none fun σ H Q ⟨a0, t, h, x, k, r, At0, eq, P⟩ => P _ _ _ _ Ext.refl At0.hs eq
theorem poc_some (h : PE X e (tE M cl E A)) : PO X (some e) (tO M cl E (oS A)) := PO.imp (po_some h) fun σ H Q ⟨a0, t, h, x, k, r, At0, eq, P⟩ => ⟨a0, t, h, x, _, r, At0, eq, fun u h1 r1 v1 H1 e1 q1 hs1 eq1 => by
  obtain ⟨i, e2, eq2⟩ := cI_ok At0.good eq1
  subst e2
  exact ⟨i, q1, P _ _ _ _ e1 hs1 eq2⟩⟩
def rSlE (M : Mo) : V → Option Int → Option Int → Hp → VK → Prop := fun x lo hi H Q => ∃ a u h k r, a ≠ Ans.bad ∧ fSl u lo hi h k = a ∧ RelW M.K M.g r H u x ∧ HSim M r H h ∧ Post M r H a k Q
theorem slr_all (f : Good X M) : SlR X (rSlE M) := by
  intro pins s σ H x v vl vu lo hi sl Q I rx hsl pl pu hr
  obtain ⟨a0, u, h, k, r, ha, eq, qu, hs, P⟩ := hr
  cases u with
  | tup ws =>
    obtain ⟨p, vs, e1, z, t, l⟩ := (show ∃ a vs, x = .ref a ∧ ws.length ≤ 16777216 ∧ TupAt M.K r H a vs ∧ RelWs M.K M.g r H ws vs from qu)
    have eq1 : cutC ws lo hi (fun l => k (.tup l) h) = a0 := eq
    rw [cutC_eq] at eq1
    refine sl_tupA pins s σ H x v vl vu lo hi sl Q I rx hsl pl pu ⟨p, vs, e1, by rw [← f.K]; exact t.sq, fun w => ?_, fun _ => (fin_tup ha hs (cut_rel l lo hi) (cut_len _ _ _ z) P eq1).2⟩
    have e2 : (ws.drop (HT.sIx ws.length 0 lo)).take (HT.sIx ws.length ws.length hi - HT.sIx ws.length 0 lo) = ws := by
      rw [← l.length] at w
      rw [w.1, w.2, List.drop_zero, Nat.sub_zero, List.take_length]
    rw [e2] at eq1
    exact fin_at P hs (show RelW M.K M.g r H (.tup ws) (.ref p) from ⟨p, vs, rfl, z, t, l⟩) eq1
  | lst ws =>
    obtain ⟨p, vs, e1, z, t, l⟩ := (show ∃ a vs, x = .ref a ∧ ws.length ≤ 16777216 ∧ LstAt M.K r H a vs ∧ RelWs M.K M.g r H ws vs from qu)
    have eq1 : cutC ws lo hi (fun l => k (.lst l) h) = a0 := eq
    rw [cutC_eq] at eq1
    exact sl_list pins s σ H x v vl vu lo hi sl Q I rx hsl pl pu ⟨p, vs, e1, SqL.of t.1, (fin_lst ha hs (cut_rel l lo hi) (cut_len _ _ _ z) P eq1).2⟩
  | ref n =>
    rcases ixW_ok ha hs qu eq with ⟨ws, p, vs, e1, z, t, l, e2⟩ | ⟨ws, p, vs, e1, z, t, l, e2⟩ | ⟨n, p, kvs, xs, _, e1, e0, z, t, l, e2⟩
    · have eq1 : cutC ws lo hi (fun l => k (.lst l) h) = a0 := e2
      obtain ⟨p', e3, e4⟩ := (show ∃ a, x = .ref a ∧ r.l[n]? = some a from qu)
      obtain ⟨o, ok, e5⟩ := hs.at ha e4 (show BT.getC h.t n (fun o => cMO o (fun ws => cutC ws lo hi (fun l => k (.lst l) h)) fun _ => .bad) = a0 from eq)
      cases o with
      | lst ws' =>
        obtain ⟨z', vs', e6, e7⟩ := ok
        have eq2 : cutC ws' lo hi (fun l => k (.lst l) h) = a0 := e5
        rw [cutC_eq] at eq2
        exact sl_list pins s σ H x v vl vu lo hi sl Q I rx hsl pl pu ⟨p', vs', e3, SqL.of e6, (fin_lst ha hs (cut_rel e7 lo hi) (cut_len _ _ _ z') P eq2).2⟩
      | dct _ => exact absurd (show Ans.bad = a0 from e5).symm ha
      | fdc _ => exact absurd (show Ans.bad = a0 from e5).symm ha
      | flc _ => exact absurd (show Ans.bad = a0 from e5).symm ha
      | ins _ _ => exact absurd (show Ans.bad = a0 from e5).symm ha
    · have eq1 : cutC ws lo hi (fun l => k (.lst l) h) = a0 := e2
      rw [cutC_eq] at eq1
      exact sl_list pins s σ H x v vl vu lo hi sl Q I rx hsl pl pu ⟨p, vs, e1, SqL.of t, (fin_lst ha hs (cut_rel l lo hi) (cut_len _ _ _ z) P eq1).2⟩
    · exact absurd (show Ans.bad = a0 from e2).symm ha
  | _ => exact absurd (show Ans.bad = a0 from eq).symm ha
theorem pec_sl (f : Good X M) (ha : PE X e (tE M cl E A)) (hl : PO X lo (tO M cl E L)) (hu : PO X hi (tO M cl E U)) : PE X (.Subscript e (.Slice lo hi none p2) pos) (tE M cl E (cSl A L U)) :=
  PE.imp (pe_slice (slr_all f) ha hl hu) fun σ H Q ⟨a0, t, h, x, k, r, At0, eq, P⟩ => ⟨a0, t, h, x, _, r, At0, eq, fun u h1 r1 v1 H1 e1 q1 hs1 eq1 =>
    ⟨a0, t, h1, x, _, r1, At0.ext e1 hs1, eq1, fun o1 h2 r2 H2 e2 hs2 eq2 => ⟨a0, t, h2, x, _, r2, At0.ext (e1.trans e2) hs2, eq2, fun o2 h3 r3 H3 e3 hs3 eq3 =>
      ⟨a0, u, h3, k, r3, At0.good, eq3, (q1.ext e2).ext e3, hs3, P.ext ((e1.trans e2).trans e3)⟩⟩⟩⟩

/-! ### + and * of sequences, < of tuples -/
def fAddS : BCode := fun u w h k => W.rec (motive_1 := fun _ => Ans) (motive_2 := fun _ => Unit) .bad (fun _ => .bad) (fun i => cI w fun j => addC i j fun n => k (.int n) h) (fun _ => .bad)
  (fun ws _ => cTup w fun us => appC ws us fun l => lenC l (k (.tup l) h)) (fun ws _ => lstC h w fun us => appC ws us fun l => lenC l (k (.lst l) h)) (fun n => lstC h u fun ws => lstC h w fun us => appC ws us fun l => lenC l (k (.lst l) h)) (fun _ => .bad) (fun _ => .bad) .bad () (fun _ _ _ _ => ()) u
theorem lsts_cat (f : Good X M) {pins : List (Addr × Obj)} {s : Shared} {σ : St} {H : Hp} {x y : V} {v u0 : Value} {Q : VK} (I : Inv X pins σ H s) (rx : RelV x v) (ry : RelV y u0) {a0 : Ans} {u w : W} {h : EH} {k : K1} {r : Rg} (ha : a0 ≠ .bad)
    (eq : lstC h u (fun ws => lstC h w fun us => appC ws us fun l => lenC l (k (.lst l) h)) = a0) (qu : RelW M.K M.g r H u x) (qw : RelW M.K M.g r H w y) (hs : HSim M r H h) (P : Post M r H a0 k Q) : wpAny (model X.prog X.w) X.A (binaryOp .Add v u0) (EP X pins σ Q) X.xe s := by
  obtain ⟨ws, z, p, vs, e1, t, l, eq⟩ := lstC_ok ha hs qu eq
  obtain ⟨us, z2, p2, vs2, e2, t2, l2, eq⟩ := lstC_ok ha hs qw eq
  rw [appC_eq] at eq
  obtain ⟨hl, eq⟩ := lenC_ok ha eq
  have := fin_lst ha hs (l.append l2) hl P eq
  rw [List.length_append] at this
  exact op_cat pins s σ H x y v u0 Q I rx ry ⟨p, p2, vs, vs2, e1, e2, t, t2, this.1, this.2⟩
theorem opb_addS (f : Good X M) : OpR X (binaryOp .Add) (rB M fAddS) := by
  intro pins s σ H x y v u0 Q I rx ry hr
  obtain ⟨a0, u, w, h, k, r, ha, eq, qu, qw, hs, P⟩ := hr
  cases u with
  | int i => exact ob_add (M := M) pins s σ H x y v u0 Q I rx ry ⟨a0, .int i, w, h, k, r, ha, eq, qu, qw, hs, P⟩
  | tup ws =>
    obtain ⟨p, vs, e1, z, t, l⟩ := (show ∃ a vs, x = .ref a ∧ ws.length ≤ 16777216 ∧ TupAt M.K r H a vs ∧ RelWs M.K M.g r H ws vs from qu)
    obtain ⟨us, e0, z2, p2, vs2, e2, t2, l2, eq2⟩ := cTup_rel ha qw eq
    rw [appC_eq] at eq2
    obtain ⟨hl, eq2⟩ := lenC_ok ha eq2
    have F := fin_tup ha hs (l.append l2) hl P eq2
    rw [List.length_append] at F
    refine op_catA pins s σ H x y v u0 Q I rx ry ⟨p, p2, vs, vs2, e1, e2, by rw [← f.K]; exact t.sq, by rw [← f.K]; exact t2.sq, F.1, fun e => ?_, fun _ e => ?_, fun _ _ => F.2⟩
    · have : ws = [] := List.length_eq_zero_iff.mp (by rw [l.length, e]; rfl)
      subst this
      exact fin_at P hs (show RelW M.K M.g r H (.tup us) (.ref p2) from ⟨p2, vs2, rfl, z2, t2, l2⟩) eq2
    · have : us = [] := List.length_eq_zero_iff.mp (by rw [l2.length, e]; rfl)
      subst this
      rw [List.append_nil] at eq2
      exact fin_at P hs (show RelW M.K M.g r H (.tup ws) (.ref p) from ⟨p, vs, rfl, z, t, l⟩) eq2
  | lst ws => exact lsts_cat f I rx ry (u := .lst ws) (w := w) ha eq qu qw hs P
  | ref n => exact lsts_cat f I rx ry (u := .ref n) (w := w) ha eq qu qw hs P
  | _ => exact absurd (show Ans.bad = a0 from eq).symm ha
def repC (ws : List W) (n : Nat) (k : List W → Ans) : Ans := Nat.rec (motive := fun _ => List W → Ans) (fun acc => k acc) (fun _ ih acc => appC ws acc ih) n []
theorem repC_eq (ws : List W) (n : Nat) (k : List W → Ans) : repC ws n k = k (List.replicate n ws).flatten := by
  have key : ∀ (n : Nat) (acc : List W), (Nat.rec (motive := fun _ => List W → Ans) (fun acc => k acc) (fun _ ih acc => appC ws acc ih) n acc : Ans) = k ((List.replicate n ws).flatten ++ acc) := by
    intro n
    induction n with
    | zero => intro acc; rfl
    | succ n ih =>
      intro acc
      show appC ws acc _ = _
      rw [appC_eq]
      refine (ih (ws ++ acc)).trans ?_
      congr 1
      have : ∀ n : Nat, (List.replicate n ws).flatten ++ ws = ws ++ (List.replicate n ws).flatten := by
        intro n
        induction n with
        | zero => simp
        | succ n ih => rw [List.replicate_succ, List.flatten_cons, List.append_assoc, ih]
      rw [List.replicate_succ, List.flatten_cons, ← List.append_assoc, this]
  rw [show repC ws n k = _ from key n [], List.append_nil]
theorem RelWs.rep {K : PySem.W.Frag} {g : Nat → Addr} {r : Rg} {H : Hp} {ws : List W} {vs : List V} (q : RelWs K g r H ws vs) : ∀ n : Nat, RelWs K g r H (List.replicate n ws).flatten (List.replicate n vs).flatten
  | 0 => rfl
  | n + 1 => by
    rw [List.replicate_succ, List.replicate_succ, List.flatten_cons, List.flatten_cons]
    exact q.append (q.rep n)
/-- ints; a list times an int: a new list (own: of the heap) -/
def fMulS (own : Bool) : BCode := fun u w h k => W.rec (motive_1 := fun _ => Ans) (motive_2 := fun _ => Unit) .bad (fun _ => .bad) (fun i => cI w fun j => mulB i j .bad fun n => k (.int n) h) (fun _ => .bad)
  (fun ws _ => cI w fun i => cB (ltI i 2) .bad (cB (ltI 1000 i) .bad (cB (Nat.beq (lenN ws) 0) .bad (cB (Nat.ble (lenN ws) 1000) (repC ws (Int.toNat i) fun l => lenC l (k (.tup l) h)) .bad)))) (fun ws _ => cI w fun i => cB (ltI i 0) .bad (cB (ltI i 100000) (repC ws (Int.toNat i) fun l => lenC l (cB own (ownC h (.lst l) k) (k (.lst l) h))) .bad)) (fun _ => .bad) (fun _ => .bad) (fun _ => .bad) .bad () (fun _ _ _ _ => ()) u
theorem opb_mulS {own : Bool} (hK : M.K = X.K) : OpR X (binaryOp .Mult) (rB M (fMulS own)) := by
  intro pins s σ H x y v u0 Q I rx ry hr
  obtain ⟨a0, u, w, h, k, r, ha, eq, qu, qw, hs, P⟩ := hr
  cases u with
  | int i => exact ob_mul (M := M) pins s σ H x y v u0 Q I rx ry ⟨a0, .int i, w, h, k, r, ha, eq, qu, qw, hs, P⟩
  | tup ws =>
    obtain ⟨p, vs, e1, z, t, l⟩ := (show ∃ a vs, x = .ref a ∧ ws.length ≤ 16777216 ∧ TupAt M.K r H a vs ∧ RelWs M.K M.g r H ws vs from qu)
    obtain ⟨i, e2, eq1⟩ := cI_ok ha (show cI w _ = a0 from eq)
    subst e2
    rcases cB_ok eq1 with ⟨_, eq1⟩ | ⟨e0, eq1⟩
    · exact absurd eq1.symm ha
    rcases cB_ok eq1 with ⟨_, eq1⟩ | ⟨e3, eq1⟩
    · exact absurd eq1.symm ha
    rcases cB_ok eq1 with ⟨_, eq1⟩ | ⟨e4, eq1⟩
    · exact absurd eq1.symm ha
    rcases cB_ok eq1 with ⟨e5, eq1⟩ | ⟨_, eq1⟩
    · rw [ltI_eq] at e0 e3
      have e0 := of_decide_eq_false e0
      have e3 := of_decide_eq_false e3
      rw [lenN_eq] at e4 e5
      have e5 := Nat.le_of_ble_eq_true e5
      rw [repC_eq] at eq1
      obtain ⟨hl, eq2⟩ := lenC_ok ha eq1
      have ne : vs ≠ [] := fun q => by
        have := l.length
        rw [q] at this
        have z0 : ws.length = 0 := this
        rw [z0] at e4
        cases e4
      exact op_repT pins s σ H x y v u0 Q I rx ry ⟨p, i, vs, e1, qw, hK ▸ t.sq, ne, by omega, by omega, by rw [← l.length]; omega, (fin_tup ha hs (l.rep i.toNat) hl P eq2).2⟩
    · exact absurd eq1.symm ha
  | lst ws =>
    obtain ⟨p, vs, e1, z, t, l⟩ := (show ∃ a vs, x = .ref a ∧ ws.length ≤ 16777216 ∧ LstAt M.K r H a vs ∧ RelWs M.K M.g r H ws vs from qu)
    obtain ⟨i, e2, eq1⟩ := cI_ok ha (show cI w _ = a0 from eq)
    subst e2
    rcases cB_ok eq1 with ⟨_, eq1⟩ | ⟨e0, eq1⟩
    · exact absurd eq1.symm ha
    rw [ltI_eq] at e0
    have e0 := of_decide_eq_false e0
    rcases cB_ok eq1 with ⟨e3, eq2⟩ | ⟨_, eq2⟩
    · rw [ltI_eq] at e3
      have e3 := of_decide_eq_true e3
      rw [repC_eq] at eq2
      obtain ⟨hl, eq3⟩ := lenC_ok ha eq2
      have L := (l.rep i.toNat)
      have F : ∀ p, H p = none → Q (.ref p) (upd H p (.lst (List.replicate i.toNat vs).flatten)) := by
        rcases cB_ok eq3 with ⟨_, eq4⟩ | ⟨_, eq4⟩
        · exact (fin_own ha hs L hl P eq4).2
        · exact (fin_lst ha hs L hl P eq4).2
      have hz : vs.length * i.toNat ≤ sizeLine := by
        rw [L.length, List.length_flatten, List.map_replicate, List.sum_replicate_nat] at hl
        rw [sizeLine_eq, Nat.mul_comm]
        exact hl
      exact op_rep pins s σ H x y v u0 Q I rx ry ⟨p, i, vs, e1, qw, t.1, by omega, by omega, hz, F⟩
    · exact absurd eq2.symm ha
  | _ => exact absurd (show Ans.bad = a0 from eq).symm ha
end
end Eng
end
end

section
set_option maxRecDepth 100000
set_option maxHeartbeats 4000000
/-! Engine, part K: more tests, storing, methods of lists and dicts. -/
noncomputable section
namespace Eng
open PySem PySem.Spec L2
open PyProof.Rows hiding St

/-! ### < -/
def intsB (ws : List W) : Bool := List.rec (motive := fun _ => Bool) true (fun w _ ih => wB w false fl (fun _ => ih) fl fl fl) ws
theorem intsB_ok : ∀ {ws : List W}, intsB ws = true → ∃ ns : List Int, ws = ns.map W.int
  | [], _ => ⟨[], rfl⟩
  | w :: ws, h => by
    have h1 : wB w false fl (fun _ => intsB ws) fl fl fl = true := h
    cases w with
    | int i =>
      obtain ⟨ns, e⟩ := intsB_ok (show intsB ws = true from h1)
      exact ⟨i :: ns, by rw [e]; rfl⟩
    | _ => exact absurd (show false = true from h1) Bool.false_ne_true
def ltW (w u : W) (eq : Bool) : Bool := wB w false fl (fun i => wB u false fl (fun j => cB (eqI i j) eq (ltI i j)) fl fl fl) fl fl fl
def lexB (ws : List W) : List W → Bool := List.rec (motive := fun _ => List W → Bool) (fun us => List.rec (motive := fun _ => Bool) false (fun _ _ _ => true) us) (fun w _ ih us => List.rec (motive := fun _ => Bool) false (fun u us _ => ltW w u (ih us)) us) ws
theorem lexB_eq : ∀ (ns ms : List Int), lexB (ns.map W.int) (ms.map W.int) = HT.lexLt ns ms
  | [], [] => rfl
  | [], _ :: _ => rfl
  | _ :: _, [] => rfl
  | n :: ns, m :: ms => by
    show cB (eqI n m) (lexB (ns.map W.int) (ms.map W.int)) (ltI n m) = _
    rw [lexB_eq ns ms, eqI_eq, ltI_eq, HT.lexLt_cons, cB_eq]
    by_cases h : n = m
    · rw [if_pos (decide_eq_true h), if_pos h]
    · rw [if_neg (by simpa using h), if_neg h]
def tbLt : TB := fun u w _ t e => W.rec (motive_1 := fun _ => Ans) (motive_2 := fun _ => Unit) .bad (fun _ => .bad) (fun i => cI w fun j => cB (ltI i j) t e) (fun _ => .bad)
  (fun ws _ => cTup w fun us => cB (intsB ws) (cB (intsB us) (cB (lexB ws us) t e) .bad) .bad) (fun _ _ => .bad) (fun _ => .bad) (fun _ => .bad) (fun _ => .bad) .bad () (fun _ _ _ _ => ()) u
def tbIsN : TB := fun u _ _ t e => W.rec (motive_1 := fun _ => Ans) (motive_2 := fun _ => Unit) t (fun _ => e) (fun _ => e) (fun _ => e) (fun _ _ => e) (fun _ _ => e) (fun _ => e) (fun _ => e) (fun _ => e) .bad () (fun _ _ _ _ => ()) u
def tbNotN : TB := fun u w h t e => tbIsN u w h e t
/-- x in a dict, a list, a tuple -/
def tbIn : TB := fun u w h t e => ixW w h (fun ws => seqIn u ws t e) (fun kvs => cTup u fun _ => cB (keyB u 8) (lookD kvs u (fun _ => t) e) .bad)
def tbNin : TB := fun u w h t e => tbIn u w h e t
section
variable {X : Cx} {M : Mo} {cl : Cl} {E : XK} {a b e : Expr} {es : List Expr} {A B C : Code} {L : LCode} {pos p1 : Pos}
theorem ots_lt (f : Good X M) : OpR X (compareOp .Lt) (rCmp M tbLt) := by
  intro pins s σ H x y v u0 Q I rx ry hr
  obtain ⟨a0, u, w, h, t, e, r, ha, eq, qu, qw, hs, pt, pf⟩ := hr
  cases u with
  | int i => exact ot_lt (M := M) pins s σ H x y v u0 Q I rx ry ⟨a0, .int i, w, h, t, e, r, ha, eq, qu, qw, hs, pt, pf⟩
  | tup ws =>
    obtain ⟨p, vs, e1, z, t1, l⟩ := (show ∃ a vs, x = .ref a ∧ ws.length ≤ 16777216 ∧ TupAt M.K r H a vs ∧ RelWs M.K M.g r H ws vs from qu)
    obtain ⟨us, e0, z2, p2, vs2, e2, t2, l2, eq2⟩ := cTup_rel ha qw (show cTup w _ = a0 from eq)
    rcases cB_ok eq2 with ⟨b1, eq2⟩ | ⟨_, eq2⟩
    · rcases cB_ok eq2 with ⟨b2, eq2⟩ | ⟨_, eq2⟩
      · obtain ⟨ns, en⟩ := intsB_ok b1
        obtain ⟨ms, em⟩ := intsB_ok b2
        subst en em
        have f1 := rel_ints l
        have f2 := rel_ints l2
        subst f1 f2
        refine op_ltT (by have := f.un; omega) pins s σ H x y v u0 Q I rx ry ⟨p, p2, ns, ms, e1, e2, by rw [← f.K]; exact t1.sq, by rw [← f.K]; exact t2.sq, ?_⟩
        rw [lexB_eq] at eq2
        rcases cB_ok eq2 with ⟨z, eq2⟩ | ⟨z, eq2⟩ <;> rw [z]
        · exact pt eq2
        · exact pf eq2
      · exact absurd eq2.symm ha
    · exact absurd eq2.symm ha
  | _ => exact absurd (show Ans.bad = a0 from eq).symm ha
theorem isN_ok {r : Rg} {H : Hp} {u : W} {x : V} {t e a0 : Ans} {w : W} {h : EH} (ha : a0 ≠ .bad) (q : RelW M.K M.g r H u x) (eq : tbIsN u w h t e = a0) : (x = .non ∧ t = a0) ∨ (x ≠ .non ∧ e = a0) := by
  cases u with
  | non => exact .inl ⟨q, eq⟩
  | bl b => exact .inr ⟨by rw [show x = .bl b from q]; exact (fun z => nomatch z), eq⟩
  | int b => exact .inr ⟨by rw [show x = .int b from q]; exact (fun z => nomatch z), eq⟩
  | str b => exact .inr ⟨by rw [show x = .str b from q]; exact (fun z => nomatch z), eq⟩
  | sta b => exact .inr ⟨by rw [show x = .ref (M.g b) from q]; exact (fun z => nomatch z), eq⟩
  | ty b => exact .inr ⟨by rw [show x = .ty b from q]; exact (fun z => nomatch z), eq⟩
  | tup ws =>
    obtain ⟨p, vs, e1, z⟩ := (show ∃ a vs, x = .ref a ∧ ws.length ≤ 16777216 ∧ TupAt M.K r H a vs ∧ RelWs M.K M.g r H ws vs from q)
    exact .inr ⟨by rw [e1]; exact (fun z => nomatch z), eq⟩
  | lst ws =>
    obtain ⟨p, vs, e1, z⟩ := (show ∃ a vs, x = .ref a ∧ ws.length ≤ 16777216 ∧ LstAt M.K r H a vs ∧ RelWs M.K M.g r H ws vs from q)
    exact .inr ⟨by rw [e1]; exact (fun z => nomatch z), eq⟩
  | ref n =>
    obtain ⟨p, e1, _⟩ := (show ∃ a, x = .ref a ∧ r.l[n]? = some a from q)
    exact .inr ⟨by rw [e1]; exact (fun z => nomatch z), eq⟩
  | und => exact absurd (show Ans.bad = a0 from eq).symm ha
theorem ot_isN' : OpR X (compareOp .Is) (fun x y H Q => y = .non ∧ rCmp M tbIsN x y H Q) := OpR.imp op_isN fun x y H Q ⟨hy, a, u, w, h, t, e, r, ha, eq, qu, qw, hs, pt, pf⟩ => by
  refine ⟨hy, ?_⟩
  rcases isN_ok ha qu eq with ⟨z, q⟩ | ⟨z, q⟩
  · rw [decide_eq_true z]; exact pt q
  · rw [decide_eq_false z]; exact pf q
theorem ot_notN' : OpR X (compareOp .IsNot) (fun x y H Q => y = .non ∧ rCmp M tbNotN x y H Q) := OpR.imp op_notN fun x y H Q ⟨hy, a, u, w, h, t, e, r, ha, eq, qu, qw, hs, pt, pf⟩ => by
  refine ⟨hy, ?_⟩
  rcases isN_ok ha qu eq with ⟨z, q⟩ | ⟨z, q⟩
  · rw [decide_eq_true z]; exact pf q
  · rw [decide_eq_false z]; exact pt q
/-- a test against None -/
def cN (f : TB) (A : Code) : TCode := fun c s h x kt kf => A c s h x fun u h => f u .non h (kt h) (kf h)
theorem n_im {f : TB} {σ : St} {H : Hp} {Q : Bool → Hp → Prop} (h : tT M cl E (cN f A) σ H Q) : tTest (tOp (fun x y H Q => y = .non ∧ rCmp M f x y H Q) (tE M cl E A) (tC .non)) σ H Q := by
  obtain ⟨a0, t, h, x, kt, kf, rr, At0, eq, pt, pf⟩ := h
  exact ⟨a0, t, h, x, _, rr, At0, eq, fun u h1 r1 v1 H1 e1 q1 hs1 eq1 => ⟨rfl, a0, u, .non, h1, kt h1, kf h1, r1, At0.good, eq1, q1, rfl, hs1, fun z => ⟨true, rfl, pt _ _ _ e1 hs1 z⟩, fun z => ⟨false, rfl, pf _ _ _ e1 hs1 z⟩⟩⟩
theorem n_imE {f : TB} {σ : St} {H : Hp} {Q : VK} (h : tE M cl E (cVal (cN f A)) σ H Q) : tOp (fun x y H Q => y = .non ∧ rCmp M f x y H Q) (tE M cl E A) (tC .non) σ H Q := by
  obtain ⟨a0, t, h, x, k, rr, At0, eq, p⟩ := h
  exact ⟨a0, t, h, x, _, rr, At0, eq, fun u h1 r1 v1 H1 e1 q1 hs1 eq1 => ⟨rfl, a0, u, .non, h1, _, _, r1, At0.good, eq1, q1, rfl, hs1, fun z => fin_bl (p.ext e1) hs1 z, fun z => fin_bl (p.ext e1) hs1 z⟩⟩
theorem ptc_isN {j pos'} (ha : PE X a (tE M cl E A)) : PT X (.Compare a [.Is] [.Constant .none j pos'] pos) (tT M cl E (cN tbIsN A)) := PT.imp (pt_cmpR ot_isN' ha pe_non (nomark _)) fun _ _ _ h => n_im h
theorem ptc_notN {j pos'} (ha : PE X a (tE M cl E A)) : PT X (.Compare a [.IsNot] [.Constant .none j pos'] pos) (tT M cl E (cN tbNotN A)) := PT.imp (pt_cmpR ot_notN' ha pe_non (nomark _)) fun _ _ _ h => n_im h
theorem pec_isN {j pos'} (ha : PE X a (tE M cl E A)) : PE X (.Compare a [.Is] [.Constant .none j pos'] pos) (tE M cl E (cVal (cN tbIsN A))) := PE.imp (pe_cmpR ot_isN' ha pe_non (nomark _)) fun _ _ _ h => n_imE h
theorem pec_notN {j pos'} (ha : PE X a (tE M cl E A)) : PE X (.Compare a [.IsNot] [.Constant .none j pos'] pos) (tE M cl E (cVal (cN tbNotN A))) := PE.imp (pe_cmpR ot_notN' ha pe_non (nomark _)) fun _ _ _ h => n_imE h
/-- what a test by in comes to -/
theorem in_ok (f : Good X M) {pins : List (Addr × Obj)} {s : Shared} {σ : St} {H : Hp} {r : Rg} {x y : V} {vx vy : Value} {u w : W} {h : EH} {t e a0 : Ans} {E' : Value → Shared → Prop} (I : Inv X pins σ H s) (rx : RelV x vx) (ry : RelV y vy) (ha : a0 ≠ .bad)
    (qu : RelW M.K M.g r H u x) (qw : RelW M.K M.g r H w y) (hs : HSim M r H h) (eq : tbIn u w h t e = a0) : ∃ (b : Bool) (tk : Nat), ((b = true ∧ t = a0) ∨ (b = false ∧ e = a0)) ∧
    (∀ Q : Value → Shared → Prop, Q (.bool b) { s with toks := tk } → wpAny (model X.prog X.w) X.A (compareOp .In vx vy) Q E' s) ∧ (∀ Q : Value → Shared → Prop, Q (.bool (!b)) { s with toks := tk } → wpAny (model X.prog X.w) X.A (compareOp .NotIn vx vy) Q E' s) := by
  have seq : ∀ (ws : List W), SeqV M r H ws y → seqIn u ws t e = a0 → ∃ (b : Bool) (tk : Nat), ((b = true ∧ t = a0) ∨ (b = false ∧ e = a0)) ∧
    (∀ Q : Value → Shared → Prop, Q (.bool b) { s with toks := tk } → wpAny (model X.prog X.w) X.A (compareOp .In vx vy) Q E' s) ∧ (∀ Q : Value → Shared → Prop, Q (.bool (!b)) { s with toks := tk } → wpAny (model X.prog X.w) X.A (compareOp .NotIn vx vy) Q E' s) := fun ws hw eq => by
    obtain ⟨d1, d2, p1, p2⟩ := seqIn_ok ha eq
    obtain ⟨q1, q2⟩ := in_seq (E' := E') (by have := f.un; omega) I rx ry f.toFits qu hw d1 d2
    refine ⟨_, s.toks, ?_, q1, q2⟩
    cases z : (toDs ws).any fun z => PyData.eqv z (toD u) with
    | true => exact .inl ⟨rfl, p1 z⟩
    | false => exact .inr ⟨rfl, p2 z⟩
  rcases ixW_ok ha hs qw eq with ⟨ws, p, vs, e1, z, t1, l, e2⟩ | ⟨ws, p, vs, e1, z, t1, l, e2⟩ | ⟨n, p, kvs, xs, _, e1, e0, z, t1, l, e2⟩
  · exact seq ws ⟨z, p, vs, e1, .inl t1.sq, l⟩ e2
  · exact seq ws ⟨z, p, vs, e1, .inr t1, l⟩ e2
  · obtain ⟨ka, key, e3, e4, e5, e6⟩ := key_of (f := fun _ => .bad) ha qu e2
    subst e1 e3
    cases rx
    cases ry
    obtain ⟨hS, hm⟩ := dct_of I f.toFits t1 l
    have hk := key_is I f.toFits qu e4 e5
    refine ⟨(atKey xs key).isSome, _, ?_, fun Q q => wpAny_in_heap f.room hk hS hm q, fun Q q => ?_⟩
    · rcases lookD_ok e4 l e6 with ⟨ka', u', v', w', e7, e8, e9, e10⟩ | ⟨e7, e8⟩
      · exact .inl ⟨by rw [e7]; rfl, e10⟩
      · exact .inr ⟨by rw [e7]; rfl, e8⟩
    · show wpAny _ _ (do return .bool (!(← contains (.ref p) (.ref ka)))) Q E' s
      exact wpAny_bind (wpAny_contains_heap f.room hk hS hm (wpAny_pure q))
theorem ots_in (f : Good X M) : OpR X (compareOp .In) (rCmp M tbIn) := by
  intro pins s σ H x y v u0 Q I rx ry hr
  obtain ⟨a0, u, w, h, t, e, r, ha, eq, qu, qw, hs, pt, pf⟩ := hr
  obtain ⟨b, tk, h1, h2, _⟩ := in_ok (E' := X.xe) f I rx ry ha qu qw hs eq
  refine h2 _ ⟨.bl b, H, I.tok _, rfl, ?_⟩
  rcases h1 with ⟨rfl, z⟩ | ⟨rfl, z⟩
  · exact pt z
  · exact pf z
theorem ots_nin (f : Good X M) : OpR X (compareOp .NotIn) (rCmp M tbNin) := by
  intro pins s σ H x y v u0 Q I rx ry hr
  obtain ⟨a0, u, w, h, t, e, r, ha, eq, qu, qw, hs, pt, pf⟩ := hr
  obtain ⟨b, tk, h1, _, h2⟩ := in_ok (E' := X.xe) f I rx ry ha qu qw hs eq
  refine h2 _ ⟨.bl (!b), H, I.tok _, rfl, ?_⟩
  rcases h1 with ⟨rfl, z⟩ | ⟨rfl, z⟩
  · exact pf z
  · exact pt z
end

/-! ### storing at an index -/
def lenD (kvs : List (W × W)) (k : Ans) : Ans := cB (Nat.ble (List.rec (motive := fun _ => Nat) 0 (fun _ _ ih => Nat.succ ih) kvs) 16777216) k .bad
theorem lenD_ok {kvs : List (W × W)} {k a : Ans} (ha : a ≠ .bad) (h : lenD kvs k = a) : kvs.length ≤ 16777216 ∧ k = a := by
  have e0 : ∀ l : List (W × W), (List.rec (motive := fun _ => Nat) 0 (fun _ _ ih => Nat.succ ih) l : Nat) = l.length := by
    intro l
    induction l with
    | nil => rfl
    | cons x l ih => exact congrArg Nat.succ ih
  rcases cB_ok h with ⟨e, h⟩ | ⟨_, h⟩
  · rw [e0] at e
    exact ⟨Nat.le_of_ble_eq_true e, h⟩
  · exact absurd h.symm ha
def wrC (h : EH) (n : Nat) (o : MO) (k : EH → Ans) : Ans := BT.insC h.t n o fun t => k ⟨h.n, t⟩
/-- a list, a dict that may be written -/
def cMW (o : MO) (fl : List W → Ans) (fd : List (W × W) → Ans) : Ans := MO.rec (motive := fun _ => Ans) fl (fun _ _ => .bad) fd (fun _ => .bad) (fun _ => .bad) o
def fSet (uo ui uv : W) (h : EH) (k : EH → Ans) : Ans := cRef uo fun n => BT.getC h.t n fun o => cMW o (fun ws => cI ui fun i => plcC (lenN ws) i fun j => setC ws j uv fun ws' => wrC h n (.lst ws') k)
  (fun kvs => cTup ui fun _ => cB (keyB ui 8) (storeD kvs ui uv fun kvs' => lenD kvs' (wrC h n (.dct kvs') k)) .bad)
def PostH (M : Mo) (r : Rg) (H : Hp) (a : Ans) (k : EH → Ans) (Q : Hp → Prop) : Prop := ∀ h' r' H', Ext r H r' H' → HSim M r' H' h' → k h' = a → Q H'
theorem PostH.ext {M : Mo} {r r' : Rg} {H H' : Hp} {a : Ans} {k : EH → Ans} {Q : Hp → Prop} (e : Ext r H r' H') (p : PostH M r H a k Q) : PostH M r' H' a k Q := fun h' r2 H2 e2 => p h' r2 H2 (e.trans e2)
def rSet (M : Mo) (f : W → W → W → EH → (EH → Ans) → Ans) : TSet := fun o i v H Q => ∃ a uo ui uv h k r, a ≠ Ans.bad ∧ f uo ui uv h k = a ∧ RelW M.K M.g r H uo o ∧ RelW M.K M.g r H ui i ∧ RelW M.K M.g r H uv v ∧ HSim M r H h ∧ PostH M r H a k Q
/-- an object is written -/
theorem wr_ok {M : Mo} {r : Rg} {H : Hp} {h : EH} {n : Nat} {p : Addr} {o : MO} {k : EH → Ans} {a : Ans} {u : HO} {Q : Hp → Prop} (ha : a ≠ .bad) (x : HSim M r H h) (hn : NFrz H p) (e : r.l[n]? = some p) (ok : MOk M r (upd H p u) p o) (P : PostH M r H a k Q) (q : wrC h n o k = a) : Q (upd H p u) := by
  obtain ⟨t', e1, e2⟩ := BT.insC_ok ha q
  exact P _ _ _ (x.mutE hn (List.mem_of_getElem? e)) (x.set hn e e1 ok) e2
theorem dctO_ok {P : Program} {w : World} {H : Hp} {h : Heap} {a : Addr} {xs : List DEnt} (hS : (a == sysModules) = false) (hm : h.DictOfH (nestedKind P w) a xs) : ObjOk P w H h a (DctO P w a xs) := by
  obtain ⟨o, es, ep, h1, h2, h3, h4, h5, h6⟩ := hm
  refine ⟨⟨hS, o, es, ep, h1, h2, h3, h4, h6⟩, ⟨o, h1⟩, fun ha hb ⟨q0, o', es', ep', q1, q2, q3, q4, q5⟩ st => ⟨q0, o', es', ep', st _ q1, q2, q3, q4, q5⟩⟩
section
variable {X : Cx} {M : Mo} {cl : Cl} {E : XK} {a b e : Expr} {es : List Expr} {A B C : Code} {L : LCode} {pos p1 : Pos}
theorem pset_all (f : Good X M) : PSet X (rSet M fSet) := by
  intro pins s σ H o i v ov iv u Q I ro ri rv hr
  obtain ⟨a0, uo, ui, uv, h, k, r, ha, eq, qo, qi, qv, hs, P⟩ := hr
  obtain ⟨n, e1, eq⟩ := cRef_ok ha eq
  subst e1
  obtain ⟨p, e2, e3⟩ := (show ∃ a, o = .ref a ∧ r.l[n]? = some a from qo)
  obtain ⟨ob, ok, e4⟩ := hs.at ha e3 eq
  have hm := List.mem_of_getElem? e3
  cases ob with
  | lst ws =>
    obtain ⟨z, vs, e5, e6⟩ := ok
    have hn : NFrz H p := NFrz.of e5 fun _ _ z => nomatch z
    obtain ⟨j, e7, e4⟩ := cI_ok ha e4
    subst e7
    obtain ⟨m, e8, e9⟩ := plcC_ok ha e4
    obtain ⟨e10, e11⟩ := setC_ok ha e8
    rw [lenN_eq] at e9
    have e12 := e9 e10
    rw [e6.length] at e12
    refine set_list pins s σ H o i v ov iv u Q I ro ri rv ⟨p, vs, j, m, e2, qi, e5, e12, ?_⟩
    exact wr_ok (o := .lst _) (u := .lst (vs.set m v)) ha hs hn e3 ⟨by rw [List.length_set]; exact z, vs.set m v, upd_same, (e6.ext (hs.mutE hn hm)).set (qv.ext (hs.mutE hn hm)) m⟩ P e11
  | dct kvs =>
    obtain ⟨z, xs, e5, e6⟩ := ok
    have hn : NFrz H p := NFrz.of e5 fun _ _ z => by unfold DctO at z; cases z
    obtain ⟨ka, key, e7, e8, e9, e10⟩ := key_of (f := fun _ => .bad) ha qi e4
    subst e2 e7
    cases ro
    cases ri
    obtain ⟨hS, hd⟩ := dct_of I f.toFits (.inl e5) e6
    have hk := key_is I f.toFits qi e8 e9
    have nd : (xs.map (·.1)).Nodup := by
      obtain ⟨_, _, _, _, _, _, _, _, q⟩ := hd
      exact q
    have hl : kvs.length = xs.length := by
      have : ∀ {kvs : List (W × W)} {xs : List DEnt}, RelD M r H kvs xs → kvs.length = xs.length := by
        intro kvs
        induction kvs with
        | nil => intro xs q; rw [show xs = [] from q]; rfl
        | cons kv q ih =>
          intro xs hx
          obtain ⟨_, _, _, _, ys, e, _, _, _, _, _, hy⟩ := hx
          rw [e, List.length_cons, List.length_cons, ih hy]
      exact this e6
    obtain ⟨kvs', e11, _, e12⟩ := storeD_ok e8 e9 qi rv qv e6 nd e10
    obtain ⟨e13, e14⟩ := lenD_ok ha e12
    refine wpAny_setItem_heap (hsz := by rw [sizeLine_eq, ← hl]; exact z) f.room hk hd fun h' hm' hsb => ?_
    have I' : Inv X pins σ (upd H p (DctO X.prog X.w p (storedH xs key ka u))) { s with heap := h', toks := s.toks + (nestedKind X.prog X.w).draws key } :=
      I.write (t' := s.toks + (nestedKind X.prog X.w).draws key) (by rw [e5]; exact True.intro) (.inl rfl) (fun b ob hb q => (hsb.2 b hb).trans q) (let ⟨o, _, _, q, _⟩ := hm'; ⟨o, q⟩) (dctO_ok hS hm')
    refine ⟨_, I', ?_⟩
    exact wr_ok (o := .dct _) (u := DctO X.prog X.w p (storedH xs key ka u)) ha hs hn e3 ⟨e13, _, by rw [upd_same, f.P, f.w], e11.ext (hs.mutE hn hm)⟩ P e14
  | ins c fs => exact absurd (show Ans.bad = a0 from e4).symm ha
  | fdc kvs => exact absurd (show Ans.bad = a0 from e4).symm ha
  | flc ws => exact absurd (show Ans.bad = a0 from e4).symm ha

/-! ### methods of lists, of dicts -/
abbrev MCode := Nat → List W → EH → K1 → Ans
def rM (M : Mo) (f : MCode) : V → List V → Hp → VK → Prop := fun x xs H Q => ∃ a n ws h k r p, a ≠ Ans.bad ∧ f n ws h k = a ∧ x = .ref p ∧ r.l[n]? = some p ∧ RelWs M.K M.g r H ws xs ∧ HSim M r H h ∧ Post M r H a k Q
def cMtL (f : MCode) (A : Code) (L : LCode) : Code := fun c s h x k => A c s h x fun u h => cRef u fun n => BT.getC h.t n fun o => cMl o fun _ => L c s h x fun ws h => f n ws h k
def cMtD (f : MCode) (A : Code) (L : LCode) : Code := fun c s h x k => A c s h x fun u h => cRef u fun n => BT.getC h.t n fun o => cMd o fun _ => L c s h x fun ws h => f n ws h k
theorem MtR.imp {id : String} {r r' : V → List V → Hp → VK → Prop} (h : MtR X id r) (i : ∀ x xs H Q, r' x xs H Q → r x xs H Q) : MtR X id r' := fun pins s σ H x xs v us Q I rx rxs q => h pins s σ H x xs v us Q I rx rxs (i x xs H Q q)
theorem mt_imL {f : MCode} {σ : St} {H : Hp} {Q : VK} (h : tE M cl E (cMtL f A L) σ H Q) : tBM X.K "list" (rM M f) (tE M cl E A) (tAL M cl E L) σ H Q := by
  obtain ⟨a0, t, h, x, k, r, At0, eq, P⟩ := h
  refine ⟨a0, t, h, x, _, r, At0, eq, fun u h1 r1 v1 H1 e1 q1 hs1 eq1 => ?_⟩
  obtain ⟨n, e2, eq2⟩ := cRef_ok At0.good eq1
  subst e2
  obtain ⟨p, e3, e4⟩ := (show ∃ a, v1 = .ref a ∧ r1.l[n]? = some a from q1)
  obtain ⟨ob, ok, eq3⟩ := hs1.at At0.good e4 eq2
  obtain ⟨ws, e5, eq4⟩ := cMl_ok At0.good eq3
  subst e5 e3
  obtain ⟨z, vs, e6, e7⟩ := ok
  refine ⟨.inl ⟨rfl, vs, SqL.of e6⟩, a0, t, h1, x, _, r1, At0.ext e1 hs1, eq4, fun us h2 r2 xs H2 e8 q2 hs2 eq5 => ?_⟩
  exact ⟨a0, n, us, h2, k, r2, p, At0.good, eq5, rfl, e8.at e4, q2, hs2, P.ext (e1.trans e8)⟩
theorem mt_imL0 {f : MCode} {σ : St} {H : Hp} {Q : VK} (h : tE M cl E (cMtL f A aNil) σ H Q) : tBM0 X.K "list" (rM M f) (tE M cl E A) σ H Q := by
  obtain ⟨a0, t, h, x, k, r, At0, eq, P⟩ := h
  refine ⟨a0, t, h, x, _, r, At0, eq, fun u h1 r1 v1 H1 e1 q1 hs1 eq1 => ?_⟩
  obtain ⟨n, e2, eq2⟩ := cRef_ok At0.good eq1
  subst e2
  obtain ⟨p, e3, e4⟩ := (show ∃ a, v1 = .ref a ∧ r1.l[n]? = some a from q1)
  obtain ⟨ob, ok, eq3⟩ := hs1.at At0.good e4 eq2
  obtain ⟨ws, e5, eq4⟩ := cMl_ok At0.good eq3
  subst e5 e3
  obtain ⟨z, vs, e6, e7⟩ := ok
  exact ⟨.inl ⟨rfl, vs, SqL.of e6⟩, a0, n, [], h1, k, r1, p, At0.good, eq4, rfl, e4, rfl, hs1, P.ext e1⟩
theorem pec_mtL {name : Str} {id : String} {f : MCode} {apos cpos : Pos} (pa : PlainAttrs "list") (slot : Slot "list" name id) (hty : typeOf (.builtin id) = pure (.type "method_descriptor")) (hm : MtR X id (rM M f)) (ho : PE X a (tE M cl E A)) (ha : PA X (e :: es) (tAL M cl E L))
    (hbase : attributeBase a name X.env (eval a X.env) = eval a X.env := by rfl)
    (hfew : ((backTo cpos (starEach (e :: es) X.env)).all (fun x => !x.1) && (backToKw cpos (keywordEach [] X.env)).all (fun x => x.1.isSome) && decide ((e :: es).length + ([] : List Keyword).length + (if ([] : List Keyword).isEmpty then 0 else 1) < 30)) = true := by rfl)
    (hline : (apos.endLine == cpos.line) = true := by rfl) (hs : starEach (e :: es) X.env = (false, eval e X.env) :: starEach es X.env := by rfl) (hplain : (backTo cpos (starEach es X.env)).any (·.1) = false := by rfl) :
    PE X (.Call (.Attribute a name apos) (e :: es) [] cpos) (tE M cl E (cMtL f A L)) := PE.imp (pe_bm pa slot hty hm ho ha hbase hfew hline hs hplain) fun _ _ _ h => mt_imL h
theorem pec_mtL0 {name : Str} {id : String} {f : MCode} {apos cpos : Pos} (pa : PlainAttrs "list") (slot : Slot "list" name id) (hty : typeOf (.builtin id) = pure (.type "method_descriptor")) (hm : MtR X id (rM M f)) (ho : PE X a (tE M cl E A))
    (hbase : attributeBase a name X.env (eval a X.env) = eval a X.env := by rfl) (hline : (apos.endLine == cpos.line) = true := by rfl) :
    PE X (.Call (.Attribute a name apos) [] [] cpos) (tE M cl E (cMtL f A aNil)) := PE.imp (pe_bm0 pa slot hty hm ho hbase hline) fun _ _ _ h => mt_imL0 h
def fApp : MCode := fun n us h k => c1 us fun w => BT.getC h.t n fun o => cMl o fun ws => appC ws [w] fun l => lenC l (wrC h n (.lst l) fun h => k .non h)
def fExt : MCode := fun n us h k => c1 us fun w => lstC h w fun zs => BT.getC h.t n fun o => cMl o fun ws => appC ws zs fun l => lenC l (wrC h n (.lst l) fun h => k .non h)
def fPop : MCode := fun n us h k => List.rec (motive := fun _ => Ans) (BT.getC h.t n fun o => cMl o fun ws => revC ws [] fun l => List.rec (motive := fun _ => Ans) .bad (fun w t _ => revC t [] fun q => wrC h n (.lst q) fun h => k w h) l) (fun _ _ _ => .bad) us
theorem Post.non {r : Rg} {H : Hp} {a : Ans} {k : K1} {Q : VK} (P : Post M r H a k Q) : PostH M r H a (fun h => k .non h) (fun H' => Q .non H') := fun h' r' H' e hs q => P .non h' r' .non H' e rfl hs q
theorem mtm_append : MtR X "list.append" (rM M fApp) := MtR.imp (mt_append) fun x xs H Q ⟨a, n, us, h, k, r, p, ha, eq, ex, en, qs, hs, P⟩ => by
  obtain ⟨w, e1, eq1⟩ := c1_ok ha eq
  subst e1
  obtain ⟨y, e2, qy⟩ := rel1 qs
  obtain ⟨ob, ok, eq2⟩ := hs.at ha en eq1
  obtain ⟨ws, e3, eq3⟩ := cMl_ok ha eq2
  subst e3
  obtain ⟨z, vs, e6, e7⟩ := ok
  rw [appC_eq] at eq3
  obtain ⟨hl, eq4⟩ := lenC_ok ha eq3
  have hm := List.mem_of_getElem? en
  have hn : NFrz H p := NFrz.of e6 fun _ _ z => nomatch z
  refine ⟨p, vs, y, ex, e2, e6, by rw [sizeLine_eq, ← e7.length]; simp at hl; omega, ?_⟩
  exact wr_ok (o := .lst _) (u := .lst (vs ++ [y])) ha hs hn en ⟨hl, vs ++ [y], upd_same, (e7.ext (hs.mutE hn hm)).append ⟨y, [], rfl, qy.ext (hs.mutE hn hm), rfl⟩⟩ P.non eq4
theorem mtm_extend : MtR X "list.extend" (rM M fExt) := MtR.imp (mt_extend) fun x xs H Q ⟨a, n, us, h, k, r, p, ha, eq, ex, en, qs, hs, P⟩ => by
  obtain ⟨w, e1, eq1⟩ := c1_ok ha eq
  subst e1
  obtain ⟨y, e2, qy⟩ := rel1 qs
  obtain ⟨zs, z2, p2, vs2, f1, f2, f3, eq1'⟩ := lstC_ok ha hs qy eq1
  obtain ⟨ob, ok, eq2⟩ := hs.at ha en eq1'
  obtain ⟨ws, e3, eq3⟩ := cMl_ok ha eq2
  subst e3
  obtain ⟨z, vs, e6, e7⟩ := ok
  rw [appC_eq] at eq3
  obtain ⟨hl, eq4⟩ := lenC_ok ha eq3
  have hm := List.mem_of_getElem? en
  have hn : NFrz H p := NFrz.of e6 fun _ _ z => nomatch z
  refine ⟨p, p2, vs, vs2, ex, by rw [e2, f1], e6, f2, by rw [sizeLine_eq, ← e7.length, ← f3.length]; rw [List.length_append] at hl; exact hl, ?_⟩
  exact wr_ok (o := .lst _) (u := .lst (vs ++ vs2)) ha hs hn en ⟨hl, vs ++ vs2, upd_same, (e7.ext (hs.mutE hn hm)).append (f3.ext (hs.mutE hn hm))⟩ P.non eq4
theorem mtm_pop : MtR X "list.pop" (rM M fPop) := MtR.imp (mt_pop) fun x xs H Q ⟨a, n, us, h, k, r, p, ha, eq, ex, en, qs, hs, P⟩ => by
  cases us with
  | cons _ _ => exact absurd (show Ans.bad = a from eq).symm ha
  | nil =>
    obtain ⟨ob, ok, eq2⟩ := hs.at ha en eq
    obtain ⟨ws, e3, eq3⟩ := cMl_ok ha eq2
    subst e3
    obtain ⟨z, vs, e6, e7⟩ := ok
    rw [revC_eq, List.append_nil] at eq3
    have hm := List.mem_of_getElem? en
    have hn : NFrz H p := NFrz.of e6 fun _ _ z => nomatch z
    generalize hr : ws.reverse = rv at eq3
    cases rv with
    | nil => exact absurd (show Ans.bad = a from eq3).symm ha
    | cons w t =>
      have eq4 : revC t [] (fun q => wrC h n (.lst q) fun h => k w h) = a := eq3
      rw [revC_eq, List.append_nil] at eq4
      have hw : ws = t.reverse ++ [w] := by
        have := congrArg List.reverse hr
        simpa using this
      subst hw
      have hlast : (t.reverse ++ [w])[vs.length - 1]? = some w := by
        rw [← e7.length]
        simp
      obtain ⟨y, e8, e9⟩ := e7.get hlast
      have hd : RelWs M.K M.g r H t.reverse vs.dropLast := by
        have := e7.take t.reverse.length
        rw [List.take_left'] at this
        · have e10 : vs.take t.reverse.length = vs.dropLast := by
            rw [List.dropLast_eq_take, ← e7.length]
            congr 1
            simp
          rw [e10] at this
          exact this
        · rfl
      refine ⟨p, vs, y, ex, show xs = [] from qs, e6, e8, ?_⟩
      exact wr_ok (o := .lst _) (u := .lst vs.dropLast) (Q := fun H' => Q y H') ha hs hn en ⟨by rw [List.length_append] at z; omega, vs.dropLast, upd_same, hd.ext (hs.mutE hn hm)⟩ (fun h' r' H' e hs' q => P w h' r' y H' e (e9.ext e) hs' q) eq4
end
end Eng
end
end

section
set_option maxRecDepth 100000
set_option maxHeartbeats 4000000
/-! Engine, part L: statements and loops. -/
noncomputable section
namespace Eng
open PySem PySem.Spec L2
open PyProof.Rows hiding St

/-! ### small statements -/
def scNil : SCode := fun _ s h _ n _ _ _ => n s h
def scSeq (A B : SCode) : SCode := fun c s h x n k b ct => A c s h x (fun s h => B c s h x n k b ct) k b ct
def scPass : SCode := scNil
def scBrk : SCode := fun _ s h _ _ _ b _ => b s h
def scCont : SCode := fun _ s h _ _ _ _ ct => ct s h
def scE (A : Code) : SCode := fun c s h x n _ _ _ => A c s h x fun _ h => n s h
def scRet (A : Code) : SCode := fun c s h x _ k _ _ => A c s h x k
def scRetN : SCode := fun _ _ h _ _ k _ _ => k .non h
def scIf (T : TCode) (A B : SCode) : SCode := fun c s h x n k b ct => T c s h x (fun h => A c s h x n k b ct) (fun h => B c s h x n k b ct)
section
variable {X : Cx} {M : Mo} {cl : Cl} {E : XK} {a b e : Expr} {es : List Expr} {A B C : Code} {L : LCode} {S S' : SCode} {T : TCode} {pos p1 : Pos} {st : Stmt} {sts sts' : List Stmt}
theorem PSs.impI {e : List Stmt} {t t' : TS} (h : PSs X e t) (i : ∀ pins s D σ H, Inv X pins σ H s → t' D σ H → t D σ H) : PSs X e t' := ⟨fun pins s σ H D I q => h.run pins s σ H D I (i pins s D σ H I q)⟩
theorem PS.impI {e : Stmt} {t t' : TS} (h : PS X e t) (i : ∀ pins s D σ H, Inv X pins σ H s → t' D σ H → t D σ H) : PS X e t' := ⟨fun pins s σ H D I q => h.run pins s σ H D I (i pins s D σ H I q)⟩
theorem PG.impI {e : Expr} {t t' : TG} (h : PG X e t) (i : ∀ pins s v σ H Q, Inv X pins σ H s → t' v σ H Q → t v σ H Q) : PG X e t' := ⟨fun pins s σ H v u Q I r q => h.run pins s σ H v u Q I r (i pins s v σ H Q I q)⟩
theorem sc_next {D : Ends} {σ : St} {H : Hp} (h : tSt M cl E scNil D σ H) : D.nx σ H := by
  obtain ⟨a, t, hh, x, n, k, b, c, r, A, eq, pn, _⟩ := h
  exact pn _ _ _ _ _ Ext.refl A.ss rfl A.hs eq
theorem psc_nil : PSs X [] (tSt M cl E scNil) := PSs.imp pss_nil fun _ _ _ h => sc_next h
theorem psc_pass : PS X (.Pass pos) (tSt M cl E scPass) := PS.imp ps_pass fun _ _ _ h => sc_next h
theorem psc_doc {x j pos'} : PS X (.Expr (.Constant (.str x) j pos) pos') (tSt M cl E scPass) := PS.imp ps_doc fun _ _ _ h => sc_next h
theorem psc_brk : PS X (.Break pos) (tSt M cl E scBrk) := PS.imp ps_break fun D σ H ⟨a, t, hh, x, n, k, b, c, r, A, eq, pn, pr, pb, pc⟩ => pb _ _ _ _ _ Ext.refl A.ss rfl A.hs eq
theorem psc_cont : PS X (.Continue pos) (tSt M cl E scCont) := PS.imp ps_continue fun D σ H ⟨a, t, hh, x, n, k, b, c, r, A, eq, pn, pr, pb, pc⟩ => pc _ _ _ _ _ Ext.refl A.ss rfl A.hs eq
theorem psc_cons (h1 : PS X st (tSt M cl E S)) (h2 : PSs X sts (tSt M cl E S')) : PSs X (st :: sts) (tSt M cl E (scSeq S S')) :=
  PSs.imp (pss_cons h1 h2) fun D σ H ⟨a, t, hh, x, n, k, b, c, r, A, eq, pn, pr, pb, pc⟩ => by
    refine ⟨a, t, hh, x, _, k, b, c, r, A, eq, fun t1 h1 r1 σ1 H1 e1 ss1 l1 hs1 eq1 => ?_, pr, pb, pc⟩
    exact ⟨a, t1, h1, x, n, k, b, c, r1, ⟨A.good, ss1, hs1, A.px.ext e1⟩, eq1, by rw [l1]; exact pn.ext e1, pr.ext e1, by rw [l1]; exact pb.ext e1, by rw [l1]; exact pc.ext e1⟩
theorem psc_one (h1 : PS X st (tSt M cl E S)) : PSs X [st] (tSt M cl E S) := pss_one h1
theorem psc_expr (he : PE X e (tE M cl E A)) (hs : swapsWith e none pos.line X.env = pure false := by rfl) : PS X (.Expr e pos) (tSt M cl E (scE A)) :=
  PS.imp (ps_expr he hs) fun D σ H ⟨a, t, hh, x, n, k, b, c, r, A, eq, pn, pr, pb, pc⟩ => ⟨a, t, hh, x, _, r, A, eq, fun w h1 r1 v1 H1 e1 q1 hs1 eq1 => pn _ _ _ _ _ e1 (A.ss.ext e1) rfl hs1 eq1⟩
theorem psc_ret (he : PE X e (tE M cl E A)) : PS X (.Return (some e) pos) (tSt M cl E (scRet A)) :=
  PS.imp (ps_ret he) fun D σ H ⟨a, t, hh, x, n, k, b, c, r, A, eq, pn, pr, pb, pc⟩ => ⟨a, t, hh, x, k, r, A, eq, pr⟩
theorem psc_retN : PS X (.Return none pos) (tSt M cl E scRetN) :=
  PS.imp ps_retN fun D σ H ⟨a, t, hh, x, n, k, b, c, r, A, eq, pn, pr, pb, pc⟩ => fin_non pr A.hs eq
theorem psc_if {c : Expr} (hc : PT X c (tT M cl E T)) (ha : PSs X sts (tSt M cl E S)) (hb : PSs X sts' (tSt M cl E S')) : PS X (.If c sts sts' pos) (tSt M cl E (scIf T S S')) :=
  PS.imp (ps_if hc ha hb) fun D σ H ⟨a, t, hh, x, n, k, b, c, r, A, eq, pn, pr, pb, pc⟩ => by
    refine ⟨a, t, hh, x, _, _, r, A, eq, fun h1 r1 H1 e1 hs1 eq1 => ?_, fun h1 r1 H1 e1 hs1 eq1 => ?_⟩
    · exact itT ⟨a, t, h1, x, n, k, b, c, r1, A.ext e1 hs1, eq1, pn.ext e1, pr.ext e1, pb.ext e1, pc.ext e1⟩
    · exact itF ⟨a, t, h1, x, n, k, b, c, r1, A.ext e1 hs1, eq1, pn.ext e1, pr.ext e1, pb.ext e1, pc.ext e1⟩

/-! ### targets -/
abbrev GCode := W → Cl → S4 → EH → KX → KN → Ans
def tG (M : Mo) (cl : Cl) (E : XK) (C : GCode) : TG := fun v σ H Q => ∃ a w t h x k r, At M E a t h x r σ H ∧ RelW M.K M.g r H w v ∧ C w cl t h x k = a ∧ PostN M r H a k Q σ.length
def gcName (g : Stt) : GCode := fun w _ s h _ k => g w s fun s => k s h
abbrev GsCode := List W → Cl → S4 → EH → KX → KN → Ans
def tGs (M : Mo) (cl : Cl) (E : XK) (C : GsCode) : TGs := fun vs σ H Q => ∃ a ws t h x k r, At M E a t h x r σ H ∧ RelWs M.K M.g r H ws vs ∧ C ws cl t h x k = a ∧ PostN M r H a k Q σ.length
def gcNil : GsCode := fun ws _ s h _ k => List.rec (motive := fun _ => Ans) (k s h) (fun _ _ _ => .bad) ws
def gcCons (G : GCode) (Gs : GsCode) : GsCode := fun ws c s h x k => List.rec (motive := fun _ => Ans) .bad (fun w ws _ => G w c s h x fun s h => Gs ws c s h x k) ws
def gcTup (n : Nat) (Gs : GsCode) : GCode := fun w c s h x k => cTup w fun ws => cB (Nat.beq (lenN ws) n) (Gs ws c s h x k) .bad
def gcSub (A B : Code) : GCode := fun w c s h x k => A c s h x fun uo h => B c s h x fun ui h => fSet uo ui w h fun h => k s h
variable {g g' : TG} {G G' : GCode} {Gs : GsCode}
theorem pgc_name {i : Nat} {x : Str} {pos : Pos} (hN : X.N.Nodup) (hi : X.N[i]? = some x) (hx : Loc X.env.scope x) (hf : X.fn x = true ∨ X.env.scope.names.lookup x = some .local := by first | exact .inl rfl | exact .inr rfl | assumption) : PG X (.Name x pos) (tG M cl E (gcName (sI i))) :=
  PG.impI (pg_name hN hi hx hf) fun pins s v σ H Q I ⟨a, w, t, h, x, k, r, A, q, eq, P⟩ => by
    have hl : i < σ.length := by rw [I.len]; exact (List.getElem?_eq_some_iff.mp hi).1
    exact P _ _ _ _ _ Ext.refl (A.ss.set hl q) (by rw [List.length_set]) A.hs (sI_ok A.good i w t _ eq)
theorem PGs.imp {ts : List Expr} {t t' : TGs} (h : PGs X ts t) (i : ∀ vs σ H Q, t' vs σ H Q → t vs σ H Q) : PGs X ts t' := ⟨fun pins s σ H vs us Q I r q => h.run pins s σ H vs us Q I r (i vs σ H Q q)⟩
theorem pgsc_nil : PGs X [] (tGs M cl E gcNil) := PGs.imp pgs_nil fun vs σ H Q ⟨a, ws, t, h, x, k, r, A, q, eq, P⟩ => by
  cases ws with
  | nil => exact ⟨q, P _ _ _ _ _ Ext.refl A.ss rfl A.hs eq⟩
  | cons _ _ => exact absurd (show Ans.bad = a from eq).symm A.good
theorem pgsc_cons (h1 : PG X e (tG M cl E G)) (h2 : PGs X es (tGs M cl E Gs)) (hs : (assignEach (e :: es) X.env).map (·.2) = assign e X.env :: (assignEach es X.env).map (·.2) := by rfl) : PGs X (e :: es) (tGs M cl E (gcCons G Gs)) := PGs.imp (pgs_cons h1 h2 hs) fun vs σ H Q ⟨a, ws, t, h, x, k, r, A, q, eq, P⟩ => by
  cases ws with
  | nil => exact absurd (show Ans.bad = a from eq).symm A.good
  | cons w ws =>
    obtain ⟨v, vr, ev, q1, q2⟩ := (show ∃ v q, vs = v :: q ∧ RelW M.K M.g r H w v ∧ RelWs M.K M.g r H ws q from q)
    refine ⟨v, vr, ev, a, w, t, h, x, _, r, A, q1, eq, fun t1 h1 r1 σ1 H1 e1 ss1 l1 hs1 eq1 => ?_⟩
    exact ⟨a, ws, t1, h1, x, k, r1, ⟨A.good, ss1, hs1, A.px.ext e1⟩, q2.ext e1, eq1, by rw [l1]; exact P.ext e1⟩
theorem pgc_tup {kk : Nat} {n : Nat} (f : Good X M) (h : PGs X es (tGs M cl E Gs)) (hn : (assignEach es X.env).length = n := by rfl) (hst : (assignEach es X.env).findIdx? (·.1) = none := by rfl) : PG X (.Tuple es kk pos) (tG M cl E (gcTup n Gs)) :=
  PG.impI (pg_tup f.calm h hn hst) fun pins s v σ H Q I ⟨a, w, t, h, x, k, r, A, q, eq, P⟩ => by
    obtain ⟨ws, e1, z, p, vs, e2, tt, l, e3⟩ := cTup_rel A.good q eq
    rcases cB_ok e3 with ⟨e4, e3⟩ | ⟨_, e3⟩
    · rw [lenN_eq] at e4
      exact ⟨p, vs, e2, by rw [← f.K]; exact tt.sq, by rw [← l.length]; exact Nat.eq_of_beq_eq_true e4, a, ws, t, h, x, k, r, A, l, e3, P⟩
    · exact absurd e3.symm A.good
theorem pgc_sub (f : Good X M) {pos : Pos} (ho : PE X a (tE M cl E A)) (hi : PE X b (tE M cl E B))
    (hs : ∀ v, assign (.Subscript a b pos) X.env v = (do let ov ← holding [v] (eval a X.env); let iv ← holding [v, ov] (eval b X.env); standAt pos; holding [v, ov, iv] (setItem ov iv v); release [v, ov, iv] []) := by intro _; rfl) : PG X (.Subscript a b pos) (tG M cl E (gcSub A B)) :=
  PG.impI (pg_sub ho hi (pset_all f) hs) fun pins s v σ H Q I ⟨a, w, t, h, x, k, r, At0, q, eq, P⟩ => by
    refine ⟨a, t, h, x, _, r, At0, eq, fun uo h1 r1 o H1 e1 q1 hs1 eq1 => ⟨a, t, h1, x, _, r1, At0.ext e1 hs1, eq1, fun ui h2 r2 i H2 e2 q2 hs2 eq2 => ?_⟩⟩
    exact ⟨a, uo, ui, w, h2, _, r2, At0.good, eq2, q1.ext e2, q2, q.ext (e1.trans e2), hs2, fun h3 r3 H3 e3 hs3 eq3 => P _ _ _ _ _ ((e1.trans e2).trans e3) (At0.ss.ext ((e1.trans e2).trans e3)) rfl hs3 eq3⟩
def scAsg (A : Code) (G : GCode) : SCode := fun c s h x n _ _ _ => A c s h x fun u h => G u c s h x n
theorem asg_im {D : Ends} {σ : St} {H : Hp} (h : tSt M cl E (scAsg A G) D σ H) : tAsg (tE M cl E A) (tG M cl E G) D σ H := by
  obtain ⟨a, t, hh, x, n, k, b, c, r, A, eq, pn, pr, pb, pc⟩ := h
  exact ⟨a, t, hh, x, _, r, A, eq, fun w h1 r1 v1 H1 e1 q1 hs1 eq1 => ⟨a, w, t, h1, x, n, r1, A.ext e1 hs1, q1, eq1, pn.ext e1⟩⟩
theorem psc_asg {tg : Expr} (he : PE X e (tE M cl E A)) (hg : PG X tg (tG M cl E G)) (hs : swapsWithSole [tg] e pos.line X.env = pure false := by rfl) (hw : swappedStores [tg] e X.env = pure none := by rfl)
    (h1 : (assignEach [tg] X.env).map (·.2) = [assign tg X.env] := by rfl) : PS X (.Assign [tg] e pos) (tSt M cl E (scAsg A G)) := PS.imp (ps_asg he hg hs hw h1) fun _ _ _ h => asg_im h
theorem psc_set {i : Nat} {x : Str} {pos' : Pos} (hN : X.N.Nodup) (hi : X.N[i]? = some x) (hx : Loc X.env.scope x) (he : PE X e (tE M cl E A)) (hs : swapsWith e (some (.Name x pos')) pos.line X.env = pure false := by rfl)
    (hf : X.fn x = true ∨ X.env.scope.names.lookup x = some .local := by first | exact .inl rfl | exact .inr rfl | assumption) : PS X (.Assign [.Name x pos'] e pos) (tSt M cl E (scAsg A (gcName (sI i)))) :=
  PS.impI (ps_set hN hi hx he hs hf) fun pins s D σ H I ⟨a, t, hh, x, n, k, b, c, r, A, eq, pn, pr, pb, pc⟩ => by
    refine ⟨a, t, hh, x, _, r, A, eq, fun w h1 r1 v1 H1 e1 q1 hs1 eq1 => ?_⟩
    have hl : i < σ.length := by rw [I.len]; exact (List.getElem?_eq_some_iff.mp hi).1
    exact pn _ _ _ _ _ e1 ((A.ss.ext e1).set hl q1) (by rw [List.length_set]) hs1 (sI_ok A.good i w t _ eq1)
/-- x, y = a, b -/
def scPar (L : LCode) (i j : Stt) : SCode := fun c s h x n _ _ _ => L c s h x fun ws h => c2 ws fun u w => i u s fun s => j w s fun s => n s h
theorem psc_par {i j : Nat} {x y : Str} {px py pt : Pos} {kt k2 pt2} (f : Good X M) (hN : X.N.Nodup) (hi : X.N[i]? = some x) (hj : X.N[j]? = some y) (hij : i ≠ j) (hx : X.env.scope.names.lookup x = some .local) (hy : X.env.scope.names.lookup y = some .local) (ha : PA X [a, b] (tAL M cl E L))
    (hw : swappedStores [.Tuple [.Name x px, .Name y py] kt pt] (.Tuple [a, b] k2 pt2) X.env = pure (some [x, y])) (hs : swapsWithSole [.Tuple [.Name x px, .Name y py] kt pt] (.Tuple [a, b] k2 pt2) pos.line X.env = pure false := by rfl) :
    PS X (.Assign [.Tuple [.Name x px, .Name y py] kt pt] (.Tuple [a, b] k2 pt2) pos) (tSt M cl E (scPar L (sI i) (sI j))) :=
  PS.impI (ps_par f.calm hN hi hj hij hx hy ha hw hs) fun pins s D σ H I ⟨a, t, hh, x, n, k, b, c, r, A, eq, pn, pr, pb, pc⟩ => by
    refine ⟨a, t, hh, x, _, r, A, eq, fun ws h1 r1 vs H1 e1 q1 hs1 eq1 => ?_⟩
    obtain ⟨u, w, e2, eq2⟩ := c2_ok A.good eq1
    subst e2
    obtain ⟨v, v', e3, q2, q3⟩ := rel2 q1
    have hl : i < σ.length := by rw [I.len]; exact (List.getElem?_eq_some_iff.mp hi).1
    have hl2 : j < (σ.set i (some v)).length := by rw [List.length_set, I.len]; exact (List.getElem?_eq_some_iff.mp hj).1
    have eq3 := sI_ok A.good i u t _ eq2
    have eq4 := sI_ok A.good j w (t.set i u) _ eq3
    exact ⟨v, v', e3, pn _ _ _ _ _ e1 (((A.ss.ext e1).set hl q2).set hl2 q3) (by rw [List.length_set, List.length_set]) hs1 eq4⟩
/-- x op= e -/
def scAug (g : Gt) (st : Stt) (A : Code) (f : BCode) : SCode := fun c s h x n _ _ _ => g s fun w0 => cU w0 (A c s h x fun u h => f w0 u h fun w h => st w s fun s => n s h)
theorem psc_aug {i : Nat} {x : Str} {op : Operator} {f : BCode} {pos' : Pos} (hN : X.N.Nodup) (hi : X.N[i]? = some x) (hx : Loc X.env.scope x) (he : PE X e (tE M cl E A)) (ho : OpR X (inplaceOp op) (rB M f))
    (hf : X.fn x = true ∨ X.env.scope.names.lookup x = some .local := by first | exact .inl rfl | exact .inr rfl | assumption) : PS X (.AugAssign (.Name x pos') op e pos) (tSt M cl E (scAug (gI i) (sI i) A f)) :=
  PS.impI (ps_aug hN hi hx he (show PIp X op (rB M f) from ho) hf) fun pins s D σ H I ⟨a, t, hh, x, n, k, b, c, r, At0, eq, pn, pr, pb, pc⟩ => by
    have eq1 := gI_ok At0.good i t _ eq
    obtain ⟨nu, eq2⟩ := cU_ok At0.good eq1
    obtain ⟨v, e1, e2⟩ := At0.ss i nu
    refine ⟨v, e1, a, t, hh, x, _, r, At0, eq2, fun u h1 r1 y H1 e3 q1 hs1 eq3 => ?_⟩
    refine ⟨a, t.get i, u, h1, _, r1, At0.good, eq3, e2.ext e3, q1, hs1, fun w h2 r2 z H2 e4 q2 hs2 eq4 => ?_⟩
    have hl : i < σ.length := by rw [I.len]; exact (List.getElem?_eq_some_iff.mp hi).1
    exact pn _ _ _ _ _ (e3.trans e4) ((At0.ss.ext (e3.trans e4)).set hl q2) (by rw [List.length_set]) hs2 (sI_ok At0.good i w t _ eq4)
theorem iob_add : OpR X (inplaceOp .Add) (rB M fAdd) := opb_int0 iop_add fun i j k => addC_eq i j k
theorem iob_sub : OpR X (inplaceOp .Sub) (rB M fSub) := opb_int0 iop_sub fun i j k => frI_eq _ k
/-- o[i] op= e -/
def scAugS (A B C : Code) (f : BCode) : SCode := fun c s h x n _ _ _ => A c s h x fun uo h => B c s h x fun ui h => fIx uo ui h fun w0 h => C c s h x fun u h => f w0 u h fun w h => fSet uo ui w h fun h => n s h
theorem pget_all (f : Good X M) : PGet X (rB M fIx) := by
  intro pins s σ H x y v u Q I rx ry hr
  obtain ⟨a0, wu, ww, h, k, r, ha, eq, qu, qw, hsim, P⟩ := hr
  have hn := line63
  rcases ixW_ok ha hsim qu eq with ⟨ws, p, vs, e1, z, t, l, e2⟩ | ⟨ws, p, vs, e1, z, t, l, e2⟩ | ⟨n, p, kvs, xs, _, e1, e0, z, t, l, e2⟩
  · obtain ⟨i, e3, e2⟩ := cI_ok ha e2
    subst e3
    obtain ⟨w, e4, e2⟩ := idxC_ok ha e2
    obtain ⟨v', e5, e6⟩ := atI_rel l e4
    subst e1
    cases rx
    obtain ⟨tk, rfl⟩ := (show ∃ tk, u = Value.int i tk from by rw [show y = .int i from qw] at ry; exact ry)
    have tq := t.sq
    rw [f.K] at tq
    obtain ⟨its, rr, pl, hz⟩ := I.tuple tq
    obtain ⟨j, h1, h2, h3, h4, h5⟩ := atI_get e5
    obtain ⟨w1, ew, rw'⟩ := rr.get h2
    have hl := rr.length
    exact getItem_tuple (j := j) pl (by omega) (by omega) (by rw [List.size_toArray, ← hl]; exact h1) (by simpa using ew) ⟨v', H, I, rw', fin_at P hsim e6 e2⟩
  · obtain ⟨i, e3, e2⟩ := cI_ok ha e2
    subst e3
    obtain ⟨w, e4, e2⟩ := idxC_ok ha e2
    obtain ⟨v', e5, e6⟩ := atI_rel l e4
    subst e1
    cases rx
    obtain ⟨tk, rfl⟩ := (show ∃ tk, u = Value.int i tk from by rw [show y = .int i from qw] at ry; exact ry)
    obtain ⟨its, rr, pl, hz⟩ := I.list (SqL.of t)
    obtain ⟨j, h1, h2, h3, h4, h5⟩ := atI_get e5
    obtain ⟨w1, ew, rw'⟩ := rr.get h2
    have hl := rr.length
    by_cases h0 : 0 ≤ i
    · have hj : i.toNat = j := by
        rw [seqIndex_of h0 h5] at h1
        exact Option.some.inj h1
      exact wpAny_getItem_list pl.isList h0 (by omega) (by rw [hj]; simpa using ew) ⟨v', H, I, rw', fin_at P hsim e6 e2⟩
    · have hj : (i + (its.toArray.size : Int)).toNat = j := by
        rw [seqIndex_neg (by omega) h4] at h1
        rw [List.size_toArray, ← hl]
        exact Option.some.inj h1
      exact wpAny_getItem_list_neg pl.isList (by omega) (by rw [List.size_toArray] <;> omega) (by omega) (by rw [hj]; simpa using ew) ⟨v', H, I, rw', fin_at P hsim e6 e2⟩
  · obtain ⟨ka, key, e3, e4, e5, e6⟩ := key_of (f := fun _ => .bad) ha qw e2
    subst e1 e3
    cases rx
    cases ry
    obtain ⟨hS, hm⟩ := dct_of I f.toFits t l
    have hk := key_is I f.toFits qw e4 e5
    rcases lookD_ok e4 l e6 with ⟨ka', u', v', w', e7, e8, e9, e10⟩ | ⟨_, e7⟩
    · exact wpAny_getItem_heap f.room hk hm e7 ⟨v', H, I.tok _, e8, fin_at P hsim e9 e10⟩
    · exact absurd e7.symm ha
theorem psc_augS (g : Good X M) {op : Operator} {f : BCode} {tpos : Pos} {o i e : Expr} (ho : PE X o (tE M cl E A)) (hi : PE X i (tE M cl E B)) (he : PE X e (tE M cl E C)) (hp : OpR X (inplaceOp op) (rB M f))
    (ha : ∀ ov iv new, augStore i ov iv new = (do holding [new, ov, iv] (setItem ov iv new); release [new, ov, iv] []; pure .next) := by intros; rfl) : PS X (.AugAssign (.Subscript o i tpos) op e pos) (tSt M cl E (scAugS A B C f)) :=
  PS.imp (ps_augS ho hi (pget_all g) he (show PIp X op (rB M f) from hp) (pset_all g) ha) fun D σ H ⟨a, t, hh, x, n, k, b, c, r, At0, eq, pn, pr, pb, pc⟩ => by
    refine ⟨a, t, hh, x, _, r, At0, eq, fun uo h1 r1 v1 H1 e1 q1 hs1 eq1 => ⟨a, t, h1, x, _, r1, At0.ext e1 hs1, eq1, fun ui h2 r2 v2 H2 e2 q2 hs2 eq2 => ?_⟩⟩
    have A2 := At0.ext (e1.trans e2) hs2
    refine ⟨a, uo, ui, h2, _, r2, At0.good, eq2, q1.ext e2, q2, hs2, fun w0 h3 r3 v3 H3 e3 q3 hs3 eq3 => ⟨a, t, h3, x, _, r3, A2.ext e3 hs3, eq3, fun u h4 r4 v4 H4 e4 q4 hs4 eq4 => ?_⟩⟩
    refine ⟨a, w0, u, h4, _, r4, At0.good, eq4, q3.ext e4, q4, hs4, fun w h5 r5 v5 H5 e5 q5 hs5 eq5 => ?_⟩
    have E35 := e3.trans (e4.trans e5)
    refine ⟨a, uo, ui, w, h5, _, r5, At0.good, eq5, (q1.ext e2).ext E35, q2.ext E35, q5, hs5, fun h6 r6 H6 e6 hs6 eq6 => ?_⟩
    have E06 := (e1.trans e2).trans (E35.trans e6)
    exact pn _ _ _ _ _ E06 (At0.ss.ext E06) rfl hs6 eq6
end
end Eng
end
end

section
set_option maxRecDepth 100000
set_option maxHeartbeats 4000000
/-! Engine, part M: what is walked; for, while; list comprehensions. -/
noncomputable section
namespace Eng
open PySem PySem.Spec L2
open PyProof.Rows hiding St

structure ItOk (M : Mo) (J : It) (r : Rg) (H : Hp) (ws : List W) : Prop where
  len : ws.length ≤ 16777216
  go : ∀ i r' H', Ext0 r H r' H' → FrzK H H' → i < ws.length → J.go i H'
  yld : ∀ i r' H' h' x H'', Ext0 r H r' H' → FrzK H H' → HSim M r' H' h' → i < ws.length → J.yld i H' x H'' → (∀ a o, H' a = some o → H'' a = some o) ∧ ∃ w, ws[i]? = some w ∧ RelW M.K M.g r' H'' w x
  stop : ∀ r' H', Ext0 r H r' H' → FrzK H H' → J.stop ws.length H'
abbrev ICode := Cl → S4 → EH → KX → (List W → EH → Ans) → Ans
def tI (M : Mo) (cl : Cl) (E : XK) (C : ICode) : TI := fun σ H R => ∃ a t h x k r, At M E a t h x r σ H ∧ C cl t h x k = a ∧ ∀ ws h' r' H' J, Ext r H r' H' → HSim M r' H' h' → ItOk M J r' H' ws → k ws h' = a → R J H'
theorem PI.imp {X : Cx} {tg e : Expr} {t t' : TI} (h : PI X tg e t) (i : ∀ σ H Q, t' σ H Q → t σ H Q) : PI X tg e t' := ⟨fun pins s σ H Q I q => h.run pins s σ H Q I (i σ H Q q)⟩

/-! ### sources -/
section
variable {M : Mo} {r : Rg} {H : Hp} {ws us : List W} {vs xs : List V} {p q : Addr}
theorem it_list (hl : ws.length ≤ 16777216) (t : LstAt M.K r H p vs) (l : RelWs M.K M.g r H ws vs) : ItOk M (Itl M.K p) r H ws where
  len := hl
  go := fun i r' H' e _ hi => by
    have t' := t.ext0 e
    obtain ⟨v, e1, _⟩ := l.get (List.getElem?_eq_getElem hi)
    exact ⟨vs, v, SqL.of t'.1, e1⟩
  yld := fun i r' H' h' x H'' e _ hs hi ⟨e1, e2⟩ => by
    subst e1
    have t' := t.ext0 e
    obtain ⟨w, e3, e4⟩ := (l.ext0 e).get' (e2 vs (SqL.of t'.1))
    exact ⟨fun a o q => q, w, e3, e4⟩
  stop := fun r' H' e _ => ⟨vs, SqL.of (t.ext0 e).1, by rw [l.length]; exact Nat.le_refl _⟩
theorem it_tup (hl : ws.length ≤ 16777216) (t : TupAt M.K r H p vs) (l : RelWs M.K M.g r H ws vs) : ItOk M (Itt M.K p) r H ws where
  len := hl
  go := fun i r' H' e _ hi => by
    obtain ⟨v, e1, _⟩ := l.get (List.getElem?_eq_getElem hi)
    exact ⟨vs, v, (t.ext0 e).sq, e1⟩
  yld := fun i r' H' h' x H'' e _ hs hi ⟨e1, e2⟩ => by
    subst e1
    obtain ⟨w, e3, e4⟩ := (l.ext0 e).get' (e2 vs (t.ext0 e).sq)
    exact ⟨fun a o q => q, w, e3, e4⟩
  stop := fun r' H' e _ => ⟨vs, (t.ext0 e).sq, by rw [l.length]; exact Nat.le_refl _⟩
def rngW (lo : Int) (n : Nat) : List W := (List.range n).map fun i => W.int (lo + (i : Nat))
theorem it_rng {lo : Int} {n : Nat} (hl : n ≤ 16777216) : ItOk M (Itr lo n) r H (rngW lo n) where
  len := by unfold rngW; rw [List.length_map, List.length_range]; exact hl
  go := fun i r' H' e _ hi => by unfold rngW at hi; rw [List.length_map, List.length_range] at hi; exact hi
  yld := fun i r' H' h' x H'' e _ hs hi ⟨e1, e2⟩ => by
    subst e1 e2
    unfold rngW at hi ⊢
    rw [List.length_map, List.length_range] at hi
    exact ⟨fun a o q => q, .int (lo + i), by simp [hi], rfl⟩
  stop := fun r' H' e _ => by show n ≤ _; unfold rngW; rw [List.length_map, List.length_range]; exact Nat.le_refl _
def zipW : List W → List W → List W
  | w :: ws, u :: us => .tup [w, u] :: zipW ws us
  | _, _ => []
theorem zipW_len : ∀ ws us : List W, (zipW ws us).length = min ws.length us.length
  | [], us => by simp [zipW]
  | _ :: _, [] => by simp [zipW]
  | w :: ws, u :: us => by simp [zipW, zipW_len ws us]
theorem zipW_get : ∀ (ws us : List W) (i : Nat) (w u : W), ws[i]? = some w → us[i]? = some u → (zipW ws us)[i]? = some (.tup [w, u])
  | [], _, i, _, _, h, _ => by simp at h
  | _ :: _, [], i, _, _, _, h => by simp at h
  | w :: ws, u :: us, 0, _, _, h, h' => by simp at h h'; subst h h'; rfl
  | w :: ws, u :: us, i + 1, _, _, h, h' => by
    show (zipW ws us)[i]? = _
    exact zipW_get ws us i _ _ (by simpa using h) (by simpa using h')
theorem pair_new {r' : Rg} {H' : Hp} {h' : EH} {w u : W} {x y : V} {T : Addr} (hs : HSim M r' H' h') (hT : H' T = none) (q1 : RelW M.K M.g r' H' w x) (q2 : RelW M.K M.g r' H' u y) : RelW M.K M.g r' (upd H' T (.tup [x, y])) (.tup [w, u]) (.ref T) :=
  new_tup hs hT ⟨x, [y], rfl, q1, y, [], rfl, q2, rfl⟩ (by simp)
theorem it_zipL (hl : ws.length ≤ 16777216) (t : LstAt M.K r H p vs) (l : RelWs M.K M.g r H ws vs) (t2 : LstAt M.K r H q xs) (l2 : RelWs M.K M.g r H us xs) : ItOk M (Itz M.K p q) r H (zipW ws us) where
  len := by rw [zipW_len]; omega
  go := fun i r' H' e _ hi => by
    rw [zipW_len] at hi
    obtain ⟨v, e1, _⟩ := l.get (List.getElem?_eq_getElem (show i < ws.length by omega))
    obtain ⟨v2, e2, _⟩ := l2.get (List.getElem?_eq_getElem (show i < us.length by omega))
    exact ⟨vs, xs, v, v2, SqL.of (t.ext0 e).1, SqL.of (t2.ext0 e).1, e1, e2⟩
  yld := fun i r' H' h' x H'' e _ hs hi ⟨T, x1, y1, e1, e2, e3, e4, e5⟩ => by
    subst e1 e3
    obtain ⟨w, a1, a2⟩ := (l.ext0 e).get' (e4 vs (SqL.of (t.ext0 e).1))
    obtain ⟨u, b1, b2⟩ := (l2.ext0 e).get' (e5 xs (SqL.of (t2.ext0 e).1))
    exact ⟨fun a o q => by rw [upd_ne (ne_of_none q e2)]; exact q, _, zipW_get _ _ _ _ _ a1 b1, pair_new hs e2 a2 b2⟩
  stop := fun r' H' e _ => ⟨vs, xs, SqL.of (t.ext0 e).1, SqL.of (t2.ext0 e).1, by rw [zipW_len, ← l.length, ← l2.length]; omega⟩
theorem it_zipT (hl : ws.length ≤ 16777216) (t : TupAt M.K r H p vs) (l : RelWs M.K M.g r H ws vs) (t2 : TupAt M.K r H q xs) (l2 : RelWs M.K M.g r H us xs) : ItOk M (RZ.ItzT M.K p q) r H (zipW ws us) where
  len := by rw [zipW_len]; omega
  go := fun i r' H' e _ hi => by
    rw [zipW_len] at hi
    obtain ⟨v, e1, _⟩ := l.get (List.getElem?_eq_getElem (show i < ws.length by omega))
    obtain ⟨v2, e2, _⟩ := l2.get (List.getElem?_eq_getElem (show i < us.length by omega))
    exact ⟨vs, xs, v, v2, (t.ext0 e).sq, (t2.ext0 e).sq, e1, e2⟩
  yld := fun i r' H' h' x H'' e _ hs hi ⟨T, x1, y1, e1, e2, e3, e4, e5⟩ => by
    subst e1 e3
    obtain ⟨w, a1, a2⟩ := (l.ext0 e).get' (e4 vs (t.ext0 e).sq)
    obtain ⟨u, b1, b2⟩ := (l2.ext0 e).get' (e5 xs (t2.ext0 e).sq)
    exact ⟨fun a o q => by rw [upd_ne (ne_of_none q e2)]; exact q, _, zipW_get _ _ _ _ _ a1 b1, pair_new hs e2 a2 b2⟩
  stop := fun r' H' e _ => ⟨vs, xs, (t.ext0 e).sq, (t2.ext0 e).sq, by rw [zipW_len, ← l.length, ← l2.length]; omega⟩
def enumW (n : Nat) : List W → List W
  | [] => []
  | w :: ws => .tup [.int (n : Nat), w] :: enumW (n + 1) ws
theorem enumW_len : ∀ (n : Nat) (ws : List W), (enumW n ws).length = ws.length
  | _, [] => rfl
  | n, w :: ws => by simp [enumW, enumW_len (n + 1) ws]
theorem enumW_get : ∀ (n : Nat) (ws : List W) (i : Nat) (w : W), ws[i]? = some w → (enumW n ws)[i]? = some (.tup [.int ((n + i : Nat)), w])
  | _, [], i, _, h => by simp at h
  | n, w :: ws, 0, _, h => by simp at h; subst h; rfl
  | n, w :: ws, i + 1, _, h => by
    show (enumW (n + 1) ws)[i]? = _
    rw [enumW_get (n + 1) ws i _ (by simpa using h), show n + 1 + i = n + (i + 1) by omega]
theorem it_enumL (hl : ws.length ≤ 16777216) (t : LstAt M.K r H p vs) (l : RelWs M.K M.g r H ws vs) : ItOk M (Ite M.K p) r H (enumW 0 ws) where
  len := by rw [enumW_len]; exact hl
  go := fun i r' H' e _ hi => by
    rw [enumW_len] at hi
    obtain ⟨v, e1, _⟩ := l.get (List.getElem?_eq_getElem hi)
    exact ⟨vs, v, SqL.of (t.ext0 e).1, e1⟩
  yld := fun i r' H' h' x H'' e _ hs hi ⟨T, x1, e1, e2, e3, e4⟩ => by
    subst e1 e3
    obtain ⟨w, a1, a2⟩ := (l.ext0 e).get' (e4 vs (SqL.of (t.ext0 e).1))
    refine ⟨fun a o q => by rw [upd_ne (ne_of_none q e2)]; exact q, _, enumW_get 0 ws i w a1, ?_⟩
    rw [Nat.zero_add]
    exact pair_new hs e2 rfl a2
  stop := fun r' H' e _ => ⟨vs, SqL.of (t.ext0 e).1, by rw [enumW_len, l.length]; exact Nat.le_refl _⟩
end

/-! ### codes of sources -/
def icSeq (A : Code) : ICode := fun c s h x k => A c s h x fun u h => cSeq u fun ws => k ws h
def rngC (lo : Int) (n : Nat) (k : List W → Ans) : Ans := Nat.rec (motive := fun _ => List W → Ans) (fun acc => k acc) (fun m ih acc => addC lo (.ofNat m) fun i => ih (.int i :: acc)) n []
theorem rngC_eq (lo : Int) (n : Nat) (k : List W → Ans) : rngC lo n k = k (rngW lo n) := by
  have key : ∀ (n : Nat) (acc : List W), (Nat.rec (motive := fun _ => List W → Ans) (fun acc => k acc) (fun m ih acc => addC lo (.ofNat m) fun i => ih (.int i :: acc)) n acc : Ans) = k (rngW lo n ++ acc) := by
    intro n
    induction n with
    | zero => intro acc; rfl
    | succ n ih =>
      intro acc
      show addC lo (.ofNat n) _ = _
      rw [addC_eq]
      refine (ih _).trans ?_
      unfold rngW
      rw [List.range_succ, List.map_append, List.append_assoc]
      rfl
  rw [show rngC lo n k = _ from key n [], List.append_nil]
def icR1 (L : LCode) : ICode := fun c s h x k => L c s h x fun us h => c1 us fun u => cI u fun j => cB (ltI j 1000000) (cB (ltI (-1000000) j) (rngC 0 (Int.toNat j) fun ws => k ws h) .bad) .bad
def icR2 (L : LCode) : ICode := fun c s h x k => L c s h x fun us h => c2 us fun u w => cI u fun i => cI w fun j => cB (ltI j 1000000) (cB (ltI (-1000000) j) (cB (ltI i 1000000) (cB (ltI (-1000000) i) (rngC i (Int.toNat (Int.sub j i)) fun ws => k ws h) .bad) .bad) .bad) .bad
def zipC (ws : List W) : List W → (List W → Ans) → Ans := List.rec (motive := fun _ => List W → (List W → Ans) → Ans) (fun _ k => k []) (fun w _ ih us k => List.rec (motive := fun _ => Ans) (k []) (fun u us _ => ih us fun r => k (.tup [w, u] :: r)) us) ws
theorem zipC_eq : ∀ (ws us : List W) (k : List W → Ans), zipC ws us k = k (zipW ws us)
  | [], us, k => by simp [zipW]; rfl
  | _ :: _, [], k => by simp [zipW]; rfl
  | w :: ws, u :: us, k => (zipC_eq ws us _).trans rfl
def cLs (w : W) (f : List W → Ans) : Ans := W.rec (motive_1 := fun _ => Ans) (motive_2 := fun _ => Unit) .bad (fun _ => .bad) (fun _ => .bad) (fun _ => .bad) (fun _ _ => .bad) (fun ws _ => f ws) (fun _ => .bad) (fun _ => .bad) (fun _ => .bad) .bad () (fun _ _ _ _ => ()) w
theorem cLs_rel {M : Mo} {r : Rg} {H : Hp} {w : W} {v : V} {f : List W → Ans} {a : Ans} (ha : a ≠ .bad) (q : RelW M.K M.g r H w v) (e : cLs w f = a) : ∃ ws, w = .lst ws ∧ ws.length ≤ 16777216 ∧ ∃ p vs, v = .ref p ∧ LstAt M.K r H p vs ∧ RelWs M.K M.g r H ws vs ∧ f ws = a := by
  cases w with
  | lst ws =>
    obtain ⟨p, vs, e1, z, t, l⟩ := (show ∃ a vs, v = .ref a ∧ ws.length ≤ 16777216 ∧ LstAt M.K r H a vs ∧ RelWs M.K M.g r H ws vs from q)
    exact ⟨ws, rfl, z, p, vs, e1, t, l, e⟩
  | _ => exact absurd (show Ans.bad = a from e).symm ha
def icZip (L : LCode) : ICode := fun c s h x k => L c s h x fun us h => c2 us fun u w => W.rec (motive_1 := fun _ => Ans) (motive_2 := fun _ => Unit) .bad (fun _ => .bad) (fun _ => .bad) (fun _ => .bad) (fun ws _ => cTup w fun us => zipC ws us fun l => k l h) (fun ws _ => cLs w fun us => zipC ws us fun l => k l h) (fun _ => .bad) (fun _ => .bad) (fun _ => .bad) .bad () (fun _ _ _ _ => ()) u
def enumC (ws : List W) : Nat → (List W → Ans) → Ans := List.rec (motive := fun _ => Nat → (List W → Ans) → Ans) (fun _ k => k []) (fun w _ ih n k => ih (Nat.succ n) fun r => k (.tup [.int (.ofNat n), w] :: r)) ws
theorem enumC_eq : ∀ (ws : List W) (n : Nat) (k : List W → Ans), enumC ws n k = k (enumW n ws)
  | [], _, k => rfl
  | w :: ws, n, k => (enumC_eq ws (n + 1) _).trans rfl
def icEnumL (L : LCode) : ICode := fun c s h x k => L c s h x fun us h => c1 us fun u => cLs u fun ws => enumC ws 0 fun l => k l h
section
variable {X : Cx} {M : Mo} {cl : Cl} {E : XK} {tg a b e : Expr} {es : List Expr} {A B C : Code} {L : LCode} {S S' : SCode} {T : TCode} {pos p1 p : Pos} {IC : ICode} {G : GCode}
/-- a list or a tuple -/
theorem pi_seq {l : Expr} {tl : TE} (hl : PE X l tl) : PI X tg l (fun σ H R => tl σ H fun x H1 => ∃ a, x = .ref a ∧ (((∃ xs, SqL X.K H1 a xs) ∧ R (Itl X.K a) H1) ∨ ((∃ xs, SqT X.K H1 a xs) ∧ R (Itt X.K a) H1))) := by
  refine ⟨fun pins s0 σ H0 R I0 hw => thn (hl.run pins s0 σ H0 _ I0 hw) fun v s1 ⟨x, H1, I1, rx, b, eb, q⟩ => ?_⟩
  subst eb
  cases rx
  have fp : ∀ c ∈ [s1.heap.objs.size], FpOk X pins H1 c := fun c hc => by
    rw [List.mem_singleton.mp hc]
    exact I1.fpOk (Nat.le_refl _) (I1.hok.fresh (Nat.le_refl _))
  rcases q with ⟨⟨xs, hq⟩, q⟩ | ⟨⟨xs, hq⟩, q⟩
  · obtain ⟨its, rv, pl, _⟩ := I1.list hq
    exact wpAny_pyIter_list pl.isList ⟨s1.heap.objs.size, [s1.heap.objs.size], _, _, H1, rfl, I1.kept (t' := s1.toks) fun c o z => Heap.get?_push_of_some _ z, turn_list b _, ⟨_, Heap.get?_push_size _ rfl, rfl, rfl⟩, fp, q⟩
  · obtain ⟨its, rv, pl, _⟩ := I1.tuple hq
    exact wpAny_pyIter_tuple (show s1.heap.IsTuple b its.toArray from pl) ⟨s1.heap.objs.size, [s1.heap.objs.size], _, _, H1, rfl, I1.kept (t' := s1.toks) fun c o z => Heap.get?_push_of_some _ z, turn_tuple b _, ⟨_, Heap.get?_push_size _ rfl, rfl, rfl⟩, fp, q⟩
theorem pic_seq (f : Good X M) (he : PE X e (tE M cl E A)) : PI X tg e (tI M cl E (icSeq A)) := PI.imp (pi_seq he) fun σ H R ⟨a, t, h, x, k, r, At0, eq, P⟩ => by
  refine ⟨a, t, h, x, _, r, At0, eq, fun u h1 r1 v1 H1 e1 q1 hs1 eq1 => ?_⟩
  obtain ⟨ws, e2, eq2⟩ := cSeq_ok At0.good eq1
  rcases e2 with e2 | e2 <;> subst e2
  · obtain ⟨p, vs, e3, z, tt, l⟩ := (show ∃ a vs, v1 = .ref a ∧ ws.length ≤ 16777216 ∧ TupAt M.K r1 H1 a vs ∧ RelWs M.K M.g r1 H1 ws vs from q1)
    refine ⟨p, e3, .inr ⟨⟨vs, by rw [← f.K]; exact tt.sq⟩, ?_⟩⟩
    rw [← f.K]
    exact P ws h1 r1 H1 _ e1 hs1 (it_tup z tt l) eq2
  · obtain ⟨p, vs, e3, z, tt, l⟩ := (show ∃ a vs, v1 = .ref a ∧ ws.length ≤ 16777216 ∧ LstAt M.K r1 H1 a vs ∧ RelWs M.K M.g r1 H1 ws vs from q1)
    refine ⟨p, e3, .inl ⟨⟨vs, SqL.of tt.1⟩, ?_⟩⟩
    rw [← f.K]
    exact P ws h1 r1 H1 _ e1 hs1 (it_list z tt l) eq2
theorem rbound {j : Int} (h1 : ltI j 1000000 = true) (h2 : ltI (-1000000) j = true) : -1000000 < j ∧ j < 1000000 := by
  rw [ltI_eq] at h1 h2
  exact ⟨of_decide_eq_true h2, of_decide_eq_true h1⟩
theorem pic_r1 (hg : Gl X "range") (hm : X.mg "range" = none) (ha : PA X [a] (tAL M cl E L)) (hs : starEach [a] X.env = [(false, eval a X.env)] := by rfl) : PI X tg (.Call (.Name "range" p) [a] [] pos) (tI M cl E (icR1 L)) :=
  PI.imp (pi_range1 hg hm ha hs) fun σ H R ⟨a, t, h, x, k, r, At0, eq, P⟩ => ⟨a, t, h, x, _, r, At0, eq, fun us h1 r1 vs H1 e1 q1 hs1 eq1 => by
    obtain ⟨u, e2, eq2⟩ := c1_ok At0.good eq1
    subst e2
    obtain ⟨v, e3, q2⟩ := rel1 q1
    obtain ⟨j, e4, eq3⟩ := cI_ok At0.good eq2
    subst e4
    rcases cB_ok eq3 with ⟨b1, eq3⟩ | ⟨_, eq3⟩
    · rcases cB_ok eq3 with ⟨b2, eq3⟩ | ⟨_, eq3⟩
      · have := rbound b1 b2
        rw [rngC_eq] at eq3
        exact ⟨j, by rw [e3, show v = .int j from q2], by omega, by omega, P _ h1 r1 H1 _ e1 hs1 (it_rng (by omega)) eq3⟩
      · exact absurd eq3.symm At0.good
    · exact absurd eq3.symm At0.good⟩
theorem pic_r2 (hg : Gl X "range") (hm : X.mg "range" = none) (ha : PA X [a, b] (tAL M cl E L)) (hs : starEach [a, b] X.env = [(false, eval a X.env), (false, eval b X.env)] := by rfl) (hs2 : starEach [b] X.env = [(false, eval b X.env)] := by rfl) : PI X tg (.Call (.Name "range" p) [a, b] [] pos) (tI M cl E (icR2 L)) :=
  PI.imp (pi_range2 hg hm ha hs hs2) fun σ H R ⟨a, t, h, x, k, r, At0, eq, P⟩ => ⟨a, t, h, x, _, r, At0, eq, fun us h1 r1 vs H1 e1 q1 hs1 eq1 => by
    obtain ⟨u, w, e2, eq2⟩ := c2_ok At0.good eq1
    subst e2
    obtain ⟨v, v2, e3, q2, q3⟩ := rel2 q1
    obtain ⟨i, e4, eq3⟩ := cI_ok At0.good eq2
    obtain ⟨j, e5, eq3⟩ := cI_ok At0.good eq3
    subst e4 e5
    rcases cB_ok eq3 with ⟨b1, eq3⟩ | ⟨_, eq3⟩
    · rcases cB_ok eq3 with ⟨b2, eq3⟩ | ⟨_, eq3⟩
      · rcases cB_ok eq3 with ⟨b3, eq3⟩ | ⟨_, eq3⟩
        · rcases cB_ok eq3 with ⟨b4, eq3⟩ | ⟨_, eq3⟩
          · have := rbound b1 b2
            have := rbound b3 b4
            rw [rngC_eq] at eq3
            exact ⟨i, j, by rw [e3, show v = .int i from q2, show v2 = .int j from q3], by omega, P _ h1 r1 H1 _ e1 hs1 (it_rng (show (j - i).toNat ≤ _ by omega)) eq3⟩
          · exact absurd eq3.symm At0.good
        · exact absurd eq3.symm At0.good
      · exact absurd eq3.symm At0.good
    · exact absurd eq3.symm At0.good⟩
theorem pic_zip (f : Good X M) {tpos : Pos} {elts : List Expr} {kk : Nat} (hg : Gl X "zip") (hm : X.mg "zip" = none) (ha : PA X [a, b] (tAL M cl E L))
    (hs : starEach [a, b] X.env = (false, eval a X.env) :: starEach [b] X.env := by rfl) (hpl : (backTo pos (starEach [b] X.env)).any (·.1) = false := by rfl) : PI X (.Tuple elts kk tpos) (.Call (.Name "zip" p) [a, b] [] pos) (tI M cl E (icZip L)) :=
  PI.imp (RZ.pi_zipA hg hm ha hs hpl) fun σ H R ⟨a, t, h, x, k, r, At0, eq, P⟩ => ⟨a, t, h, x, _, r, At0, eq, fun us h1 r1 vs H1 e1 q1 hs1 eq1 => by
    obtain ⟨u, w, e2, eq2⟩ := c2_ok At0.good eq1
    subst e2
    obtain ⟨v, v2, e3, q2, q3⟩ := rel2 q1
    cases u with
    | tup ws =>
      obtain ⟨p, vs1, e4, z, tt, l⟩ := (show ∃ a vs, v = .ref a ∧ ws.length ≤ 16777216 ∧ TupAt M.K r1 H1 a vs ∧ RelWs M.K M.g r1 H1 ws vs from q2)
      obtain ⟨us, _, z2, p2, vs2, e5, t2, l2, eq3⟩ := cTup_rel At0.good q3 eq2
      rw [zipC_eq] at eq3
      refine ⟨p, p2, vs1, vs2, by rw [e3, e4, e5], .inr ⟨by rw [← f.K]; exact tt.sq, by rw [← f.K]; exact t2.sq, ?_⟩⟩
      rw [← f.K]
      exact P _ h1 r1 H1 _ e1 hs1 (it_zipT z tt l t2 l2) eq3
    | lst ws =>
      obtain ⟨p, vs1, e4, z, tt, l⟩ := (show ∃ a vs, v = .ref a ∧ ws.length ≤ 16777216 ∧ LstAt M.K r1 H1 a vs ∧ RelWs M.K M.g r1 H1 ws vs from q2)
      obtain ⟨us, _, z2, p2, vs2, e5, t2, l2, eq3⟩ := cLs_rel At0.good q3 eq2
      rw [zipC_eq] at eq3
      refine ⟨p, p2, vs1, vs2, by rw [e3, e4, e5], .inl ⟨SqL.of tt.1, SqL.of t2.1, ?_⟩⟩
      rw [← f.K]
      exact P _ h1 r1 H1 _ e1 hs1 (it_zipL z tt l t2 l2) eq3
    | _ => exact absurd (show Ans.bad = a from eq2).symm At0.good⟩
theorem pic_enumL (f : Good X M) {tpos : Pos} {elts : List Expr} {kk : Nat} (hg : Gl X "enumerate") (hm : X.mg "enumerate" = none) (ha : PA X [a] (tAL M cl E L)) (hs : starEach [a] X.env = [(false, eval a X.env)] := by rfl) : PI X (.Tuple elts kk tpos) (.Call (.Name "enumerate" p) [a] [] pos) (tI M cl E (icEnumL L)) :=
  PI.imp (pi_enum hg hm ha hs) fun σ H R ⟨a, t, h, x, k, r, At0, eq, P⟩ => ⟨a, t, h, x, _, r, At0, eq, fun us h1 r1 vs H1 e1 q1 hs1 eq1 => by
    obtain ⟨u, e2, eq2⟩ := c1_ok At0.good eq1
    subst e2
    obtain ⟨v, e3, q2⟩ := rel1 q1
    obtain ⟨ws, _, z, p, vs1, e5, tt, l, eq3⟩ := cLs_rel At0.good q2 eq2
    rw [enumC_eq] at eq3
    refine ⟨p, vs1, by rw [e3, e5], SqL.of tt.1, ?_⟩
    rw [← f.K]
    exact P _ h1 r1 H1 _ e1 hs1 (it_enumL z tt l) eq3⟩

/-! ### for, while -/
def loopC (body : W → S4 → EH → KN → Ans) (done : KN) (ws : List W) (s : S4) (h : EH) : Ans := List.rec (motive := fun _ => S4 → EH → Ans) done (fun w _ ih s h => body w s h ih) ws s h
def scFor (IC : ICode) (G : GCode) (S : SCode) : SCode := fun c s h x n k _ _ => IC c s h x fun ws h => loopC (fun w s h nx => G w c s h x fun s h => S c s h x nx k n nx) n ws s h
theorem psc_for {iter : Expr} {body : List Stmt} (f : Good X M) (hp : PassesOwn (model X.prog X.w) X.A X.env X.xe) (hi : PI X tg iter (tI M cl E IC)) (hg : PG X tg (tG M cl E G)) (hb : PSs X body (tSt M cl E S))
    (hs : ∀ x, foldedSetIterable iter X.env x = pure x := by intro _; rfl) : PS X (.For tg iter body [] pos) (tSt M cl E (scFor IC G S)) :=
  PS.imp (ps_for hp f.calm hi hg hb hs) fun D σ H ⟨a, t, hh, x, n, k, b, c, r, At0, eq, pn, pr, pb, pc⟩ => by
    refine ⟨a, t, hh, x, _, r, At0, eq, fun ws h1 r1 H1 J e1 hs1 ok eq1 => ?_⟩
    refine ⟨fun i m σ' H' => i ≤ ws.length ∧ m = ws.length - i ∧ σ'.length = σ.length ∧ ∃ t' h' r', At M E a t' h' x r' σ' H' ∧ Ext r1 H1 r' H' ∧ loopC (fun w s h nx => G w cl s h x fun s h => S cl s h x nx k n nx) n (ws.drop i) t' h' = a, ?_, ?_⟩
    · exact ⟨ws.length, Nat.zero_le _, rfl, rfl, t, h1, r1, At0.ext e1 hs1, Ext.refl, by rw [List.drop_zero]; exact eq1⟩
    · intro i m σ' H' ⟨hi, hm, hl, t', h', r', A', e', eq'⟩
      have E0 := e1.trans e'
      by_cases hlt : i < ws.length
      · have hd : ws.drop i = ws[i] :: ws.drop (i + 1) := List.drop_eq_getElem_cons hlt
        rw [hd] at eq'
        refine .inr ⟨ok.go i r' H' e'.toExt0 (e'.frzK hs1) hlt, fun σ'' H'' => i + 1 ≤ ws.length ∧ σ''.length = σ.length ∧ ∃ t2 h2 r2, At M E a t2 h2 x r2 σ'' H'' ∧ Ext r1 H1 r2 H'' ∧ loopC (fun w s h nx => G w cl s h x fun s h => S cl s h x nx k n nx) n (ws.drop (i + 1)) t2 h2 = a, ?_, ?_⟩
        · intro σ'' H'' ⟨z1, z2, z3⟩
          exact ⟨ws.length - (i + 1), by omega, z1, rfl, z2, z3⟩
        · intro y H'' hy
          obtain ⟨g1, w, g2, g3⟩ := ok.yld i r' H' h' y H'' e'.toExt0 (e'.frzK hs1) A'.hs hlt hy
          rw [List.getElem?_eq_getElem hlt] at g2
          cases g2
          have e2 : Ext r' H' r' H'' := Ext.grow g1
          have A2 := A'.ext e2 (A'.hs.grow g1)
          refine ⟨a, ws[i], t', h', x, _, r', A2, g3, eq', fun t3 h3 r3 σ3 H3 e3 ss3 l3 hs3 eq3 => ?_⟩
          have E3 := (E0.trans e2).trans e3
          refine ⟨a, t3, h3, x, _, k, n, _, r3, ⟨At0.good, ss3, hs3, At0.px.ext E3⟩, eq3, ?_, pr.ext E3, ?_, ?_⟩
          · intro t4 h4 r4 σ4 H4 e4 ss4 l4 hs4 eq4
            exact ⟨hlt, by omega, t4, h4, r4, ⟨At0.good, ss4, hs4, At0.px.ext (E3.trans e4)⟩, (((e'.trans e2).trans e3).trans e4), eq4⟩
          · intro t4 h4 r4 σ4 H4 e4 ss4 l4 hs4 eq4
            exact pn t4 h4 r4 σ4 H4 (E3.trans e4) ss4 (by omega) hs4 eq4
          · intro t4 h4 r4 σ4 H4 e4 ss4 l4 hs4 eq4
            exact ⟨hlt, by omega, t4, h4, r4, ⟨At0.good, ss4, hs4, At0.px.ext (E3.trans e4)⟩, (((e'.trans e2).trans e3).trans e4), eq4⟩
      · have hi' : i = ws.length := by omega
        subst hi'
        rw [List.drop_length] at eq'
        exact .inl ⟨ok.stop r' H' e'.toExt0 (e'.frzK hs1), pn t' h' r' σ' H' E0 A'.ss hl A'.hs eq'⟩
def whileC (T : EH → S4 → (EH → Ans) → (EH → Ans) → Ans) (S : S4 → EH → KN → Ans) (n : KN) (fuel : Nat) (s : S4) (h : EH) : Ans := Nat.rec (motive := fun _ => S4 → EH → Ans) (fun _ _ => .bad) (fun _ ih s h => T h s (fun h => S s h ih) (fun h => n s h)) fuel s h
def scWhile (fuel : Nat) (T : TCode) (S : SCode) : SCode := fun c s h x n k _ _ => whileC (fun h s kt kf => T c s h x kt kf) (fun s h nx => S c s h x nx k n nx) n fuel s h
theorem psc_while {fuel : Nat} {cond : Expr} {body : List Stmt} (hp : PassesOwn (model X.prog X.w) X.A X.env X.xe) (hc : PT X cond (tT M cl E T)) (hb : PSs X body (tSt M cl E S)) : PS X (.While cond body [] pos) (tSt M cl E (scWhile fuel T S)) :=
  PS.imp (ps_while hp hc hb) fun D σ H ⟨a, t, hh, x, n, k, b, c, r, At0, eq, pn, pr, pb, pc⟩ => by
    refine ⟨fun m σ' H' => σ'.length = σ.length ∧ ∃ t' h' r', At M E a t' h' x r' σ' H' ∧ Ext r H r' H' ∧ whileC (fun h s kt kf => T cl s h x kt kf) (fun s h nx => S cl s h x nx k n nx) n m t' h' = a, ?_, ?_⟩
    · exact ⟨fuel, rfl, t, hh, r, At0, Ext.refl, eq⟩
    · intro m σ' H' ⟨hl, t', h', r', A', e', eq'⟩
      cases m with
      | zero => exact absurd (show Ans.bad = a from eq').symm At0.good
      | succ m =>
        have eq2 : T cl t' h' x (fun h => S cl t' h x (whileC (fun h s kt kf => T cl s h x kt kf) (fun s h nx => S cl s h x nx k n nx) n m) k n (whileC (fun h s kt kf => T cl s h x kt kf) (fun s h nx => S cl s h x nx k n nx) n m)) (fun h => n t' h) = a := eq'
        refine ⟨a, t', h', x, _, _, r', A', eq2, fun h1 r1 H1 e1 hs1 eq3 => ?_, fun h1 r1 H1 e1 hs1 eq3 => ?_⟩
        · refine itT ⟨fun σ'' H'' => σ''.length = σ.length ∧ ∃ t2 h2 r2, At M E a t2 h2 x r2 σ'' H'' ∧ Ext r H r2 H'' ∧ whileC (fun h s kt kf => T cl s h x kt kf) (fun s h nx => S cl s h x nx k n nx) n m t2 h2 = a, fun σ'' H'' z => ⟨m, Nat.lt_succ_self m, z⟩, ?_⟩
          have E1 := e'.trans e1
          refine ⟨a, t', h1, x, _, k, n, _, r1, A'.ext e1 hs1, eq3, ?_, pr.ext E1, ?_, ?_⟩
          · intro t4 h4 r4 σ4 H4 e4 ss4 l4 hs4 eq4
            exact ⟨by omega, t4, h4, r4, ⟨At0.good, ss4, hs4, At0.px.ext (E1.trans e4)⟩, E1.trans e4, eq4⟩
          · intro t4 h4 r4 σ4 H4 e4 ss4 l4 hs4 eq4
            exact pn t4 h4 r4 σ4 H4 (E1.trans e4) ss4 (by omega) hs4 eq4
          · intro t4 h4 r4 σ4 H4 e4 ss4 l4 hs4 eq4
            exact ⟨by omega, t4, h4, r4, ⟨At0.good, ss4, hs4, At0.px.ext (E1.trans e4)⟩, E1.trans e4, eq4⟩
        · refine itF ?_
          exact pn t' h1 r1 σ' H1 (e'.trans e1) (A'.ss.ext e1) hl hs1 eq3
end
end Eng
end
end

section
set_option maxRecDepth 100000
set_option maxHeartbeats 4000000
/-! Engine, part N: list comprehensions. -/
noncomputable section
namespace Eng
open PySem PySem.Spec L2
open PyProof.Rows hiding St

def xBad : KX := fun _ _ _ => .bad
def eNo : XK := fun _ _ _ => False
/-! ### wiped slots -/
theorem wipe_in {σ : St} {j : Nat} : ∀ {vs : List Nat}, j ∈ vs → (wipe σ vs)[j]? = if j < σ.length then some none else none
  | [], h => by cases h
  | v :: vs, h => by
    unfold wipe
    by_cases e : v = j
    · subst e
      by_cases hl : v < σ.length
      · rw [List.getElem?_set_self (by rw [wipe_length]; exact hl), if_pos hl]
      · rw [if_neg hl, List.getElem?_eq_none (by rw [List.length_set, wipe_length]; omega)]
    · rw [List.getElem?_set_ne e]
      rcases List.mem_cons.mp h with z | z
      · exact absurd z.symm e
      · exact wipe_in z
theorem wipe_set {σ : St} {i : Nat} {x : Option V} {vs : List Nat} (h : i ∈ vs) : wipe (σ.set i x) vs = wipe σ vs := by
  refine List.ext_getElem? fun j => ?_
  by_cases hj : j ∈ vs
  · rw [wipe_in hj, wipe_in hj, List.length_set]
  · rw [wipe_out hj, wipe_out hj, List.getElem?_set_ne (fun e => hj (by rw [← e]; exact h))]
theorem wipe_wipe {σ : St} {vs us : List Nat} (h : ∀ i ∈ us, i ∈ vs) : wipe (wipe σ us) vs = wipe σ vs := by
  refine List.ext_getElem? fun j => ?_
  by_cases hj : j ∈ vs
  · rw [wipe_in hj, wipe_in hj, wipe_length]
  · rw [wipe_out hj, wipe_out hj, wipe_out (fun z => hj (h j z))]
def clrS (t : S4) (vs : List Nat) : S4 := List.rec (motive := fun _ => S4 → S4) (fun t => t) (fun i _ ih t => ih (t.set i .und)) vs t
def clrC (vs : List Nat) (s : S4) (k : S4 → Ans) : Ans := List.rec (motive := fun _ => S4 → Ans) (fun s => k s) (fun i _ ih s => sI i .und s fun s => ih s) vs s
theorem clrC_ok {k : S4 → Ans} {a : Ans} (ha : a ≠ .bad) : ∀ {vs : List Nat} {s : S4}, clrC vs s k = a → k (clrS s vs) = a
  | [], _, h => h
  | i :: vs, s, h => clrC_ok (vs := vs) ha (sI_ok ha i .und s _ h)
theorem get_clr : ∀ {vs : List Nat} {t : S4} {i : Nat}, (clrS t vs).get i ≠ .und → i ∉ vs ∧ (clrS t vs).get i = t.get i
  | [], _, _, _ => ⟨by simp, rfl⟩
  | v :: vs, t, i, h => by
    obtain ⟨h1, h2⟩ := get_clr (vs := vs) (t := t.set v .und) (i := i) h
    have h3 : (clrS t (v :: vs)).get i = (t.set v .und).get i := h2
    have hne : i ≠ v := fun e => by
      subst e
      rw [h3] at h
      rcases S4.get_set_self t i .und with z | z <;> exact h z
    exact ⟨by simp only [List.mem_cons, not_or]; exact ⟨hne, h1⟩, by rw [h3, S4.get_set_ne _ _ _ _ hne]⟩
theorem SSim.clr {M : Mo} {r : Rg} {H : Hp} {t : S4} {σ : St} {vs : List Nat} (x : SSim M r H t σ) : SSim M r H (clrS t vs) (wipe σ vs) := fun i n => by
  obtain ⟨h1, h2⟩ := get_clr n
  rw [h2] at n ⊢
  obtain ⟨v, a, b⟩ := x i n
  exact ⟨v, by rw [wipe_out h1]; exact a, b⟩

/-! ### targets of comprehensions -/
def PostW (M : Mo) (r : Rg) (H : Hp) (a : Ans) (k : KN) (Q : St → Hp → Prop) (vs : List Nat) (σ : St) : Prop := ∀ t' h' r' σ' H', Ext r H r' H' → SSim M r' H' t' σ' → wipe σ' vs = wipe σ vs → σ'.length = σ.length → HSim M r' H' h' → k t' h' = a → Q σ' H'
def tGw (M : Mo) (cl : Cl) (E : XK) (C : GCode) (vs : List Nat) : TG := fun v σ H Q => ∃ a w t h x k r, At M E a t h x r σ H ∧ RelW M.K M.g r H w v ∧ C w cl t h x k = a ∧ PostW M r H a k Q vs σ
def tGsw (M : Mo) (cl : Cl) (E : XK) (C : GsCode) (vs : List Nat) : TGs := fun us σ H Q => ∃ a ws t h x k r, At M E a t h x r σ H ∧ RelWs M.K M.g r H ws us ∧ C ws cl t h x k = a ∧ PostW M r H a k Q vs σ
section
variable {X : Cx} {M : Mo} {cl : Cl} {E : XK} {tg a b e : Expr} {es : List Expr} {A B C : Code} {L : LCode} {T T1 : TCode} {pos p1 p : Pos} {IC IC1 : ICode} {G G1 : GCode} {Gs : GsCode} {vs vs1 : List Nat}
theorem PostW.ext {r r' : Rg} {H H' : Hp} {a : Ans} {k : KN} {Q : St → Hp → Prop} {σ σ' : St} (e : Ext r H r' H') (hw : wipe σ' vs = wipe σ vs) (hl : σ'.length = σ.length) (p : PostW M r H a k Q vs σ) : PostW M r' H' a k Q vs σ' := fun t h r2 σ2 H2 e2 ss w l hs eq => p t h r2 σ2 H2 (e.trans e2) ss (w.trans hw) (l.trans hl) hs eq
theorem pgw_name {i : Nat} {x : Str} (hN : X.N.Nodup) (hi : X.N[i]? = some x) (hx : Loc X.env.scope x) (hv : i ∈ vs) (hf : X.fn x = true ∨ X.env.scope.names.lookup x = some .local := by first | exact .inl rfl | exact .inr rfl | assumption) : PG X (.Name x pos) (tGw M cl E (gcName (sI i)) vs) :=
  PG.impI (pg_name hN hi hx hf) fun pins s v σ H Q I ⟨a, w, t, h, x, k, r, A, q, eq, P⟩ => by
    have hl : i < σ.length := by rw [I.len]; exact (List.getElem?_eq_some_iff.mp hi).1
    exact P _ _ _ _ _ Ext.refl (A.ss.set hl q) (wipe_set hv) (by rw [List.length_set]) A.hs (sI_ok A.good i w t _ eq)
theorem pgsw_nil : PGs X [] (tGsw M cl E gcNil vs) := PGs.imp pgs_nil fun us σ H Q ⟨a, ws, t, h, x, k, r, A, q, eq, P⟩ => by
  cases ws with
  | nil => exact ⟨q, P _ _ _ _ _ Ext.refl A.ss rfl rfl A.hs eq⟩
  | cons _ _ => exact absurd (show Ans.bad = a from eq).symm A.good
theorem pgsw_cons (h1 : PG X e (tGw M cl E G vs)) (h2 : PGs X es (tGsw M cl E Gs vs)) (hs : (assignEach (e :: es) X.env).map (·.2) = assign e X.env :: (assignEach es X.env).map (·.2) := by rfl) : PGs X (e :: es) (tGsw M cl E (gcCons G Gs) vs) := PGs.imp (pgs_cons h1 h2 hs) fun us σ H Q ⟨a, ws, t, h, x, k, r, A, q, eq, P⟩ => by
  cases ws with
  | nil => exact absurd (show Ans.bad = a from eq).symm A.good
  | cons w ws =>
    obtain ⟨v, vr, ev, q1, q2⟩ := (show ∃ v q, us = v :: q ∧ RelW M.K M.g r H w v ∧ RelWs M.K M.g r H ws q from q)
    refine ⟨v, vr, ev, a, w, t, h, x, _, r, A, q1, eq, fun t1 h1 r1 σ1 H1 e1 ss1 w1 l1 hs1 eq1 => ?_⟩
    exact ⟨a, ws, t1, h1, x, k, r1, ⟨A.good, ss1, hs1, A.px.ext e1⟩, q2.ext e1, eq1, P.ext e1 w1 l1⟩
theorem pgw_tup {kk : Nat} {n : Nat} (hc : X.calm = true) (f : Fits X M) (h : PGs X es (tGsw M cl E Gs vs)) (hn : (assignEach es X.env).length = n := by rfl) (hst : (assignEach es X.env).findIdx? (·.1) = none := by rfl) : PG X (.Tuple es kk pos) (tGw M cl E (gcTup n Gs) vs) :=
  PG.impI (pg_tup hc h hn hst) fun pins s v σ H Q I ⟨a, w, t, h, x, k, r, A, q, eq, P⟩ => by
    obtain ⟨ws, e1, z, p, us, e2, tt, l, e3⟩ := cTup_rel A.good q eq
    rcases cB_ok e3 with ⟨e4, e3⟩ | ⟨_, e3⟩
    · rw [lenN_eq] at e4
      exact ⟨p, us, e2, by rw [← f.K]; exact tt.sq, by rw [← l.length]; exact Nat.eq_of_beq_eq_true e4, a, ws, t, h, x, k, r, A, l, e3, P⟩
    · exact absurd e3.symm A.good
/-! ### conditions -/
def tcYes : TCode := fun _ _ h _ kt _ => kt h
theorem PTs.imp {ifs : List Expr} {t t' : TT} (h : PTs X ifs t) (i : ∀ σ H Q, t' σ H Q → t σ H Q) : PTs X ifs t' := ⟨fun pins s σ H Q I q => h.run pins s σ H Q I (i σ H Q q)⟩
theorem ptsc_nil : PTs X [] (tT M cl E tcYes) := PTs.imp pts_nil fun σ H Q ⟨a, t, h, x, kt, kf, r, A, eq, pt, pf⟩ => pt _ _ _ Ext.refl A.hs eq
theorem ptsc_one {c : Expr} (h : PT X c (tT M cl E T)) : PTs X [c] (tT M cl E T) := pts_one h
end

/-! ### [.. for .. in ..] -/
def compC (body : W → List W → EH → (List W → EH → Ans) → Ans) (done : List W → EH → Ans) (ws acc : List W) (h : EH) : Ans := List.rec (motive := fun _ => List W → EH → Ans) done (fun w _ ih acc h => body w acc h ih) ws acc h
def cLc (own : Bool) (vs : List Nat) (IC : ICode) (G : GCode) (T : TCode) (A : Code) : Code := fun c s h x k => IC c s h x fun ws h => clrC vs s fun s0 =>
  compC (fun w acc h nx => G w c s0 h xBad fun s2 h => T c s2 h xBad (fun h => A c s2 h xBad fun y h => nx (y :: acc) h) (fun h => nx acc h)) (fun acc h => revC acc [] fun l => cB own (ownC h (.lst l) k) (k (.lst l) h)) ws [] h
/-- where a comprehension stands -/
structure Blk (r1 : Rg) (H1 : Hp) (D : Addr) (R : Rg) (H' : Hp) : Prop where
  e0 : Ext0 r1 H1 R H'
  bb : ∃ f, R.b = D :: (r1.b ++ f) ∧ D ∉ f ∧ ∀ a ∈ f, a ∉ r1.b
  nl : D ∉ R.l
  fk : FrzK H1 H'
  bk : ∀ b o, b ∈ r1.b → H1 b = some o → H' b = some o
theorem Blk.start {M : Mo} {r1 : Rg} {H1 : Hp} {h1 : EH} {D : Addr} {o : HO} (hs : HSim M r1 H1 h1) (hD : H1 D = none) : Blk r1 H1 D (r1.blk D) (upd H1 D o) := ⟨Ext0.blk hD, ⟨[], by simp [Rg.blk], by simp, by simp⟩, fun z => hs.fresh hD (.inl z), FrzK.upd (NFrz.none hD), fun b o hb q => by rw [upd_ne (ne_of_none q hD)]; exact q⟩
theorem Blk.mem {r1 : Rg} {H1 : Hp} {D : Addr} {R : Rg} {H' : Hp} (x : Blk r1 H1 D R H') : D ∈ R.b := by
  obtain ⟨f, q, _⟩ := x.bb
  rw [q]
  exact List.mem_cons_self ..
theorem Blk.extG {M : Mo} {r1 : Rg} {H1 : Hp} {D : Addr} {R R' : Rg} {H' H'' : Hp} {h' h'' : EH} {u : HO} (x : Blk r1 H1 D R H') (e : Ext R H' R' H'') (hs0 : HSim M R H' h') (hs : HSim M R' H'' h'') (hd : H' D = some u) (hu : ∀ o v, u ≠ .frz o v) : Blk r1 H1 D R' H'' := by
  have hm := x.mem
  obtain ⟨f, q, n, m⟩ := x.bb
  obtain ⟨f2, q2, n2⟩ := e.bb
  refine ⟨x.e0.trans e.toExt0, ⟨f ++ f2, by rw [q2, q]; simp, fun z => (List.mem_append.mp z).elim n fun z => n2 D z hm, fun b hb hb' => (List.mem_append.mp hb).elim (fun z => m b z hb') fun z => n2 b z (by rw [q]; exact List.mem_cons_of_mem _ (List.mem_append_left _ hb'))⟩, ?_, x.fk.trans (e.frzK hs0), fun b o hb z => e.bk b o (by rw [q]; exact List.mem_cons_of_mem _ (List.mem_append_left _ hb)) (x.bk b o hb z)⟩
  have hd2 := e.bk D _ x.mem hd
  rcases (hs.dis D (e.bmem x.mem)).2 with z | ⟨o, v, z⟩
  · exact z
  · rw [hd2] at z
    exact absurd (Option.some.inj z) (hu o v)
theorem Blk.ext {M : Mo} {r1 : Rg} {H1 : Hp} {D : Addr} {R R' : Rg} {H' H'' : Hp} {h' h'' : EH} {vs : List V} (x : Blk r1 H1 D R H') (e : Ext R H' R' H'') (hs0 : HSim M R H' h') (hs : HSim M R' H'' h'') (hd : H' D = some (.lst vs)) : Blk r1 H1 D R' H'' := x.extG e hs0 hs hd fun o v z => nomatch z
theorem Blk.put {r1 : Rg} {H1 : Hp} {D : Addr} {R : Rg} {H' : Hp} {o : HO} (x : Blk r1 H1 D R H') (hD : H1 D = none) (hn : NFrz H' D) : Blk r1 H1 D R (upd H' D o) := by
  have ne : ∀ b u, H1 b = some u → b ≠ D := fun b u q => ne_of_none q hD
  refine ⟨⟨x.e0.more, fun b u q nt n => ?_⟩, x.bb, x.nl, x.fk.trans (FrzK.upd hn), fun b u hb q => by rw [upd_ne (ne b u q)]; exact x.bk b u hb q⟩
  obtain ⟨k1, k2⟩ := x.e0.keep b u q nt n
  exact ⟨by rw [upd_ne (ne b u q)]; exact k1, k2⟩
theorem lc_end {M : Mo} {own : Bool} {r1 R : Rg} {D : Addr} {H1 H' : Hp} {h1 h' : EH} {ws : List W} {vs : List V} {k : K1} {a : Ans} {Q : VK} (ha : a ≠ .bad) (hs1 : HSim M r1 H1 h1) (hD : H1 D = none) (E : Blk r1 H1 D R H') (hs : HSim M R H' h')
    (hd : H' D = some (.lst vs)) (l : RelWs M.K M.g R H' ws vs) (hl : ws.length ≤ 16777216) (P : Post M r1 H1 a k Q) (eq : cB own (ownC h' (.lst ws) k) (k (.lst ws) h') = a) : Q (.ref D) H' := by
  obtain ⟨Rl, Rb⟩ := R
  obtain ⟨f, hb, hDf, hfb⟩ := E.bb
  have hb : Rb = D :: (r1.b ++ f) := hb
  subst hb
  have hs : HSim M (Rg.blk ⟨Rl, r1.b ++ f⟩ D) H' h' := hs
  have e0 : Ext0 r1 H1 (Rg.blk ⟨Rl, r1.b ++ f⟩ D) H' := E.e0
  have l : RelWs M.K M.g (Rg.blk ⟨Rl, r1.b ++ f⟩ D) H' ws vs := l
  have hDl : D ∉ Rl := E.nl
  have hDb : D ∉ r1.b ++ f := fun z => (List.mem_append.mp z).elim (fun z => hs1.fresh hD (.inr z)) hDf
  rcases cB_ok eq with ⟨_, eq⟩ | ⟨_, eq⟩
  · obtain ⟨t', e1, e2⟩ := BT.insC_ok ha eq
    have x := HSim.ownB (o := .lst ws) hs hDl hDb e1 ⟨hl, vs, hd, l.ext0 Ext0.blkAdd⟩
    have hn : Rl.length = h'.n := hs.len
    exact P (.ref h'.n) _ _ (.ref D) H' ⟨e0.trans Ext0.blkAdd, ⟨f, rfl, hfb⟩, E.bk⟩ ⟨D, rfl, by show (Rl ++ [D])[h'.n]? = _; rw [← hn]; simp⟩ x e2
  · exact P (.lst ws) h' ⟨Rl, r1.b ++ f⟩ (.ref D) H' ⟨e0.trans Ext0.unblk, ⟨f, rfl, hfb⟩, E.bk⟩ ⟨D, vs, rfl, hl, ⟨hd, fun z => z.elim hDl hDb⟩, l.ext0 Ext0.unblk⟩ (hs.unblk hDl) eq
/-- one more item -/
theorem lc_add {M : Mo} {R : Rg} {H : Hp} {h : EH} {D : Addr} {ws : List W} {vs : List V} {w : W} {v : V} (hs : HSim M R H h) (hb : D ∈ R.b) (hl : D ∉ R.l) (hd : H D = some (.lst vs)) (l : RelWs M.K M.g R H ws vs) (q : RelW M.K M.g R H w v) :
    HSim M R (upd H D (.lst (vs ++ [v]))) h ∧ RelWs M.K M.g R (upd H D (.lst (vs ++ [v]))) (ws ++ [w]) (vs ++ [v]) := by
  have e : Ext0 R H R (upd H D (.lst (vs ++ [v]))) := Ext0.mut (.inr hb)
  exact ⟨hs.mutB hb hl, (l.ext0 e).append ⟨v, [], rfl, q.ext0 e, rfl⟩⟩
theorem px_bad {M : Mo} {r : Rg} {H : Hp} {a : Ans} (ha : a ≠ .bad) : PostX M r H a xBad eNo := fun n w h' r' cls d H' e x hs eq => absurd (show Ans.bad = a from eq).symm ha
section
variable {X : Cx} {M : Mo} {cl : Cl} {E : XK} {tg a b e : Expr} {es : List Expr} {A B C : Code} {L : LCode} {T T1 : TCode} {pos p1 p : Pos} {IC IC1 : ICode} {G G1 : GCode} {Gs : GsCode} {vs vs1 : List Nat} {own : Bool}
theorem lc_im {σ : St} {H : Hp} {Q : VK} (h : tE M cl E (cLc own vs IC G T A) σ H Q) : tLc (tI M cl E IC) (tGw M cl eNo G vs) (tT M cl eNo T) (tE M cl eNo A) vs σ H Q := by
  obtain ⟨a, t, hh, x, k, r, At0, eq, P⟩ := h
  refine ⟨a, t, hh, x, _, r, At0, eq, fun ws h1 r1 H1 J e1 hs1 ok eq1 => ?_⟩
  intro D hD
  have eq2 := clrC_ok At0.good eq1
  have SS : SSim M r1 H1 (clrS t vs) (wipe σ vs) := (At0.ss.ext e1).clr
  have P1 : Post M r1 H1 a k Q := P.ext e1
  have hf := hs1.fresh hD
  generalize clrS t vs = s0 at eq2 SS
  refine ⟨fun i m H' => i ≤ ws.length ∧ m = ws.length - i ∧ ∃ R h' acc us, Blk r1 H1 D R H' ∧ HSim M R H' h' ∧ H' D = some (.lst us) ∧ RelWs M.K M.g R H' acc.reverse us ∧ acc.length ≤ i ∧
    compC (fun w acc h nx => G w cl s0 h xBad fun s2 h => T cl s2 h xBad (fun h => A cl s2 h xBad fun y h => nx (y :: acc) h) (fun h => nx acc h)) (fun acc h => revC acc [] fun l => cB own (ownC h (.lst l) k) (k (.lst l) h)) (ws.drop i) acc h' = a, ?_, ?_⟩
  · exact ⟨ws.length, Nat.zero_le _, rfl, r1.blk D, h1, [], [], Blk.start hs1 hD, hs1.blk hD, upd_same, rfl, Nat.le_refl _, by rw [List.drop_zero]; exact eq2⟩
  · intro i m H' ⟨hi, hm, R, h', acc, us, E1, hs, hd, l, hacc, eq3⟩
    have e01 : Ext0 r1 H1 R H' := E1.e0
    have DR : D ∈ R.b := E1.mem
    by_cases hlt : i < ws.length
    · rw [List.drop_eq_getElem_cons hlt] at eq3
      refine .inr ⟨ok.go i R H' e01 E1.fk hlt, fun H'' => i + 1 ≤ ws.length ∧ ∃ R h' acc us, Blk r1 H1 D R H'' ∧ HSim M R H'' h' ∧ H'' D = some (.lst us) ∧ RelWs M.K M.g R H'' acc.reverse us ∧ acc.length ≤ i + 1 ∧
        compC (fun w acc h nx => G w cl s0 h xBad fun s2 h => T cl s2 h xBad (fun h => A cl s2 h xBad fun y h => nx (y :: acc) h) (fun h => nx acc h)) (fun acc h => revC acc [] fun l => cB own (ownC h (.lst l) k) (k (.lst l) h)) (ws.drop (i + 1)) acc h' = a, ?_, ?_⟩
      · intro H'' ⟨z1, z2⟩
        exact ⟨ws.length - (i + 1), by omega, z1, rfl, z2⟩
      · intro y H'' hy
        obtain ⟨g1, w, g2, g3⟩ := ok.yld i R H' h' y H'' e01 E1.fk hs hlt hy
        rw [List.getElem?_eq_getElem hlt] at g2
        cases g2
        have e2 : Ext R H' R H'' := Ext.grow g1
        refine ⟨a, ws[i], s0, h', xBad, _, R, ⟨At0.good, SS.ext0 (e01.trans e2.toExt0), hs.grow g1, px_bad At0.good⟩, g3, eq3, fun t3 h3 r3 σ3 H3 e3 ss3 w3 l3 hs3 eq4 => ⟨by rw [w3, wipe_wipe fun _ z => z], ?_⟩⟩
        refine ⟨a, t3, h3, xBad, _, _, r3, ⟨At0.good, ss3, hs3, px_bad At0.good⟩, eq4, fun h4 r4 H4 e4 hs4 eq5 => itT ?_, fun h4 r4 H4 e4 hs4 eq5 => itF ?_⟩
        · refine ⟨a, t3, h4, xBad, _, r4, ⟨At0.good, ss3.ext e4, hs4, px_bad At0.good⟩, eq5, fun y5 h5 r5 v5 H5 e5 q5 hs5 eq6 => ?_⟩
          have E5 := ((e2.trans e3).trans e4).trans e5
          have hd5 : H5 D = some (.lst us) := E5.bk D _ DR hd
          have B5 := E1.ext E5 hs hs5 hd
          have DR5 : D ∈ r5.b := B5.mem
          have l5 := l.ext E5
          obtain ⟨z1, z2⟩ := lc_add hs5 DR5 B5.nl hd5 l5 q5
          refine ⟨us, hd5, ?_, hlt, r5, h5, y5 :: acc, us ++ [v5], ?_, z1, upd_same, by rw [List.reverse_cons]; exact z2, by simp; omega, eq6⟩
          · have := l.length
            rw [List.length_reverse] at this
            have := ok.len
            rw [sizeLine_eq]
            omega
          · exact B5.put hD (NFrz.of hd5 fun _ _ z => nomatch z)
        · have E4 := (e2.trans e3).trans e4
          exact ⟨hlt, r4, h4, acc, us, E1.ext E4 hs hs4 hd, hs4, E4.bk D _ DR hd, l.ext E4, by omega, eq5⟩
    · have hi' : i = ws.length := by omega
      subst hi'
      rw [List.drop_length] at eq3
      have eq4 : revC acc [] (fun l => cB own (ownC h' (.lst l) k) (k (.lst l) h')) = a := eq3
      rw [revC_eq, List.append_nil] at eq4
      refine .inl ⟨ok.stop R H' e01 E1.fk, lc_end At0.good hs1 hD E1 hs hd l ?_ P1 eq4⟩
      rw [List.length_reverse]
      exact Nat.le_trans hacc ok.len
end
end Eng
end
end

section
set_option maxRecDepth 100000
set_option maxHeartbeats 4000000
/-! Engine, part O: list comprehensions as rules; two for parts. -/
noncomputable section
namespace Eng
open PySem PySem.Spec L2
open PyProof.Rows hiding St

section
variable {X : Cx} {M : Mo} {cl : Cl} {E : XK} {tg tg1 a b e elt iter iter1 : Expr} {ifs ifs1 es : List Expr} {A B C : Code} {L : LCode} {T T1 : TCode} {pos spos p1 p : Pos} {IC IC1 : ICode} {G G1 : GCode} {Gs : GsCode} {vs vs1 : List Nat} {ow : Bool} {scope : Scope} {own : List (Str × Nat)}
/-- in the block of a comprehension -/
abbrev InB (X : Cx) (scope : Scope) (φ : Cx → Prop) : Prop := ∀ (s : Shared) (H : Hp) (C : Addr) (cl : List (Str × Addr)) (fp : List Addr), φ (X.blk s H scope (compEnvC scope cl C X.env) fp)
theorem pec_lc (f : Good X M) (hN : X.N.Nodup) (hi : PI X tg iter (tI M cl E IC)) (ok : BlkOk X.N X.env.scope scope own) (hg : InB X scope fun Y => PG Y tg (tGw M cl eNo G (own.map (·.2)))) (ht : InB X scope fun Y => PTs Y ifs (tT M cl eNo T)) (he : InB X scope fun Y => PE Y elt (tE M cl eNo A))
    (hs : ∀ x, foldedSetIterable iter X.env x = pure x := by intro _; rfl) : PE X (.ListComp elt [⟨tg, iter, ifs, 0⟩] scope pos) (tE M cl E (cLc ow (own.map (·.2)) IC G T A)) := PE.imp (pe_lc f.calm hN hi ok hg ht he hs) fun _ _ _ h => lc_im h
theorem psc_setLc {i : Nat} {y : Str} {py : Pos} (f : Good X M) (hN : X.N.Nodup) (hy : X.N[i]? = some y) (hyl : X.env.scope.names.lookup y = some .local) (hsw : swapsWith (.ListComp elt [⟨tg, iter, ifs, 0⟩] scope pos) (some (.Name y py)) spos.line X.env = pure true)
    (hi : PI X tg iter (tI M cl E IC)) (ok : BlkOk X.N X.env.scope scope own) (hg : InB X scope fun Y => PG Y tg (tGw M cl eNo G (own.map (·.2)))) (ht : InB X scope fun Y => PTs Y ifs (tT M cl eNo T)) (he : InB X scope fun Y => PE Y elt (tE M cl eNo A))
    (hs : ∀ x, foldedSetIterable iter X.env x = pure x := by intro _; rfl) : PS X (.Assign [.Name y py] (.ListComp elt [⟨tg, iter, ifs, 0⟩] scope pos) spos) (tSt M cl E (scAsg (cLc ow (own.map (·.2)) IC G T A) (gcName (sI i)))) :=
  PS.impI (ps_setLc f.calm hN hy hyl hsw hi ok hg ht he hs) fun pins s D σ H I ⟨a, t, hh, x, n, k, b, c, r, A, eq, pn, pr, pb, pc⟩ => by
    refine lc_im ⟨a, t, hh, x, _, r, A, eq, fun w h1 r1 v1 H1 e1 q1 hs1 eq1 => ?_⟩
    have hl : i < σ.length := by rw [I.len]; exact (List.getElem?_eq_some_iff.mp hy).1
    exact pn _ _ _ _ _ e1 ((A.ss.ext e1).set hl q1) (by rw [List.length_set]) hs1 (sI_ok A.good i w t _ eq1)

def cLc2 (own : Bool) (vs vs1 : List Nat) (IC : ICode) (G : GCode) (T : TCode) (IC1 : ICode) (G1 : GCode) (T1 : TCode) (A : Code) : Code := fun c s h x k => IC c s h x fun ws h => clrC vs s fun s0 =>
  compC (fun w acc h nx => G w c s0 h xBad fun s2 h => T c s2 h xBad (fun h => IC1 c s2 h xBad fun us h => clrC vs1 s2 fun s3 =>
    compC (fun u acc h nx => G1 u c s3 h xBad fun s4 h => T1 c s4 h xBad (fun h => A c s4 h xBad fun y h => cB (Nat.ble (Nat.succ (lenN acc)) 16777216) (nx (y :: acc) h) .bad) (fun h => nx acc h)) nx us acc h) (fun h => nx acc h))
    (fun acc h => revC acc [] fun l => cB own (ownC h (.lst l) k) (k (.lst l) h)) ws [] h
theorem lc2_im {σ : St} {H : Hp} {Q : VK} (h : tE M cl E (cLc2 ow vs vs1 IC G T IC1 G1 T1 A) σ H Q) : tLc2 (tI M cl E IC) (tGw M cl eNo G vs) (tT M cl eNo T) (tI M cl eNo IC1) (tGw M cl eNo G1 vs1) (tT M cl eNo T1) (tE M cl eNo A) vs vs1 σ H Q := by
  obtain ⟨a, t, hh, x, k, r, At0, eq, P⟩ := h
  refine ⟨a, t, hh, x, _, r, At0, eq, fun ws h1 r1 H1 J e1 hs1 ok eq1 => ?_⟩
  intro D hD
  have eq2 := clrC_ok At0.good eq1
  have SS : SSim M r1 H1 (clrS t vs) (wipe σ vs) := (At0.ss.ext e1).clr
  have P1 : Post M r1 H1 a k Q := P.ext e1
  generalize clrS t vs = s0 at eq2 SS
  let inner : S4 → W → List W → EH → (List W → EH → Ans) → Ans := fun s3 u acc h nx => G1 u cl s3 h xBad fun s4 h => T1 cl s4 h xBad (fun h => A cl s4 h xBad fun y h => cB (Nat.ble (Nat.succ (lenN acc)) 16777216) (nx (y :: acc) h) .bad) (fun h => nx acc h)
  let body : W → List W → EH → (List W → EH → Ans) → Ans := fun w acc h nx => G w cl s0 h xBad fun s2 h => T cl s2 h xBad (fun h => IC1 cl s2 h xBad fun us h => clrC vs1 s2 fun s3 => compC (inner s3) nx us acc h) (fun h => nx acc h)
  let done : List W → EH → Ans := fun acc h => revC acc [] fun l => cB ow (ownC h (.lst l) k) (k (.lst l) h)
  have eq2 : compC body done ws [] h1 = a := eq2
  let St1 : List W → (List W → EH → Ans) → Hp → Prop := fun us dn H' => ∃ R h' acc xs, Blk r1 H1 D R H' ∧ HSim M R H' h' ∧ H' D = some (.lst xs) ∧ RelWs M.K M.g R H' acc.reverse xs ∧ acc.length ≤ 16777216 ∧ dn acc h' = a
  refine ⟨fun i m H' => i ≤ ws.length ∧ m = ws.length - i ∧ St1 [] (fun acc h => compC body done (ws.drop i) acc h) H', ?_, ?_⟩
  · exact ⟨ws.length, Nat.zero_le _, rfl, r1.blk D, h1, [], [], Blk.start hs1 hD, hs1.blk hD, upd_same, rfl, Nat.zero_le _, by show compC body done (ws.drop 0) [] h1 = a; rw [List.drop_zero]; exact eq2⟩
  · intro i m H' ⟨hi, hm, R, h', acc, us, E1, hs, hd, l, hacc, eq3⟩
    have eq3 : compC body done (ws.drop i) acc h' = a := eq3
    have DR : D ∈ R.b := E1.mem
    by_cases hlt : i < ws.length
    · rw [List.drop_eq_getElem_cons hlt] at eq3
      have eq3 : body ws[i] acc h' (fun acc h => compC body done (ws.drop (i + 1)) acc h) = a := eq3
      refine .inr ⟨ok.go i R H' E1.e0 E1.fk hlt, fun H'' => i + 1 ≤ ws.length ∧ St1 [] (fun acc h => compC body done (ws.drop (i + 1)) acc h) H'', ?_, ?_⟩
      · intro H'' ⟨z1, z2⟩
        exact ⟨ws.length - (i + 1), by omega, z1, rfl, z2⟩
      · intro y H'' hy
        obtain ⟨g1, w, g2, g3⟩ := ok.yld i R H' h' y H'' E1.e0 E1.fk hs hlt hy
        rw [List.getElem?_eq_getElem hlt] at g2
        cases g2
        have e2 : Ext R H' R H'' := Ext.grow g1
        refine ⟨a, ws[i], s0, h', xBad, _, R, ⟨At0.good, SS.ext0 (E1.e0.trans e2.toExt0), hs.grow g1, px_bad At0.good⟩, g3, eq3, fun t3 h3 r3 σ3 H3 e3 ss3 w3 l3 hs3 eq4 => ⟨by rw [w3, wipe_wipe fun _ z => z], ?_⟩⟩
        refine ⟨a, t3, h3, xBad, _, _, r3, ⟨At0.good, ss3, hs3, px_bad At0.good⟩, eq4, fun h4 r4 H4 e4 hs4 eq5 => itT ?_, fun h4 r4 H4 e4 hs4 eq5 => itF ?_⟩
        · refine ⟨a, t3, h4, xBad, _, r4, ⟨At0.good, ss3.ext e4, hs4, px_bad At0.good⟩, eq5, fun us1 h5 r5 H5 J1 e5 hs5 ok1 eq6 => ?_⟩
          have eq7 := clrC_ok At0.good eq6
          have E5 := ((e2.trans e3).trans e4).trans e5
          have SS1 : SSim M r5 H5 (clrS t3 vs1) (wipe σ3 vs1) := ((ss3.ext e4).ext e5).clr
          generalize clrS t3 vs1 = s3 at eq7 SS1
          have eq7 : compC (inner s3) (fun acc h => compC body done (ws.drop (i + 1)) acc h) us1 acc h5 = a := eq7
          have B5 := E1.ext E5 hs hs5 hd
          refine ⟨fun j m1 H6 => j ≤ us1.length ∧ m1 = us1.length - j ∧ ∃ R6 h6 acc6 xs6, Blk r1 H1 D R6 H6 ∧ Ext0 r5 H5 R6 H6 ∧ FrzK H5 H6 ∧ HSim M R6 H6 h6 ∧ H6 D = some (.lst xs6) ∧ RelWs M.K M.g R6 H6 acc6.reverse xs6 ∧ acc6.length ≤ 16777216 ∧ compC (inner s3) (fun acc h => compC body done (ws.drop (i + 1)) acc h) (us1.drop j) acc6 h6 = a, ?_, ?_⟩
          · exact ⟨us1.length, Nat.zero_le _, rfl, r5, h5, acc, us, B5, Ext0.refl, FrzK.refl, hs5, E5.bk D _ DR hd, l.ext E5, hacc, by rw [List.drop_zero]; exact eq7⟩
          · intro j m1 H6 ⟨hj, hm1, R6, h6, acc6, xs6, B6, e56, fk6, hs6, hd6, l6, ha6, eq8⟩
            by_cases hlt1 : j < us1.length
            · rw [List.drop_eq_getElem_cons hlt1] at eq8
              have eq8 : inner s3 us1[j] acc6 h6 (fun acc h => compC (inner s3) (fun acc h => compC body done (ws.drop (i + 1)) acc h) (us1.drop (j + 1)) acc h) = a := eq8
              refine .inr ⟨ok1.go j R6 H6 e56 fk6 hlt1, fun H7 => j + 1 ≤ us1.length ∧ ∃ R6 h6 acc6 xs6, Blk r1 H1 D R6 H7 ∧ Ext0 r5 H5 R6 H7 ∧ FrzK H5 H7 ∧ HSim M R6 H7 h6 ∧ H7 D = some (.lst xs6) ∧ RelWs M.K M.g R6 H7 acc6.reverse xs6 ∧ acc6.length ≤ 16777216 ∧ compC (inner s3) (fun acc h => compC body done (ws.drop (i + 1)) acc h) (us1.drop (j + 1)) acc6 h6 = a, ?_, ?_⟩
              · intro H7 ⟨z1, z2⟩
                exact ⟨us1.length - (j + 1), by omega, z1, rfl, z2⟩
              · intro y1 H7 hy1
                obtain ⟨g4, w1, g5, g6⟩ := ok1.yld j R6 H6 h6 y1 H7 e56 fk6 hs6 hlt1 hy1
                rw [List.getElem?_eq_getElem hlt1] at g5
                cases g5
                have e7 : Ext R6 H6 R6 H7 := Ext.grow g4
                refine ⟨a, us1[j], s3, h6, xBad, _, R6, ⟨At0.good, SS1.ext0 (e56.trans e7.toExt0), hs6.grow g4, px_bad At0.good⟩, g6, eq8, fun t8 h8 r8 σ8 H8 e8 ss8 w8 l8 hs8 eq9 => ⟨by rw [w8, wipe_wipe fun _ z => z], ?_⟩⟩
                refine ⟨a, t8, h8, xBad, _, _, r8, ⟨At0.good, ss8, hs8, px_bad At0.good⟩, eq9, fun h9 r9 H9 e9 hs9 eq10 => itT ?_, fun h9 r9 H9 e9 hs9 eq10 => itF ?_⟩
                · refine ⟨a, t8, h9, xBad, _, r9, ⟨At0.good, ss8.ext e9, hs9, px_bad At0.good⟩, eq10, fun y10 h10 r10 v10 H10 e10 q10 hs10 eq11 => ?_⟩
                  have E10 := ((e7.trans e8).trans e9).trans e10
                  have hd10 : H10 D = some (.lst xs6) := E10.bk D _ B6.mem hd6
                  have B10 := B6.ext E10 hs6 hs10 hd6
                  have D10 : D ∈ r10.b := B10.mem
                  rcases cB_ok eq11 with ⟨e12, eq12⟩ | ⟨_, eq12⟩
                  · rw [lenN_eq] at e12
                    have e12 := Nat.le_of_ble_eq_true e12
                    obtain ⟨z1, z2⟩ := lc_add hs10 D10 B10.nl hd10 (l6.ext E10) q10
                    refine ⟨xs6, hd10, ?_, hlt1, r10, h10, y10 :: acc6, xs6 ++ [v10], B10.put hD (NFrz.of hd10 fun _ _ z => nomatch z), ?_, (fk6.trans (E10.frzK hs6)).trans (FrzK.upd (NFrz.of hd10 fun _ _ z => nomatch z)), z1, upd_same, by rw [List.reverse_cons]; exact z2, by simp; omega, eq12⟩
                    · have := l6.length
                      rw [List.length_reverse] at this
                      rw [sizeLine_eq]
                      omega
                    · exact (e56.trans E10.toExt0).trans (Ext0.mut (.inr D10))
                  · exact absurd eq12.symm At0.good
                · have E9 := (e7.trans e8).trans e9
                  exact ⟨hlt1, r9, h9, acc6, xs6, B6.ext E9 hs6 hs9 hd6, e56.trans E9.toExt0, fk6.trans (E9.frzK hs6), hs9, E9.bk D _ B6.mem hd6, l6.ext E9, ha6, eq10⟩
            · have hj' : j = us1.length := by omega
              subst hj'
              rw [List.drop_length] at eq8
              exact .inl ⟨ok1.stop R6 H6 e56 fk6, hlt, R6, h6, acc6, xs6, B6, hs6, hd6, l6, ha6, eq8⟩
        · have E4 := (e2.trans e3).trans e4
          exact ⟨hlt, r4, h4, acc, us, E1.ext E4 hs hs4 hd, hs4, E4.bk D _ DR hd, l.ext E4, hacc, eq5⟩
    · have hi' : i = ws.length := by omega
      subst hi'
      rw [List.drop_length] at eq3
      have eq4 : revC acc [] (fun l => cB ow (ownC h' (.lst l) k) (k (.lst l) h')) = a := eq3
      rw [revC_eq, List.append_nil] at eq4
      refine .inl ⟨ok.stop R H' E1.e0 E1.fk, lc_end At0.good hs1 hD E1 hs hd l ?_ P1 eq4⟩
      rw [List.length_reverse]
      exact hacc
theorem pec_lc2 (f : Good X M) (hN : X.N.Nodup) (hi : PI X tg iter (tI M cl E IC)) (ok : BlkOk X.N X.env.scope scope own) (hv : ∀ i ∈ vs1, i ∈ own.map (·.2)) (hg : InB X scope fun Y => PG Y tg (tGw M cl eNo G (own.map (·.2)))) (ht : InB X scope fun Y => PTs Y ifs (tT M cl eNo T))
    (hi1 : InB X scope fun Y => PI Y tg1 iter1 (tI M cl eNo IC1)) (hg1 : InB X scope fun Y => PG Y tg1 (tGw M cl eNo G1 vs1)) (ht1 : InB X scope fun Y => PTs Y ifs1 (tT M cl eNo T1)) (he : InB X scope fun Y => PE Y elt (tE M cl eNo A))
    (hs : ∀ x, foldedSetIterable iter X.env x = pure x := by intro _; rfl) (hs1 : ∀ env x, foldedSetIterable iter1 env x = pure x := by intro _ _; rfl) : PE X (.ListComp elt [⟨tg, iter, ifs, 0⟩, ⟨tg1, iter1, ifs1, 0⟩] scope pos) (tE M cl E (cLc2 ow (own.map (·.2)) vs1 IC G T IC1 G1 T1 A)) :=
  PE.imp (pe_lc2 f.calm hN hi ok hv hg ht hi1 hg1 ht1 he hs hs1) fun _ _ _ h => lc2_im h
theorem psc_setLc2 {i : Nat} {y : Str} {py : Pos} (f : Good X M) (hN : X.N.Nodup) (hy : X.N[i]? = some y) (hyl : X.env.scope.names.lookup y = some .local) (hsw : swapsWith (.ListComp elt [⟨tg, iter, ifs, 0⟩, ⟨tg1, iter1, ifs1, 0⟩] scope pos) (some (.Name y py)) spos.line X.env = pure true)
    (hi : PI X tg iter (tI M cl E IC)) (ok : BlkOk X.N X.env.scope scope own) (hv : ∀ i ∈ vs1, i ∈ own.map (·.2)) (hg : InB X scope fun Y => PG Y tg (tGw M cl eNo G (own.map (·.2)))) (ht : InB X scope fun Y => PTs Y ifs (tT M cl eNo T))
    (hi1 : InB X scope fun Y => PI Y tg1 iter1 (tI M cl eNo IC1)) (hg1 : InB X scope fun Y => PG Y tg1 (tGw M cl eNo G1 vs1)) (ht1 : InB X scope fun Y => PTs Y ifs1 (tT M cl eNo T1)) (he : InB X scope fun Y => PE Y elt (tE M cl eNo A))
    (hs : ∀ x, foldedSetIterable iter X.env x = pure x := by intro _; rfl) (hs1 : ∀ env x, foldedSetIterable iter1 env x = pure x := by intro _ _; rfl) :
    PS X (.Assign [.Name y py] (.ListComp elt [⟨tg, iter, ifs, 0⟩, ⟨tg1, iter1, ifs1, 0⟩] scope pos) spos) (tSt M cl E (scAsg (cLc2 ow (own.map (·.2)) vs1 IC G T IC1 G1 T1 A) (gcName (sI i)))) :=
  PS.impI (ps_setLc2 f.calm hN hy hyl hsw hi ok hv hg ht hi1 hg1 ht1 he hs hs1) fun pins s D σ H I ⟨a, t, hh, x, n, k, b, c, r, A, eq, pn, pr, pb, pc⟩ => by
    refine lc2_im ⟨a, t, hh, x, _, r, A, eq, fun w h1 r1 v1 H1 e1 q1 hs1 eq1 => ?_⟩
    have hl : i < σ.length := by rw [I.len]; exact (List.getElem?_eq_some_iff.mp hy).1
    exact pn _ _ _ _ _ e1 ((A.ss.ext e1).set hl q1) (by rw [List.length_set]) hs1 (sI_ok A.good i w t _ eq1)
end
end Eng
end
end

section
set_option maxRecDepth 100000
set_option maxHeartbeats 4000000
/-! Engine, part P: calls, attributes, methods, instances. -/
noncomputable section
namespace Eng
open PySem PySem.Spec L2
open PyProof.Rows hiding St

/-- the promise of a def whose body is a code -/
abbrev Fn := List W → EH → KX → K1 → Ans
def spF (M : Mo) (F : Fn) : Sp := fun vs H Q E => ∃ a ws h x k r, a ≠ Ans.bad ∧ F ws h x k = a ∧ RelWs M.K M.g r H ws vs ∧ HSim M r H h ∧ PostX M r H a x E ∧ Post M r H a k Q
def cCall (F : Cl → Fn) (L : LCode) : Code := fun c s h x k => L c s h x fun ws h => F c ws h x k
def cMeth (c0 : Nat) (F : Cl → Fn) (A : Code) (L : LCode) : Code := fun c s h x k => A c s h x fun u h => cRef u fun i => BT.getC h.t i fun o => cMi o fun c1 _ => cB (Nat.beq c1 c0) (L c s h x fun ws h => F c (u :: ws) h x k) .bad
def cAttr (c0 i : Nat) (A : Code) : Code := fun c s h x k => A c s h x fun u h => cRef u fun n => BT.getC h.t n fun o => cMi o fun c1 fs => cB (Nat.beq c1 c0) (nthC fs i fun w => cU w (k w h)) .bad
def scAttr (c0 i : Nat) (A B : Code) : SCode := fun c s h x n _ _ _ => B c s h x fun w h => A c s h x fun u h => cRef u fun m => BT.getC h.t m fun o => cMi o fun c1 fs => cB (Nat.beq c1 c0) (setC fs i w fun fs' => wrC h m (.ins c0 fs') fun h => n s h) .bad
def cMake (c0 : Nat) (F : Cl → Fn) (und : List W) (L : LCode) : Code := fun c s h x k => L c s h x fun ws h => ownC h (.ins c0 und) fun u h => F c (u :: ws) h x fun w h => tbIsN w w h (k u h) .bad
section
variable {X : Cx} {M : Mo} {cl : Cl} {E : XK} {CX : CXT} {a b e o : Expr} {es : List Expr} {A B C : Code} {L : LCode} {pos p1 apos pos' : Pos} {n k c0 i : Nat} {x m f : Str} {F : Cl → Fn}
theorem call_im {σ : St} {H : Hp} {Q : VK} (h : tE M cl E (cCall F L) σ H Q) : tAL M cl E L σ H fun vs H1 => spF M (F cl) vs H1 Q E := by
  obtain ⟨a0, t, h, x, k, r, At0, eq, P⟩ := h
  exact ⟨a0, t, h, x, _, r, At0, eq, fun ws h1 r1 vs H1 e1 q1 hs1 eq1 => ⟨a0, ws, h1, x, k, r1, At0.good, eq1, q1, hs1, At0.px.ext e1, P.ext e1⟩⟩
theorem pec_call (FO : FnR X.prog X.w X.K X.mg X.base CX k (M.g n) (spF M (F cl))) (hr : Room k X.A) (hg : Gl X x) (hm : X.mg x = some (.ref (M.g n))) (hk : PySem.W.keepIn X.K (.ref (M.g n)) = true) (hx : Passes CX X E) (ha : PA X (e :: es) (tAL M cl E L))
    (hdb : (x == ("__debug__" : Str)) = false := by decide) (he : starEach (e :: es) X.env = (false, eval e X.env) :: starEach es X.env := by rfl) (hpl : (backTo pos (starEach es X.env)).any (·.1) = false := by rfl) : PE X (.Call (.Name x p1) (e :: es) [] pos) (tE M cl E (cCall F L)) :=
  ⟨fun pins s σ H Q I hw => wpAny_Call_Name_kw (ld_glob I hg hm (PySem.W.callWith_K (h₀ := X.base) I.ok.mod.kin hk (thn (ha.run pos pins s σ H _ I (call_im hw)) fun us s1 ⟨vs, H1, I1, r, q⟩ => ⟨I1.kIn, wpAny_call (run_fnR FO hr hx I1 r q)⟩) he hpl) hdb)⟩
theorem meth_im {σ : St} {H : Hp} {Q : VK} (h : tE M cl E (cMeth c0 F A L) σ H Q) : SlX.tMethSl (M.g c0) (spF M (F cl)) E (tE M cl E A) (tAL M cl E L) σ H Q := by
  obtain ⟨a0, t, h, x, k, r, At0, eq, P⟩ := h
  refine ⟨a0, t, h, x, _, r, At0, eq, fun u h1 r1 v1 H1 e1 q1 hs1 eq1 => ?_⟩
  obtain ⟨j, e2, eq2⟩ := cRef_ok At0.good eq1
  subst e2
  obtain ⟨p, e3, e4⟩ := (show ∃ a, v1 = .ref a ∧ r1.l[j]? = some a from q1)
  obtain ⟨ob, ok, eq3⟩ := hs1.at At0.good e4 eq2
  obtain ⟨c1, fs, e5, eq4⟩ := cMi_ok At0.good eq3
  subst e5
  rcases cB_ok eq4 with ⟨e6, eq5⟩ | ⟨_, eq5⟩
  · have e6 := Nat.eq_of_beq_eq_true e6
    subst e6
    obtain ⟨dx, vs, g1, g2, g3, g4⟩ := ok
    refine ⟨p, dx, vs, e3, .inr ⟨g1, g2⟩, a0, t, h1, x, _, r1, At0.ext e1 hs1, eq5, fun ws h2 r2 us H2 e7 q2 hs2 eq6 => ?_⟩
    exact ⟨a0, .ref j :: ws, h2, x, k, r2, At0.good, eq6, ⟨v1, us, rfl, ⟨p, e3, e7.at e4⟩, q2⟩, hs2, At0.px.ext (e1.trans e7), P.ext (e1.trans e7)⟩
  · exact absurd eq5.symm At0.good
theorem pec_meth {pl : Sem Bool} (he : PE X o (tE M cl E A)) (c : SlX.SCls X.K (M.g c0)) (hm : Meth X.K (M.g c0) m (M.g n)) (FO : FnR X.prog X.w X.K X.mg X.base CX k (M.g n) (spF M (F cl))) (hr : Room k X.A) (hx : Passes CX X E) (ha : PA X (e :: es) (tAL M cl E L))
    (hst : starEach (e :: es) X.env = (false, eval e X.env) :: starEach es X.env := by rfl) (hpl : (backTo pos (starEach es X.env)).any (·.1) = false := by rfl)
    (ht : eval (.Call (.Attribute o m apos) (e :: es) [] pos) X.env = (do let ov ← eval o X.env; standAt apos.atName; let (f, first) ← holding [ov] (getMethod ov m pl); callWith pos f first (backTo pos (starEach (e :: es) X.env)) (backToKw pos (keywordEach [] X.env))) := by rfl) :
    PE X (.Call (.Attribute o m apos) (e :: es) [] pos) (tE M cl E (cMeth c0 F A L)) := PE.imp (SlX.pe_methSl he c hm FO hr hx ha hst hpl ht) fun _ _ _ h => meth_im h
theorem attr_im {p : Addr} (c : SlX.SCls X.K (M.g c0)) (sl : SlX.Slot1 X.K (M.g c0) f p i) {σ : St} {H : Hp} {Q : VK} (h : tE M cl E (cAttr c0 i A) σ H Q) : SlX.tSl X.K (tE M cl E A) f σ H Q := by
  obtain ⟨a0, t, h, x, k, r, At0, eq, P⟩ := h
  refine ⟨a0, t, h, x, _, r, At0, eq, fun u h1 r1 v1 H1 e1 q1 hs1 eq1 => ?_⟩
  obtain ⟨j, e2, eq2⟩ := cRef_ok At0.good eq1
  subst e2
  obtain ⟨q, e3, e4⟩ := (show ∃ a, v1 = .ref a ∧ r1.l[j]? = some a from q1)
  obtain ⟨ob, ok, eq3⟩ := hs1.at At0.good e4 eq2
  obtain ⟨c1, fs, e5, eq4⟩ := cMi_ok At0.good eq3
  subst e5
  rcases cB_ok eq4 with ⟨e6, eq5⟩ | ⟨_, eq5⟩
  · have e6 := Nat.eq_of_beq_eq_true e6
    subst e6
    obtain ⟨dx, vs, g1, g2, g3, g4⟩ := ok
    obtain ⟨w, e7, eq6⟩ := nthC_ok At0.good eq5
    obtain ⟨nu, eq7⟩ := cU_ok At0.good eq6
    obtain ⟨v, e8, e9⟩ := g4 i w e7 nu
    exact ⟨q, M.g c1, dx, p, vs, i, v, e3, .inr ⟨g1, g2⟩, c, sl, e8, fin_at (P.ext e1) hs1 e9 eq7⟩
  · exact absurd eq5.symm At0.good
theorem pec_attr {p : Addr} (he : PE X e (tE M cl E A)) (c : SlX.SCls X.K (M.g c0)) (sl : SlX.Slot1 X.K (M.g c0) f p i) (hb : attributeBase e f X.env (eval e X.env) = eval e X.env := by rfl) : PE X (.Attribute e f pos) (tE M cl E (cAttr c0 i A)) := PE.imp (SlX.pe_sl he hb) fun _ _ _ h => attr_im c sl h
theorem sattr_im {p : Addr} (c : SlX.SCls X.K (M.g c0)) (sl : SlX.Slot1 X.K (M.g c0) f p i) {D : Ends} {σ : St} {H : Hp} (h : tSt M cl E (scAttr c0 i A B) D σ H) : SlX.sSl X.K (tE M cl E A) (tE M cl E B) f D σ H := by
  obtain ⟨a, t, hh, x, n, k, b, c', r, At0, eq, pn, pr, pb, pc⟩ := h
  refine ⟨a, t, hh, x, _, r, At0, eq, fun w h1 r1 y H1 e1 q1 hs1 eq1 => ⟨a, t, h1, x, _, r1, At0.ext e1 hs1, eq1, fun u h2 r2 v H2 e2 q2 hs2 eq2 => ?_⟩⟩
  obtain ⟨j, e3, eq3⟩ := cRef_ok At0.good eq2
  subst e3
  obtain ⟨q, e4, e5⟩ := (show ∃ a, v = .ref a ∧ r2.l[j]? = some a from q2)
  obtain ⟨ob, ok, eq4⟩ := hs2.at At0.good e5 eq3
  obtain ⟨c1, fs, e6, eq5⟩ := cMi_ok At0.good eq4
  subst e6
  rcases cB_ok eq5 with ⟨e7, eq6⟩ | ⟨_, eq6⟩
  · have e7 := Nat.eq_of_beq_eq_true e7
    subst e7
    obtain ⟨dx, vs, g1, g2, g3, g4⟩ := ok
    obtain ⟨hi, eq7⟩ := setC_ok At0.good eq6
    have hm := List.mem_of_getElem? e5
    have hn : NFrz H2 q := NFrz.of g1 fun _ _ z => by unfold SlX.SlO at z; cases z
    have hq : dx ≠ q := fun z => g3 (.inl (by rw [z]; exact hm))
    have hsl : SlX.slH H2 q (M.g c1) dx (SlX.putS i y vs) = upd H2 q (SlX.SlO q (M.g c1) dx (SlX.putS i y vs)) := by
      unfold SlX.slH
      congr 1
      funext z
      unfold upd
      by_cases hz : z = dx
      · rw [if_pos hz, hz, g2]
      · rw [if_neg hz]
    refine ⟨q, M.g c1, dx, p, vs, i, e4, .inr ⟨g1, g2⟩, c, sl, ?_⟩
    rw [hsl]
    refine wr_ok (o := .ins c1 _) (u := SlX.SlO q (M.g c1) dx (SlX.putS i y vs)) (Q := fun H' => D.nx σ H') At0.good hs2 hn e5 ⟨dx, SlX.putS i y vs, upd_same, by rw [upd_ne hq]; exact g2, g3, ?_⟩ (fun h3 r3 H3 e8 hs3 eq8 => pn _ _ _ _ _ ((e1.trans e2).trans e8) (At0.ss.ext ((e1.trans e2).trans e8)) rfl hs3 eq8) eq7
    intro l w' hl nw
    by_cases hli : l = i
    · subst hli
      rw [List.getElem?_set_self hi] at hl
      cases hl
      exact ⟨y, SlX.putS_get l y vs, (q1.ext e2).ext (hs2.mutE hn hm)⟩
    · rw [List.getElem?_set_ne (Ne.symm hli)] at hl
      obtain ⟨v', z1, z2⟩ := g4 l w' hl nw
      exact ⟨v', (SlX.putS_ne hli).mpr z1, z2.ext (hs2.mutE hn hm)⟩
  · exact absurd eq6.symm At0.good
theorem psc_attr {p : Addr} (ha : PE X o (tE M cl E A)) (hv : PE X e (tE M cl E B)) (c : SlX.SCls X.K (M.g c0)) (sl : SlX.Slot1 X.K (M.g c0) f p i) (hs : swapsWith e (some (.Attribute o f pos')) pos.line X.env = pure false := by rfl) : PS X (.Assign [.Attribute o f pos'] e pos) (tSt M cl E (scAttr c0 i A B)) :=
  PS.imp (SlX.ps_sl ha hv hs) fun _ _ _ h => sattr_im c sl h
end

/-! ### making an instance -/
/-- the abstract heap with an instance just laid; the same, told as one with slots -/
def laid (H0 : Hp) (p dx C : Addr) : Hp := upd (upd H0 dx (.own p)) p (.ins C dx [])
def laidS (H0 : Hp) (p dx C : Addr) : Hp := SlX.slH (laid H0 p dx C) p C dx []
theorem laidS_keep {H0 : Hp} {p dx C : Addr} (hp : H0 p = none) (hd : H0 dx = none) : ∀ a o, H0 a = some o → laidS H0 p dx C a = some o := fun a o q => by
  have n1 := ne_of_none q hp
  have n2 := ne_of_none q hd
  unfold laidS SlX.slH laid
  rw [upd_ne n1, upd_ne n2, upd_ne n1, upd_ne n2]
  exact q
/-- the promise of an __init__: its instance is just laid -/
def spI (M : Mo) (F : Fn) (c0 : Nat) (und : List W) : Sp := fun vs H Q E => ∃ a ws h x k r H0 p dx us, a ≠ Ans.bad ∧ vs = .ref p :: us ∧ H = laid H0 p dx (M.g c0) ∧ H0 p = none ∧ H0 dx = none ∧ dx ≠ p ∧
  (∀ w ∈ und, w = .und) ∧ ownC h (.ins c0 und) (fun u h => F (u :: ws) h x k) = a ∧ RelWs M.K M.g r H0 ws us ∧ HSim M r H0 h ∧ PostX M r H0 a x E ∧ Post M (r.add p) (laidS H0 p dx (M.g c0)) a k Q
section
variable {X : Cx} {M : Mo} {cl : Cl} {E : XK} {CX : CXT} {a b e o : Expr} {es : List Expr} {A B C : Code} {L : LCode} {pos p1 apos pos' : Pos} {n k c0 nf : Nat} {x m f : Str} {und : List W} {F : Cl → Fn}
theorem isn_ok {w : W} {h : EH} {k a : Ans} {r : Rg} {H : Hp} {v : V} (ha : a ≠ .bad) (q : RelW M.K M.g r H w v) (e : tbIsN w w h k .bad = a) : v = .non ∧ k = a := by
  rcases isN_ok ha q e with z | ⟨_, z⟩
  · exact z
  · exact absurd z.symm ha
theorem make_im (hu : ∀ w ∈ und, w = .und) {σ : St} {H : Hp} {Q : VK} (h : tE M cl E (cMake c0 F und L) σ H Q) : StX.tMakeR (M.g c0) (spI M (F cl) c0 und) E (tAL M cl E L) σ H Q := by
  obtain ⟨a0, t, h, x, k, r, At0, eq, P⟩ := h
  refine ⟨a0, t, h, x, _, r, At0, eq, fun ws h1 r1 vs H1 e1 q1 hs1 eq1 => ?_⟩
  intro p dx hp hdx hne
  have keep := laidS_keep (C := M.g c0) hp hdx
  have e2 : Ext r1 H1 (r1.add p) (laidS H1 p dx (M.g c0)) := Ext.owned hp keep
  refine ⟨a0, ws, h1, x, fun w h => tbIsN w w h (k (.ref h1.n) h) .bad, r1, H1, p, dx, vs, At0.good, rfl, rfl, hp, hdx, hne, hu, eq1, q1, hs1, At0.px.ext e1, fun w h2 r2 v H2 e3 q2 hs2 eq2 => ?_⟩
  obtain ⟨e4, eq3⟩ := isn_ok At0.good q2 eq2
  refine ⟨e4, P (.ref h1.n) h2 r2 (.ref p) H2 (e1.trans (e2.trans e3)) ⟨p, rfl, e3.at ?_⟩ hs2 eq3⟩
  show (r1.l ++ [p])[h1.n]? = _
  rw [← hs1.len]
  simp
theorem pec_make (Mk0 : Mk X.K (M.g c0) (M.g nf)) (hu : ∀ w ∈ und, w = .und) (FO : FnR X.prog X.w X.K X.mg X.base CX k (M.g nf) (spI M (F cl) c0 und)) (hr : Room (k + 1) X.A) (hg : Gl X x) (hm : X.mg x = some (.ref (M.g c0))) (hx : Passes CX X E) (ha : PA X (e :: es) (tAL M cl E L)) (hdb : (x == ("__debug__" : Str)) = false := by decide)
    (he : starEach (e :: es) X.env = (false, eval e X.env) :: starEach es X.env := by rfl) (hpl : (backTo pos (starEach es X.env)).any (·.1) = false := by rfl) : PE X (.Call (.Name x p1) (e :: es) [] pos) (tE M cl E (cMake c0 F und L)) := PE.imp (StX.pe_makeR Mk0 FO hr hg hm hx ha hdb he hpl) fun _ _ _ h => make_im hu h
end

end Eng
end
end

set_option maxRecDepth 100000
set_option maxHeartbeats 4000000
/-! Engine, part Q: bodies of defs. -/
noncomputable section
namespace Eng
open PySem PySem.Spec L2
open PyProof.Rows hiding St

def popC {α : Type} (ws : List W) (f : W → List W → α) : α := List.rec (motive := fun _ => α) (f .und []) (fun w t _ => f w t) ws
/-- the slots at the start of a body, by fours -/
def stC (b : Nat) (ws : List W) (k : S4 → Ans) : Ans := Nat.rec (motive := fun _ => List W → (S4 → Ans) → Ans) (fun _ k => k .nil) (fun _ ih ws k => popC ws fun w0 ws => popC ws fun w1 ws => popC ws fun w2 ws => popC ws fun w3 ws => ih ws fun t => k (.mk w0 w1 w2 w3 t)) b ws k
theorem pop_eq {α : Type} (ws : List W) (f : W → List W → α) : popC ws f = f ((ws[0]?).getD .und) ws.tail := by cases ws <;> rfl
theorem stC_ok {a : Ans} : ∀ (b : Nat) (ws : List W) (k : S4 → Ans), stC b ws k = a → ∃ t, k t = a ∧ ∀ i, t.get i ≠ .und → ws[i]? = some (t.get i)
  | 0, ws, k, h => ⟨.nil, h, fun i n => absurd rfl n⟩
  | b + 1, ws, k, h => by
    have h1 : popC ws (fun w0 ws => popC ws fun w1 ws => popC ws fun w2 ws => popC ws fun w3 ws => stC b ws fun t => k (.mk w0 w1 w2 w3 t)) = a := h
    rw [pop_eq, pop_eq, pop_eq, pop_eq] at h1
    obtain ⟨t, h2, h3⟩ := stC_ok b _ _ h1
    refine ⟨_, h2, fun i n => ?_⟩
    have key : ∀ (l : List W), (l[0]?).getD W.und ≠ .und → l[0]? = some ((l[0]?).getD .und) := fun l n => by
      cases l with
      | nil => exact absurd rfl n
      | cons x t => rfl
    match i with
    | 0 => exact key ws n
    | 1 => have := key ws.tail n; simp only [List.getElem?_tail] at this ⊢; exact this
    | 2 => have := key ws.tail.tail n; simp only [List.getElem?_tail] at this ⊢; exact this
    | 3 => have := key ws.tail.tail.tail n; simp only [List.getElem?_tail] at this ⊢; exact this
    | i + 4 =>
      have := h3 i n
      simp only [List.getElem?_tail] at this ⊢
      exact this
/-- a def with np parameters, b fours of slots -/
def fnC (np b : Nat) (S : SCode) (c : Cl) : Fn := fun ws h x k => cB (Nat.beq (lenN ws) np) (stC b ws fun s => S c s h x (fun _ h => k .non h) k (fun _ _ => .bad) (fun _ _ => .bad)) .bad
theorem start_sim {M : Mo} {r : Rg} {H : Hp} {N : List Str} {ws : List W} {vs : List V} {t : S4} (q : RelWs M.K M.g r H ws vs) (ht : ∀ i, t.get i ≠ .und → ws[i]? = some (t.get i)) : SSim M r H t (L2.start N vs) := fun i n => by
  obtain ⟨v, e, rel⟩ := q.get (ht i n)
  have hi : i < vs.length := (List.getElem?_eq_some_iff.mp e).1
  refine ⟨v, ?_, rel⟩
  unfold L2.start
  rw [List.getElem?_append_left (by rw [List.length_map]; exact hi), List.getElem?_map, e]
  rfl
/-- what a body's context gives -/
structure Body (X : Cx) (M : Mo) (E : XK) (k : Nat) : Prop where
  good : Good X M
  pass : Passes (L2.CX X.prog X.w) X E
  own : PassesOwn (model X.prog X.w) X.A X.env X.xe
  room : Room k X.A
  takes : Takes X (fun cls d _ H => E cls d H)
section
variable {P : Program} {w : World} {K : PySem.W.Frag} {mg : Str → Option Value} {base : Heap} {g : Nat → Addr} {fld : Nat → Option Str} {k : Nat} {f : Addr} {name qual : Str} {params : Arguments} {body : List Stmt} {scope : Scope} {dV kV doc pm cdv ct oc : Value} {an od : Option Addr}
  {osl : Array (Option Value)} {N ps : List Str} {M : Mo} {S : SCode} {cl : Cl} {np b : Nat}
theorem body_of (hM : M.P = P ∧ M.w = w ∧ M.K = K) {A : Around} {outer : List Env} {s : Shared} {H : Hp} {E : XK} (hr : Room k (A.deeper (envOfC qual scope s.heap.objs.size f cdv))) :
    Body (cxOf (L2.CX P w) P w K mg base N qual scope f cdv A outer s H E) M E k where
  good := ⟨⟨hM.1, hM.2.1, hM.2.2⟩, rfl, by have := hr.un; show (A.deeper (envOfC qual scope s.heap.objs.size f cdv)).units + 72 < cLine; omega⟩
  pass := passes_call (takes_of rfl rfl rfl rfl) (fun _ _ _ _ h => h)
  own := passes_of rfl
  room := hr
  takes := takes_of rfl rfl rfl rfl
theorem fn_code (hM : M.P = P ∧ M.w = w ∧ M.K = K) (lk : K.lookup f = some ⟨oc, od, .func (PySem.W.fnOf name qual params body scope dV kV doc pm an cdv ct), osl⟩) (hcd : PySem.W.codeIn K cdv qual = true) (Sc : FnScope N ps scope) (hnp : ps.length = np)
    (hb : L2.Binds K (PySem.W.fnOf name qual params body scope dV kV doc pm an cdv ct) ps [])
    (hbody : ∀ (A : Around) (outer : List Env) (s : Shared) (H : Hp) (E : XK), Body (cxOf (L2.CX P w) P w K mg base N qual scope f cdv A outer s H E) M E k → PSs (cxOf (L2.CX P w) P w K mg base N qual scope f cdv A outer s H E) body (tSt M cl E S)) :
    FnR P w K mg base (L2.CX P w) (k + 1) f (spF M (fnC np b S cl)) := by
  have F := fn_of (CX := L2.CX P w) (P := P) (w := w) (mg := mg) (base := base) (k := k) (sp := spF M (fnC np b S cl)) lk hcd Sc (fun vs H Q E ⟨a, ws, h, x, kk, r, ha, eq, q, hs, px, p⟩ => by
      rcases cB_ok eq with ⟨e, _⟩ | ⟨_, e⟩
      · rw [lenN_eq] at e
        rw [hnp, ← Nat.eq_of_beq_eq_true e, q.length]
      · exact absurd e.symm ha) fun A outer s H vs Q E hr ⟨a, ws, h, x, kk, r, ha, eq, q, hs, px, p⟩ => by
    refine ⟨_, hbody A outer s H E (body_of hM hr), ?_⟩
    rcases cB_ok eq with ⟨_, eq⟩ | ⟨_, e⟩
    · obtain ⟨t, e1, e2⟩ := stC_ok b ws _ eq
      refine ⟨a, t, h, x, _, kk, _, _, r, ⟨ha, start_sim q e2, hs, px⟩, e1, ?_, p, ?_, ?_⟩
      · intro t' h' r' σ' H' ex ss l hs' eq'
        exact fin_non (p.ext ex) hs' eq'
      · intro t' h' r' σ' H' ex ss l hs' eq'
        exact absurd (show Ans.bad = a from eq').symm ha
      · intro t' h' r' σ' H' ex ss l hs' eq'
        exact absurd (show Ans.bad = a from eq').symm ha
    · exact absurd e.symm ha
  exact (F.raw (ds := []) (dvs := []) hb .nil).imp fun vs H Q E h => by rw [List.append_nil]; exact h
/-- the abstract heap told anew: an instance just laid as one with slots -/
theorem pss_relabel {X : Cx} {st : List Stmt} {t : TS} {p dx C : Addr} {H0 : Hp} (h : PSs X st t) : PSs X st (fun D σ H => H = laid H0 p dx C ∧ t D σ (laidS H0 p dx C)) := by
  refine ⟨fun pins s σ H D I ⟨e, q⟩ => ?_⟩
  subst e
  have hp : laid H0 p dx C p = some (.ins C dx []) := by unfold laid; exact upd_same
  obtain ⟨mA, O, _⟩ := ins_get I.hok hp
  have I' : Inv X pins σ (laidS H0 p dx C) { s with heap := s.heap, toks := s.toks } := SlX.inv_slot (vs' := []) (sl' := #[]) (h' := s.heap) (t' := s.toks) I (.inl ⟨hp, rfl⟩) (fun b o _ _ e => e) (fun m hm => hm) O.obj (SlX.SlR.nil _)
  exact h.run pins s σ _ D I' q
theorem fn_init {c0 : Nat} {und : List W} (hM : M.P = P ∧ M.w = w ∧ M.K = K) (lk : K.lookup f = some ⟨oc, od, .func (PySem.W.fnOf name qual params body scope dV kV doc pm an cdv ct), osl⟩) (hcd : PySem.W.codeIn K cdv qual = true) (Sc : FnScope N ps scope) (hnp : ps.length = np)
    (hb : L2.Binds K (PySem.W.fnOf name qual params body scope dV kV doc pm an cdv ct) ps [])
    (hbody : ∀ (A : Around) (outer : List Env) (s : Shared) (H : Hp) (E : XK), Body (cxOf (L2.CX P w) P w K mg base N qual scope f cdv A outer s H E) M E k → PSs (cxOf (L2.CX P w) P w K mg base N qual scope f cdv A outer s H E) body (tSt M cl E S)) :
    FnR P w K mg base (L2.CX P w) (k + 1) f (spI M (fnC np b S cl) c0 und) := by
  have F := fn_of (CX := L2.CX P w) (P := P) (w := w) (mg := mg) (base := base) (k := k) (sp := spI M (fnC np b S cl) c0 und) lk hcd Sc (fun vs H Q E ⟨a, ws, h, x, kk, r, H0, p, dx, us, ha, e1, e2, e3, e4, e5, e6, eq, q, hs, px, P⟩ => by
      obtain ⟨t', e7, e8⟩ := BT.insC_ok ha eq
      rcases cB_ok e8 with ⟨e, _⟩ | ⟨_, e⟩
      · rw [lenN_eq] at e
        rw [hnp, ← Nat.eq_of_beq_eq_true e, e1, List.length_cons, List.length_cons, q.length]
      · exact absurd e.symm ha) fun A outer s H vs Q E hr ⟨a, ws, h, x, kk, r, H0, p, dx, us, ha, e1, e2, e3, e4, e5, e6, eq, q, hs, px, P⟩ => by
    refine ⟨_, pss_relabel (H0 := H0) (p := p) (dx := dx) (C := M.g c0) (hbody A outer s H E (body_of hM hr)), e2, ?_⟩
    have keep := laidS_keep (C := M.g c0) e3 e4
    have ex0 : Ext r H0 (r.add p) (laidS H0 p dx (M.g c0)) := Ext.owned e3 keep
    have fdx : dx ∉ r.add p := fun z => by
      rcases z with z | z
      · rcases List.mem_append.mp z with z | z
        · exact hs.fresh e4 (.inl z)
        · exact e5 (List.mem_singleton.mp z)
      · exact hs.fresh e4 (.inr z)
    have e10 : laidS H0 p dx (M.g c0) p = some (SlX.SlO p (M.g c0) dx []) := by unfold laidS SlX.slH; exact upd_same
    have e11 : laidS H0 p dx (M.g c0) dx = some (.xd []) := by unfold laidS SlX.slH; rw [upd_ne e5]; exact upd_same
    obtain ⟨h', hs', rel, eq1⟩ := own_ok (o := .ins c0 und) ha hs e3 keep ⟨dx, [], e10, e11, fdx, fun i w hi nw => absurd (e6 w (List.mem_of_getElem? hi)) nw⟩ eq
    rcases cB_ok eq1 with ⟨_, eq2⟩ | ⟨_, e⟩
    · obtain ⟨t, e12, e13⟩ := stC_ok b _ _ eq2
      have q2 : RelWs M.K M.g (r.add p) (laidS H0 p dx (M.g c0)) (.ref h.n :: ws) vs := by
        rw [e1]
        exact ⟨.ref p, us, rfl, rel, q.ext ex0⟩
      refine ⟨a, t, h', x, _, kk, _, _, r.add p, ⟨ha, start_sim q2 e13, hs', px.ext ex0⟩, e12, ?_, P, ?_, ?_⟩
      · intro t' h' r' σ' H' ex ss l hs' eq'
        exact fin_non (P.ext ex) hs' eq'
      · intro t' h' r' σ' H' ex ss l hs' eq'
        exact absurd (show Ans.bad = a from eq').symm ha
      · intro t' h' r' σ' H' ex ss l hs' eq'
        exact absurd (show Ans.bad = a from eq').symm ha
    · exact absurd e.symm ha
  exact (F.raw (ds := []) (dvs := []) hb .nil).imp fun vs H Q E h => by rw [List.append_nil]; exact h
/-- in a comprehension's block -/
theorem noPass {X : Cx} {s : Shared} {H : Hp} {scope : Scope} {cenv : Env} {fp : List Addr} : Passes (L2.CX X.prog X.w) (X.blk s H scope cenv fp) eNo := fun pins σ H s e s' I c => by
  obtain ⟨_, _, _, _, _, _, _, _, _, _, _, _, z⟩ := c
  exact z.elim
theorem Good.blk {X : Cx} {M : Mo} (f : Good X M) {s : Shared} {H : Hp} {scope : Scope} {cenv : Env} {fp : List Addr} : Good (X.blk s H scope cenv fp) M := ⟨⟨f.P, f.w, f.K⟩, f.calm, f.un⟩
end
end Eng

section
set_option maxRecDepth 100000
set_option maxHeartbeats 4000000
/-! Engine, part R: a value as a test, isinstance, raise. -/
noncomputable section
namespace Eng
open PySem PySem.Spec L2
open PyProof.Rows hiding St

/-- a bool as a test -/
def cTst (A : Code) : TCode := fun c s h x kt kf => A c s h x fun u h => cBl u (kt h) (kf h)
section
variable {X : Cx} {M : Mo} {cl : Cl} {E : XK} {a b e ce : Expr} {es : List Expr} {A B : Code} {L : LCode} {pos p1 p : Pos}
theorem ptc_val (ha : PE X e (tE M cl E A)) (he : ∀ whole, isTrue e X.env whole = (do let v ← whole; standAt e.pos; holding [v] (truthy v)) := by intro _; rfl) : PT X e (tT M cl E (cTst A)) :=
  PT.imp (pt_val ha he) fun σ H Q ⟨a0, t, h, x, kt, kf, r, At0, eq, pt, pf⟩ => ⟨a0, t, h, x, _, r, At0, eq, fun u h1 r1 v1 H1 e1 q1 hs1 eq1 => by
    rcases cBl_ok At0.good eq1 with ⟨e2, z⟩ | ⟨e2, z⟩ <;> subst e2
    · exact ⟨true, q1, pt _ _ _ e1 hs1 z⟩
    · exact ⟨false, q1, pf _ _ _ e1 hs1 z⟩⟩
/-- a test with and, or is one -/
theorem ptc_of {T : TCode} (h : PW X e (tT M cl E T)) : PT X e (tT M cl E T) := h.pt
theorem pwc_one_and {T : TCode} (h : PT X e (tT M cl E T)) : PW X (.BoolOp .And [e] pos) (tT M cl E T) := pw_and1 h
theorem pwc_one_or {T : TCode} (h : PT X e (tT M cl E T)) : PW X (.BoolOp .Or [e] pos) (tT M cl E T) := pw_or1 h
theorem pec_one {op} (h : PE X e (tE M cl E A)) : PE X (.BoolOp op [e] pos) (tE M cl E A) := pe_one h

/-! ### isinstance -/
/-- the answers by kinds: None, bool, int, str, tuple, list, dict; instances by their class -/
structure Isi where
  non : Bool
  bl : Bool
  int : Bool
  str : Bool
  tup : Bool
  lst : Bool
  dct : Bool
  ins : Nat → Option Bool
structure IsiOk (K : PySem.W.Frag) (g : Nat → Addr) (c : Value) (i : Isi) : Prop where
  non : PySem.W.kitOne K (.type "NoneType") c = some i.non
  bl : PySem.W.kitOne K (.type "bool") c = some i.bl
  int : PySem.W.kitOne K (.type "int") c = some i.int
  str : PySem.W.kitOne K (.type "str") c = some i.str
  tup : PySem.W.kitOne K (.type "tuple") c = some i.tup
  lst : PySem.W.kitOne K (.type "list") c = some i.lst
  dct : PySem.W.kitOne K (.type "dict") c = some i.dct
  ins : ∀ n b, i.ins n = some b → SlX.SCls K (g n) ∧ SlX.SIsi K (g n) ∧ PySem.W.kitOne K (.ref (g n)) c = some b
def obC (o : Option Bool) (t e : Ans) : Ans := Option.rec (motive := fun _ => Ans) .bad (fun b => cB b t e) o
def isiT (bn bb bi bs bt bl bd : Bool) (bo : Nat → Option Bool) (u : W) (h : EH) (t e : Ans) : Ans := W.rec (motive_1 := fun _ => Ans) (motive_2 := fun _ => Unit) (cB bn t e) (fun _ => cB bb t e) (fun _ => cB bi t e) (fun _ => cB bs t e) (fun _ _ => cB bt t e) (fun _ _ => cB bl t e)
  (fun n => BT.getC h.t n fun o => MO.rec (motive := fun _ => Ans) (fun _ => cB bl t e) (fun c _ => obC (bo c) t e) (fun _ => cB bd t e) (fun _ => cB bd t e) (fun _ => .bad) o) (fun _ => .bad) (fun _ => .bad) .bad () (fun _ _ _ _ => ()) u
def cIsi (bn bb bi bs bt bl bd : Bool) (bo : Nat → Option Bool) (A : Code) : TCode := fun c s h x kt kf => A c s h x fun u h => isiT bn bb bi bs bt bl bd bo u h (kt h) (kf h)
variable {bn bb bi bs bt bl bd : Bool} {bo : Nat → Option Bool} {cv : V} {cu : Value}
def rIsi (M : Mo) (bn bb bi bs bt bl bd : Bool) (bo : Nat → Option Bool) (cv : V) : List V → Hp → VK → Prop := fun xs H Q => ∃ a u x h t e r, a ≠ Ans.bad ∧ xs = [x, cv] ∧ isiT bn bb bi bs bt bl bd bo u h t e = a ∧ RelW M.K M.g r H u x ∧ HSim M r H h ∧ (t = a → Q (.bl true) H) ∧ (e = a → Q (.bl false) H)
theorem call_isiE (f : Good X M) (hc : ∀ w, RelV cv w → w = cu) (ok : IsiOk X.K M.g cu ⟨bn, bb, bi, bs, bt, bl, bd, bo⟩) : CallR X (.builtin "isinstance") (rIsi M bn bb bi bs bt bl bd bo cv) := by
  intro pins s σ H xs us Q I rv ⟨a, u, x, h, t, e, r, ha, ex, eq, q, hs, pt, pf⟩
  subst ex
  obtain ⟨u1, u2, rfl, r1, r2⟩ := vals2 rv
  have e2 := hc _ r2
  subst e2
  have fin : ∀ {b : Bool}, cB b t e = a → ∀ tk, EP X pins σ Q (.bool b) { s with toks := tk } := fun {b} z tk => ⟨.bl b, H, I.tok tk, rfl, by
    rcases cB_ok z with ⟨z1, z2⟩ | ⟨z1, z2⟩ <;> rw [z1]
    · exact pt z2
    · exact pf z2⟩
  have base : ∀ {ty : Value} {b : Bool}, TyX X.K H x ty → PySem.W.kitOne X.K ty u2 = some b → cB b t e = a → wpAny (model X.prog X.w) X.A (call (.builtin "isinstance") [u1, u2]) (EP X pins σ Q) X.xe s := fun {ty b} ty' k z => by
    obtain ⟨P, Z, p, hx⟩ := kit_of I r1 ty'
    exact PySem.W.kia_one Z I.kIn p k hx fun tk => fin z tk
  have K_eq := f.K
  have dic : ∀ {p : Addr} {kvs : List (W × W)} {ys : List DEnt}, x = .ref p → Rd H p (DctO M.P M.w p ys) → RelD M r H kvs ys → cB bd t e = a → wpAny (model X.prog X.w) X.A (call (.builtin "isinstance") [u1, u2]) (EP X pins σ Q) X.xe s := fun {p kvs ys} ep hd hr z => by
    subst ep
    cases (show u1 = Value.ref p from r1)
    obtain ⟨_, o, es, epo, h1, h2, _⟩ := dct_of I f.toFits hd hr
    exact PySem.W.kia_one PySem.W.kitx_dict I.kIn ⟨o, h1, h2.1⟩ ok.dct (fun z => nomatch z) fun tk => fin z tk
  cases u with
  | non =>
    have ex : x = .non := q
    subst ex
    exact base (.base .non) ok.non eq
  | bl b =>
    have ex : x = .bl b := q
    subst ex
    exact base (.base (.bl b)) ok.bl eq
  | int b =>
    have ex : x = .int b := q
    subst ex
    exact base (.base (.int b)) ok.int eq
  | str b =>
    have ex : x = .str b := q
    subst ex
    exact base (.base (.str b)) ok.str eq
  | tup ws =>
    obtain ⟨p, vs, e1, z, t1, l⟩ := (show ∃ a vs, x = .ref a ∧ ws.length ≤ 16777216 ∧ TupAt M.K r H a vs ∧ RelWs M.K M.g r H ws vs from q)
    subst e1
    rcases t1 with ⟨t1 | ⟨o, t1⟩, _⟩ | ⟨o, its, n, k1, k2, _⟩
    · exact base (.base (.tup t1)) ok.tup eq
    · exact base (.fTuple t1) ok.tup eq
    · exact base (.kTuple (by rw [← K_eq]; exact k1) k2) ok.tup eq
  | lst ws =>
    obtain ⟨p, vs, e1, z, t1, l⟩ := (show ∃ a vs, x = .ref a ∧ ws.length ≤ 16777216 ∧ LstAt M.K r H a vs ∧ RelWs M.K M.g r H ws vs from q)
    subst e1
    exact base (.base (.lst t1.1)) ok.lst eq
  | ref n =>
    obtain ⟨p, e1, e3⟩ := (show ∃ a, x = .ref a ∧ r.l[n]? = some a from q)
    obtain ⟨o, k, e4⟩ := hs.at ha e3 (show BT.getC h.t n (fun o => MO.rec (motive := fun _ => Ans) (fun _ => cB bl t e) (fun c _ => obC (bo c) t e) (fun _ => cB bd t e) (fun _ => cB bd t e) (fun _ => .bad) o) = a from eq)
    cases o with
    | lst ws =>
      obtain ⟨z, vs, e6, e7⟩ := k
      subst e1
      exact base (.base (.lst e6)) ok.lst e4
    | dct kvs =>
      obtain ⟨z, ys, e6, e7⟩ := k
      exact dic e1 (.inl e6) e7 e4
    | fdc kvs =>
      obtain ⟨_, z, od, ys, e6, e7⟩ := k
      exact dic e1 (.inr ⟨od, e6⟩) e7 e4
    | flc ws => exact absurd (show Ans.bad = a from e4).symm ha
    | ins c fs =>
      obtain ⟨dx, vs, g1, g2, g3, g4⟩ := k
      have e5 : obC (bo c) t e = a := e4
      cases hb : bo c with
      | none => rw [hb] at e5; exact absurd (show Ans.bad = a from e5).symm ha
      | some b =>
        rw [hb] at e5
        obtain ⟨k1, k2, k3⟩ := ok.ins c b hb
        subst e1
        refine SlX.call_isiSl u2 pins s σ H _ _ Q I rv ⟨p, M.g c, dx, vs, cv, b, rfl, r2, hc, .inr ⟨g1, g2⟩, k1, k2, k3, ?_⟩
        rcases cB_ok (show cB b t e = a from e5) with ⟨z1, z2⟩ | ⟨z1, z2⟩ <;> rw [z1]
        · exact pt z2
        · exact pf z2
  | _ => exact absurd (show Ans.bad = a from eq).symm ha
theorem isi_im {σ : St} {H : Hp} {Q : VK} (h : tE M cl E (cVal (cIsi bn bb bi bs bt bl bd bo A)) σ H Q) : tCB (rIsi M bn bb bi bs bt bl bd bo cv) (tCons (tE M cl E A) (tCons (tC cv) tNil)) σ H Q := by
  obtain ⟨a0, t, h, x, k, r, At0, eq, P⟩ := h
  exact ⟨a0, t, h, x, _, r, At0, eq, fun u h1 r1 v1 H1 e1 q1 hs1 eq1 => ⟨a0, u, v1, h1, _, _, r1, At0.good, rfl, eq1, q1, hs1, fun z => fin_bl (P.ext e1) hs1 z, fun z => fin_bl (P.ext e1) hs1 z⟩⟩
theorem pec_isi (f : Good X M) (hc : ∀ w, RelV cv w → w = cu) (ok : IsiOk X.K M.g cu ⟨bn, bb, bi, bs, bt, bl, bd, bo⟩) (ha : PE X a (tE M cl E A)) (hce : PE X ce (tC cv)) (hg : Gl X "isinstance") (hm : X.mg "isinstance" = none) (hv : bootBuiltins "isinstance" = some (.builtin "isinstance"))
    (h1 : starEach [a, ce] X.env = (false, eval a X.env) :: starEach [ce] X.env := by rfl) (h2 : starEach [ce] X.env = (false, eval ce X.env) :: starEach [] X.env := by rfl) (hpl : (backTo pos (starEach [ce] X.env)).any (·.1) = false := by rfl) :
    PE X (.Call (.Name "isinstance" p) [a, ce] [] pos) (tE M cl E (cVal (cIsi bn bb bi bs bt bl bd bo A))) := PE.imp (pe_callB (call_isiE f hc ok) hg hm hv (pa_cons ha (pa_cons hce pa_nil h2) h1) (by decide) (by decide) h1 hpl) fun _ _ _ h => isi_im h

/-! ### raise X('..') -/
def scRaise (n : Nat) : SCode := fun _ _ h x _ _ _ _ => x n .non h
theorem psc_raise {n : Nat} {x m : Str} {j : Nat} {p2 rpos : Pos} {bmB : List Value} {B newId initId : String} (f : Good X M) (tk : Takes X (fun cls d _ H => E cls d H)) (hf : M.fld n = none) (F : ExcBaseFacts B newId initId bmB) (q : PySem.W.excIn X.K (M.g n) bmB newId = true) (gC : X.mg x = some (.ref (M.g n)))
    (kC : PySem.W.keepIn X.K (.ref (M.g n)) = true) (r : Raises X (.ref (M.g n))) (hg : Gl X x) (hdb : (x == ("__debug__" : Str)) = false := by decide) : PS X (.Raise (some (.Call (.Name x p) [.Constant (.str m) j p2] [] pos)) none rpos) (tSt M cl E (scRaise n)) :=
  PS.imp (ps_raise f.calm tk (pmk_own F q gC kC r hg hdb)) fun D σ H ⟨a, t, hh, xk, nx, k, b, c, rr, At0, eq, pn, pr, pb, pc⟩ => At0.px n .non hh rr (.ref (M.g n)) none H Ext.refl ⟨rfl, fun g hg => by rw [hf] at hg; cases hg⟩ At0.hs eq
end
end Eng
end
end

section
set_option maxRecDepth 100000
set_option maxHeartbeats 4000000
/-! Engine, part S: dict displays, dict comprehensions. -/
noncomputable section
namespace Eng
open PySem PySem.Spec L2
open PyProof.Rows hiding St

/-! ### {} -/
theorem dct_new {P : Program} {w : World} {H : Hp} (h : Heap) (hb : sysModules < h.objs.size) : ObjOk P w H (h.push { cls := .type "dict", data := .dict #[] }) h.objs.size (DctO P w h.objs.size []) :=
  dctO_ok (beq_eq_false_iff_ne.mpr (Ne.symm (Nat.ne_of_lt hb))) (Heap.DictOfH.new h)
def cDict0 : Code := fun _ _ h _ k => ownC h (.dct []) k
section
variable {X : Cx} {M : Mo} {cl : Cl} {E : XK} {a b e ce : Expr} {es : List Expr} {A B : Code} {L : LCode} {pos p1 p : Pos}
/-- a new empty dict -/
theorem pe_dnewE : PE X (.Dict [] [] pos) (fun _ H Q => ∀ p, H p = none → Q (.ref p) (upd H p (DctO X.prog X.w p []))) := ⟨fun pins s0 σ H0 R I0 hw => by
  refine wpAny_Dict_empty ⟨.ref s0.heap.objs.size, upd H0 s0.heap.objs.size (DctO X.prog X.w s0.heap.objs.size []), ?_, rfl, hw _ (I0.hok.fresh (Nat.le_refl _))⟩
  exact I0.laid (t' := s0.toks) (fun _ _ z => Heap.get?_push_of_some _ z) (Nat.le_refl _) (dct_new s0.heap I0.big)⟩
theorem pec_dict0 (f : Fits X M) : PE X (.Dict [] [] pos) (tE M cl E cDict0) := PE.imp pe_dnewE fun σ H Q ⟨a0, t, h, x, k, r, At0, eq, P⟩ => fun p hp => by
  have keep : ∀ a o, H a = some o → upd H p (DctO X.prog X.w p []) a = some o := fun a o z => by rw [upd_ne (ne_of_none z hp)]; exact z
  obtain ⟨h', hs', rel, eq'⟩ := own_ok (o := .dct []) At0.good At0.hs hp keep ⟨Nat.zero_le _, [], by rw [upd_same, f.P, f.w], rfl⟩ eq
  exact P _ _ _ _ _ (Ext.owned hp keep) rel hs' eq'
end

/-! ### storing by a comprehension or a display -/
theorem set_dctO {X : Cx} {pins : List (Addr × Obj)} {σ : St} {H : Hp} {s : Shared} {E : Value → Shared → Prop} {D ka : Addr} {xs : List DEnt} {key : NestedKey} {u : Value} {Q : Unit → Shared → Prop} (hr : (nestedKind X.prog X.w).room X.A) (I : Inv X pins σ H s) (hD : H D = some (DctO X.prog X.w D xs))
    (hk : (nestedKind X.prog X.w).is s.heap key ka) (hx : ∀ x ∈ xs, (nestedKind X.prog X.w).is s.heap x.1 x.2.1) (hz : xs.length ≤ sizeLine) (h : ∀ s', Inv X pins σ (upd H D (DctO X.prog X.w D (storedH xs key ka u))) s' → Q () s') : wpAny (model X.prog X.w) X.A (dictSet D (.ref ka) u) Q E s := by
  obtain ⟨⟨hS, o, es, ep, h1, h2, h3, h4, h5⟩, _⟩ : DctP X.prog X.w D xs s.heap ∧ _ := I.hok D _ hD
  refine wpAny_dictSet_heap (hsz := hz) hr hk ⟨o, es, ep, h1, h2, h3, h4, hx, h5⟩ fun h' hm hs => h _ ?_
  obtain ⟨o', q1⟩ : ∃ o', h'.get? D = some o' := let ⟨o', _, _, q, _⟩ := hm; ⟨o', q⟩
  exact I.write (t' := s.toks + (nestedKind X.prog X.w).draws key) (by rw [hD]; exact True.intro) (.inl rfl) (fun b ob nb z => (hs.2 b nb).trans z) ⟨o', q1⟩ (dctO_ok hS hm)
section
variable {X : Cx}
/-- {k: v for target in iter if ..}, the dict of any form: O0 D the new one, put what a store asks and leaves -/
def tDcG (O0 : Addr → HO) (put : Addr → V → V → Hp → (Hp → Prop) → Prop) (wi : TI) (g : TG) (tt : TT) (tk tv : TE) (vs : List Nat) : TE := fun σ H Q => wi σ H fun J H1 => ∀ D, H1 D = none → ∃ W : Nat → Nat → Hp → Prop, (∃ m, W 0 m (upd H1 D (O0 D))) ∧ ∀ i m H', W i m H' →
  (J.stop i H' ∧ Q (.ref D) H') ∨ (J.go i H' ∧ ∃ Nx : Hp → Prop, (∀ G, Nx G → ∃ m', m' < m ∧ W (i + 1) m' G) ∧ ∀ x G, J.yld i H' x G → g x (wipe σ vs) G fun σ2 G2 => wipe σ2 vs = wipe σ vs ∧ tt σ2 G2 fun b G3 =>
    if b = true then tk σ2 G3 fun y G4 => tv σ2 G4 fun z G5 => put D y z G5 Nx else Nx G3)
theorem pe_dcG {O0 : Addr → HO} {put : Addr → V → V → Hp → (Hp → Prop) → Prop} {kx vx tg iter : Expr} {ifs : List Expr} {scope : Scope} {own : List (Str × Nat)} {pos : Pos} {wi : TI} {g : TG} {tt : TT} {tk tv : TE} (hc : X.calm = true) (hN : X.N.Nodup) (hi : PI X tg iter wi) (ok : BlkOk X.N X.env.scope scope own)
    (hnew : ∀ (G : Hp) (h : Heap), sysModules < h.objs.size → ObjOk X.prog X.w G (h.push { cls := .type "dict", data := .dict #[] }) h.objs.size (O0 h.objs.size))
    (hput : InB X scope fun Y => ∀ (pins : List (Addr × Obj)) (σ : St) (G : Hp) (s : Shared) (D : Addr) (y z : V) (u r : Value) (N : Hp → Prop), Inv Y pins σ G s → RelV y u → RelV z r → put D y z G N → wpAny (model Y.prog Y.w) Y.A (dictSet D u r) (fun _ s' => ∃ G', Inv Y pins σ G' s' ∧ N G') (fun _ _ => False) s)
    (hg : InB X scope fun Y => PG Y tg g) (ht : InB X scope fun Y => PTs Y ifs tt) (hk : InB X scope fun Y => PE Y kx tk) (he : InB X scope fun Y => PE Y vx tv) (hs : ∀ x, foldedSetIterable iter X.env x = pure x := by intro _; rfl) :
    PE X (.DictComp kx vx [⟨tg, iter, ifs, 0⟩] scope pos) (tDcG O0 put wi g tt tk tv (own.map (·.2))) := by
  constructor
  intro pins s0 σ H0 Q I0 hw
  rw [arm_eval_DictComp]
  have hfr : ∀ y ∈ scope.names, y.2 = .free → ∃ c, X.env.cells.lookup y.1 = some c := fun y hy z => (ok.free y hy z).elim (fun k => I0.ok.has _ (.inl k)) fun k => I0.ok.has _ (.inr k)
  refine wpAny_comprehension_free (use := none) rfl hs (closure_ok hfr) ok.kind (fun y hy z => by rw [ok.uniq y hy, z]) (thn (hi.run pins s0 σ H0 _ I0 hw) fun xv s1 hx => thn hx fun itv s2 ⟨it, fp, tn, J, H2, e0, I2, T, st2, f2, q⟩ => ?_)
  subst e0
  refine wpAny_newObj_type (newEnv_comp ?_)
  have hDn : H2 s2.heap.objs.size = none := I2.hok.fresh (Nat.le_refl _)
  obtain ⟨W, ⟨m0, w0⟩, turn⟩ := q _ hDn
  -- the new dict
  have I3 : Inv X pins σ (upd H2 s2.heap.objs.size (O0 s2.heap.objs.size)) { s2 with heap := s2.heap.push { cls := .type "dict", data := .dict #[] } } := I2.laid (t' := s2.toks) (fun _ _ z => Heap.get?_push_of_some _ z) (Nat.le_refl _) (hnew _ s2.heap I2.big)
  have hsz : ∀ b ∈ fp, b < s2.heap.objs.size := fun b hb => let ⟨o, z, _⟩ := T.obj _ _ st2 b hb; Heap.lt_size z
  have st3 : tn 0 (s2.heap.push { cls := .type "dict", data := .dict #[] }) := T.keep _ _ _ st2 fun b _ o z => Heap.get?_push_of_some _ z
  have f3 : ∀ b ∈ fp, FpOk X pins (upd H2 s2.heap.objs.size (O0 s2.heap.objs.size)) b ∧ b < (s2.heap.push { cls := .type "dict", data := .dict #[] }).objs.size := fun b hb => ⟨⟨by rw [upd_ne (Nat.ne_of_lt (hsz b hb))]; exact (f2 b hb).1, (f2 b hb).2⟩, by rw [Heap.size_push]; exact Nat.lt_succ_of_lt (hsz b hb)⟩
  generalize hdD : s2.heap.objs.size = D at *
  generalize hd3 : ({ s2 with heap := s2.heap.push { cls := .type "dict", data := .dict #[] } } : Shared) = s3 at I3
  have hp3 : s2.heap.push { cls := .type "dict", data := .dict #[] } = s3.heap := by rw [← hd3]
  rw [hp3] at st3 f3
  generalize upd H2 D (O0 D) = H3 at *
  have I4 := block_start I3 ok hN f3
  generalize hcl : cellsFrom (s3.heap.objs.size + 1) scope.names (cloFrom X.env.cells scope.names []) = cc at *
  have pg := hg s3 H3 s3.heap.objs.size cc fp
  have pt := ht s3 H3 s3.heap.objs.size cc fp
  have pk := hk s3 H3 s3.heap.objs.size cc fp
  have pe := he s3 H3 s3.heap.objs.size cc fp
  have pp := hput s3 H3 s3.heap.objs.size cc fp
  have cL : (compEnvC scope cc s3.heap.objs.size X.env).locals = s3.heap.objs.size := rfl
  change codeAny _ _ (.compStart (.DictComp kx vx [⟨tg, iter, ifs, 0⟩] scope pos) 0 (.ref it) (.ref D) (compEnvC scope cc s3.heap.objs.size X.env)) (compPost (model X.prog X.w) X.A X.xe none (EP X pins σ Q) (.ref D) s3.heap.objs.size) { s3 with heap := pushCells (s3.heap.push { cls := .type "dict", data := .dict #[] }) scope.names }
  generalize compEnvC scope cc s3.heap.objs.size X.env = ce at *
  generalize hd4 : ({ s3 with heap := pushCells (s3.heap.push { cls := .type "dict", data := .dict #[] }) scope.names } : Shared) = s4 at *
  have st4 : tn 0 s4.heap := T.keep _ _ _ st3 fun b _ o z => by rw [← hd4]; exact pushCells_keeps _ _ _ _ (Heap.get?_push_of_some _ z)
  have nf3 : ∀ b ∈ fp, H3 b = none := fun b hb => (f3 b hb).1.1
  have ours : ∀ {σ' : St} {G : Hp} {s' : Shared}, Inv (X.blk s3 H3 scope ce fp) [] σ' G s' → (∀ b ∈ fp, G b = none) → ∀ b ∈ fp, FpOk (X.blk s3 H3 scope ce fp) [] G b := fun {σ' G s'} I' hn b hb =>
    ⟨hn b hb, (I'.ok.exf b hb).1, I'.ok.exfs b hb, .inl hb, fun x c z => (I'.ok.exf b hb).2 x c z, fun pp hpp => by simp at hpp⟩
  have loop : codeAny (model X.prog X.w) X.A (.compLoop (.DictComp kx vx [⟨tg, iter, ifs, 0⟩] scope pos) 0 (.ref it) (.ref D) ce) (compPost (model X.prog X.w) X.A X.xe none (EP X pins σ Q) (.ref D) s3.heap.objs.size) s4 := by
    refine compLoop_anyD (fun n s' => ∃ i G, Inv (X.blk s3 H3 scope ce fp) [] (wipe σ (own.map (·.2))) G s' ∧ tn i s'.heap ∧ (∀ b ∈ fp, G b = none) ∧ W i n G) ?_ m0 ⟨0, H3, I4, st4, nf3, w0⟩
    rintro n s5 ⟨i, H5, I5, st5, n5, w5⟩
    rcases turn i n H5 w5 with ⟨halt, fin⟩ | ⟨more, Nx, hNx, step⟩
    · refine thnF (T.done (X.blk s3 H3 scope ce fp) rfl rfl rfl hc i [] s5 _ H5 (fun _ _ => False) I5 (ours I5 n5) st5 halt) fun r s6 ⟨hr, I6⟩ => ?_
      subst hr
      have I7 : Inv X pins σ H5 s6 := I3.call' (ch := fp) I6.os I6.base I6.hok I6.bare fun b hb => let z := (f3 b hb).1; ⟨z.2.2.2.1, z.2.1, z.2.2.2.2.1, z.2.2.2.2.2⟩
      have nC : H5 s3.heap.objs.size = none := by
        have z : H5 ce.locals = none := I6.free
        rwa [cL] at z
      obtain ⟨m, hn, _⟩ := I6.loc
      have hn : s6.heap.Ns ce.locals m := hn
      rw [cL] at hn
      obtain ⟨k0, k1, k2, k3, k4, k5⟩ := I3.fpOk (Nat.le_refl _) nC
      exact ⟨m, hn, fun h'' sb => ⟨.ref D, H5, I7.turned (t' := s6.toks) (fun b o hb z => (sb.2 b hb).trans z) k0 k1 k3 k4 k5, rfl, fin⟩⟩
    · refine thnF (T.item (X.blk s3 H3 scope ce fp) rfl rfl rfl hc i [] s5 _ H5 (fun _ _ => False) I5 (ours I5 n5) st5 more) fun r s6 ⟨u, hr, h6⟩ => ?_
      subst hr
      refine thnF h6 fun _ s7 ⟨x, H7, I7, r7, y7, st7, n7⟩ => ?_
      refine thnF (pg.run _ s7 _ H7 x u _ (I7.pinned (ours I7 n7) (T.obj _ _ st7)) r7 (step x H7 y7)) fun _ s8 ⟨σ8, H8, I8, hw8, q8⟩ => ?_
      refine thnF (pt.run _ s8 σ8 H8 _ I8 q8) fun b s9 ⟨H9, I9, q9⟩ => ?_
      have back : ∀ {s' : Shared} {G : Hp}, Inv (X.blk s3 H3 scope ce fp) ([] ++ pinsAt fp s7.heap) σ8 G s' → Nx G → ∃ m, m < n ∧ ∃ i G, Inv (X.blk s3 H3 scope ce fp) [] (wipe σ (own.map (·.2))) G s' ∧ tn i s'.heap ∧ (∀ b ∈ fp, G b = none) ∧ W i m G := fun {s' G} I' nx => by
        obtain ⟨m', hm, w'⟩ := hNx G nx
        have pin' : ∀ b ∈ fp, ∀ o, s7.heap.get? b = some o → s'.heap.get? b = some o ∧ G b = none := fun b hb o z =>
          let y := I'.pin (b, o) (List.mem_append_right _ (List.mem_append_right _ (mem_pinsAt hb z)))
          ⟨y.1, y.2.1⟩
        refine ⟨m', hm, i + 1, G, (I'.unpinned (pins := [])).weak (by rw [← hw8, wipe_length]) (fun j v z => (wipe_some (by rw [← hw8] at z; exact z)).1), T.keep _ _ _ st7 fun b hb o z => (pin' b hb o z).1, fun b hb => ?_, w'⟩
        obtain ⟨o, z, _⟩ := T.obj _ _ st7 b hb
        exact (pin' b hb o z).2
      cases b with
      | false => exact back I9 q9
      | true =>
        refine thnF (pk.run _ s9 σ8 H9 _ I9 q9) fun z s10 ⟨yk, H10, I10, r10, q10⟩ => ?_
        refine thnF (pe.run _ s10 σ8 H10 _ I10 q10) fun z2 s11 ⟨yv, H11, I11, r11, q11⟩ => ?_
        exact thnF (pp _ σ8 H11 s11 D yk yv z z2 Nx I11 r10 r11 q11) fun _ s12 ⟨G, I12, q12⟩ => back I12 q12
  exact codeAny_compStart_dict loop (T.self X.A 0 _ _ _ st4 loop)
end
end Eng
end
end

section
set_option maxRecDepth 100000
set_option maxHeartbeats 4000000
/-! Engine, part T: dict comprehensions by codes, displays of one pair. -/
noncomputable section
namespace Eng
open PySem PySem.Spec L2
open PyProof.Rows hiding St

theorem dctO_nf {P : Program} {w : World} {a : Addr} {xs : List DEnt} : ∀ o v, DctO P w a xs ≠ .frz o v := fun o v z => by unfold DctO at z; cases z
theorem relD_len {M : Mo} {r : Rg} {H : Hp} : ∀ {kvs : List (W × W)} {xs : List DEnt}, RelD M r H kvs xs → kvs.length = xs.length
  | [], xs, q => by rw [show xs = [] from q]; rfl
  | (kw, vw) :: q, xs, h => by
    obtain ⟨_, _, _, _, ys, e, _, _, _, _, _, hy⟩ := h
    rw [e, List.length_cons, List.length_cons, relD_len hy]
theorem dctP_nodup {X : Cx} {pins : List (Addr × Obj)} {σ : St} {H : Hp} {s : Shared} {D : Addr} {xs : List DEnt} (I : Inv X pins σ H s) (hD : H D = some (DctO X.prog X.w D xs)) : (xs.map (·.1)).Nodup := by
  obtain ⟨⟨_, _, _, _, _, _, _, _, h5⟩, _⟩ : DctP X.prog X.w D xs s.heap ∧ _ := I.hok D _ hD
  exact h5
def putE (M : Mo) : Addr → V → V → Hp → (Hp → Prop) → Prop := fun D y z H N => ∃ ka xs key w kvs r, y = .ref ka ∧ H D = some (DctO M.P M.w D xs) ∧ RelW M.K M.g r H w (.ref ka) ∧ keyOf w = some key ∧ key.depth ≤ 8 ∧ RelD M r H kvs xs ∧ xs.length ≤ sizeLine ∧
  ((xs.map (·.1)).Nodup → ∀ u, RelV z u → N (upd H D (DctO M.P M.w D (storedH xs key ka u))))
theorem Good.room0 {X : Cx} {M : Mo} (f : Good X M) : (nestedKind X.prog X.w).room X.A := by
  show X.A.units + 8 < cLine
  have h := f.un
  omega
theorem put_ok {Y : Cx} {M : Mo} (f : Good Y M) {pins : List (Addr × Obj)} {σ : St} {G : Hp} {s : Shared} {D : Addr} {y z : V} {u r : Value} {N : Hp → Prop} {E' : Value → Shared → Prop} (I : Inv Y pins σ G s) (ry : RelV y u) (rz : RelV z r) (h : putE M D y z G N) :
    wpAny (model Y.prog Y.w) Y.A (dictSet D u r) (fun _ s' => ∃ G', Inv Y pins σ G' s' ∧ N G') E' s := by
  obtain ⟨ka, xs, key, w, kvs, rr, e1, e2, e3, e4, e5, e6, e7, e8⟩ := h
  subst e1
  cases ry
  rw [f.P, f.w] at e2 e8
  refine set_dctO f.room0 I e2 (key_is I f.toFits e3 e4 e5) (e6.is I f.toFits) e7 fun s' I' => ⟨_, I', e8 (dctP_nodup I e2) r rz⟩
def compD (body : W → List (W × W) → EH → (List (W × W) → EH → Ans) → Ans) (done : List (W × W) → EH → Ans) (ws : List W) (acc : List (W × W)) (h : EH) : Ans := List.rec (motive := fun _ => List (W × W) → EH → Ans) done (fun w _ ih acc h => body w acc h ih) ws acc h
def addD (acc : List (W × W)) (u w : W) (k : List (W × W) → Ans) : Ans := cTup u fun _ => cB (keyB u 8) (storeD acc u w fun acc' => lenD acc' (k acc')) .bad
def cDc (vs : List Nat) (IC : ICode) (G : GCode) (T : TCode) (A B : Code) : Code := fun c s h x k => IC c s h x fun ws h => clrC vs s fun s0 =>
  compD (fun w acc h nx => G w c s0 h xBad fun s2 h => T c s2 h xBad (fun h => A c s2 h xBad fun u h => B c s2 h xBad fun w h => addD acc u w fun acc => nx acc h) (fun h => nx acc h)) (fun acc h => ownC h (.dct acc) k) ws [] h
theorem dc_end {M : Mo} {r1 R : Rg} {D : Addr} {H1 H' : Hp} {h1 h' : EH} {kvs : List (W × W)} {xs : List DEnt} {k : K1} {a : Ans} {Q : VK} (ha : a ≠ .bad) (hs1 : HSim M r1 H1 h1) (hD : H1 D = none) (E : Blk r1 H1 D R H') (hs : HSim M R H' h')
    (hd : H' D = some (DctO M.P M.w D xs)) (l : RelD M R H' kvs xs) (hl : kvs.length ≤ 16777216) (P : Post M r1 H1 a k Q) (eq : ownC h' (.dct kvs) k = a) : Q (.ref D) H' := by
  obtain ⟨Rl, Rb⟩ := R
  obtain ⟨f, hb, hDf, hfb⟩ := E.bb
  have hb : Rb = D :: (r1.b ++ f) := hb
  subst hb
  have hs : HSim M (Rg.blk ⟨Rl, r1.b ++ f⟩ D) H' h' := hs
  have e0 : Ext0 r1 H1 (Rg.blk ⟨Rl, r1.b ++ f⟩ D) H' := E.e0
  have l : RelD M (Rg.blk ⟨Rl, r1.b ++ f⟩ D) H' kvs xs := l
  have hDl : D ∉ Rl := E.nl
  have hDb : D ∉ r1.b ++ f := fun z => (List.mem_append.mp z).elim (fun z => hs1.fresh hD (.inr z)) hDf
  obtain ⟨t', e1, e2⟩ := BT.insC_ok ha eq
  have x := HSim.ownB (o := .dct kvs) hs hDl hDb e1 ⟨hl, xs, hd, l.ext0 Ext0.blkAdd⟩
  have hn : Rl.length = h'.n := hs.len
  exact P (.ref h'.n) _ _ (.ref D) H' ⟨e0.trans Ext0.blkAdd, ⟨f, rfl, hfb⟩, E.bk⟩ ⟨D, rfl, by show (Rl ++ [D])[h'.n]? = _; rw [← hn]; simp⟩ x e2
theorem addD_ok {M : Mo} {R : Rg} {H : Hp} {h : EH} {D : Addr} {kvs : List (W × W)} {xs : List DEnt} {u w : W} {y z : V} {k : List (W × W) → Ans} {a : Ans} {N : Hp → Prop} (ha : a ≠ .bad) (hs : HSim M R H h) (hb : D ∈ R.b) (hl : D ∉ R.l) (hd : H D = some (DctO M.P M.w D xs)) (l : RelD M R H kvs xs) (hk : kvs.length ≤ 16777216)
    (qu : RelW M.K M.g R H u y) (qw : RelW M.K M.g R H w z) (eq : addD kvs u w k = a)
    (next : ∀ kvs' xs' H', H' = upd H D (DctO M.P M.w D xs') → HSim M R H' h → RelD M R H' kvs' xs' → kvs'.length ≤ 16777216 → k kvs' = a → N H') : putE M D y z H N := by
  obtain ⟨ka, key, e1, e2, e3, e4⟩ := key_of (f := fun _ => .bad) ha qu eq
  subst e1
  refine ⟨ka, xs, key, u, kvs, R, rfl, hd, qu, e2, e3, l, by rw [sizeLine_eq, ← relD_len l]; exact hk, fun nd v rv => ?_⟩
  obtain ⟨kvs', e5, _, e6⟩ := storeD_ok e2 e3 qu rv qw l nd e4
  obtain ⟨e7, e8⟩ := lenD_ok ha e6
  have ex : Ext0 R H R (upd H D (DctO M.P M.w D (storedH xs key ka v))) := Ext0.mut (.inr hb)
  exact next kvs' _ _ rfl (hs.mutB hb hl) (e5.ext0 ex) e7 e8
section
variable {X : Cx} {M : Mo} {cl : Cl} {E : XK} {tg a b e kx vx iter : Expr} {ifs es : List Expr} {A B : Code} {L : LCode} {T : TCode} {pos p1 p : Pos} {IC : ICode} {G : GCode} {vs : List Nat} {scope : Scope} {own : List (Str × Nat)}
theorem dc_im {σ : St} {H : Hp} {Q : VK} (h : tE M cl E (cDc vs IC G T A B) σ H Q) : tDcG (fun D => DctO M.P M.w D []) (putE M) (tI M cl E IC) (tGw M cl eNo G vs) (tT M cl eNo T) (tE M cl eNo A) (tE M cl eNo B) vs σ H Q := by
  obtain ⟨a, t, hh, x, k, r, At0, eq, P⟩ := h
  refine ⟨a, t, hh, x, _, r, At0, eq, fun ws h1 r1 H1 J e1 hs1 ok eq1 => ?_⟩
  intro D hD
  have eq2 := clrC_ok At0.good eq1
  have SS : SSim M r1 H1 (clrS t vs) (wipe σ vs) := (At0.ss.ext e1).clr
  have P1 : Post M r1 H1 a k Q := P.ext e1
  generalize clrS t vs = s0 at eq2 SS
  let body : W → List (W × W) → EH → (List (W × W) → EH → Ans) → Ans := fun w acc h nx => G w cl s0 h xBad fun s2 h => T cl s2 h xBad (fun h => A cl s2 h xBad fun u h => B cl s2 h xBad fun w h => addD acc u w fun acc => nx acc h) (fun h => nx acc h)
  have eq2 : compD body (fun acc h => ownC h (.dct acc) k) ws [] h1 = a := eq2
  let Stt : Nat → Hp → Prop := fun i H' => ∃ R h' acc xs, Blk r1 H1 D R H' ∧ HSim M R H' h' ∧ H' D = some (DctO M.P M.w D xs) ∧ RelD M R H' acc xs ∧ acc.length ≤ 16777216 ∧ compD body (fun acc h => ownC h (.dct acc) k) (ws.drop i) acc h' = a
  refine ⟨fun i m H' => i ≤ ws.length ∧ m = ws.length - i ∧ Stt i H', ?_, ?_⟩
  · exact ⟨ws.length, Nat.zero_le _, rfl, r1.blk D, h1, [], [], Blk.start hs1 hD, hs1.blk hD, upd_same, rfl, Nat.zero_le _, by rw [List.drop_zero]; exact eq2⟩
  · intro i m H' ⟨hi, hm, R, h', acc, xs, E1, hs, hd, l, hacc, eq3⟩
    by_cases hlt : i < ws.length
    · rw [List.drop_eq_getElem_cons hlt] at eq3
      have eq3 : body ws[i] acc h' (fun acc h => compD body (fun acc h => ownC h (.dct acc) k) (ws.drop (i + 1)) acc h) = a := eq3
      refine .inr ⟨ok.go i R H' E1.e0 E1.fk hlt, fun H'' => i + 1 ≤ ws.length ∧ Stt (i + 1) H'', fun H'' ⟨z1, z2⟩ => ⟨ws.length - (i + 1), by omega, z1, rfl, z2⟩, ?_⟩
      intro y H'' hy
      obtain ⟨g1, w, g2, g3⟩ := ok.yld i R H' h' y H'' E1.e0 E1.fk hs hlt hy
      rw [List.getElem?_eq_getElem hlt] at g2
      cases g2
      have e2 : Ext R H' R H'' := Ext.grow g1
      refine ⟨a, ws[i], s0, h', xBad, _, R, ⟨At0.good, SS.ext0 (E1.e0.trans e2.toExt0), hs.grow g1, px_bad At0.good⟩, g3, eq3, fun t3 h3 r3 σ3 H3 e3 ss3 w3 l3 hs3 eq4 => ⟨by rw [w3, wipe_wipe fun _ z => z], ?_⟩⟩
      refine ⟨a, t3, h3, xBad, _, _, r3, ⟨At0.good, ss3, hs3, px_bad At0.good⟩, eq4, fun h4 r4 H4 e4 hs4 eq5 => itT ?_, fun h4 r4 H4 e4 hs4 eq5 => itF ?_⟩
      · refine ⟨a, t3, h4, xBad, _, r4, ⟨At0.good, ss3.ext e4, hs4, px_bad At0.good⟩, eq5, fun u h5 r5 v5 H5 e5 q5 hs5 eq6 => ?_⟩
        refine ⟨a, t3, h5, xBad, _, r5, ⟨At0.good, (ss3.ext e4).ext e5, hs5, px_bad At0.good⟩, eq6, fun w6 h6 r6 v6 H6 e6 q6 hs6 eq7 => ?_⟩
        have E6 := (((e2.trans e3).trans e4).trans e5).trans e6
        have B6 := E1.extG E6 hs hs6 hd dctO_nf
        have hd6 : H6 D = some (DctO M.P M.w D xs) := E6.bk D _ E1.mem hd
        refine addD_ok At0.good hs6 B6.mem B6.nl hd6 (l.ext E6) hacc (q5.ext e6) q6 eq7 fun kvs' xs' H7 eH hs7 l7 hl7 eq8 => ?_
        subst eH
        exact ⟨hlt, r6, h6, kvs', xs', B6.put hD (NFrz.of hd6 dctO_nf), hs7, upd_same, l7, hl7, eq8⟩
      · have E4 := (e2.trans e3).trans e4
        exact ⟨hlt, r4, h4, acc, xs, E1.extG E4 hs hs4 hd dctO_nf, hs4, E4.bk D _ E1.mem hd, l.ext E4, hacc, eq5⟩
    · have hi' : i = ws.length := by omega
      subst hi'
      rw [List.drop_length] at eq3
      exact .inl ⟨ok.stop R H' E1.e0 E1.fk, dc_end At0.good hs1 hD E1 hs hd l hacc P1 eq3⟩
theorem pec_dc (f : Good X M) (hN : X.N.Nodup) (hi : PI X tg iter (tI M cl E IC)) (ok : BlkOk X.N X.env.scope scope own) (hg : InB X scope fun Y => PG Y tg (tGw M cl eNo G (own.map (·.2)))) (ht : InB X scope fun Y => PTs Y ifs (tT M cl eNo T))
    (hk : InB X scope fun Y => PE Y kx (tE M cl eNo A)) (he : InB X scope fun Y => PE Y vx (tE M cl eNo B)) (hs : ∀ x, foldedSetIterable iter X.env x = pure x := by intro _; rfl) : PE X (.DictComp kx vx [⟨tg, iter, ifs, 0⟩] scope pos) (tE M cl E (cDc (own.map (·.2)) IC G T A B)) :=
  PE.imp (pe_dcG f.calm hN hi ok (fun G h hb => by rw [f.P, f.w]; exact dct_new h hb) (fun s H C cl fp pins σ G s' D y z u r N I ry rz hp => put_ok f.blk I ry rz hp) hg ht hk he hs) fun _ _ _ h => dc_im h
end
end Eng
end
end

section
set_option maxRecDepth 100000
set_option maxHeartbeats 4000000
/-! Engine, part U: dicts walked, measured, listed; get, update. -/
noncomputable section
namespace Eng
open PySem PySem.Spec L2
open PyProof.Rows hiding St

/-- a dict of the heap -/
def dctC (h : EH) (w : W) (f : List (W × W) → Ans) : Ans := cRef w fun n => BT.getC h.t n fun o => MO.rec (motive := fun _ => Ans) (fun _ => .bad) (fun _ _ => .bad) f f (fun _ => .bad) o
theorem dctC_ok {M : Mo} {r : Rg} {H : Hp} {h : EH} {w : W} {v : V} {f : List (W × W) → Ans} {a : Ans} (ha : a ≠ .bad) (x : HSim M r H h) (q : RelW M.K M.g r H w v) (e : dctC h w f = a) : ∃ n p kvs xs, w = .ref n ∧ v = .ref p ∧ r.l[n]? = some p ∧ kvs.length ≤ 16777216 ∧ Rd H p (DctO M.P M.w p xs) ∧ RelD M r H kvs xs ∧ f kvs = a := by
  obtain ⟨n, e1, e2⟩ := cRef_ok ha e
  subst e1
  obtain ⟨p, e3, e4⟩ := (show ∃ a, v = .ref a ∧ r.l[n]? = some a from q)
  obtain ⟨o, ok, e5⟩ := x.at ha e4 e2
  cases o with
  | dct kvs => obtain ⟨z, xs, e6, e7⟩ := ok; exact ⟨n, p, kvs, xs, rfl, e3, e4, z, .inl e6, e7, e5⟩
  | fdc kvs => obtain ⟨_, z, od, xs, e6, e7⟩ := ok; exact ⟨n, p, kvs, xs, rfl, e3, e4, z, .inr ⟨od, e6⟩, e7, e5⟩
  | lst ws => exact absurd (show Ans.bad = a from e5).symm ha
  | ins c fs => exact absurd (show Ans.bad = a from e5).symm ha
  | flc ws => exact absurd (show Ans.bad = a from e5).symm ha
def keysC {α : Type} (kvs : List (W × W)) (k : List W → α) : α := List.rec (motive := fun _ => (List W → α) → α) (fun k => k []) (fun kv _ ih k => ih fun l => k (kv.1 :: l)) kvs k
theorem keysC_eq {α : Type} : ∀ (kvs : List (W × W)) (k : List W → α), keysC kvs k = k (kvs.map (·.1))
  | [], k => rfl
  | kv :: kvs, k => keysC_eq kvs fun l => k (kv.1 :: l)
def itemsD {α : Type} (kvs : List (W × W)) (k : List W → α) : α := List.rec (motive := fun _ => (List W → α) → α) (fun k => k []) (fun kv _ ih k => ih fun l => k (.tup [kv.1, kv.2] :: l)) kvs k
theorem itemsD_eq {α : Type} : ∀ (kvs : List (W × W)) (k : List W → α), itemsD kvs k = k (kvs.map fun kv => .tup [kv.1, kv.2])
  | [], k => rfl
  | kv :: kvs, k => itemsD_eq kvs fun l => k (.tup [kv.1, kv.2] :: l)
section
variable {M : Mo} {r : Rg} {H : Hp}
theorem relD_keys : ∀ {kvs : List (W × W)} {xs : List DEnt}, RelD M r H kvs xs → RelWs M.K M.g r H (kvs.map (·.1)) (xs.map fun x => V.ref x.2.1)
  | [], xs, q => by rw [show xs = [] from q]; exact rfl
  | (kw, vw) :: q, xs, h => by
    obtain ⟨k, ka, u, v, ys, e, e1, e2, e3, e4, e5, e6⟩ := h
    subst e
    exact ⟨.ref ka, _, rfl, e3, relD_keys e6⟩
theorem relD_get : ∀ {kvs : List (W × W)} {xs : List DEnt} {i : Nat} {y : DEnt}, RelD M r H kvs xs → xs[i]? = some y → ∃ kv v, kvs[i]? = some kv ∧ RelW M.K M.g r H kv.1 (.ref y.2.1) ∧ RelV v y.2.2 ∧ RelW M.K M.g r H kv.2 v
  | [], xs, i, y, q, e => by rw [show xs = [] from q] at e; simp at e
  | (kw, vw) :: q, xs, i, y, h, e => by
    obtain ⟨k, ka, u, v, ys, e0, e1, e2, e3, e4, e5, e6⟩ := h
    subst e0
    cases i with
    | zero =>
      have e7 : (k, ka, u) = y := by simpa using e
      subst e7
      exact ⟨(kw, vw), v, rfl, e3, e4, e5⟩
    | succ i =>
      obtain ⟨kv, v', a1, a2⟩ := relD_get (i := i) e6 (by simpa using e)
      exact ⟨kv, v', by simpa using a1, a2⟩
end

/-! ### len, list -/
def fLenD : FCode := fun ws h k => c1 ws fun u => dctC h u fun kvs => frN (List.rec (motive := fun _ => Nat) 0 (fun _ _ ih => Nat.succ ih) kvs) fun n => k (.int (.ofNat n)) h
def fListD (own : Bool) : FCode := fun ws h k => c1 ws fun u => dctC h u fun kvs => keysC kvs fun l => cB own (ownC h (.lst l) k) (k (.lst l) h)
section
variable {X : Cx} {M : Mo}
theorem cf_lenD (f : Good X M) : CallR X (.builtin "len") (rF M fLenD) := by
  intro pins s σ H xs us Q I rv ⟨a, ws, h, k, r, ha, eq, q, hs, P⟩
  obtain ⟨u, e, eq1⟩ := c1_ok ha eq
  subst e
  obtain ⟨v, e, q1⟩ := rel1 q
  subst e
  obtain ⟨n, p, kvs, ys, _, e2, _, z, hd, l, eq2⟩ := dctC_ok ha hs q1 eq1
  subst e2
  obtain ⟨u1, rfl, r1⟩ := vals1 rv
  cases r1
  obtain ⟨hS, hm⟩ := dct_of I f.toFits hd l
  have e0 : ∀ l : List (W × W), (List.rec (motive := fun _ => Nat) 0 (fun _ _ ih => Nat.succ ih) l : Nat) = l.length := by
    intro l
    induction l with
    | nil => rfl
    | cons x l ih => exact congrArg Nat.succ ih
  have eq3 : frN (List.rec (motive := fun _ => Nat) 0 (fun _ _ ih => Nat.succ ih) kvs) (fun n => k (.int (.ofNat n)) h) = a := eq2
  rw [frN_eq, e0, relD_len l] at eq3
  refine call_len_dictH hS hm (by rw [← relD_len l]; omega) ⟨.int ys.length, H, I.tok _, ⟨_, rfl⟩, fin_int P hs eq3⟩
theorem vals_refs : ∀ (as : List Addr), Vals (as.map V.ref) (as.map Value.ref)
  | [] => .nil
  | a :: as => .cons rfl (vals_refs as)
theorem cf_listD (f : Good X M) {own : Bool} : CallR X (.type "list") (rF M (fListD own)) := by
  intro pins s σ H xs us Q I rv ⟨a, ws, h, k, r, ha, eq, q, hs, P⟩
  obtain ⟨u, e, eq1⟩ := c1_ok ha eq
  subst e
  obtain ⟨v, e, q1⟩ := rel1 q
  subst e
  obtain ⟨n, p, kvs, ys, _, e2, _, z, hd, l, eq2⟩ := dctC_ok ha hs q1 eq1
  subst e2
  obtain ⟨u1, rfl, r1⟩ := vals1 rv
  cases r1
  obtain ⟨hS, hm⟩ := dct_of I f.toFits hd l
  obtain ⟨es, ep, hraw, hsz, hes⟩ := hm.raw
  rw [keysC_eq] at eq2
  have hl : (kvs.map (·.1)).length ≤ 16777216 := by rw [List.length_map]; exact z
  have F : ∀ p, H p = none → Q (.ref p) (upd H p (.lst (ys.map fun x => V.ref x.2.1))) := by
    rcases cB_ok eq2 with ⟨_, eq3⟩ | ⟨_, eq3⟩
    · exact (fin_own ha hs (relD_keys l) hl P eq3).2
    · exact (fin_lst ha hs (relD_keys l) hl P eq3).2
  have hys : ys.length ≤ 16777216 := by rw [← relD_len l]; exact z
  refine PySem.W.kdl_call (KdlSrc.rawDict hS) (I.ok.hd f.calm) hraw (by rw [hsz, sizeLine_eq]; exact hys) fun h' tk acc c' keep hget hacc => ?_
  have hacc2 : acc = (ys.map fun x => Value.ref x.2.1).toArray := by
    refine Array.ext (by rw [hacc.1, hsz]; simp) fun i h1 h2 => ?_
    obtain ⟨hi, hv⟩ := hacc.2 i acc[i] (Array.getElem?_eq_getElem h1)
    obtain ⟨y, b1, b2, _⟩ := hes i hi
    rw [hv, b2]
    simp only [List.getElem_toArray, List.getElem_map]
    rw [List.getElem?_eq_some_iff] at b1
    obtain ⟨b3, b4⟩ := b1
    rw [← b4]
  have hv : Vals (ys.map fun x => V.ref x.2.1) (ys.map fun x => Value.ref x.2.1) := by
    have := vals_refs (ys.map fun x => x.2.1)
    rw [List.map_map, List.map_map] at this
    exact this
  refine ⟨.ref s.heap.objs.size, upd H s.heap.objs.size (.lst (ys.map fun x => V.ref x.2.1)), I.laid (t' := tk) keep (Nat.le_refl _) ⟨by rw [List.length_map, sizeLine_eq]; exact hys, ys.map fun x => Value.ref x.2.1, c', hv, by rw [hget, hacc2]⟩, rfl, F _ (I.hok.fresh (Nat.le_refl _))⟩
end

/-! ### walks over a dict -/
def Itke (u : HO) (p : Addr) (od : Obj) (xs : List DEnt) : It := ⟨fun i H => H p = some (.frz od u) ∧ i < xs.length, fun i H x H' => H' = H ∧ ∃ y, xs[i]? = some y ∧ x = .ref y.2.1, fun i H => H p = some (.frz od u) ∧ xs.length ≤ i⟩
def Itie (u : HO) (p : Addr) (od : Obj) (xs : List DEnt) : It := ⟨fun i H => H p = some (.frz od u) ∧ ∃ y v, xs[i]? = some y ∧ RelV v y.2.2, fun i H x H' => ∃ T y v, xs[i]? = some y ∧ RelV v y.2.2 ∧ x = .ref T ∧ H T = none ∧ H' = upd H T (.tup [.ref y.2.1, v]), fun i H => H p = some (.frz od u) ∧ xs.length ≤ i⟩
section
variable {X : Cx} {pins : List (Addr × Obj)} {σ : St} {H : Hp} {s : Shared}
theorem frzE {p : Addr} {od : Obj} {xs : List DEnt} (I : Inv X pins σ H s) (h : H p = some (.frz od (DctO X.prog X.w p xs))) : (p == sysModules) = false ∧ s.heap.get? p = some od ∧ od.ExactDict ∧ ∃ es ep, od.data = .dict es ep ∧ es.size = xs.length ∧ ∀ (i : Nat) (y : DEnt), xs[i]? = some y → ∃ en : DictEntry, es[i]? = some en ∧ en.key = .ref y.2.1 ∧ en.val = y.2.2 := by
  obtain ⟨hg, ⟨hS, o, es, ep, h1, h2, h3, h4, h5⟩, _⟩ := (show ObjOk X.prog X.w H s.heap p (.frz od (DctO X.prog X.w p xs)) from I.hok p _ h)
  rw [hg] at h1
  cases h1
  refine ⟨hS, hg, h2, es, ep, h3, size_of_entries h4, fun i y e => ?_⟩
  have q := entry_at h4 i
  rw [e] at q
  exact ⟨_, q, rfl, rfl⟩
theorem turn_ke {P : Program} {w : World} {K : PySem.W.Frag} {tg : Expr} {p : Addr} {od : Obj} {es : Array DictEntry} {ep : Nat} {xs : List DEnt} (it : Addr) (hod : od.data = .dict es ep) : Turn P w K tg (Itke (DctO P w p xs) p od xs) [it] it (fun i h => h.IsKeyIter it p i xs.length ep) where
  mem := List.mem_singleton.mpr rfl
  obj := fun i h st b hb => by
    rw [List.mem_singleton.mp hb]
    obtain ⟨oi, e, c, dd⟩ := st
    exact ⟨oi, e, fun v z => by rw [dd] at z; cases z⟩
  keep := fun i h h' st k => st.at fun oi e => k it (List.mem_singleton.mpr rfl) oi e
  item := by
    intro X hP hw hK hc i pins s σ H E I hf st hg
    subst hP hw hK
    obtain ⟨f0, f1, f2, f3, f4, f5⟩ := hf it (List.mem_singleton.mpr rfl)
    obtain ⟨hS, hget, hx, es', ep', hdt, hsz, ent⟩ := frzE I hg.1
    obtain ⟨rfl, rfl⟩ := dict_ep hod hdt
    have hi : i < xs.length := hg.2
    obtain ⟨en, he, hk, _⟩ := ent i _ (List.getElem?_eq_getElem hi)
    refine next_key_item st hget hdt hsz he fun h' st' sb => ?_
    have I1 : Inv X pins σ H { s with heap := h' } := I.turned (t' := s.toks) (fun b ob hb z => (sb.2 b hb).trans z) f0 f1 f3 f4 f5
    obtain ⟨oi, e, c, dd⟩ := id st'
    exact ⟨en.key, rfl, go_of (s := { s with heap := h' }) e c dd (by decide) ⟨.ref xs[i].2.1, H, I1, hk, ⟨rfl, xs[i], List.getElem?_eq_getElem hi, rfl⟩, st', fun b hb => (hf b hb).1⟩⟩
  done := by
    intro X hP hw hK hc i pins s σ H E I hf st hg
    subst hP hw hK
    obtain ⟨f0, f1, f2, f3, f4, f5⟩ := hf it (List.mem_singleton.mpr rfl)
    obtain ⟨hS, hget, hx, es', ep', hdt, hsz, ent⟩ := frzE I hg.1
    obtain ⟨rfl, rfl⟩ := dict_ep hod hdt
    exact next_key_end (I.ok.hd hc) st hget hdt hsz hg.2 fun h' eb => ⟨rfl, I.turned (t' := s.toks) (fun b ob hb z => eb b ob hb z) f0 f1 f3 f4 f5⟩
  self := fun A i s Q E st h => wpAny_pyIter_keyiter st h
theorem turn_ie {P : Program} {w : World} {K : PySem.W.Frag} {elts : List Expr} {kk : Nat} {tpos : Pos} {p : Addr} {od : Obj} {es : Array DictEntry} {ep : Nat} {xs : List DEnt} (it : Addr) (hod : od.data = .dict es ep) : Turn P w K (.Tuple elts kk tpos) (Itie (DctO P w p xs) p od xs) [it] it (fun i h => ∃ ok ov, IsItemIter h it p i xs.length ep ok ov) where
  mem := List.mem_singleton.mpr rfl
  obj := fun i h st b hb => by
    rw [List.mem_singleton.mp hb]
    obtain ⟨ok, ov, e⟩ := st
    exact ⟨_, e, fun v z => nomatch z⟩
  keep := fun i h h' st k => let ⟨ok, ov, e⟩ := st; ⟨ok, ov, k it (List.mem_singleton.mpr rfl) _ e⟩
  item := by
    intro X hP hw hK hc i pins s σ H E I hf st hg
    subst hP hw hK
    obtain ⟨hg1, y, v, hy, rv⟩ := hg
    obtain ⟨hS, hget, hx, es', ep', hdt, hsz, ent⟩ := frzE I hg1
    obtain ⟨rfl, rfl⟩ := dict_ep hod hdt
    obtain ⟨en, he, hk, hval⟩ := ent i y hy
    obtain ⟨ok, ov, st⟩ := st
    rw [← hsz] at st
    have hlt : it < s.heap.objs.size := Heap.lt_size st
    obtain ⟨hi, hen⟩ := Array.getElem?_eq_some_iff.mp he
    refine wpAny_pyNext_items_item_raw st ⟨od, hget, hx, hdt⟩ hi fun h' ho hT hz keep => ?_
    refine ⟨_, rfl, wpAny_letOwnedTupleGo_items (s := { s with heap := h' }) ho fun h'' he' sb => ?_⟩
    rw [hen, hk, hval] at hT he'
    have hT2 : h''.get? s.heap.objs.size = some { cls := .type "tuple", data := .seq #[.ref y.2.1, y.2.2] } := (sb.2 _ (Nat.ne_of_gt hlt)).trans hT
    have new : ObjOk X.prog X.w (upd H s.heap.objs.size (.tup [.ref y.2.1, v])) h'' s.heap.objs.size (.tup [.ref y.2.1, v]) := ⟨by show 2 ≤ sizeLine; decide, [.ref y.2.1, y.2.2], .cons rfl (.cons rv .nil), ⟨_, hT2, rfl, _, rfl⟩⟩
    have I1 : Inv X pins σ (upd H s.heap.objs.size (.tup [.ref y.2.1, v])) { s with heap := h'' } :=
      I.turnedNew (t' := s.toks) (ch := [it]) (fun b ob hb z => (sb.2 b fun q => hb (List.mem_singleton.mpr q)).trans (keep b ob (fun q => hb (List.mem_singleton.mpr q)) z)) hf (Nat.le_refl _) new
    refine ⟨.ref s.heap.objs.size, _, I1, rfl, ⟨_, y, v, hy, rv, rfl, I.hok.fresh (Nat.le_refl _), rfl⟩, ⟨_, _, by rw [← hsz]; exact he'⟩, fun b hb => ?_⟩
    rw [List.mem_singleton.mp hb, upd_ne (Nat.ne_of_lt hlt)]
    exact (hf it (List.mem_singleton.mpr rfl)).1
  done := by
    intro X hP hw hK hc i pins s σ H E I hf st hg
    subst hP hw hK
    obtain ⟨f0, f1, f2, f3, f4, f5⟩ := hf it (List.mem_singleton.mpr rfl)
    obtain ⟨hS, hget, hx, es', ep', hdt, hsz, ent⟩ := frzE I hg.1
    obtain ⟨rfl, rfl⟩ := dict_ep hod hdt
    obtain ⟨ok, ov, st⟩ := st
    rw [← hsz] at st
    exact wpAny_pyNext_items_end_raw (I.ok.hd hc) st ⟨od, hget, hx, hdt⟩ (by rw [hsz]; exact hg.2) fun h' eb => ⟨rfl, I.turned (t' := s.toks) (fun b ob hb z => eb b ob hb z) f0 f1 f3 f4 f5⟩
  self := fun A i s Q E st h => let ⟨_, _, e⟩ := st; PySem.W.kcp_self e h
end
end Eng
end
end

section
set_option maxRecDepth 100000
set_option maxHeartbeats 4000000
/-! Engine, part V: dicts as sources; displays of one pair; get, update. -/
noncomputable section
namespace Eng
open PySem PySem.Spec L2
open PyProof.Rows hiding St

section
variable {M : Mo} {r : Rg} {H : Hp} {p : Addr} {od : Obj} {kvs : List (W × W)} {xs : List DEnt}
theorem it_ke (hl : kvs.length ≤ 16777216) (hd : H p = some (.frz od (DctO M.P M.w p xs))) (l : RelD M r H kvs xs) : ItOk M (Itke (DctO M.P M.w p xs) p od xs) r H (kvs.map (·.1)) where
  len := by rw [List.length_map]; exact hl
  go := fun i r' H' e fk hi => ⟨fk p _ _ hd, by rw [List.length_map, relD_len l] at hi; exact hi⟩
  yld := fun i r' H' h' x H'' e fk hs hi ⟨e1, y, e2, e3⟩ => by
    subst e1 e3
    obtain ⟨kv, v, a1, a2, _⟩ := relD_get (l.ext0 e) e2
    exact ⟨fun a o q => q, kv.1, by rw [List.getElem?_map, a1]; rfl, a2⟩
  stop := fun r' H' e fk => ⟨fk p _ _ hd, by rw [List.length_map, relD_len l]; exact Nat.le_refl _⟩
theorem it_ie (hl : kvs.length ≤ 16777216) (hd : H p = some (.frz od (DctO M.P M.w p xs))) (l : RelD M r H kvs xs) : ItOk M (Itie (DctO M.P M.w p xs) p od xs) r H (kvs.map fun kv => .tup [kv.1, kv.2]) where
  len := by rw [List.length_map]; exact hl
  go := fun i r' H' e fk hi => by
    rw [List.length_map, relD_len l] at hi
    obtain ⟨kv, v, a1, a2, a3, a4⟩ := relD_get l (List.getElem?_eq_getElem hi)
    exact ⟨fk p _ _ hd, xs[i], v, List.getElem?_eq_getElem hi, a3⟩
  yld := fun i r' H' h' x H'' e fk hs hi ⟨T, y, v, e2, e3, e4, e5, e6⟩ => by
    subst e4 e6
    obtain ⟨kv, v', a1, a2, a3, a4⟩ := relD_get (l.ext0 e) e2
    have := RelV.inj e3 a3
    subst this
    exact ⟨fun a o q => by rw [upd_ne (ne_of_none q e5)]; exact q, .tup [kv.1, kv.2], by rw [List.getElem?_map, a1]; rfl, pair_new hs e5 a2 a4⟩
  stop := fun r' H' e fk => ⟨fk p _ _ hd, by rw [List.length_map, relD_len l]; exact Nat.le_refl _⟩
end
/-- a dict walked: it is read only from now on -/
def frzC (u : W) (h : EH) (f : List (W × W) → EH → Ans) : Ans := cRef u fun n => BT.getC h.t n fun o => MO.rec (motive := fun _ => Ans) (fun _ => .bad) (fun _ _ => .bad) (fun kvs => BT.insC h.t n (.fdc kvs) fun t => f kvs ⟨h.n, t⟩) (fun kvs => f kvs h) (fun _ => .bad) o
def icKeys (A : Code) : ICode := fun c s h x k => A c s h x fun u h => frzC u h fun kvs h => keysC kvs fun ws => k ws h
def icItems (A : Code) : ICode := fun c s h x k => A c s h x fun u h => frzC u h fun kvs h => itemsD kvs fun ws => k ws h
def DctWalk (P : Program) (w : World) (It0 : HO → Addr → Obj → List DEnt → It) (te : TE) : TI := fun σ H R => te σ H fun x H1 => ∃ p, x = .ref p ∧ ((∃ xs, H1 p = some (DctO P w p xs) ∧ ∀ od, R (It0 (DctO P w p xs) p od xs) (upd H1 p (.frz od (DctO P w p xs)))) ∨ ∃ od xs, H1 p = some (.frz od (DctO P w p xs)) ∧ R (It0 (DctO P w p xs) p od xs) H1)
section
variable {X : Cx} {M : Mo} {cl : Cl} {E : XK} {tg a b e kx vx iter : Expr} {ifs es : List Expr} {A B : Code} {L : LCode} {T : TCode} {pos p1 p apos cpos : Pos}
theorem frz_start {It0 : HO → Addr → Obj → List DEnt → It} {te : TE} {tg : Expr} {pins : List (Addr × Obj)} {σ : St} {H1 : Hp} {s1 : Shared} {R : It → Hp → Prop} {x : V} {v : Value} (I1 : Inv X pins σ H1 s1) (rx : RelV x v)
    (q : ∃ p, x = .ref p ∧ ((∃ xs, H1 p = some (DctO X.prog X.w p xs) ∧ ∀ od, R (It0 (DctO X.prog X.w p xs) p od xs) (upd H1 p (.frz od (DctO X.prog X.w p xs)))) ∨ ∃ od xs, H1 p = some (.frz od (DctO X.prog X.w p xs)) ∧ R (It0 (DctO X.prog X.w p xs) p od xs) H1)) :
    ∃ p od xs H2, v = .ref p ∧ Inv X pins σ H2 s1 ∧ H2 p = some (.frz od (DctO X.prog X.w p xs)) ∧ R (It0 (DctO X.prog X.w p xs) p od xs) H2 := by
  obtain ⟨p, ep, ⟨xs, hd, q⟩ | ⟨od, xs, hd, q⟩⟩ := q
  · subst ep
    obtain ⟨od, I2⟩ := I1.lock hd True.intro
    exact ⟨p, od, xs, _, rx, I2, upd_same, q od⟩
  · subst ep
    exact ⟨p, od, xs, H1, rx, I1, hd, q⟩
theorem pi_keysE {te : TE} (he : PE X e te) : PI X tg e (DctWalk X.prog X.w Itke te) := by
  refine ⟨fun pins s0 σ H0 R I0 hw => thn (he.run pins s0 σ H0 _ I0 hw) fun v s1 ⟨x, H1, I1, rx, q⟩ => ?_⟩
  obtain ⟨p, od, xs, H2, ev, I2, hd, q2⟩ := frz_start (te := te) (tg := tg) I1 rx q
  subst ev
  obtain ⟨hS, hget, hx, es, ep, hdt, hsz, ent⟩ := frzE I2 hd
  refine iter_keys hS hget hx hdt (pi_one (tk := s1.toks) I2 _ (turn_ke _ hdt) ⟨_, Heap.get?_push_size _ rfl, rfl, ?_⟩ q2)
  rw [hsz] <;> rfl
theorem pi_itemsE {te : TE} {elts : List Expr} {kk : Nat} {tpos : Pos} (he : PE X e te) (hbase : attributeBase e "items" X.env (eval e X.env) = eval e X.env := by rfl) (hline : (apos.endLine == cpos.line) = true := by rfl) :
    PI X (.Tuple elts kk tpos) (.Call (.Attribute e "items" apos) [] [] cpos) (DctWalk X.prog X.w Itie te) := by
  refine ⟨fun pins s0 σ H0 R I0 hw => wpAny_Call_method (T := "dict") (id := "dict.items") hbase rfl hline F.plainAttrs_dict F.slot_dict_items F.type_dict_items (thn (he.run pins s0 σ H0 _ I0 hw) fun v s1 ⟨x, H1, I1, rx, q⟩ => ?_)⟩
  obtain ⟨p, od, xs, H2, ev, I2, hd, q2⟩ := frz_start (te := te) (tg := .Tuple elts kk tpos) I1 rx q
  subst ev
  obtain ⟨hS, hget, hx, es, ep, hdt, hsz, ent⟩ := frzE I2 hd
  have hraw : s1.heap.DictRaw p es ep := ⟨od, hget, hx, hdt⟩
  refine ⟨hraw.typeIs, fun a ea => ?_, ?_⟩
  · cases ea
    exact ⟨od, hget, hx.2.1⟩
  have I3 : Inv X pins σ H2 { s1 with heap := s1.heap.push { cls := .type "dict_items", data := .fields #[.ref p] } } := I2.kept (t' := s1.toks) fun b ob z => Heap.get?_push_of_some _ z
  have fin : wpAny (model X.prog X.w) X.A (pyIter (.ref s1.heap.objs.size)) (PIE X pins σ (.Tuple elts kk tpos) R) X.xe { s1 with heap := s1.heap.push { cls := .type "dict_items", data := .fields #[.ref p] } } := by
    refine wpAny_pyIter_items_raw (d := p) ⟨_, Heap.get?_push_size _ rfl, rfl, rfl⟩ (hraw.push _) (pi_one (tk := s1.toks) I3 _ (turn_ie _ hdt) ⟨.none, .none, ?_⟩ q2)
    rw [← hsz]
    exact Heap.get?_push_size _ rfl
  show wpAny _ _ (callWith cpos (.builtin "dict.items") [.ref p] [] []) _ X.xe s1
  exact method_meetsIn F.slot_dict_items F.entry_dict_items rfl (PySem.evalArgs_none ⟨rfl, hraw.typeIs, F.args_dict_items_1 _, _, meets_dict_items_raw p hS, ⟨es, ep, hraw⟩, fin⟩)
/-- the walk's start -/
theorem frzC_ok {r : Rg} {H : Hp} {h : EH} {u : W} {v : V} {f : List (W × W) → EH → Ans} {a : Ans} (ha : a ≠ .bad) (hs : HSim M r H h) (q : RelW M.K M.g r H u v) (eq : frzC u h f = a) : ∃ p, v = .ref p ∧
    ((∃ kvs xs, H p = some (DctO M.P M.w p xs) ∧ kvs.length ≤ 16777216 ∧ ∀ od, ∃ h', HSim M (r.frz p) (upd H p (.frz od (DctO M.P M.w p xs))) h' ∧ Ext r H (r.frz p) (upd H p (.frz od (DctO M.P M.w p xs))) ∧ RelD M (r.frz p) (upd H p (.frz od (DctO M.P M.w p xs))) kvs xs ∧ f kvs h' = a) ∨
     ∃ od kvs xs, H p = some (.frz od (DctO M.P M.w p xs)) ∧ kvs.length ≤ 16777216 ∧ RelD M r H kvs xs ∧ f kvs h = a) := by
  obtain ⟨n, e1, e2⟩ := cRef_ok ha eq
  subst e1
  obtain ⟨p, e3, e4⟩ := (show ∃ a, v = .ref a ∧ r.l[n]? = some a from q)
  obtain ⟨o, ok, e5⟩ := hs.at ha e4 e2
  refine ⟨p, e3, ?_⟩
  cases o with
  | dct kvs =>
    obtain ⟨z, xs, e6, e7⟩ := ok
    obtain ⟨t', e8, e9⟩ := BT.insC_ok ha (show BT.insC h.t n (.fdc kvs) (fun t => f kvs ⟨h.n, t⟩) = a from e5)
    refine .inl ⟨kvs, xs, e6, z, fun od => ?_⟩
    obtain ⟨k1, k2⟩ := hs.frz (od := od) e4 e6 z e7 e8
    exact ⟨⟨h.n, t'⟩, k1, k2, e7.ext k2, e9⟩
  | fdc kvs =>
    obtain ⟨_, z, od, xs, e6, e7⟩ := ok
    exact .inr ⟨od, kvs, xs, e6, z, e7, e5⟩
  | lst ws => exact absurd (show Ans.bad = a from e5).symm ha
  | flc ws => exact absurd (show Ans.bad = a from e5).symm ha
  | ins c fs => exact absurd (show Ans.bad = a from e5).symm ha
theorem pic_keys (f : Fits X M) (he : PE X e (tE M cl E A)) : PI X tg e (tI M cl E (icKeys A)) := PI.imp (pi_keysE he) fun σ H R ⟨a, t, h, x, k, r, At0, eq, P⟩ => by
  refine ⟨a, t, h, x, _, r, At0, eq, fun u h1 r1 v1 H1 e1 q1 hs1 eq1 => ?_⟩
  rw [← f.P, ← f.w]
  obtain ⟨p, ep, ⟨kvs, xs, hd, hl, z⟩ | ⟨od, kvs, xs, hd, hl, l, eq2⟩⟩ := frzC_ok At0.good hs1 q1 eq1
  · refine ⟨p, ep, .inl ⟨xs, hd, fun od => ?_⟩⟩
    obtain ⟨h', hs', ex, l, eq2⟩ := z od
    rw [keysC_eq] at eq2
    exact P _ h' _ _ _ (e1.trans ex) hs' (it_ke hl upd_same l) eq2
  · refine ⟨p, ep, .inr ⟨od, xs, hd, ?_⟩⟩
    rw [keysC_eq] at eq2
    exact P _ h1 r1 H1 _ e1 hs1 (it_ke hl hd l) eq2
theorem pic_items (f : Fits X M) {elts : List Expr} {kk : Nat} {tpos : Pos} (he : PE X e (tE M cl E A)) (hbase : attributeBase e "items" X.env (eval e X.env) = eval e X.env := by rfl) (hline : (apos.endLine == cpos.line) = true := by rfl) :
    PI X (.Tuple elts kk tpos) (.Call (.Attribute e "items" apos) [] [] cpos) (tI M cl E (icItems A)) := PI.imp (pi_itemsE he hbase hline) fun σ H R ⟨a, t, h, x, k, r, At0, eq, P⟩ => by
  refine ⟨a, t, h, x, _, r, At0, eq, fun u h1 r1 v1 H1 e1 q1 hs1 eq1 => ?_⟩
  rw [← f.P, ← f.w]
  obtain ⟨p, ep, ⟨kvs, xs, hd, hl, z⟩ | ⟨od, kvs, xs, hd, hl, l, eq2⟩⟩ := frzC_ok At0.good hs1 q1 eq1
  · refine ⟨p, ep, .inl ⟨xs, hd, fun od => ?_⟩⟩
    obtain ⟨h', hs', ex, l, eq2⟩ := z od
    rw [itemsD_eq] at eq2
    exact P _ h' _ _ _ (e1.trans ex) hs' (it_ie hl upd_same l) eq2
  · refine ⟨p, ep, .inr ⟨od, xs, hd, ?_⟩⟩
    rw [itemsD_eq] at eq2
    exact P _ h1 r1 H1 _ e1 hs1 (it_ie hl hd l) eq2
end
end Eng
end
end

section
set_option maxRecDepth 100000
set_option maxHeartbeats 4000000
/-! Engine, part W: displays of one pair; d.get, d.update. -/
noncomputable section
namespace Eng
open PySem PySem.Spec L2
open PyProof.Rows hiding St

/-! ### {k: v} -/
def cDict1 (A B : Code) : Code := fun c s h x k => A c s h xBad fun u h => B c s h xBad fun w h => cTup u fun _ => cB (keyB u 8) (ownC h (.dct [(u, w)]) k) .bad
section
variable {X : Cx} {M : Mo} {cl : Cl} {E : XK} {tg a b e kx vx o : Expr} {ifs es : List Expr} {A B : Code} {L : LCode} {T : TCode} {pos p1 p apos cpos : Pos}
theorem pe_dict1 {tk tv : TE} (hr : (nestedKind X.prog X.w).room X.A) (hk : PE X kx tk) (hv : PE X vx tv)
    (hs : (evalEachOpt [some kx] X.env).zip ((evalEach [vx] X.env).map fun v => do let x ← v; standAt pos; pure x) = [(eval kx X.env, (do let x ← eval vx X.env; standAt pos; pure x))].map fun p => (some p.1, p.2) := by rfl) :
    PE X (.Dict [some kx] [vx] pos) (fun σ H Q => ∀ D, H D = none → tk σ (upd H D (DctO X.prog X.w D [])) fun y H1 => tv σ H1 fun z H2 => ∃ ka key, y = .ref ka ∧ H2 D = some (DctO X.prog X.w D []) ∧
      (∀ pins s, Inv X pins σ H2 s → (nestedKind X.prog X.w).is s.heap key ka) ∧ ∀ u, RelV z u → Q (.ref D) (upd H2 D (DctO X.prog X.w D [(key, ka, u)]))) := by
  refine ⟨fun pins s0 σ H0 Q I0 hw => ?_⟩
  rw [arm_eval_Dict, hs, dictDisplay_pairs [(eval kx X.env, (do let x ← eval vx X.env; standAt pos; pure x))] (List.cons_ne_nil _ _) (by show (1 : Nat) < 17; decide)]
  have I1 : Inv X pins σ (upd H0 s0.heap.objs.size (DctO X.prog X.w s0.heap.objs.size [])) { s0 with heap := s0.heap.push { cls := .type "dict", data := .dict #[] } } := I0.laid (t' := s0.toks) (fun _ _ z => Heap.get?_push_of_some _ z) (Nat.le_refl _) (dct_new s0.heap I0.big)
  have hw1 := hw _ (I0.hok.fresh (Nat.le_refl _))
  generalize hD : s0.heap.objs.size = D at *
  refine wpAny_bind (wpAny_standAt (wpAny_bind (wpAny_subDictH (knd := nestedKind X.prog X.w) (Q := fun d s' => wpAny (model X.prog X.w) X.A (pure (Value.ref d)) (EP X pins σ Q) X.xe s') hr (by show (1 : Nat) ≤ 15; decide) ?_)))
  rw [hD]
  refine evalPairs_cons (thn (hk.run pins _ σ _ _ I1 hw1) fun kv s1 ⟨y, H1, J1, ry, q1⟩ => wpAny_bind (thn (hv.run pins s1 σ H1 _ J1 q1) fun vv s2 ⟨z, H2, J2, rz, ka, key, ey, hD2, his, q2⟩ => wpAny_bind (wpAny_standAt (wpAny_pure (evalPairs_nil ?_)))))
  subst ey
  cases ry
  obtain ⟨⟨hS, ob, esd, epd, h1, h2, h3, h4, h5⟩, _⟩ : DctP X.prog X.w D [] s2.heap ∧ _ := J2.hok D _ hD2
  refine ⟨[(key, ka, vv)], ⟨rfl, rfl, his pins s2 J2, trivial⟩, ⟨ob, esd, epd, h1, h2, h3, h4, (fun x hx => nomatch hx), h5⟩, fun h' tk hm hsb => wpAny_pure ?_⟩
  have e1 : storedAllH ([] : List DEnt) [(key, ka, vv)] = [(key, ka, vv)] := by simp [storedAllH, storedH, atKey]
  rw [e1] at hm
  obtain ⟨o', z1⟩ : ∃ o', h'.get? D = some o' := let ⟨o', _, _, q, _⟩ := hm; ⟨o', q⟩
  exact ⟨.ref D, _, J2.write (t' := tk) (by rw [hD2]; exact True.intro) (.inl rfl) (fun b ob nb z => (hsb.2 b nb).trans z) ⟨o', z1⟩ (dctO_ok hS hm), rfl, q2 vv rz⟩
theorem pec_dict1 (f : Good X M) (hk : PE X kx (tE M cl E A)) (hv : PE X vx (tE M cl E B))
    (hs : (evalEachOpt [some kx] X.env).zip ((evalEach [vx] X.env).map fun v => do let x ← v; standAt pos; pure x) = [(eval kx X.env, (do let x ← eval vx X.env; standAt pos; pure x))].map fun p => (some p.1, p.2) := by rfl) : PE X (.Dict [some kx] [vx] pos) (tE M cl E (cDict1 A B)) :=
  PE.imp (pe_dict1 f.room0 hk hv hs) fun σ H Q ⟨a, t, h, x, k, r, At0, eq, P⟩ => by
    intro D hD
    rw [← f.P, ← f.w]
    have SS : SSim M (r.blk D) (upd H D (DctO M.P M.w D [])) t σ := At0.ss.ext0 (Ext0.blk hD)
    have B0 : Blk r H D (r.blk D) (upd H D (DctO M.P M.w D [])) := Blk.start At0.hs hD
    have hs0 : HSim M (r.blk D) (upd H D (DctO M.P M.w D [])) h := At0.hs.blk hD
    have px : ∀ r' H', PostX M r' H' a xBad E := fun r' H' n w h' r2 cls d H2 e x hs eq => absurd (show Ans.bad = a from eq).symm At0.good
    refine ⟨a, t, h, xBad, _, r.blk D, ⟨At0.good, SS, hs0, px _ _⟩, eq, fun u h1 r1 y H1 e1 q1 hs1 eq1 => ⟨a, t, h1, xBad, _, r1, ⟨At0.good, SS.ext e1, hs1, px _ _⟩, eq1, fun w h2 r2 z H2 e2 q2 hs2 eq2 => ?_⟩⟩
    have E2 := e1.trans e2
    have B2 := B0.extG E2 hs0 hs2 upd_same dctO_nf
    have hD2 : H2 D = some (DctO M.P M.w D []) := E2.bk D _ B0.mem upd_same
    obtain ⟨ka, key, e3, e4, e5, e6⟩ := key_of (f := fun _ => .bad) At0.good (q1.ext e2) eq2
    refine ⟨ka, key, e3, hD2, fun pins s I => ?_, fun v rv => ?_⟩
    · rw [f.P, f.w]
      exact key_is I f.toFits (by rw [← e3]; exact q1.ext e2) e4 e5
    · have ex : Ext0 r2 H2 r2 (upd H2 D (DctO M.P M.w D [(key, ka, v)])) := Ext0.mut (.inr B2.mem)
      refine dc_end At0.good At0.hs hD (B2.put hD (NFrz.of hD2 dctO_nf)) (hs2.mutB B2.mem B2.nl) upd_same (kvs := [(u, w)]) ⟨key, ka, v, z, [], rfl, e4, e5, ?_, rv, q2.ext0 ex, rfl⟩ (by simp) P e6
      rw [← e3]
      exact (q1.ext e2).ext0 ex

/-! ### methods of dicts -/
def rMD (M : Mo) (f : MCode) : V → List V → Hp → VK → Prop := fun x xs H Q => ∃ a n ws h k r p, a ≠ Ans.bad ∧ f n ws h k = a ∧ x = .ref p ∧ r.l[n]? = some p ∧ RelWs M.K M.g r H ws xs ∧ HSim M r H h ∧ Post M r H a k Q
def cMtDE (f : MCode) (A : Code) (L : LCode) : Code := fun c s h x k => A c s h x fun u h => dctC h u fun _ => cRef u fun n => L c s h x fun ws h => f n ws h k
/-- o.m(e, ..), o a dict -/
theorem pe_bmD {name : Str} {id : String} {r : V → List V → Hp → VK → Prop} {to : TE} {t : TA} (slot : Slot "dict" name id) (hty : typeOf (.builtin id) = pure (.type "method_descriptor")) (hm : MtR X id r) (ho : PE X o to) (ha : PA X (e :: es) t)
    (hbase : attributeBase o name X.env (eval o X.env) = eval o X.env := by rfl)
    (hfew : ((backTo cpos (starEach (e :: es) X.env)).all (fun x => !x.1) && (backToKw cpos (keywordEach [] X.env)).all (fun x => x.1.isSome) && decide ((e :: es).length + ([] : List Keyword).length + (if ([] : List Keyword).isEmpty then 0 else 1) < 30)) = true := by rfl)
    (hline : (apos.endLine == cpos.line) = true := by rfl) (hs : starEach (e :: es) X.env = (false, eval e X.env) :: starEach es X.env := by rfl) (hplain : (backTo cpos (starEach es X.env)).any (·.1) = false := by rfl) :
    PE X (.Call (.Attribute o name apos) (e :: es) [] cpos) (fun σ H Q => to σ H fun x H1 => (∃ p xs, x = .ref p ∧ Rd H1 p (DctO X.prog X.w p xs)) ∧ t σ H1 fun ws H2 => r x ws H2 Q) := by
  refine ⟨fun pins s0 σ H0 Q I0 hw => wpAny_Call_method_late hbase hfew hline rfl (thn (ho.run pins s0 σ H0 _ I0 hw) fun v s1 ⟨x, H1, I1, rx, ⟨p, xs, ep, hd⟩, q1⟩ => ?_)⟩
  obtain ⟨⟨hS, ob, esd, epd, h1, h2, _⟩, _⟩ : DctP X.prog X.w p xs s1.heap ∧ _ := hd.ok I1.hok
  have hv : v = .ref p := by subst ep; exact rx
  refine ⟨"dict", id, F.plainAttrs_dict, slot, hty, by rw [hv]; exact ⟨ob, h1, h2.1⟩, fun a ea => ⟨ob, ?_, h2.2.1⟩, ?_⟩
  · rw [hv] at ea
    cases ea
    exact h1
  have hA := ha.run cpos pins s1 σ H1 _ I1 q1
  rw [hs] at hA ⊢
  refine Calls.callWith_builtin (by show (false || (backTo cpos (starEach es X.env)).any (·.1)) = false; rw [hplain] <;> rfl) (Calls.evalArgs_plain (thn hA fun us s2 ⟨ws, H2, I2, rs, q2⟩ => hm pins s2 σ H2 x ws v us Q I2 rx rs q2))
theorem mtD_im {f : MCode} {σ : St} {H : Hp} {Q : VK} (fi : Fits X M) (h : tE M cl E (cMtDE f A L) σ H Q) : tE M cl E A σ H fun x H1 => (∃ p xs, x = .ref p ∧ Rd H1 p (DctO X.prog X.w p xs)) ∧ tAL M cl E L σ H1 fun ws H2 => rMD M f x ws H2 Q := by
  obtain ⟨a0, t, h, x, k, r, At0, eq, P⟩ := h
  refine ⟨a0, t, h, x, _, r, At0, eq, fun u h1 r1 v1 H1 e1 q1 hs1 eq1 => ?_⟩
  obtain ⟨n, p, kvs, xs, e2, e3, e4, z, hd, l, eq2⟩ := dctC_ok At0.good hs1 q1 eq1
  subst e2
  refine ⟨⟨p, xs, e3, by rw [← fi.P, ← fi.w]; exact hd⟩, a0, t, h1, x, _, r1, At0.ext e1 hs1, eq2, fun us h2 r2 ys H2 e8 q2 hs2 eq5 => ?_⟩
  exact ⟨a0, n, us, h2, k, r2, p, At0.good, eq5, e3, e8.at e4, q2, hs2, P.ext (e1.trans e8)⟩
theorem pec_mtD {name : Str} {id : String} {f : MCode} (fi : Fits X M) (slot : Slot "dict" name id) (hty : typeOf (.builtin id) = pure (.type "method_descriptor")) (hm : MtR X id (rMD M f)) (ho : PE X o (tE M cl E A)) (ha : PA X (e :: es) (tAL M cl E L))
    (hbase : attributeBase o name X.env (eval o X.env) = eval o X.env := by rfl)
    (hfew : ((backTo cpos (starEach (e :: es) X.env)).all (fun x => !x.1) && (backToKw cpos (keywordEach [] X.env)).all (fun x => x.1.isSome) && decide ((e :: es).length + ([] : List Keyword).length + (if ([] : List Keyword).isEmpty then 0 else 1) < 30)) = true := by rfl)
    (hline : (apos.endLine == cpos.line) = true := by rfl) (hs : starEach (e :: es) X.env = (false, eval e X.env) :: starEach es X.env := by rfl) (hplain : (backTo cpos (starEach es X.env)).any (·.1) = false := by rfl) :
    PE X (.Call (.Attribute o name apos) (e :: es) [] cpos) (tE M cl E (cMtDE f A L)) := PE.imp (pe_bmD slot hty hm ho ha hbase hfew hline hs hplain) fun _ _ _ h => mtD_im fi h
/-- d.get(k, x) -/
def fGet2 : MCode := fun n us h k => c2 us fun kw dw => dctC h (.ref n) fun kvs => cTup kw fun _ => cB (keyB kw 8) (lookD kvs kw (fun w => k w h) (k dw h)) .bad
def fGet1 : MCode := fun n us h k => c1 us fun kw => dctC h (.ref n) fun kvs => cTup kw fun _ => cB (keyB kw 8) (lookD kvs kw (fun w => k w h) (k .non h)) .bad
theorem mtd_get2 (f : Good X M) : MtR X "dict.get" (rMD M fGet2) := by
  intro pins s σ H x xs v us Q I rx rxs ⟨a, n, ws, h, k, r, p, ha, eq, ex, en, qs, hs, P⟩
  obtain ⟨kw, dw, e1, eq1⟩ := c2_ok ha eq
  subst e1
  obtain ⟨y, z, e2, q1, q2⟩ := rel2 qs
  subst e2
  obtain ⟨n', p', kvs, ys, e3, e4, _, hz, hd, l, eq2⟩ := dctC_ok ha hs (show RelW M.K M.g r H (.ref n) x from ⟨p, ex, en⟩) eq1
  obtain ⟨ka, key, e5, e6, e7, e8⟩ := key_of (f := fun _ => .bad) ha q1 eq2
  subst e4 e5
  cases rx
  obtain ⟨u1, u2, rfl, r1, r2⟩ := vals2 rxs
  cases r1
  obtain ⟨hS, hm⟩ := dct_of I f.toFits hd l
  have hk := key_is I f.toFits q1 e6 e7
  refine call_meetsIn F.slot_dict_get hm.typeIs F.entry_dict_get (F.args_dict_get_3 _ _ _) (meetsH_dict_get_default (nestedKind X.prog X.w) p' ka hS u2) ⟨f.room, key, ys, hk, hm, ?_⟩
  rcases lookD_ok e6 l e8 with ⟨ka', u', v', w', b1, b2, b3, b4⟩ | ⟨b1, b2⟩
  · rw [b1]
    exact ⟨v', H, I.tok _, b2, fin_at P hs b3 b4⟩
  · rw [b1]
    exact ⟨z, H, I.tok _, r2, fin_at P hs q2 b2⟩
theorem mtd_get1 (f : Good X M) : MtR X "dict.get" (rMD M fGet1) := by
  intro pins s σ H x xs v us Q I rx rxs ⟨a, n, ws, h, k, r, p, ha, eq, ex, en, qs, hs, P⟩
  obtain ⟨kw, e1, eq1⟩ := c1_ok ha eq
  subst e1
  obtain ⟨y, e2, q1⟩ := rel1 qs
  subst e2
  obtain ⟨n', p', kvs, ys, e3, e4, _, hz, hd, l, eq2⟩ := dctC_ok ha hs (show RelW M.K M.g r H (.ref n) x from ⟨p, ex, en⟩) eq1
  obtain ⟨ka, key, e5, e6, e7, e8⟩ := key_of (f := fun _ => .bad) ha q1 eq2
  subst e4 e5
  cases rx
  obtain ⟨u1, rfl, r1⟩ := vals1 rxs
  cases r1
  obtain ⟨hS, hm⟩ := dct_of I f.toFits hd l
  have hk := key_is I f.toFits q1 e6 e7
  refine call_meetsIn F.slot_dict_get hm.typeIs F.entry_dict_get (F.args_dict_get_2 _ _) (meetsH_dict_get (nestedKind X.prog X.w) p' ka hS) ⟨f.room, key, ys, hk, hm, ?_⟩
  rcases lookD_ok e6 l e8 with ⟨ka', u', v', w', b1, b2, b3, b4⟩ | ⟨b1, b2⟩
  · rw [b1]
    exact ⟨v', H, I.tok _, b2, fin_at P hs b3 b4⟩
  · rw [b1]
    exact ⟨.non, H, I.tok _, rfl, fin_non P hs b2⟩

/-! ### update -/
def addAllC (more kvs : List (W × W)) (k : List (W × W) → Ans) : Ans := List.rec (motive := fun _ => List (W × W) → Ans) (fun kvs => k kvs) (fun kv _ ih kvs => storeD kvs kv.1 kv.2 fun l => ih l) more kvs
theorem storedH_nd {xs : List DEnt} {k : NestedKey} {a : Addr} {v : Value} (nd : (xs.map (·.1)).Nodup) : ((storedH xs k a v).map (·.1)).Nodup := by
  unfold storedH
  split
  · rw [List.map_map]
    have : (xs.map ((fun x : DEnt => x.1) ∘ putAt k v)) = xs.map (·.1) := List.map_congr_left fun x _ => by
      simp only [Function.comp_def, putAt]
      split <;> rfl
    rw [this]
    exact nd
  · rename_i h
    rw [List.map_append]
    refine List.nodup_append.mpr ⟨nd, by simp, fun b hb c hc e => h ?_⟩
    have hc : c = k := by simpa using hc
    subst hc e
    obtain ⟨x, hx, hxk⟩ := List.mem_map.mp hb
    unfold atKey
    rw [Option.isSome_map, List.find?_isSome]
    exact ⟨x, hx, decide_eq_true hxk⟩
theorem addAllC_ok {r : Rg} {H : Hp} {a : Ans} {k : List (W × W) → Ans} : ∀ {more kvs : List (W × W)} {ys xs : List DEnt}, RelD M r H more ys → RelD M r H kvs xs → (xs.map (·.1)).Nodup → addAllC more kvs k = a → ∃ kvs', RelD M r H kvs' (storedAllH xs ys) ∧ k kvs' = a
  | [], kvs, ys, xs, h, h2, _, e => by
    rw [show ys = [] from h]
    exact ⟨kvs, h2, e⟩
  | (kw, vw) :: q, kvs, ys, xs, h, h2, nd, e => by
    obtain ⟨key, ka, u, v, zs, e1, e2, e3, e4, e5, e6, e7⟩ := h
    subst e1
    obtain ⟨kvs', f1, _, f2⟩ := storeD_ok e2 e3 e4 e5 e6 h2 nd (show storeD kvs kw vw (fun l => addAllC q l k) = a from e)
    have z := addAllC_ok (xs := storedH xs key ka u) e7 f1 (storedH_nd nd) f2
    exact z
def fUpd : MCode := fun n us h k => c1 us fun w => cRef w fun m => cB (Nat.beq n m) .bad (dctC h w fun more => BT.getC h.t n fun o => cMd o fun kvs => List.rec (motive := fun _ => Ans) .bad (fun _ _ _ => addAllC more kvs fun l => lenD l (lenD (kvs ++ more) (wrC h n (.dct l) fun h => k .non h))) kvs)
theorem mtd_update (f : Good X M) : MtR X "dict.update" (rMD M fUpd) := by
  intro pins s σ H x xs v us Q I rx rxs ⟨a, n, ws, h, k, r, p, ha, eq, ex, en, qs, hs, P⟩
  obtain ⟨w, e1, eq1⟩ := c1_ok ha eq
  subst e1
  obtain ⟨y, e2, q1⟩ := rel1 qs
  subst e2
  obtain ⟨m, e3, eq2⟩ := cRef_ok ha eq1
  rcases cB_ok eq2 with ⟨_, eq2⟩ | ⟨hnm, eq2⟩
  · exact absurd eq2.symm ha
  obtain ⟨m', p2, more, ys, e4, e5, e6, hz, hd, l, eq3⟩ := dctC_ok ha hs q1 eq2
  obtain ⟨o, ok, eq4⟩ := hs.at ha en eq3
  obtain ⟨kvs, e7, eq5⟩ := cMd_ok ha eq4
  subst e7
  obtain ⟨z, zs, e8, e9⟩ := ok
  have hne : p ≠ p2 := fun ee => by
    subst ee
    rw [e3] at e4
    cases e4
    obtain ⟨i1, j1⟩ := List.getElem?_eq_some_iff.mp en
    obtain ⟨i2, j2⟩ := List.getElem?_eq_some_iff.mp e6
    have := (List.getElem_inj hs.nd).mp (j1.trans j2.symm)
    rw [this, Nat.beq_refl] at hnm
    cases hnm
  cases kvs with
  | nil => exact absurd (show Ans.bad = a from eq5).symm ha
  | cons kv kvs =>
    have eq6 : addAllC more (kv :: kvs) (fun l => lenD l (lenD ((kv :: kvs) ++ more) (wrC h n (.dct l) fun h => k .non h))) = a := eq5
    subst ex e5
    cases rx
    obtain ⟨u1, rfl, r1⟩ := vals1 rxs
    cases r1
    obtain ⟨hS, hm⟩ := dct_of I f.toFits (.inl e8) e9
    obtain ⟨hS2, hm2⟩ := dct_of I f.toFits hd l
    have nd : (zs.map (·.1)).Nodup := by
      obtain ⟨_, _, _, _, _, _, _, _, q⟩ := hm
      exact q
    obtain ⟨kvs', f1, f2⟩ := addAllC_ok l e9 nd eq6
    obtain ⟨f3, f4⟩ := lenD_ok ha f2
    obtain ⟨f5, f6⟩ := lenD_ok ha f4
    have hm0 := List.mem_of_getElem? en
    have hn : NFrz H p := NFrz.of e8 dctO_nf
    have hzs : zs ≠ [] := fun e => by
      have := relD_len e9
      rw [e] at this
      simp at this
    refine call_update_dictH f.room hne hS2 hm hm2 (.inl hzs) (by rw [sizeLine_eq, ← relD_len e9, ← relD_len l, ← List.length_append]; exact f5) fun h' g1 g2 g3 => ?_
    obtain ⟨o', z1⟩ : ∃ o', h'.get? p = some o' := let ⟨o', _, _, q, _⟩ := g1; ⟨o', q⟩
    refine ⟨.non, _, I.write (t' := s.toks) (by rw [e8]; exact True.intro) (.inl rfl) (fun b ob nb q => (g3.2 b nb).trans q) ⟨o', z1⟩ (dctO_ok hS g1), rfl, ?_⟩
    rw [← f.P, ← f.w]
    exact wr_ok (o := .dct _) (u := DctO M.P M.w p (storedAllH zs ys)) (Q := fun H' => Q .non H') ha hs hn en ⟨f3, _, upd_same, f1.ext (hs.mutE hn hm0)⟩ P.non f6
end
end Eng
end
end

section
set_option maxRecDepth 100000
set_option maxHeartbeats 4000000
/-! Engine, part X: what the generator names; enumerate of a tuple. -/
namespace PySem
open Sem (wp)
open AutoSeq1 (wpAny_loadPart')
/-- enumerate(t), t a tuple: the two new cells -/
theorem en_newT (t : Addr) (items : Array Value) (n : Nat) (dct : Option Addr) (sl : Array (Option Value)) :
    Meets (Builtin.«enumerate.__new__» ⟨[.type "enumerate", .ref t], []⟩) (fun _ R s => s.heap.get? t = some { cls := .type "tuple", dict := dct, data := .seq items n, slots := sl } ∧
      R (.ok (.ret (.ref (s.heap.push { cls := .type "tuple_iterator", data := .fields #[.ref t, .int 0 0] }).objs.size)))
        { s with heap := (s.heap.push { cls := .type "tuple_iterator", data := .fields #[.ref t, .int 0 0] }).push { cls := .type "enumerate", data := .fields #[.none, .bool false, .ref s.heap.objs.size, rawInt 0, .none, .none] } }) :=
  .of_wp fun prog w A R s h => by
    obtain ⟨hp, g, d, tk, os⟩ := s
    obtain ⟨hl, h⟩ := h
    have hsub := sub_enumerate
    have hT : Heap.IsTuple (Shared.heap ⟨hp, g, d, tk, os⟩) t items := ⟨_, hl, rfl, n, rfl⟩
    wp_walk using wpAny_loadPart' hl
    refine wpAny_stack_any fun st => wpAny_pure ?_
    split
    · rename_i c _ _ _ _ _
      cases (c == Value.type "enumerate")
      · wp_walk using wpAny_loadPart' hl, wpAny_pyIter_tuple hT
        exact ⟨_, rfl, h⟩
      · wp_walk using wpAny_loadPart' hl, wpAny_pyIter_tuple hT
        exact ⟨_, rfl, h⟩
    · wp_walk using wpAny_loadPart' hl, wpAny_pyIter_tuple hT
      exact ⟨_, rfl, h⟩
section
variable {prog : Program} {w : World} {A : Around} {E : Value → Shared → Prop} {s : Shared}
theorem en_callT {t : Addr} {items : Array Value} {Q : Value → Shared → Prop} (hL : s.heap.IsTuple t items)
    (h : ∀ h', IsEnum h' (s.heap.objs.size + 1) s.heap.objs.size 0 .none → h'.IsTupleIter s.heap.objs.size t 0 → (∀ b o, s.heap.get? b = some o → h'.get? b = some o) → Q (.ref (s.heap.objs.size + 1)) { s with heap := h' }) : wpAny (model prog w) A (call (.type "enumerate") [.ref t]) Q E s := by
  obtain ⟨⟨c, dct, dt, sl⟩, hl, hc, n, hd⟩ := hL
  replace hc : c = .type "tuple" := hc
  replace hd : dt = .seq items n := hd
  subst hc hd
  refine callType_new F.called_enumerate (by decide) (F.typeCall_enumerate_1 _) (F.newCall_enumerate_1 _) (fun obj => F.args_object_init_2 obj _) F.entry_enumerate_new (en_newT t items n dct sl) ⟨hl, ?_⟩
  have hz : (s.heap.push { cls := .type "tuple_iterator", data := .fields #[.ref t, .int 0 0] }).objs.size = s.heap.objs.size + 1 := Heap.size_push ..
  show _ ∧ _
  rw [hz]
  have he : IsEnum ((s.heap.push { cls := .type "tuple_iterator", data := .fields #[.ref t, .int 0 0] }).push { cls := .type "enumerate", data := .fields #[.none, .bool false, .ref s.heap.objs.size, rawInt 0, .none, .none] }) (s.heap.objs.size + 1) s.heap.objs.size 0 .none := by
    have z := Heap.get?_push_size (s.heap.push { cls := .type "tuple_iterator", data := .fields #[.ref t, .int 0 0] }) (o := { cls := .type "enumerate", data := .fields #[.none, .bool false, .ref s.heap.objs.size, rawInt 0, .none, .none] }) rfl
    rw [hz] at z
    exact z
  exact ⟨⟨_, he, rfl⟩, h _ he ⟨_, Heap.get?_push_of_some _ (Heap.get?_push_size _ rfl), rfl, rfl⟩ fun b o x => Heap.get?_push_of_some _ (Heap.get?_push_of_some _ x)⟩
end
end PySem
noncomputable section
namespace Eng
open PySem PySem.Spec L2
open PyProof.Rows hiding St
section
variable {X : Cx} {M : Mo} {cl : Cl} {E : XK} {tg a b e kx vx o : Expr} {ifs es : List Expr} {A B C : Code} {L : LCode} {T : TCode} {pos p1 p apos cpos : Pos}
theorem pec_gint {x : Str} {i : Int} {pos : Pos} (hg : Gl X x) (hm : ∃ t, X.mg x = some (.int i t)) (hd : (x == ("__debug__" : Str)) = false := by decide) : PE X (.Name x pos) (tE M cl E (cCon (.int i))) := by
  obtain ⟨t, h⟩ := hm
  exact pec_con (pe_glob (v := .int i) hg h ⟨t, rfl⟩ hd) fun _ _ => rfl
theorem pec_gstr {x z : Str} {pos : Pos} (hg : Gl X x) (hm : ∃ t, X.mg x = some (.str z t)) (hd : (x == ("__debug__" : Str)) = false := by decide) : PE X (.Name x pos) (tE M cl E (cCon (.str z))) := by
  obtain ⟨t, h⟩ := hm
  exact pec_con (pe_glob (v := .str z) hg h ⟨t, rfl⟩ hd) fun _ _ => rfl
theorem ot_eqG (f : Good X M) : OpR X (compareOp .Eq) (rCmp M fEq) := ot_eq f.toFits (by have := f.un; omega)
theorem ot_neG (f : Good X M) : OpR X (compareOp .NotEq) (rCmp M fNe) := ot_ne f.toFits (by have := f.un; omega)
def scPar3 (L : LCode) (i j l : Stt) : SCode := fun c s h x n _ _ _ => L c s h x fun ws h => List.rec (motive := fun _ => Ans) .bad (fun u t _ => c2 t fun v w => i u s fun s => j v s fun s => l w s fun s => n s h) ws
theorem psc_par3 {i j l : Nat} {x y z : Str} {a b c : Expr} {px py pz pt : Pos} {kt k2 pt2} (f : Good X M) (hN : X.N.Nodup) (hi : X.N[i]? = some x) (hj : X.N[j]? = some y) (hl : X.N[l]? = some z) (hij : i ≠ j) (hil : i ≠ l) (hjl : j ≠ l)
    (hx : X.env.scope.names.lookup x = some .local) (hy : X.env.scope.names.lookup y = some .local) (hz : X.env.scope.names.lookup z = some .local) (ha : PA X [a, b, c] (tAL M cl E L))
    (hw : swappedStores [.Tuple [.Name x px, .Name y py, .Name z pz] kt pt] (.Tuple [a, b, c] k2 pt2) X.env = pure (some [x, y, z])) (hs : swapsWithSole [.Tuple [.Name x px, .Name y py, .Name z pz] kt pt] (.Tuple [a, b, c] k2 pt2) pos.line X.env = pure false := by rfl) :
    PS X (.Assign [.Tuple [.Name x px, .Name y py, .Name z pz] kt pt] (.Tuple [a, b, c] k2 pt2) pos) (tSt M cl E (scPar3 L (sI i) (sI j) (sI l))) :=
  PS.impI (ps_par3 f.calm hN hi hj hl hij hil hjl hx hy hz ha hw hs) fun pins s D σ H I ⟨a, t, hh, x, n, k, b, c, r, A, eq, pn, pr, pb, pc⟩ => by
    refine ⟨a, t, hh, x, _, r, A, eq, fun ws h1 r1 vs H1 e1 q1 hs1 eq1 => ?_⟩
    cases ws with
    | nil => exact absurd (show Ans.bad = a from eq1).symm A.good
    | cons u ws =>
      obtain ⟨v, w, e2, eq2⟩ := c2_ok A.good (show c2 ws _ = a from eq1)
      subst e2
      obtain ⟨v1, q, ev, qu, qr⟩ := (show ∃ v1 q, vs = v1 :: q ∧ RelW M.K M.g r1 H1 u v1 ∧ RelWs M.K M.g r1 H1 [v, w] q from q1)
      obtain ⟨v2, v3, e3, q2, q3⟩ := rel2 qr
      subst e3
      have h1' : i < σ.length := by rw [I.len]; exact (List.getElem?_eq_some_iff.mp hi).1
      have h2' : j < (σ.set i (some v1)).length := by rw [List.length_set, I.len]; exact (List.getElem?_eq_some_iff.mp hj).1
      have h3' : l < ((σ.set i (some v1)).set j (some v2)).length := by rw [List.length_set, List.length_set, I.len]; exact (List.getElem?_eq_some_iff.mp hl).1
      have eq3 := sI_ok A.good l w _ _ (sI_ok A.good j v _ _ (sI_ok A.good i u t _ eq2))
      exact ⟨v1, v2, v3, ev, pn _ _ _ _ _ e1 ((((A.ss.ext e1).set h1' qu).set h2' q2).set h3' q3) (by simp only [List.length_set]) hs1 eq3⟩
/-- the room of a make -/
theorem Body.room1 {k : Nat} (B : Body X M E (k + 1)) : Room (k + 1) X.A := B.room
end
/-! ### enumerate(t), t a tuple -/
def IteT (K : PySem.W.Frag) (a : Addr) : It :=
  ⟨fun i H => ∃ (xs : List V) (x : V), SqT K H a xs ∧ xs[i]? = some x, fun i H v H' => ∃ T x, v = .ref T ∧ H T = none ∧ H' = upd H T (.tup [.int (i : Nat), x]) ∧ ∀ xs, SqT K H a xs → xs[i]? = some x, fun i H => ∃ xs : List V, SqT K H a xs ∧ xs.length = i⟩
theorem turn_enT {P : Program} {w : World} {K : PySem.W.Frag} {elts : List Expr} {kk : Nat} {tpos : Pos} (a e it : Addr) :
    Turn P w K (.Tuple elts kk tpos) (IteT K a) [e, it] e (fun i h => (∃ old, IsEnum h e it ((i : Nat) : Int) old) ∧ h.IsTupleIter it a i ∧ e ≠ it) where
  mem := List.mem_cons_self ..
  obj := fun i h st b hb => by
    obtain ⟨⟨old, he⟩, ⟨o, ho, hc, hd⟩, _⟩ := st
    rcases List.mem_cons.mp hb with z | z
    · rw [z]; exact ⟨_, he, fun v q => nomatch q⟩
    · rw [List.mem_singleton.mp z]; exact ⟨o, ho, fun v q => by rw [hd] at q; cases q⟩
  keep := fun i h h' st k => let ⟨⟨old, he⟩, hi, hne⟩ := st; ⟨⟨old, k e (by simp) _ he⟩, hi.at fun o q => k it (by simp) o q, hne⟩
  item := by
    intro X hP hw hK hc i pins s σ H E I hf st hg
    subst hP hw hK
    obtain ⟨⟨old, he⟩, hit, hne⟩ := st
    obtain ⟨xs, x, hq, hx⟩ := hg
    obtain ⟨its, rv, pt, hz⟩ := I.tuple hq
    obtain ⟨u, hu, ru⟩ := rv.get hx
    have hel : e < s.heap.objs.size := Heap.lt_size he
    have hil : it < s.heap.objs.size := by obtain ⟨_, q, _⟩ := hit; exact Heap.lt_size q
    have hlt : i < its.toArray.size := by
      rw [List.size_toArray]
      exact (List.getElem?_eq_some_iff.mp hu).1
    have hat : a ≠ it := fun z => by
      obtain ⟨o1, g1, g2, _⟩ := hit
      obtain ⟨o2, f1, f2, _⟩ := pt
      rw [z, g1] at f1
      cases f1
      rw [g2] at f2
      exact absurd (Value.type.inj f2) (by decide)
    have hae : e ∉ [it, a] := fun z => by
      rcases List.mem_cons.mp z with z | z
      · exact hne z
      · obtain ⟨o2, f1, f2, _⟩ := pt
        have he' : s.heap.get? e = some _ := he
        rw [← List.mem_singleton.mp z, he'] at f1
        cases f1
        exact absurd (Value.type.inj f2) (by decide)
    refine wpAny_pyNext_enum_itemC (Draws.tuple (A := X.A.in1) (I.ok.hd hc) it a hat its.toArray) he ⟨hit, pt⟩ hlt hne hae fun x' h' tk hP' ho hst hT hsz hk => ?_
    have ex : x' = u := by
      have z : its.toArray[i]? = some x' := hP'
      rw [← Array.getElem?_toList] at z
      have z : its[i]? = some x' := z
      rw [hu] at z
      exact (Option.some.inj z).symm
    subst ex
    refine ⟨_, rfl, wpAny_letOwnedTupleGo_enum (s := { s with heap := h', toks := tk + 1 }) ho fun h'' he' sb => ?_⟩
    have hT2 : h''.get? s.heap.objs.size = some { cls := .type "tuple", data := .seq #[.int i tk, x'] } := (sb.2 _ (Nat.ne_of_gt hel)).trans hT
    have new : ObjOk X.prog X.w (upd H s.heap.objs.size (.tup [.int (i : Nat), x])) h'' s.heap.objs.size (.tup [.int (i : Nat), x]) := ⟨by show 2 ≤ sizeLine; decide, [.int i tk, x'], .cons ⟨_, rfl⟩ (.cons ru .nil), ⟨_, hT2, rfl, _, rfl⟩⟩
    have I1 : Inv X pins σ (upd H s.heap.objs.size (.tup [.int (i : Nat), x])) { s with heap := h'', toks := tk + 1 } :=
      I.turnedNew (ch := [e, it]) (fun b ob hb q => (sb.2 b (fun z => hb (by simp [z]))).trans (hk b ob (fun z => hb (by simp [z])) (fun z => hb (by simp [z])) q)) hf (Nat.le_refl _) new
    refine ⟨.ref s.heap.objs.size, _, I1, rfl, ⟨_, x, rfl, I.hok.fresh (Nat.le_refl _), rfl, fun ys hy => by rw [I.tuple_inj hy hq]; exact hx⟩, ⟨⟨x', ?_⟩, hst.1.at fun o q => (sb.2 it (Ne.symm hne)).trans q, hne⟩, fun b hb => ?_⟩
    · have e1 : ((i + 1 : Nat) : Int) = (i : Int) + 1 := by omega
      rw [e1]
      exact he'
    · have hb' : b < s.heap.objs.size := by
        rcases List.mem_cons.mp hb with z | z
        · rw [z]; exact hel
        · rw [List.mem_singleton.mp z]; exact hil
      rw [upd_ne (Nat.ne_of_lt hb')]
      exact (hf b hb).1
  done := by
    intro X hP hw hK hc i pins s σ H E I hf st hg
    subst hP hw hK
    obtain ⟨⟨old, he⟩, hit, hne⟩ := st
    obtain ⟨xs, hq, hx⟩ := hg
    obtain ⟨its, rv, pt, hz⟩ := I.tuple hq
    obtain ⟨f0, f1, f2, f3, f4, f5⟩ := hf it (by simp)
    have hl := rv.length
    have hi : i = its.toArray.size := by rw [List.size_toArray]; omega
    subst hi
    have hat : a ≠ it := fun z => by
      obtain ⟨o1, g1, g2, _⟩ := hit
      obtain ⟨o2, f1, f2, _⟩ := pt
      rw [z, g1] at f1
      cases f1
      rw [g2] at f2
      exact absurd (Value.type.inj f2) (by decide)
    exact wpAny_pyNext_enum_endD (Draws.tuple (A := X.A.in1) (I.ok.hd hc) it a hat its.toArray) he ⟨hit, pt⟩ fun h' eb => ⟨rfl, I.turned (t' := s.toks) (fun b o hb q => eb b o hb q) f0 f1 f3 f4 f5⟩
  self := fun A i s Q E st h => let ⟨⟨_, he⟩, _⟩ := st; wpAny_pyIter_enum he h
end Eng
end
end

section
set_option maxRecDepth 100000
set_option maxHeartbeats 4000000
/-! Engine, part Y: enumerate of a list or of a tuple, as a source. -/
noncomputable section
namespace Eng
open PySem PySem.Spec L2
open PyProof.Rows hiding St
def iEnumB (K : PySem.W.Frag) (ta : TA) : TI := fun σ H R => ta σ H fun vs H1 => ∃ a, vs = [.ref a] ∧ ((∃ xs, SqL K H1 a xs ∧ R (Ite K a) H1) ∨ (∃ xs, SqT K H1 a xs ∧ R (IteT K a) H1))
theorem pi_enumB {X : Cx} {e : Expr} {ta : TA} {p pos tpos : Pos} {elts : List Expr} {kk : Nat} (hg : Gl X "enumerate") (hm : X.mg "enumerate" = none) (ha : PA X [e] ta) (hs : starEach [e] X.env = [(false, eval e X.env)] := by rfl) :
    PI X (.Tuple elts kk tpos) (.Call (.Name "enumerate" p) [e] [] pos) (iEnumB X.K ta) := by
  refine ⟨fun pins s σ H R I h => ?_⟩
  refine Call_ (ld_blt I hg hm boot_enumerate (PyProof.Rows.callWith_type1 (thn (ha.run pos pins s σ H _ I h) fun us s1 ⟨vs, H1, I1, r1, q1⟩ => ?_) hs rfl))
  obtain ⟨a, ex, q1⟩ := q1
  subst ex
  cases r1 with
  | cons r rr =>
    cases rr
    cases r
    have fp : ∀ b, b ∈ [s1.heap.objs.size + 1, s1.heap.objs.size] → s1.heap.objs.size ≤ b := fun b hb => by
      have e' : b = s1.heap.objs.size + 1 ∨ b = s1.heap.objs.size := by simpa using hb
      rcases e' with z | z
      · rw [z]; exact Nat.le_add_right _ _
      · rw [z]; exact Nat.le_refl _
    rcases q1 with ⟨xs, hq, q⟩ | ⟨xs, hq, q⟩
    · obtain ⟨its, rv, p', hz⟩ := I1.list hq
      refine call_enumerate_list p'.isList fun h' he hit hsz hk => wpAny_pyIter_enum he ?_
      have I2 : Inv X pins σ H1 { s1 with heap := h' } := I1.kept (t' := s1.toks) hk
      exact ⟨s1.heap.objs.size + 1, [s1.heap.objs.size + 1, s1.heap.objs.size], _, _, H1, rfl, I2, turn_enum a (s1.heap.objs.size + 1) s1.heap.objs.size, ⟨⟨.none, he⟩, hit, Nat.succ_ne_self _⟩, fun b hb => I1.fpOk (fp b hb) (I1.hok.fresh (fp b hb)), q⟩
    · obtain ⟨its, rv, p', hz⟩ := I1.tuple hq
      refine en_callT p' fun h' he hit hk => wpAny_pyIter_enum he ?_
      have I2 : Inv X pins σ H1 { s1 with heap := h' } := I1.kept (t' := s1.toks) hk
      exact ⟨s1.heap.objs.size + 1, [s1.heap.objs.size + 1, s1.heap.objs.size], _, _, H1, rfl, I2, turn_enT a (s1.heap.objs.size + 1) s1.heap.objs.size, ⟨⟨.none, he⟩, hit, Nat.succ_ne_self _⟩, fun b hb => I1.fpOk (fp b hb) (I1.hok.fresh (fp b hb)), q⟩
section
variable {M : Mo} {r : Rg} {H : Hp} {ws us : List W} {vs xs : List V} {p q : Addr}
theorem it_enumT (hl : ws.length ≤ 16777216) (t : TupAt M.K r H p vs) (l : RelWs M.K M.g r H ws vs) : ItOk M (IteT M.K p) r H (enumW 0 ws) where
  len := by rw [enumW_len]; exact hl
  go := fun i r' H' e _ hi => by
    rw [enumW_len] at hi
    obtain ⟨v, e1, _⟩ := l.get (List.getElem?_eq_getElem hi)
    exact ⟨vs, v, (t.ext0 e).sq, e1⟩
  yld := fun i r' H' h' x H'' e _ hs hi ⟨T, x1, e1, e2, e3, e4⟩ => by
    subst e1 e3
    obtain ⟨w, a1, a2⟩ := (l.ext0 e).get' (e4 vs (t.ext0 e).sq)
    refine ⟨fun a o q => by rw [upd_ne (ne_of_none q e2)]; exact q, _, enumW_get 0 ws i w a1, ?_⟩
    rw [Nat.zero_add]
    exact pair_new hs e2 rfl a2
  stop := fun r' H' e _ => ⟨vs, (t.ext0 e).sq, by rw [enumW_len, l.length]⟩
end
def icEnum (L : LCode) : ICode := fun c s h x k => L c s h x fun us h => c1 us fun u => cSeq u fun ws => enumC ws 0 fun l => k l h
section
variable {X : Cx} {M : Mo} {cl : Cl} {E : XK} {a : Expr} {L : LCode} {p pos : Pos}
theorem pic_enum (f : Good X M) {tpos : Pos} {elts : List Expr} {kk : Nat} (hg : Gl X "enumerate") (hm : X.mg "enumerate" = none) (ha : PA X [a] (tAL M cl E L)) (hs : starEach [a] X.env = [(false, eval a X.env)] := by rfl) : PI X (.Tuple elts kk tpos) (.Call (.Name "enumerate" p) [a] [] pos) (tI M cl E (icEnum L)) :=
  PI.imp (pi_enumB hg hm ha hs) fun σ H R ⟨a, t, h, x, k, r, At0, eq, P⟩ => ⟨a, t, h, x, _, r, At0, eq, fun us h1 r1 vs H1 e1 q1 hs1 eq1 => by
    obtain ⟨u, e2, eq2⟩ := c1_ok At0.good eq1
    subst e2
    obtain ⟨v, e3, q2⟩ := rel1 q1
    obtain ⟨ws, e4, eq3⟩ := cSeq_ok At0.good eq2
    rw [enumC_eq] at eq3
    rcases e4 with e4 | e4 <;> subst e4
    · obtain ⟨p, vs1, e5, z, tt, l⟩ := (show ∃ a vs, v = .ref a ∧ ws.length ≤ 16777216 ∧ TupAt M.K r1 H1 a vs ∧ RelWs M.K M.g r1 H1 ws vs from q2)
      refine ⟨p, by rw [e3, e5], .inr ⟨vs1, by rw [← f.K]; exact tt.sq, ?_⟩⟩
      rw [← f.K]
      exact P _ h1 r1 H1 _ e1 hs1 (it_enumT z tt l) eq3
    · obtain ⟨p, vs1, e5, z, tt, l⟩ := (show ∃ a vs, v = .ref a ∧ ws.length ≤ 16777216 ∧ LstAt M.K r1 H1 a vs ∧ RelWs M.K M.g r1 H1 ws vs from q2)
      refine ⟨p, by rw [e3, e5], .inl ⟨vs1, SqL.of tt.1, ?_⟩⟩
      rw [← f.K]
      exact P _ h1 r1 H1 _ e1 hs1 (it_enumL z tt l) eq3⟩
end
end Eng
end
end

section
set_option maxRecDepth 100000
set_option maxHeartbeats 4000000
/-! Engine, part Z: xs[::-1] of a list. -/
noncomputable section
namespace Eng
open PySem PySem.Spec L2
open PyProof.Rows hiding St
def cRev (A : Code) : Code := fun c s h x k => A c s h x fun u h => lstC h u fun ws => revC ws [] fun l => k (.lst l) h
section
variable {X : Cx} {M : Mo} {cl : Cl} {E : XK} {e : Expr} {A : Code} {p1 p2 p3 pos : Pos}
theorem pec_rev (f : Good X M) {n : Nat} (he : PE X e (tE M cl E A)) : PE X (.Subscript e (.Slice none none (some (.UnaryOp .USub (.Constant (.int 1) n p1) p2)) p3) pos) (tE M cl E (cRev A)) :=
  PE.imp (pe_revL he) fun σ H Q ⟨a, t, h, x, k, r, At0, eq, P⟩ => ⟨a, t, h, x, _, r, At0, eq, fun u h1 r1 v1 H1 e1 q1 hs1 eq1 => by
    obtain ⟨ws, z, p, vs, e2, tt, l, eq2⟩ := lstC_ok At0.good hs1 q1 eq1
    rw [revC_eq, List.append_nil] at eq2
    refine ⟨p, vs, e2, SqL.of tt, ?_⟩
    exact (fin_lst At0.good hs1 l.reverse (by rw [List.length_reverse]; exact z) (P.ext e1) eq2).2⟩
end
end Eng
end
end

section
set_option maxRecDepth 100000
set_option maxHeartbeats 4000000
/-! Engine, part ZA: min(t), t a tuple of whole numbers. -/
noncomputable section
namespace Eng
open PySem PySem.Spec L2
open PyProof.Rows hiding St
theorem minOf_ok (xs : List Int) : ∀ x : Int, PySem.W.minOf x xs ∈ x :: xs ∧ ∀ y ∈ x :: xs, PySem.W.minOf x xs ≤ y := by
  induction xs with
  | nil => intro x; exact ⟨List.mem_cons_self .., fun y hy => by rw [List.mem_singleton.mp hy]; exact Int.le_refl _⟩
  | cons z zs ih =>
    intro x
    have e : PySem.W.minOf x (z :: zs) = PySem.W.minOf (if decide (z < x) = true then z else x) zs := rfl
    rw [e]
    by_cases c : z < x
    · rw [if_pos (decide_eq_true c)]
      obtain ⟨a, b⟩ := ih z
      refine ⟨List.mem_cons_of_mem _ a, fun y hy => ?_⟩
      rcases List.mem_cons.mp hy with q | q
      · rw [q]; exact Int.le_trans (b z (List.mem_cons_self ..)) (Int.le_of_lt c)
      · exact b y q
    · rw [if_neg (by rw [decide_eq_true_eq]; exact c)]
      obtain ⟨a, b⟩ := ih x
      refine ⟨?_, fun y hy => ?_⟩
      · rcases List.mem_cons.mp a with q | q
        · rw [q]; exact List.mem_cons_self ..
        · exact List.mem_cons_of_mem _ (List.mem_cons_of_mem _ q)
      · rcases List.mem_cons.mp hy with q | q
        · rw [q]; exact b x (List.mem_cons_self ..)
        · rcases List.mem_cons.mp q with q | q
          · rw [q]; exact Int.le_trans (b x (List.mem_cons_self ..)) (Int.not_lt.mp c)
          · exact b y (List.mem_cons_of_mem _ q)
def fMinT : FCode := fun ws h k => c1 ws fun u => cTup u fun us => best1 (fun i j => ltI j i) us fun i => k (.int i) h
section
variable {X : Cx} {M : Mo}
theorem cf_minT (f : Good X M) : CallR X (.builtin "min") (rF M fMinT) := by
  intro pins s σ H vs us Q I rv ⟨a, ws, h, k, r, ha, eq, q, hs, P⟩
  obtain ⟨u, e, eq1_⟩ := c1_ok ha eq
  subst e
  obtain ⟨v, e, q1_⟩ := rel1 q
  subst e
  obtain ⟨zs, _, z, p, xs, e2, t, l, eq2_⟩ := cTup_rel ha q1_ eq1_
  subst e2
  obtain ⟨ns, m, e3, z2, eq3_, q2, q3⟩ := best1_ok (le := fun i j => j ≤ i) (fun i => Int.le_refl i) (fun i j l a b => Int.le_trans b a) (fun i j z => by rw [ltI_eq] at z; exact Int.le_of_lt (of_decide_eq_true z)) (fun i j z => by rw [ltI_eq] at z; exact Int.not_lt.mp (of_decide_eq_false z)) ha eq2_
  subst e3
  have e4 := rel_ints l
  subst e4
  obtain ⟨its, rvs, pt, hz⟩ := I.tuple (a := p) (xs := ns.map V.int) (by rw [← f.K]; exact t.sq)
  rw [Vals.ref1 rv]
  have hi := rvs.ints
  obtain _ | ⟨n0, ns0⟩ := ns
  · exact absurd z2 (by decide)
  refine PySem.W.min_tuple_datum (x := n0) (xs := ns0) (I.ok.hd f.calm) pt (PySem.W.HoldAll.of_ints hi) (by have := f.un; show X.A.units + 1 + 0 < cLine; omega) fun i w h' tk hw hh hk => ?_
  obtain ⟨tw, hw2⟩ := PySem.W.int_of_holds hh
  obtain ⟨b1, b2⟩ := minOf_ok ns0 n0
  have : PySem.W.minOf n0 ns0 = m := Int.le_antisymm (b2 _ q2) (q3 _ b1)
  rw [this] at hw2
  exact ⟨.int m, H, I.kept hk, ⟨tw, hw2⟩, fin_int P hs eq3_⟩
end
end Eng
end
end

section
set_option maxRecDepth 100000
set_option maxHeartbeats 4000000
/-! Engine, part ZB: the order of pairs of a number and a tuple of numbers; insertion sort is merge sort. -/
noncomputable section
namespace Eng
open PySem PySem.Spec L2
open PyProof.Rows hiding St
abbrev Pr := Int × PySem.W.Tup Int
def prLt (p q : Pr) : Bool := PySem.W.DatumOrd.lt p q
theorem ll_cons (x y : Int) (xs ys : List Int) : PySem.W.listLt (x :: xs) (y :: ys) = if x = y then PySem.W.listLt xs ys else decide (x < y) := by
  rw [PySem.W.listLt]
  rfl
theorem ll_irr : ∀ xs : List Int, PySem.W.listLt xs xs = false
  | [] => rfl
  | x :: xs => by rw [ll_cons, if_pos rfl]; exact ll_irr xs
theorem ll_tr : ∀ xs ys zs : List Int, PySem.W.listLt xs ys = true → PySem.W.listLt ys zs = true → PySem.W.listLt xs zs = true
  | [], [], _, h, _ => by cases h
  | [], _ :: _, [], _, h => by cases h
  | [], _ :: _, _ :: _, _, _ => rfl
  | _ :: _, [], _, h, _ => by cases h
  | _ :: _, _ :: _, [], _, h => by cases h
  | x :: xs, y :: ys, z :: zs, h1, h2 => by
    rw [ll_cons] at h1 h2 ⊢
    by_cases a : x = y
    · subst a
      rw [if_pos rfl] at h1
      by_cases b : x = z
      · rw [if_pos b] at h2 ⊢
        exact ll_tr xs ys zs h1 h2
      · rw [if_neg b] at h2 ⊢
        exact h2
    · rw [if_neg a] at h1
      have h1 := of_decide_eq_true h1
      by_cases b : y = z
      · subst b
        rw [if_neg a]
        exact decide_eq_true h1
      · rw [if_neg b] at h2
        have h2 := of_decide_eq_true h2
        rw [if_neg (by omega)]
        exact decide_eq_true (by omega)
theorem ll_tri : ∀ xs ys : List Int, PySem.W.listLt xs ys = false → PySem.W.listLt ys xs = false → xs = ys
  | [], [], _, _ => rfl
  | [], _ :: _, h, _ => by cases h
  | _ :: _, [], _, h => by cases h
  | x :: xs, y :: ys, h1, h2 => by
    rw [ll_cons] at h1 h2
    by_cases a : x = y
    · subst a
      rw [if_pos rfl] at h1 h2
      rw [ll_tri xs ys h1 h2]
    · rw [if_neg a] at h1
      rw [if_neg (Ne.symm a)] at h2
      have h1 := of_decide_eq_false h1
      have h2 := of_decide_eq_false h2
      omega
theorem prLt_eq (p q : Pr) : prLt p q = if p.1 = q.1 then PySem.W.listLt p.2.items q.2.items else decide (p.1 < q.1) := rfl
theorem pr_irr (p : Pr) : prLt p p = false := by rw [prLt_eq, if_pos rfl]; exact ll_irr _
theorem pr_tr (p q r : Pr) (h1 : prLt p q = true) (h2 : prLt q r = true) : prLt p r = true := by
  rw [prLt_eq] at h1 h2 ⊢
  by_cases a : p.1 = q.1
  · rw [if_pos a] at h1
    rw [a]
    by_cases b : q.1 = r.1
    · rw [if_pos b] at h2 ⊢
      exact ll_tr _ _ _ h1 h2
    · rw [if_neg b] at h2 ⊢
      exact h2
  · rw [if_neg a] at h1
    have h1 := of_decide_eq_true h1
    by_cases b : q.1 = r.1
    · rw [← b, if_neg a]
      exact decide_eq_true h1
    · rw [if_neg b] at h2
      have h2 := of_decide_eq_true h2
      rw [if_neg (by omega)]
      exact decide_eq_true (by omega)
theorem pr_tri (p q : Pr) (h1 : prLt p q = false) (h2 : prLt q p = false) : p = q := by
  rw [prLt_eq] at h1 h2
  by_cases a : p.1 = q.1
  · rw [if_pos a] at h1
    rw [if_pos a.symm] at h2
    obtain ⟨p1, ⟨p2⟩⟩ := p
    obtain ⟨q1, ⟨q2⟩⟩ := q
    have := ll_tri p2 q2 h1 h2
    subst this
    subst a
    rfl
  · rw [if_neg a] at h1
    rw [if_neg (Ne.symm a)] at h2
    have h1 := of_decide_eq_false h1
    have h2 := of_decide_eq_false h2
    omega
def prLe (p q : Pr) : Bool := !prLt q p
theorem pr_le (p q : Pr) : PySem.W.dataLe false (PySem.W.Datum.toD (α := Pr)) p q = prLe p q := by
  rw [PySem.W.dataLe_eq]
  show (!PySem.W.dataLt (PySem.W.Datum.toD q) (PySem.W.Datum.toD p)) = _
  rw [PySem.W.DatumOrd.lt_eq]
  rfl
theorem le_tr (a b c : Pr) (h1 : prLe a b = true) (h2 : prLe b c = true) : prLe a c = true := by
  unfold prLe at *
  rw [Bool.not_eq_true'] at *
  cases e : prLt c a with
  | false => rfl
  | true =>
    cases f : prLt a b with
    | true => rw [pr_tr c a b e f] at h2; cases h2
    | false =>
      have := pr_tri a b f h1
      subst this
      rw [e] at h2
      cases h2
theorem le_tot (a b : Pr) : (prLe a b || prLe b a) = true := by
  unfold prLe
  cases e : prLt b a with
  | false => rfl
  | true =>
    cases f : prLt a b with
    | false => rfl
    | true =>
      have := pr_tr a b a f e
      rw [pr_irr] at this
      cases this
theorem le_anti (a b : Pr) (h1 : prLe a b = true) (h2 : prLe b a = true) : a = b := by
  unfold prLe at *
  rw [Bool.not_eq_true'] at *
  exact pr_tri a b h2 h1
def insP (x : Pr) : List Pr → List Pr
  | [] => [x]
  | y :: ys => cond (prLt y x) (y :: insP x ys) (x :: y :: ys)
def srtP : List Pr → List Pr
  | [] => []
  | x :: xs => insP x (srtP xs)
theorem insP_perm (x : Pr) : ∀ ys, (insP x ys).Perm (x :: ys)
  | [] => .refl _
  | y :: ys => by
    rw [insP]
    cases prLt y x with
    | true => exact ((insP_perm x ys).cons y).trans (.swap x y ys)
    | false => exact .refl _
theorem insP_srt (x : Pr) : ∀ ys, ys.Pairwise (fun a b => prLe a b = true) → (insP x ys).Pairwise (fun a b => prLe a b = true)
  | [], _ => List.pairwise_singleton _ _
  | y :: ys, h => by
    obtain ⟨h1, h2⟩ := List.pairwise_cons.mp h
    rw [insP]
    cases e : prLt y x with
    | true =>
      refine List.pairwise_cons.mpr ⟨fun z hz => ?_, insP_srt x ys h2⟩
      rcases List.mem_cons.mp ((insP_perm x ys).mem_iff.mp hz) with q | q
      · subst q
        unfold prLe
        cases f : prLt z y with
        | false => rfl
        | true =>
          have := pr_tr y z y e f
          rw [pr_irr] at this
          cases this
      · exact h1 z q
    | false =>
      have hx : prLe x y = true := by unfold prLe; rw [e]; rfl
      refine List.pairwise_cons.mpr ⟨fun z hz => ?_, h⟩
      rcases List.mem_cons.mp hz with q | q
      · rw [q]; exact hx
      · exact le_tr x y z hx (h1 z q)
theorem srtP_perm : ∀ xs, (srtP xs).Perm xs
  | [] => .refl _
  | x :: xs => (insP_perm x _).trans ((srtP_perm xs).cons x)
theorem srtP_srt : ∀ xs, (srtP xs).Pairwise (fun a b => prLe a b = true)
  | [] => .nil
  | x :: xs => insP_srt x _ (srtP_srt xs)
theorem srtP_eq (xs : List Pr) : xs.mergeSort (PySem.W.dataLe false (PySem.W.Datum.toD (α := Pr))) = srtP xs := by
  have e : PySem.W.dataLe false (PySem.W.Datum.toD (α := Pr)) = prLe := by
    funext a b
    exact pr_le a b
  rw [e]
  exact List.Perm.eq_of_pairwise (fun a b _ _ h1 h2 => le_anti a b h1 h2) (List.pairwise_mergeSort le_tr le_tot xs) (srtP_srt xs) ((List.mergeSort_perm xs prLe).trans (srtP_perm xs).symm)
end Eng
end
end

section
set_option maxRecDepth 100000
set_option maxHeartbeats 4000000
/-! Engine, part ZC: sorted of a list of pairs of a number and a tuple of numbers. -/
noncomputable section
namespace Eng
open PySem PySem.Spec L2
open PyProof.Rows hiding St
def toWP (p : Pr) : W := .tup [.int p.1, .tup (p.2.items.map W.int)]
def llF (xs ys : List Int) : Bool := List.rec (motive := fun _ => List Int → Bool) (fun ys => List.rec (motive := fun _ => Bool) false (fun _ _ _ => true) ys) (fun x _ ih ys => List.rec (motive := fun _ => Bool) false (fun y ys _ => Bool.rec (motive := fun _ => Bool) (Bool.rec (motive := fun _ => Bool) (ih ys) false (ltI y x)) true (ltI x y)) ys) xs ys
theorem llF_eq : ∀ xs ys : List Int, llF xs ys = PySem.W.listLt xs ys
  | [], [] => rfl
  | [], _ :: _ => rfl
  | _ :: _, [] => rfl
  | x :: xs, y :: ys => by
    have e : llF (x :: xs) (y :: ys) = Bool.rec (motive := fun _ => Bool) (Bool.rec (motive := fun _ => Bool) (llF xs ys) false (ltI y x)) true (ltI x y) := rfl
    rw [e, llF_eq xs ys, ltI_eq, ltI_eq, ll_cons]
    by_cases a : x = y
    · subst a
      rw [if_pos rfl, decide_eq_false (Int.lt_irrefl x)]
    · rw [if_neg a]
      by_cases b : x < y
      · rw [decide_eq_true b]
      · rw [decide_eq_false b, decide_eq_true (show y < x by omega)]
def prF (p q : Pr) : Bool := Bool.rec (motive := fun _ => Bool) (Bool.rec (motive := fun _ => Bool) (llF p.2.items q.2.items) false (ltI q.1 p.1)) true (ltI p.1 q.1)
theorem prF_eq (p q : Pr) : prF p q = prLt p q := by
  unfold prF
  rw [llF_eq, ltI_eq, ltI_eq, prLt_eq]
  by_cases a : p.1 = q.1
  · rw [if_pos a, a, decide_eq_false (Int.lt_irrefl _)]
  · rw [if_neg a]
    by_cases b : p.1 < q.1
    · rw [decide_eq_true b]
    · rw [decide_eq_false b, decide_eq_true (show q.1 < p.1 by omega)]
/-! ### the codes -/
def intsC (vs : List W) (k : List Int → Ans) : Ans := List.rec (motive := fun _ => (List Int → Ans) → Ans) (fun k => k []) (fun v _ ih k => cI v fun i => ih fun l => k (i :: l)) vs k
theorem intsC_ok {a : Ans} (ha : a ≠ .bad) : ∀ {vs : List W} {k : List Int → Ans}, intsC vs k = a → ∃ is, vs = is.map W.int ∧ k is = a
  | [], k, h => ⟨[], rfl, h⟩
  | v :: vs, k, h => by
    obtain ⟨i, e, h2⟩ := cI_ok ha (show cI v (fun i => intsC vs fun l => k (i :: l)) = a from h)
    obtain ⟨is, e2, h3⟩ := intsC_ok ha h2
    exact ⟨i :: is, by rw [e, e2]; rfl, h3⟩
def prC (ws : List W) (k : List (W × Pr) → Ans) : Ans := List.rec (motive := fun _ => (List (W × Pr) → Ans) → Ans) (fun k => k []) (fun w _ ih k => cTup w fun us => c2 us fun u v => cI u fun n => cTup v fun vs => intsC vs fun is => ih fun l => k ((w, (n, ⟨is⟩)) :: l)) ws k
theorem prC_ok {a : Ans} (ha : a ≠ .bad) : ∀ {ws : List W} {k : List (W × Pr) → Ans}, prC ws k = a → ∃ ps : List Pr, ws = ps.map toWP ∧ k (ps.map fun p => (toWP p, p)) = a
  | [], k, h => ⟨[], rfl, h⟩
  | w :: ws, k, h => by
    obtain ⟨us, e1, h1⟩ := cTup_ok ha (show cTup w (fun us => c2 us fun u v => cI u fun n => cTup v fun vs => intsC vs fun is => prC ws fun l => k ((w, (n, ⟨is⟩)) :: l)) = a from h)
    obtain ⟨u, v, e2, h2⟩ := c2_ok ha h1
    obtain ⟨n, e3, h3⟩ := cI_ok ha h2
    obtain ⟨vs, e4, h4⟩ := cTup_ok ha h3
    obtain ⟨is, e5, h5⟩ := intsC_ok ha h4
    obtain ⟨ps, e6, h6⟩ := prC_ok ha h5
    subst e1 e2 e3 e4 e5 e6
    exact ⟨(n, ⟨is⟩) :: ps, rfl, h6⟩
def insC (x : W × Pr) (ys : List (W × Pr)) (k : List (W × Pr) → Ans) : Ans := List.rec (motive := fun _ => (List (W × Pr) → Ans) → Ans) (fun k => k [x]) (fun y ys ih k => Bool.rec (motive := fun _ => Ans) (k (x :: y :: ys)) (ih fun r => k (y :: r)) (prF y.2 x.2)) ys k
theorem insC_eq (x : Pr) : ∀ (ys : List Pr) (k : List (W × Pr) → Ans), insC (toWP x, x) (ys.map fun p => (toWP p, p)) k = k ((insP x ys).map fun p => (toWP p, p))
  | [], k => rfl
  | y :: ys, k => by
    have e : insC (toWP x, x) ((y :: ys).map fun p => (toWP p, p)) k = Bool.rec (motive := fun _ => Ans) (k ((x :: y :: ys).map fun p => (toWP p, p))) (insC (toWP x, x) (ys.map fun p => (toWP p, p)) fun r => k ((toWP y, y) :: r)) (prF y x) := rfl
    rw [e, insC_eq x ys, prF_eq, insP]
    cases prLt y x with
    | true => rfl
    | false => rfl
def srtC (ws : List (W × Pr)) (k : List (W × Pr) → Ans) : Ans := List.rec (motive := fun _ => (List (W × Pr) → Ans) → Ans) (fun k => k []) (fun x _ ih k => ih fun r => insC x r k) ws k
theorem srtC_eq : ∀ (ps : List Pr) (k : List (W × Pr) → Ans), srtC (ps.map fun p => (toWP p, p)) k = k ((srtP ps).map fun p => (toWP p, p))
  | [], k => rfl
  | x :: ps, k => by
    have e : srtC ((x :: ps).map fun p => (toWP p, p)) k = srtC (ps.map fun p => (toWP p, p)) fun r => insC (toWP x, x) r k := rfl
    rw [e, srtC_eq ps, insC_eq]
    rfl
def fstC (ws : List (W × Pr)) (k : List W → Ans) : Ans := List.rec (motive := fun _ => (List W → Ans) → Ans) (fun k => k []) (fun x _ ih k => ih fun r => k (x.1 :: r)) ws k
theorem fstC_eq : ∀ (ps : List Pr) (k : List W → Ans), fstC (ps.map fun p => (toWP p, p)) k = k (ps.map toWP)
  | [], k => rfl
  | x :: ps, k => by
    have e : fstC ((x :: ps).map fun p => (toWP p, p)) k = fstC (ps.map fun p => (toWP p, p)) fun r => k (toWP x :: r) := rfl
    rw [e, fstC_eq ps]
    rfl
def fSrtP : FCode := fun ws h k => c1 ws fun u => lstC h u fun us => prC us fun ps => srtC ps fun qs => fstC qs fun l => k (.lst l) h
section
variable {X : Cx} {M : Mo} {r : Rg} {H : Hp}
theorem rel_each : ∀ {ps : List Pr} {xs : List V} {vs : List Value}, RelWs M.K M.g r H (ps.map toWP) xs → Vals xs vs → PySem.W.EachIs (fun v p => ∃ x, RelW M.K M.g r H (toWP p) x ∧ RelV x v) vs ps
  | [], xs, vs, q, rv => by
    have q' : xs = [] := q
    subst q'
    cases rv
    exact .nil
  | p :: ps, xs, vs, q, rv => by
    obtain ⟨x, t, e, a, b⟩ := (show ∃ v q, xs = v :: q ∧ RelW M.K M.g r H (toWP p) v ∧ RelWs M.K M.g r H (ps.map toWP) q from q)
    subst e
    cases rv with
    | cons r1 r2 => exact .cons ⟨x, a, r1⟩ (rel_each b r2)
theorem each_rel : ∀ {vs : List Value} {ps : List Pr}, PySem.W.EachIs (fun v p => ∃ x, RelW M.K M.g r H (toWP p) x ∧ RelV x v) vs ps → ∃ xs, RelWs M.K M.g r H (ps.map toWP) xs ∧ Vals xs vs
  | _, _, .nil => ⟨[], rfl, .nil⟩
  | _, _, .cons ⟨x, a, b⟩ t => by
    obtain ⟨xs, c, d⟩ := each_rel t
    exact ⟨x :: xs, ⟨x, xs, rfl, a, c⟩, .cons b d⟩
theorem pr_holds (f : Good X M) {pins : List (Addr × Obj)} {s : Shared} {σ : St} (I : L2.Inv X pins σ H s) {p : Pr} {x : V} {v : Value} (q : RelW M.K M.g r H (toWP p) x) (rx : RelV x v) : PySem.W.Holds s.heap v p := by
  obtain ⟨n, ⟨is⟩⟩ := p
  obtain ⟨a, xs, e, _, t, l⟩ := (show ∃ a vs, x = .ref a ∧ _ ≤ 16777216 ∧ TupAt M.K r H a vs ∧ RelWs M.K M.g r H [.int n, .tup (is.map W.int)] vs from q)
  subst e
  obtain ⟨x1, x2, e2, q1, q2⟩ := rel2 l
  subst e2
  have q1' : x1 = .int n := q1
  subst q1'
  obtain ⟨b, ys, e3, _, t2, l2⟩ := (show ∃ a vs, x2 = .ref a ∧ _ ≤ 16777216 ∧ TupAt M.K r H a vs ∧ RelWs M.K M.g r H (is.map W.int) vs from q2)
  subst e3
  have e4 := rel_ints l2
  subst e4
  obtain ⟨its, rv, pt, _⟩ := I.tuple (a := a) (xs := [.int n, .ref b]) (by rw [← f.K]; exact t.sq)
  obtain ⟨its2, rv2, pt2, _⟩ := I.tuple (a := b) (xs := is.map V.int) (by rw [← f.K]; exact t2.sq)
  cases rx
  cases rv with
  | cons r1 rr =>
    cases rr with
    | cons r2 rr =>
      cases rr
      obtain ⟨tk, e5⟩ := r1
      subst e5
      cases r2
      exact PySem.W.holds_pair pt (PySem.W.holds_int n tk) (PySem.W.holds_tup pt2 (PySem.W.HoldAll.of_ints rv2.ints))
theorem cf_srtP (f : Good X M) : CallR X (.builtin "sorted") (rF M fSrtP) := by
  intro pins s σ H vs us Q I rv ⟨a, ws, h, k, r, ha, eq, q, hs, P⟩
  obtain ⟨u, e, eq1_⟩ := c1_ok ha eq
  subst e
  obtain ⟨v, e, q1_⟩ := rel1 q
  subst e
  obtain ⟨zs, z, p, xs, e2, t, l, eq2_⟩ := lstC_ok ha hs q1_ eq1_
  subst e2
  obtain ⟨ps, e3, eq3_⟩ := prC_ok ha eq2_
  subst e3
  rw [srtC_eq, fstC_eq] at eq3_
  obtain ⟨its, rvs, hl, hz⟩ := I.list (SqL.of t)
  rw [Vals.ref1 rv]
  have ee := rel_each l rvs
  have hlen : ps.length ≤ 16777216 := by rw [List.length_map] at z; exact z
  refine PySem.W.sorted_data (enc := PySem.W.Datum.toD (α := Pr)) (bs := ps) hl.isList ee (ee.mono fun v b ⟨x, a, b⟩ => pr_holds f I a b) (PySem.W.AllAlike.of fun b b' => PySem.W.DatumOrd.alike b b') (PySem.W.Sortable.tuples fun b => ⟨_, _, rfl⟩) (by rw [sizeLine_eq]; exact hlen) (fun b _ => ?_) fun out ho eo => ?_
  · have := f.un
    have d : (PySem.W.Datum.toD b).depth ≤ 2 := PySem.W.Datum.depth_le b
    show X.A.units + 2 + _ < cLine
    omega
  · rw [srtP_eq] at eo
    obtain ⟨ys, q2, rv2⟩ := each_rel eo
    obtain ⟨ep, he'⟩ := PyProof.Rows.sortedAll_at s.heap its out.toArray
    have hl2 : ((srtP ps).map toWP).length ≤ 16777216 := by rw [List.length_map, (srtP_perm ps).length_eq]; exact hlen
    obtain ⟨hly, fin⟩ := fin_lst ha hs q2 hl2 P eq3_
    exact ⟨.ref _, upd H (s.heap.objs.size + 1) (.lst ys), I.laid (t' := s.toks) (fun _ _ => PyProof.Rows.sortedAll_old) (Nat.le_succ _) ⟨hly, out, ep, rv2, he'⟩, rfl, fin _ (I.hok.fresh (Nat.le_succ _))⟩
end
end Eng
end
end

section
set_option maxRecDepth 100000
set_option maxHeartbeats 4000000
/-! Engine, part ZD: range(i, j, -1) as a source. -/
noncomputable section
namespace Eng
open PySem PySem.Spec L2
open PyProof.Rows hiding St
theorem rngW_rev (i j : Int) (t : Nat) (ht : t < (i - j).toNat) : (rngW (j + 1) (i - j).toNat).reverse[t]? = some (.int (i + (t : Nat) * (-1))) := by
  have hl : (rngW (j + 1) (i - j).toNat).length = (i - j).toNat := by unfold rngW; rw [List.length_map, List.length_range]
  rw [List.getElem?_reverse (by rw [hl]; exact ht), hl]
  unfold rngW
  rw [List.getElem?_map, List.getElem?_range (by omega)]
  show some (W.int (j + 1 + (((i - j).toNat - 1 - t : Nat) : Int))) = _
  have : j + 1 + (((i - j).toNat - 1 - t : Nat) : Int) = i + (t : Nat) * (-1) := by omega
  rw [this]
section
variable {M : Mo} {r : Rg} {H : Hp}
theorem it_desc {i j : Int} (hl : (i - j).toNat ≤ 16777216) : ItOk M (Itc i (-1) (i - j).toNat) r H (rngW (j + 1) (i - j).toNat).reverse := by
  have hlen : (rngW (j + 1) (i - j).toNat).reverse.length = (i - j).toNat := by rw [List.length_reverse]; unfold rngW; rw [List.length_map, List.length_range]
  exact {
    len := by rw [hlen]; exact hl
    go := fun t r' H' e _ hi => by rw [hlen] at hi; exact hi
    yld := fun t r' H' h' x H'' e _ hs hi ⟨e1, e2⟩ => by
      subst e1 e2
      rw [hlen] at hi
      exact ⟨fun a o q => q, .int (i + (t : Nat) * (-1)), rngW_rev i j t hi, rfl⟩
    stop := fun r' H' e _ => by show _ ≤ _; rw [hlen]; exact Nat.le_refl _ }
end
/-- only the step -1 -/
def icR3 (L : LCode) : ICode := fun c s h x k => L c s h x fun us h => List.rec (motive := fun _ => Ans) .bad (fun u t _ => c2 t fun w v => cI u fun i => cI w fun j => cI v fun d => cB (eqI d (-1)) (cB (ltI j 1000000) (cB (ltI (-1000000) j) (cB (ltI i 1000000) (cB (ltI (-1000000) i) (rngC (Int.add j 1) (Int.toNat (Int.sub i j)) fun ws => revC ws [] fun ws => k ws h) .bad) .bad) .bad) .bad) .bad) us
section
variable {X : Cx} {M : Mo} {cl : Cl} {E : XK} {tg a b d : Expr} {L : LCode} {p pos : Pos}
theorem pic_r3 (hg : Gl X "range") (hm : X.mg "range" = none) (ha : PA X [a, b, d] (tAL M cl E L)) (hs : starEach [a, b, d] X.env = (false, eval a X.env) :: starEach [b, d] X.env := by rfl) (hpl : (backTo pos (starEach [b, d] X.env)).any (·.1) = false := by rfl) : PI X tg (.Call (.Name "range" p) [a, b, d] [] pos) (tI M cl E (icR3 L)) :=
  PI.imp (pi_range3 hg hm ha hs hpl) fun σ H R ⟨a, t, h, x, k, r, At0, eq, P⟩ => ⟨a, t, h, x, _, r, At0, eq, fun us h1 r1 vs H1 e1 q1 hs1 eq1 => by
    cases us with
    | nil => exact absurd (show Ans.bad = a from eq1).symm At0.good
    | cons u us =>
      obtain ⟨w, y, e2, eq2⟩ := c2_ok At0.good (show c2 us _ = a from eq1)
      subst e2
      obtain ⟨v, q, e3, q2, q3⟩ := (show ∃ v q, vs = v :: q ∧ RelW M.K M.g r1 H1 u v ∧ RelWs M.K M.g r1 H1 [w, y] q from q1)
      obtain ⟨v2, v3, e4, q4, q5⟩ := rel2 q3
      obtain ⟨i, e5, f1⟩ := cI_ok At0.good eq2
      obtain ⟨j, e6, f2⟩ := cI_ok At0.good f1
      obtain ⟨dd, e7, f3⟩ := cI_ok At0.good f2
      subst e4 e5 e6 e7
      rcases cB_ok f3 with ⟨b0, g0⟩ | ⟨_, bad⟩
      · rcases cB_ok g0 with ⟨b1, g1⟩ | ⟨_, bad⟩
        · rcases cB_ok g1 with ⟨b2, g2⟩ | ⟨_, bad⟩
          · rcases cB_ok g2 with ⟨b3, g3⟩ | ⟨_, bad⟩
            · rcases cB_ok g3 with ⟨b4, g4⟩ | ⟨_, bad⟩
              · rw [eqI_eq] at b0
                have b0 := of_decide_eq_true b0
                subst b0
                have h1' := rbound b1 b2
                have h2' := rbound b3 b4
                have g5 : revC (rngW (j + 1) (i - j).toNat) [] (fun ws => k ws h1) = a := (rngC_eq (j + 1) (i - j).toNat fun ws => revC ws [] fun ws => k ws h1).symm.trans g4
                rw [revC_eq, List.append_nil] at g5
                refine ⟨i, j, -1, (i - j).toNat, by rw [e3, show v = .int i from q2, show v2 = .int j from q4, show v3 = .int (-1) from q5], RgC.neg (by omega) (by omega) (by omega) (by omega), ?_⟩
                exact P _ h1 r1 H1 _ e1 hs1 (it_desc (by omega)) g5
              · exact absurd bad.symm At0.good
            · exact absurd bad.symm At0.good
          · exact absurd bad.symm At0.good
        · exact absurd bad.symm At0.good
      · exact absurd bad.symm At0.good⟩
end
end Eng
end
end

section
set_option maxRecDepth 100000
set_option maxHeartbeats 4000000
/-! Engine, part ZE: next of a generator expression, the hand layer's part. -/
noncomputable section
namespace GnX
open PySem PySem.Spec L2
open PyProof.Rows hiding St
open Sem (wp)

/-- the own scope of a generator expression: names of its own at the places vs, captured ones, globals -/
structure GenS (sc scope : Scope) (N : List Str) (vs : List Nat) : Prop where
  kind : scope.kind = .function
  co : scope.isCoroutine = false
  cell : ∀ y ∈ scope.names, y.2 ≠ .cell
  dot : scope.names.lookup (".0" : Str) = some NameKind.local
  free : ∀ y ∈ scope.names, y.2 = .free → sc.names.lookup y.1 = some .cell ∨ sc.names.lookup y.1 = some .free
  loc : ∀ (i : Nat) (y : Str), N[i]? = some y → scope.names.lookup y = some .local → i ∈ vs
theorem GenS.has {X : Cx} {scope : Scope} {N : List Str} {vs : List Nat} (L : GenS X.env.scope scope N vs) (ok : X.Ok) : ∀ y ∈ scope.names, y.2 = .free → ∃ c, X.env.cells.lookup y.1 = some c := fun y hy e => by
  rcases L.free y hy e with k | k
  · exact ok.has _ (.inl k)
  · exact ok.has _ (.inr k)
abbrev gEnv (X : Cx) (scope : Scope) (C : Addr) (code : Value) : Env := genEnv scope (cloFrom X.env.cells scope.names []) C code builtinsNs X.env
/-- the context of a generator expression's own code, made at s -/
def genCx (X : Cx) (A : Around) (s : Shared) (H : Hp) (scope : Scope) (code : Value) (fp : List Addr) : Cx where
  prog := X.prog
  w := X.w
  K := X.K
  mg := X.mg
  base := X.base
  A := A.deeper (gEnv X scope s.heap.objs.size code)
  N := X.N
  s_0 := s
  H_0 := H
  env := gEnv X scope s.heap.objs.size code
  outer := X.stack
  stack := gEnv X scope s.heap.objs.size code :: X.stack
  ex := fp
  fn := fun _ => false
  calm := true
  pn := []
  xe := fun _ _ => False
section
variable {X : Cx} {pins : List (Addr × Obj)} {σ : L2.St} {H : Hp} {s : Shared}
theorem gen_inv {A : Around} {scope : Scope} {code : Value} {fp : List Addr} {vs : List Nat} {h₁ : Heap} {g' : Array GenState} {tk : Nat} {itv : Value} (I : Inv X pins σ H s) (L : GenS X.env.scope scope X.N vs) (hA : A.handled = none) (hfr : A.frames = some X.stack)
    (hfp : ∀ b ∈ fp, FpOk X pins H b) (hfl : ∀ b ∈ fp, b < s.heap.objs.size) (hns : h₁.Ns s.heap.objs.size fun y => if y = ".0" then some itv else none) (kp : ∀ b o, s.heap.get? b = some o → h₁.get? b = some o) (hb : AllBare g') :
    Inv (genCx X A s H scope code fp) [] (wipe σ vs) H { s with heap := h₁, gens := g', toks := tk } := by
  have hfree := L.has I.ok
  have e0 := I.env0
  have cm : ∀ {y c}, (cloFrom X.env.cells scope.names []).lookup y = some c → X.env.cells.lookup y = some c := fun {y c} e => by
    rcases cloFrom_mem (PySem.mem_of_lookup e) with hm | ⟨h1, h2⟩
    · cases hm
    · obtain ⟨c1, hc⟩ := hfree _ h1 rfl
      have hc : X.env.cells.lookup y = some c1 := hc
      have e2 : c = c1 := by
        rw [h2, hc] <;> rfl
      rw [e2]
      exact hc
  have look : ∀ {y}, scope.names.lookup y = some .free → ∃ c, (cloFrom X.env.cells scope.names []).lookup y = some c := fun {y} hl => by
    have hy : (y, NameKind.free) ∈ scope.names := PySem.mem_of_lookup hl
    exact mem_lookup (cloFrom_has (cells := X.env.cells) (acc := []) hy)
  have clt : ∀ {y c}, X.env.cells.lookup y = some c → c < s.heap.objs.size := fun {y c} e => by
    obtain ⟨v, q⟩ := I.cell y c e
    exact q.lt
  have xex : ∀ b ∈ fp, ∀ o, X.base.get? b = some o → False := fun b hb o e => by
    rcases (hfp b hb).2.2.2.1 with z | z
    · exact I.ok.noex b o e z
    · exact absurd (Nat.lt_of_lt_of_le (Heap.lt_size e) (Nat.le_trans I.ok.bsz z)) (Nat.lt_irrefl _)
  refine ⟨⟨e0.mod, L.kind, I.ok.glob, rfl, Nat.le_refl _, fun y z c e1 e2 => I.ok.inj y z c (cm e1) (cm e2), fun y hy => ?_, fun y c z _ => ?_, fun _ => hA, Around.frames_deeper hfr, .inr ⟨rfl, rfl⟩, fun b hb => ⟨Nat.ne_of_lt (hfl b hb), fun y c e => (hfp b hb).2.2.2.2.1 y c (cm e)⟩, e0.bs, e0.bsz, fun b o e hb => xex b hb o e,
      fun b hb z => ?_, e0.funs, e0.frf⟩,
    rfl, hb, Un.kept kp, ⟨_, hns, fun i y v e1 e2 e3 => ?_⟩, fun y c e => ?_, e0.hok.fresh (Nat.le_refl _), fun y c e => ?_, fun q hq => absurd (show q ∈ ([] : List (Addr × Obj)) ++ [] from hq) (by simp), e0.hok.kept kp, by rw [wipe_length]; exact I.len⟩
  · have hy : scope.names.lookup y = some .cell ∨ scope.names.lookup y = some .free := hy
    rcases hy with hy | hy
    · exact absurd rfl (L.cell _ (PySem.mem_of_lookup hy))
    · exact look hy
  · have z : false = true := z
    cases z
  · rcases List.mem_cons.mp (I.stkSub b z) with y | y
    · exact (hfp b hb).2.1 y
    · exact (hfp b hb).2.2.1 y
  · have e3 : Vis scope y := e3
    obtain ⟨e4, e5⟩ := wipe_some e2
    rcases e3 with k | k | k
    · exact absurd (L.loc i y e1 k) e5
    · exact absurd rfl (L.cell _ (PySem.mem_of_lookup k))
    · obtain ⟨m, hn, hl⟩ := I.loc
      have hvis : Vis X.env.scope y := (L.free _ (PySem.mem_of_lookup k) rfl).elim (fun k => .inr (.inl k)) (fun k => .inr (.inr k))
      obtain ⟨w', r, q⟩ := hl i y v e1 e4 hvis
      obtain ⟨c2, h2⟩ := look k
      refine ⟨w', r, .inr ⟨.inr k, c2, h2, ?_⟩⟩
      have c1 := cm h2
      rcases q with ⟨k', _⟩ | ⟨_, c3, e', z⟩
      · have k' : X.env.scope.names.lookup y = some .local := k'
        rcases L.free _ (PySem.mem_of_lookup k) rfl with k2 | k2 <;> rw [show X.env.scope.names.lookup y = _ from k2] at k' <;> cases k'
      · rw [c1] at e'
        cases e'
        obtain ⟨o, ho, hd⟩ := z
        exact ⟨o, kp _ _ ho, hd⟩
  · obtain ⟨w', o, ho, hd⟩ := I.cell y c (cm e)
    exact ⟨w', o, kp _ _ ho, hd⟩
  · exact I.freeC y c (cm e)
end
end GnX
end
end

section
set_option maxRecDepth 100000
set_option maxHeartbeats 4000000
/-! Engine, part ZF: next of a generator expression: the run of its code. -/
noncomputable section
namespace GnX
open PySem PySem.Spec L2
open PyProof.Rows hiding St
open Sem (wp)
theorem over_loop0 {A : Around} {elt : Expr} {cs : List Comprehension} {scope : Scope} {pos : Pos} {it acc : Value} {env : Env} : A.over (.compLoop (.GeneratorExp elt cs scope pos) 0 it acc env) [] = A.deeper env := by
  first
    | rfl
    | (obtain ⟨hd, d, fr, gs, u⟩ := A; simp [Around.over, Around.deeper, marksOver, frameCount, unitsOf, envsOf, guardsOf, pushEnvs, pushGuards, Code.envs, Code.env?, Code.isFrame, Code.guards, Code.isGuard, Code.weight, Code.frames, Code.isCreation, Code.isCaller, Code.cUnits])
theorem over_start0 {A : Around} {elt : Expr} {cs : List Comprehension} {scope : Scope} {pos : Pos} {it acc : Value} {env : Env} : A.over (.compStart (.GeneratorExp elt cs scope pos) 0 it acc env) [] = A.deeper env := by
  first
    | rfl
    | (obtain ⟨hd, d, fr, gs, u⟩ := A; simp [Around.over, Around.deeper, marksOver, frameCount, unitsOf, envsOf, guardsOf, pushEnvs, pushGuards, Code.envs, Code.env?, Code.isFrame, Code.guards, Code.isGuard, Code.weight, Code.frames, Code.isCreation, Code.isCaller, Code.cUnits])

/-- what is wanted: at the first item, at the end -/
def YG (G : Cx) (Q : VK) : Protocol := fun _ _ v s _ => ∃ σ H x, Inv G [] σ H s ∧ RelV x v ∧ Q x H
def PG1 (G : Cx) (Q : VK) : Nat → Shared → Shared → Prop := fun _ _ s => ∃ σ H, Inv G [] σ H s ∧ Q .non H
abbrev RG (G : Cx) (Q : VK) : GenEnd := fun n s₀ r s₁ => r = .ok .next ∧ PG1 G Q n s₀ s₁
/-- the turns, from J's i-th on, m: how far it still goes -/
abbrev Walk1 (J : It) (g : TG) (tt : TT) (te : TE) (Q : VK) (W : Nat → Nat → St → Hp → Prop) : Prop :=
  ∀ i m σ H, W i m σ H → (J.stop i H ∧ Q .non H) ∨ (J.go i H ∧ ∃ N : St → Hp → Prop, (∀ σ' H', N σ' H' → ∃ m', m' < m ∧ W (i + 1) m' σ' H') ∧ ∀ x H', J.yld i H x H' → g x σ H' fun σ2 H2 => tt σ2 H2 fun b H3 => if b = true then te σ2 H3 Q else N σ2 H3)
section
variable {G : Cx} {A0 : Around} {elt target iter : Expr} {ifs : List Expr} {scope : Scope} {pos : Pos} {it : Addr} {J : It} {fp : List Addr} {tn : Nat → Heap → Prop} {g : TG} {tt : TT} {te : TE} {Q : VK} {W : Nat → Nat → St → Hp → Prop}
theorem seg_loop (hGA : G.A = A0.deeper G.env) (hcalm : G.calm = true) (hxe : G.xe = fun _ _ => False) (hco : G.env.scope.isCoroutine = false) (T : Turn G.prog G.w G.K target J fp it tn) (hg : PG G target g) (ht : PTs G ifs tt) (he : PE G elt te)
    (hst : ∀ {σ : St} {H : Hp} {s : Shared} {b : Addr}, b ∈ fp → Inv G [] σ H s → H b = none → FpOk G [] H b) (walk : Walk1 J g tt te Q W) :
    ∀ (m i : Nat) (s₀ s : Shared) (σ : St) (H : Hp), Inv G [] σ H s → tn i s.heap → (∀ b ∈ fp, H b = none) → W i m σ H →
      Seg (model G.prog G.w) A0 (RG G Q) (YG G Q) 1 s₀ (.compLoop (.GeneratorExp elt [⟨target, iter, ifs, 0⟩] scope pos) 0 (.ref it) .none G.env)
        ((model G.prog G.w).den (.compLoop (.GeneratorExp elt [⟨target, iter, ifs, 0⟩] scope pos) 0 (.ref it) .none G.env)) [] s := by
  intro m
  induction m using Nat.strongRecOn with
  | ind m ih =>
  intro i s₀ s σ H I st fr w
  have ov : A0.over (.compLoop (.GeneratorExp elt [⟨target, iter, ifs, 0⟩] scope pos) 0 (.ref it) .none G.env) [] = G.A := over_loop0.trans hGA.symm
  have up : ∀ {α : Type} {t : Sem α} {Q1 Q2 : α → Shared → Prop} {E : Value → Shared → Prop} {s : Shared}, wpAny (model G.prog G.w) G.A t Q1 G.xe s → (∀ a s', Q1 a s' → Q2 a s') → wpAny (model G.prog G.w) (A0.over (.compLoop (.GeneratorExp elt [⟨target, iter, ifs, 0⟩] scope pos) 0 (.ref it) .none G.env) []) t Q2 E s := fun h q => by
    rw [ov]
    exact wpAny_mono h q fun e s' z => by rw [hxe] at z; exact z.elim
  show Seg _ A0 _ _ _ s₀ _ ((compTurn (.GeneratorExp elt [⟨target, iter, ifs, 0⟩] scope pos) 0 (.ref it) .none G.env).onRaise (leaving G.env)) [] s
  rw [compTurn_gen, Sem.onRaise_eq_wrap]
  refine seg_bind_wrap (wpAny_standAt ?_)
  rcases walk i m σ H w with ⟨stop, q⟩ | ⟨go, N, hN, step⟩
  · refine seg_bind_wrap (up (T.done G rfl rfl rfl hcalm i [] s σ H G.xe I (fun b hb => hst hb I (fr b hb)) st stop) fun r s1 ⟨e, I1⟩ => ?_)
    subst e
    exact seg_end (.ok .next) ⟨rfl, σ, H, I1, q⟩
  · refine seg_bind_wrap (up (T.item G rfl rfl rfl hcalm i [] s σ H G.xe I (fun b hb => hst hb I (fr b hb)) st go) fun r s1 ⟨u, e, h1⟩ => ?_)
    subst e
    refine seg_bind_wrap (up h1 fun _ s2 ⟨x, H2, I2, r2, y2, st2, fr2⟩ => ?_)
    have I2' := I2.pinned (fun b hb => hst hb I2 (fr2 b hb)) (T.obj _ _ st2)
    refine seg_bind_wrap (up (hg.run _ s2 σ H2 x u _ I2' r2 (step x H2 y2)) fun _ s3 ⟨σ3, H3, I3, q3⟩ => ?_)
    refine seg_bind_wrap (up (ht.run _ s3 σ3 H3 _ I3 q3) fun ok s4 ⟨H4, I4, q4⟩ => ?_)
    cases ok with
    | false =>
      simp only [Bool.false_eq_true, if_false] at q4 ⊢
      obtain ⟨m', hm, w'⟩ := hN σ3 H4 q4
      have tn4 : tn (i + 1) s4.heap := T.keep _ _ _ st2 fun b hb o e => (I4.pin (b, o) (List.mem_append_right _ (List.mem_append_right _ (mem_pinsAt hb e)))).1
      refine seg_again rfl (ih m' hm (i + 1) s₀ s4 σ3 H4 I4.unpinned tn4 (fun b hb => ?_) w')
      obtain ⟨o, e, d⟩ := T.obj _ _ st2 b hb
      exact (I4.pin (b, o) (List.mem_append_right _ (List.mem_append_right _ (mem_pinsAt hb e)))).2.1
    | true =>
      simp only [if_true] at q4 ⊢
      have hy : ∀ v, yieldOut G.env v = yieldValue v := fun v => by simp only [yieldOut, hco, Bool.false_eq_true, if_false]
      simp only [hy]
      rw [Sem.bind_eq_wrap', Sem.bind_eq_wrap', Sem.wrap_wrap, Sem.wrap_wrap]
      refine seg_wrap (up (he.run _ s4 σ3 H4 _ I4 q4) fun v s5 ⟨y, H5, I5, r5, q5⟩ => ?_)
      exact seg_at (seg_yield rfl rfl rfl ⟨σ3, H5, y, I5.unpinned, r5, q5⟩)
theorem seg_start (hGA : G.A = A0.deeper G.env) (hcalm : G.calm = true) (hxe : G.xe = fun _ _ => False) (hco : G.env.scope.isCoroutine = false) (T : Turn G.prog G.w G.K target J fp it tn) (hg : PG G target g) (ht : PTs G ifs tt) (he : PE G elt te)
    (hst : ∀ {σ : St} {H : Hp} {s : Shared} {b : Addr}, b ∈ fp → Inv G [] σ H s → H b = none → FpOk G [] H b) (walk : Walk1 J g tt te Q W) {m : Nat} {s₀ s : Shared} {σ : St} {H : Hp} (I : Inv G [] σ H s) (st : tn 0 s.heap) (fr : ∀ b ∈ fp, H b = none) (w0 : W 0 m σ H) :
      Seg (model G.prog G.w) A0 (RG G Q) (YG G Q) 1 s₀ (.compStart (.GeneratorExp elt [⟨target, iter, ifs, 0⟩] scope pos) 0 (.ref it) .none G.env)
        ((model G.prog G.w).den (.compStart (.GeneratorExp elt [⟨target, iter, ifs, 0⟩] scope pos) 0 (.ref it) .none G.env)) [] s := by
  have loop := seg_loop (iter := iter) (scope := scope) (pos := pos) hGA hcalm hxe hco T hg ht he hst walk m 0 s₀ s σ H I st fr w0
  show Seg _ A0 _ _ _ s₀ _ ((compStart (.GeneratorExp elt [⟨target, iter, ifs, 0⟩] scope pos) 0 (.ref it) .none G.env).onRaise (leaving G.env)) [] s
  unfold compStart
  rw [Sem.onRaise_eq_wrap]
  show Seg _ A0 _ _ _ s₀ _ ((ask >>= _).wrap _ _ _ _) [] s
  refine seg_bind_wrap (wpAny_askSetting ?_)
  split
  · exact seg_again rfl loop
  · first
      | exact seg_bind_wrap (wpAny_rule (seg_bind_wrap (wpAny_standAt (seg_bind_wrap (T.self _ 0 s _ _ st (seg_again rfl loop))))))
      | (refine seg_bind_wrap (wpAny_rule ?_); show Seg _ A0 _ _ _ s₀ _ ((standAt iter.pos >>= _).wrap _ _ _ _) [] s; exact seg_bind_wrap (wpAny_standAt (seg_bind_wrap (T.self _ 0 s _ _ st (seg_again rfl loop)))))
end
end GnX
end
end

section
set_option maxRecDepth 100000
set_option maxHeartbeats 4000000
/-! Engine, part ZG: next(.. for .. in .. if .., None), the hand layer's rule. -/
noncomputable section
namespace GnX
open PySem PySem.Spec L2
open PyProof.Rows hiding St
open Sem (wp)
theorem allBare_set {s : Shared} {g : Nat} {x : GenState} (hb : AllBare s.gens) (hx : x.bare = true) : AllBare (s.setGen g x).gens := fun y hy => by
  obtain ⟨i, hi, rfl⟩ := Array.mem_iff_getElem.mp hy
  simp only [Shared.setGen] at hi ⊢
  by_cases e : g = i
  · subst e
    simp [hx]
  · have hi' : i < s.gens.size := by simpa using hi
    simp only [Array.getElem_setIfInBounds hi', if_neg e]
    exact hb _ (Array.getElem_mem hi')
/-- next(elt for target in iter if .., None); q: the name of its code -/
def tNextG (P : Addr) (q : Str) (vs : List Nat) (wi : TI) (g : TG) (tt : TT) (te : TE) : TE := fun σ H Q => wi σ H fun J H1 => LamX.TabS H1 P q ∧ ∀ H2, LamX.TabS H2 P q → (∀ b o, H1 b = some o → b ≠ P → H2 b = some o) → ∃ W : Nat → Nat → St → Hp → Prop, (∃ m, W 0 m (wipe σ vs) H2) ∧ Walk1 J g tt te Q W
section
variable {X : Cx} {pins : List (Addr × Obj)} {σ : L2.St} {H : Hp} {s : Shared}
/-- the generator g, just made in a state like s5, is asked once -/
theorem ask_gen {G : Cx} {A0 : Around} {elt target iter : Expr} {ifs : List Expr} {scope : Scope} {pos : Pos} {it : Addr} {a g : Nat} {J : It} {fp : List Addr} {tn : Nat → Heap → Prop} {gt : TG} {tt : TT} {te : TE} {Q : VK} {W : Nat → Nat → St → Hp → Prop} {m : Nat} {s5 : Shared} {H5 : Hp} {Q' : Option Value → Shared → Prop} {E : Value → Shared → Prop} {A : Around}
    (hA : A0 = A.in1) (hh : A.handled = none) (hroom : A.depth < recursionLimit) (hGA : G.A = A0.deeper G.env) (hcalm : G.calm = true) (hxe : G.xe = fun _ _ => False) (hco : G.env.scope.isCoroutine = false) (T : Turn G.prog G.w G.K target J fp it tn) (hg : PG G target gt) (ht : PTs G ifs tt) (he : PE G elt te)
    (hst : ∀ {σ : St} {H : Hp} {s : Shared} {b : Addr}, b ∈ fp → Inv G [] σ H s → H b = none → FpOk G [] H b) (walk : Walk1 J gt tt te Q W)
    (hgen : s5.heap.IsGen a g) (hgs : s5.gens[g]? = some (.fresh (.compStart (.GeneratorExp elt [⟨target, iter, ifs, 0⟩] scope pos) 0 (.ref it) .none G.env)))
    {σ' : St} (I : Inv G [] σ' H5 (s5.setGen g .running)) (st : tn 0 s5.heap) (fr : ∀ b ∈ fp, H5 b = none) (w0 : W 0 m σ' H5) (hl : s5.heap.NoLimit)
    (hY : ∀ v s1 gs' σ1 H1 x, gs'.bare = true → Inv G [] σ1 H1 s1 → RelV x v → Q x H1 → Q' (some v) (s1.setGen g gs'))
    (hP : ∀ s1 h' σ1 H1, Inv G [] σ1 H1 s1 → Q .non H1 → (∀ b o, s1.heap.get? b = some o → h'.get? b = some o) → Q' none { s1.setGen g .finished with heap := h' }) :
    wpAny (model G.prog G.w) A (pyNext (.ref a)) Q' E s5 := by
  subst hA
  refine wpAny_pyNext_genexpQ (n := 1) (P := PG1 G Q) (Y := YG G Q) hh hl hroom hgen hgs ⟨rfl, ?_⟩ (fun v s1 gs' hb hv => ?_) fun s1 hp h' hk => ?_
  · exact seg_start (s₀ := s5.setGen g .running) hGA hcalm hxe hco T hg ht he hst walk I st fr w0
  · obtain ⟨σ1, H1, x, I1, r1, q1⟩ := hv
    exact hY v s1 gs' σ1 H1 x hb I1 r1 q1
  · obtain ⟨σ1, H1, I1, q1⟩ := hp
    exact hP s1 h' σ1 H1 I1 q1 hk
end
end GnX
end
end

section
set_option maxRecDepth 100000
set_option maxHeartbeats 4000000
/-! Engine, part ZH: next(.. for .. in .. if .., None): the rule. -/
noncomputable section
namespace GnX
open PySem PySem.Spec L2
open PyProof.Rows hiding St
open Sem (wp)
section
variable {X : Cx} {pins : List (Addr × Obj)} {σ : L2.St} {H : Hp} {s : Shared}
theorem pe_nextG {c P : Addr} {elt target iter : Expr} {ifs : List Expr} {p pos gpos cpos : Pos} {j : Nat} {scope : Scope} {vs : List Nat} {wi : TI} {g : TG} {tt : TT} {te : TE} {k : Nat}
    (hr : Room (k + 1) X.A) (hg : Gl X "next") (hm : X.mg "next" = none) (TB : LamX.TabB X.base X.mg c P) (hcode : X.env.code = .ref c) (L : GenS X.env.scope scope X.N vs) (hi : PI X target iter wi)
    (hgt : ∀ A s H code fp, Room k (A.deeper (gEnv X scope s.heap.objs.size code)) → PG (genCx X A s H scope code fp) target g)
    (htt : ∀ A s H code fp, Room k (A.deeper (gEnv X scope s.heap.objs.size code)) → PTs (genCx X A s H scope code fp) ifs tt)
    (hte : ∀ A s H code fp, Room k (A.deeper (gEnv X scope s.heap.objs.size code)) → PE (genCx X A s H scope code fp) elt te)
    (hs : ∀ v, genFold iter X.env v = pure v)
    (he : starEach [.GeneratorExp elt [⟨target, iter, ifs, 0⟩] scope gpos, .Constant .none j cpos] X.env = (false, eval (.GeneratorExp elt [⟨target, iter, ifs, 0⟩] scope gpos) X.env) :: starEach [.Constant .none j cpos] X.env := by rfl) :
    PE X (.Call (.Name "next" p) [.GeneratorExp elt [⟨target, iter, ifs, 0⟩] scope gpos, .Constant .none j cpos] [] pos) (tNextG P (X.env.qual ++ "<genexpr>") vs wi g tt te) := by
  refine ⟨fun pins s σ H Q I h => ?_⟩
  refine wpAny_Call_Name_kw (ld_blt (u := .builtin "next") I hg hm (by first | rfl | decide +kernel) ?_)
  refine PyProof.Rows.callWith_builtin1 ?_ he (by rfl)
  rw [he]
  show wpAny _ _ (spliced ((false, eval (.GeneratorExp elt [⟨target, iter, ifs, 0⟩] scope gpos) X.env) :: [(false, eval (.Constant .none j cpos) X.env)])) _ _ s
  refine Calls.spliced_cons ?_
  refine wpAny_GeneratorExp_make L.co (closure_ok (L.has I.ok)) L.cell L.dot L.kind (by have := hr.dp; omega) ?_ hs
  refine thn (hi.run pins s σ H _ I h) fun xv s1 h1 => thn h1 fun itv s2 h2 => ?_
  obtain ⟨it, fp, tn, J, H2, e, I2, T, st2, f2, ⟨ps, hP, htr, hcs⟩, h3⟩ := h2
  subst e
  refine ⟨I2.nolimit, ?_⟩
  have hPs : s2.heap.get? P = some { cls := .none, data := .fields ps } := I2.hok P _ hP
  have hPlt : P < s2.heap.objs.size := Heap.lt_size hPs
  have cd : PySem.W.CodeHd s2.heap c P := TB.code.keeps fun b u e => I2.bk b u e
  have cont : ∀ (code : Value) (hh : Heap) (tk : Nat) (H4 : Hp), (∀ b o, b ≠ P → s2.heap.get? b = some o → hh.get? b = some o) → Inv X pins σ H4 { s2 with heap := hh, toks := tk } → LamX.TabS H4 P (X.env.qual ++ "<genexpr>") → (∀ b o, H2 b = some o → b ≠ P → H4 b = some o) → (∀ b ∈ fp, H4 b = none) →
      wpAny (model X.prog X.w) X.A (builtinsFor X.env.globals X.env.builtins) (fun bi s₄ =>
        ∀ h', h'.Ns s₄.heap.objs.size (fun y => if y = ".0" then some (.ref it) else none) → Heap.SameBut s₄.heap.objs.size (s₄.heap.push { cls := .type "frame", data := .dict #[] }) h' →
          wpAny (model X.prog X.w) X.A (spliced [(false, eval (.Constant .none j cpos) X.env)]) (fun vs' s' => wpAny (model X.prog X.w) X.A (call (.builtin "next") (.ref h'.objs.size :: vs')) (EP X pins σ Q) X.xe s') X.xe
            { s₄ with
              gens := s₄.gens.push (.fresh (.compStart (.GeneratorExp elt [⟨target, iter, ifs, 0⟩] scope gpos) 0 (.ref it) .none (genEnv scope (cloFrom X.env.cells scope.names []) s₄.heap.objs.size code bi X.env))),
              toks := s₄.toks + 1 + 1 + 1,
              heap := h'.push { cls := .type "generator", data := .fields #[.int s₄.gens.size 0, .str "<genexpr>" (s₄.toks + 1), .str (X.env.qual ++ "<genexpr>") (s₄.toks + 1 + 1)] } }) X.xe { s2 with heap := hh, toks := tk } := by
    intro code hh tk H4 keep3 I4 t4 k4 n4
    obtain ⟨bm, ob, e1, e2, e3, e4, e5, e6, e7, e8⟩ := TB.bm
    refine wpAny_builtinsFor (m := X.mg) (by rw [I4.ok.glob]; exact I4.mod.glob.keeps I4.bk) e1 e2 (I4.bk _ _ e5) e6 e7 e8 ?_
    obtain ⟨W, ⟨m, w0⟩, walk⟩ := h3 H4 t4 k4
    intro h' hn' hs'
    have fpP : ∀ b ∈ fp, b ≠ P := fun b hb z => by
      have := (f2 b hb).1
      rw [z, hP] at this
      cases this
    have f4 : ∀ b ∈ fp, FpOk X pins H4 b := fun b hb => ⟨n4 b hb, (f2 b hb).2⟩
    have hsz' : h'.objs.size = hh.objs.size + 1 := by rw [hs'.1, Heap.size_push]
    have keep' : ∀ b o, hh.get? b = some o → h'.get? b = some o := fun b o e => hs'.extBut b o (Nat.ne_of_lt (Heap.lt_size e)) (Heap.get?_push_of_some _ e)
    have st4 : tn 0 hh := T.keep _ _ _ st2 fun b hb o e => keep3 b o (fpP b hb) e
    have f4l : ∀ b ∈ fp, b < hh.objs.size := fun b hb => by
      obtain ⟨o, eo, _⟩ := T.obj _ _ st4 b hb
      exact Heap.lt_size eo
    refine Calls.spliced_cons (Constant_none (Calls.spliced_nil ?_))
    refine Calls.call_function_entry (by decide +kernel) (by decide +kernel) PySem.W.kdk_entry_next (PySem.W.kdk_args_next2 _ _) ?_
    unfold Builtin.«next»
    refine wpAny_bind (m := someArgs "next" 1 2 _) (wpAny_of_eq (a := [Value.ref h'.objs.size, Value.none]) (by first | rfl | kernel_rfl!) ?_)
    dsimp only
    generalize hgo : ({ cls := .type "generator", data := .fields #[.int s2.gens.size 0, .str "<genexpr>" (tk + 1), .str (X.env.qual ++ "<genexpr>") (tk + 1 + 1)] } : Obj) = go
    have keep5 : ∀ b o, hh.get? b = some o → (h'.push go).get? b = some o := fun b o e => Heap.get?_push_of_some _ (keep' b o e)
    have hgen : (h'.push go).IsGen h'.objs.size s2.gens.size := by
      rw [← hgo]
      exact ⟨_, _, _, Heap.get?_push_size _ rfl, rfl, rfl, rfl⟩
    have hAf : X.A.in1.in1.frames = some X.stack := I4.ok.frames
    have bare5 : AllBare (s2.gens.push (.fresh (.compStart (.GeneratorExp elt [⟨target, iter, ifs, 0⟩] scope gpos) 0 (.ref it) .none (genEnv scope (cloFrom X.env.cells scope.names []) hh.objs.size code builtinsNs X.env)))) := I2.bare.push rfl
    have rm : Room k ((X.A.in1.in1).deeper (gEnv X scope hh.objs.size code)) := ⟨hr.hd, by have := hr.dp; show X.A.depth + 1 + 3 * k + 5 < _; omega, by have := hr.un; show X.A.units + 1 + 1 + 3 + 16 * k + 200 < _; omega⟩
    refine wpAny_bind (wpAny_specialOf (name := Str.ofString "__next__") (Heap.IsGen.typeIs (s := { s2 with heap := _ }) hgen) slot_gen_next.lookup ?_)
    refine wpAny_ite_split (fun hab => absurd hab (by decide)) (fun _ => ?_)
    have J0 := gen_inv (vs := vs) (A := X.A.in1.in1) (scope := scope) (code := code) (fp := fp) (h₁ := h'.push go) (g' := s2.gens.push (.fresh (.compStart (.GeneratorExp elt [⟨target, iter, ifs, 0⟩] scope gpos) 0 (.ref it) .none (genEnv scope (cloFrom X.env.cells scope.names []) hh.objs.size code builtinsNs X.env)))) (tk := tk + 1 + 1 + 1) (itv := .ref it) I4 L hr.hd hAf f4 f4l (hn'.push _) keep5 bare5
    have fin : ∀ {σ1 : St} {H1 : Hp} {s1 s' : Shared}, Inv (genCx X X.A.in1.in1 { s2 with heap := hh, toks := tk } H4 scope code fp) [] σ1 H1 s1 → s'.os = s1.os → (∀ b o, s1.heap.get? b = some o → s'.heap.get? b = some o) → AllBare s'.gens → Inv X pins σ H1 s' := by
      intro σ1 H1 s1 s' I1 ho hk hb
      have un : Un (frs X.stack) fp H4 H1 hh s1.heap := I1.base
      refine I4.call' (ch := fp) (ho.trans I1.os) (un.trans (Un.kept hk)) (I1.hok.kept hk) hb fun b hb => ⟨(f4 b hb).2.2.2.1, (f4 b hb).2.1, (f4 b hb).2.2.2.2.1, (f4 b hb).2.2.2.2.2⟩
    refine wpAny_bind (ask_gen (G := genCx X X.A.in1.in1 { s2 with heap := hh, toks := tk } H4 scope code fp) (A0 := X.A.in1.in1) (A := X.A.in1) (g := s2.gens.size) (tn := tn) (fp := fp) (H5 := H4) (σ' := wipe σ vs) (Q := Q) (W := W) (m := m)
      rfl hr.hd (by have := hr.dp; show X.A.depth < _; omega) rfl rfl rfl L.co T (hgt _ _ _ _ _ rm) (htt _ _ _ _ _ rm) (hte _ _ _ _ _ rm) ?_ walk hgen (Array.getElem?_push_size ..) ?_ (T.keep _ _ _ st4 fun b hb o e => keep5 b o e) (fun b hb => (f4 b hb).1) w0 (I4.nolimit.keeps keep5) ?_ ?_)
    · intro σ1 H1 s1 b hb I1 hn
      refine ⟨hn, (I1.ok.exf b hb).1, I1.ok.exfs b hb, .inl hb, fun y c e => (I1.ok.exf b hb).2 y c e, fun q hq => absurd (show q ∈ ([] : List (Addr × Obj)) ++ [] from hq) (by simp)⟩
    · have := J0
      exact ⟨this.ok, this.os, allBare_set this.bare rfl, this.base, this.loc, this.cell, this.free, this.freeC, this.pin, this.hok, this.len⟩
    · intro v s1 gs' σ1 H1 x hb I1 r1 q1
      exact wpAny_pure ⟨_, rfl, x, H1, fin I1 rfl (fun _ _ e => e) (allBare_set I1.bare hb), r1, q1⟩
    · intro s1 h2 σ1 H1 I1 q1 hk
      exact wpAny_pure ⟨_, rfl, .non, H1, fin I1 rfl hk (allBare_set I1.bare rfl), rfl, q1⟩
  have fl : ∀ b ∈ fp, b < s2.heap.objs.size := fun b hb => by
    obtain ⟨o, eo, _⟩ := T.obj _ _ st2 b hb
    exact Heap.lt_size eo
  have fP : ∀ b ∈ fp, b ≠ P := fun b hb z => by
    have := (f2 b hb).1
    rw [z, hP] at this
    cases this
  cases hf : codeAmong gpos ps.toList with
  | none =>
    refine wpAny_genexprCodeX hcode (cd.code hPs htr) (cd.tab hPs) hf fun c' h' tk hx hge hlt hco' hrec htab' _ => ?_
    obtain ⟨c2, oc, us, t, e2, hoc, hd, hv⟩ := hrec
    cases e2
    have nC : H2 c' = none := I2.hok.fresh hge
    have nP : ∀ {b : Addr} {o : HO}, H2 b = some o → b ≠ c' := fun q => ne_of_none q nC
    have I4 := LamX.inv_table (t' := tk) (more := #[rawInt gpos.line, rawInt gpos.col, .ref c']) (h' := h') (c := c') (q := X.env.qual ++ "<genexpr>") I2 hP (fun b o hb e => hx b o hb e) htab'.2 hge ⟨oc, us, t, hoc, hd, hv⟩
    have k4 : ∀ b o, H2 b = some o → b ≠ P → upd (upd H2 P (.tbl (ps ++ #[rawInt gpos.line, rawInt gpos.col, .ref c']))) c' (LamX.CodeO c' (X.env.qual ++ "<genexpr>")) b = some o := fun b o e hb => by
      rw [upd_ne (nP e), upd_ne hb]
      exact e
    refine cont _ h' tk _ (fun b o hb e => hx b o hb e) I4 ⟨_, by rw [upd_ne (nP hP), upd_same], ?_, fun p' cv hcv => ?_⟩ k4 (fun b hb => ?_)
    · rw [show (ps ++ #[rawInt gpos.line, rawInt gpos.col, Value.ref c']).toList = ps.toList ++ [rawInt gpos.line, rawInt gpos.col, .ref c'] by simp]
      exact PySem.TriplesOk_snoc _ _ _ _ htr
    · rw [show (ps ++ #[rawInt gpos.line, rawInt gpos.col, Value.ref c']).toList = ps.toList ++ [rawInt gpos.line, rawInt gpos.col, .ref c'] by simp] at hcv
      rcases LamX.among_app _ htr hcv with z | z
      · obtain ⟨c0, q1, q2⟩ := hcs p' cv z
        exact ⟨c0, q1, k4 _ _ q2 fun y => by
          rw [y, hP] at q2
          have q3 := Option.some.inj q2
          unfold LamX.CodeO at q3
          cases q3⟩
      · exact ⟨c', z, upd_same⟩
    · rw [upd_ne (Nat.ne_of_lt (Nat.lt_of_lt_of_le (fl b hb) hge)), upd_ne (fP b hb)]
      exact (f2 b hb).1
  | some cv =>
    refine wpAny_genexprCode_hit hcode (cd.code hPs htr) hf ?_
    exact cont cv s2.heap s2.toks H2 (fun b o _ e => e) I2 ⟨ps, hP, htr, hcs⟩ (fun b o e _ => e) (fun b hb => (f2 b hb).1)
end
end GnX
end
end

section
set_option maxRecDepth 100000
set_option maxHeartbeats 4000000
/-! Engine, part ZI: next(.. for .. in .. if .., None). -/
noncomputable section
namespace Eng
open PySem PySem.Spec L2
open PyProof.Rows hiding St
/-- tables of code objects have grown -/
theorem tabs_ext {M : Mo} {r : Rg} {H H2 : Hp} {h : EH} (x : HSim M r H h) (e : LamX.ExtN H H2) (t : ∀ p ∈ M.tabs, LamX.TabS H2 p.1 p.2) : Ext r H r H2 ∧ HSim M r H2 h := by
  have e0 : Ext0 r H r H2 := ⟨⟨[], by simp⟩, fun a o q n hn => ⟨e a o q n, hn⟩⟩
  have kb : ∀ b ∈ r.b, H2 b = H b := fun b hb => by
    cases q : H b with
    | none => exact absurd q (x.dis b hb).1
    | some u => exact e b u q (x.ntb b u hb q).1
  refine ⟨⟨e0, ⟨[], by simp, by simp⟩, fun a o hm q => by rw [kb a hm]; exact q⟩, x.grown e0 (fun i b q => ?_) kb fun p hp => ⟨(x.tab p hp).1, t p hp⟩⟩
  obtain ⟨o, _, ok⟩ := x.obj i b q
  cases z : H b with
  | none => exact absurd z ok.tracked
  | some u => exact e b u z fun ps y => ok.nt ps (by rw [z, y])
theorem tabbed_ext {M : Mo} {r : Rg} {H H2 : Hp} {h : EH} {P : Addr} {q : Str} (x : HSim M r H h) (hu : ∀ p ∈ M.tabs, p.1 = P → p.2 = q) (hp : (P, q) ∈ M.tabs) (t : LamX.TabS H2 P q) (k : ∀ b o, H b = some o → b ≠ P → H2 b = some o) : Ext r H r H2 ∧ HSim M r H2 h := by
  obtain ⟨_, ps, eP, _⟩ := x.tab _ hp
  have ne : ∀ b o, H b = some o → NT o → b ≠ P := fun b o e n z => by
    rw [z] at e
    exact n ps (Option.some.inj (e.symm.trans eP))
  refine tabs_ext x (fun b o e n => k b o e (ne b o e n)) fun p hp' => ?_
  by_cases e : p.1 = P
  · rw [hu p hp' e, e]
    exact t
  · obtain ⟨_, qs, e1, e2, e3⟩ := x.tab p hp'
    refine ⟨qs, k _ _ e1 e, e2, fun pos cv hc => ?_⟩
    obtain ⟨c, e4, e5⟩ := e3 pos cv hc
    exact ⟨c, e4, k _ _ e5 (ne _ _ e5 codeO_nt)⟩
def nextC (body : W → EH → (EH → Ans) → Ans) (done : EH → Ans) (ws : List W) (h : EH) : Ans := List.rec (motive := fun _ => EH → Ans) done (fun w _ ih h => body w h ih) ws h
def cNextG (vs : List Nat) (IC : ICode) (G : GCode) (T : TCode) (A : Code) : Code := fun c s h x k => IC c s h x fun ws h => clrC vs s fun s0 =>
  nextC (fun w h nx => G w c s0 h xBad fun s2 h => T c s2 h xBad (fun h => A c s2 h xBad k) nx) (fun h => k .non h) ws h
theorem ssim_wipe {M : Mo} {r : Rg} {H : Hp} {t : S4} {σ σ' : St} {vs : List Nat} (x : SSim M r H (clrS t vs) (wipe σ vs)) (e : wipe σ' vs = wipe σ vs) : SSim M r H (clrS t vs) σ' := fun i n => by
  obtain ⟨h1, h2⟩ := get_clr n
  obtain ⟨v, a, b⟩ := x i n
  exact ⟨v, by rw [← e, wipe_out h1] at a; exact a, b⟩
section
variable {X : Cx} {M : Mo} {cl : Cl} {E : XK} {A : Code} {T : TCode} {IC : ICode} {G : GCode} {vs : List Nat} {P : Addr} {qn : Str}
theorem nextG_im (hp : (P, qn) ∈ M.tabs) (hu : ∀ p ∈ M.tabs, p.1 = P → p.2 = qn) {σ : St} {H : Hp} {Q : VK} (h : tE M cl E (cNextG vs IC G T A) σ H Q) : GnX.tNextG P qn vs (tI M cl E IC) (tGw M cl eNo G vs) (tT M cl eNo T) (tE M cl eNo A) σ H Q := by
  obtain ⟨a, t, hh, x, k, r, At0, eq, Po⟩ := h
  refine ⟨a, t, hh, x, _, r, At0, eq, fun ws h1 r1 H1 J e1 hs1 ok eq1 => ?_⟩
  refine ⟨(hs1.tab _ hp).2, fun H2 tb kb => ?_⟩
  obtain ⟨e2, hs2⟩ := tabbed_ext hs1 hu hp tb kb
  have eq2 := clrC_ok At0.good eq1
  have SS : SSim M r1 H2 (clrS t vs) (wipe σ vs) := ((At0.ss.ext e1).ext e2).clr
  have P1 : Post M r1 H2 a k Q := (Po.ext e1).ext e2
  refine ⟨fun i m σ' H' => i ≤ ws.length ∧ m = ws.length - i ∧ wipe σ' vs = wipe σ vs ∧ ∃ R h', Ext r1 H2 R H' ∧ HSim M R H' h' ∧
    nextC (fun w h nx => G w cl (clrS t vs) h xBad fun s2 h => T cl s2 h xBad (fun h => A cl s2 h xBad k) nx) (fun h => k .non h) (ws.drop i) h' = a, ?_, ?_⟩
  · exact ⟨ws.length, Nat.zero_le _, rfl, wipe_wipe fun _ z => z, r1, h1, Ext.refl, hs2, by rw [List.drop_zero]; exact eq2⟩
  · intro i m σ' H' ⟨hi, hm, hw, R, h', ex, hs, eq3⟩
    have e01 := e2.trans ex
    have fk : FrzK H1 H' := e01.frzK hs1
    by_cases hlt : i < ws.length
    · rw [List.drop_eq_getElem_cons hlt] at eq3
      refine .inr ⟨ok.go i R H' e01.toExt0 fk hlt, fun σ'' H'' => i + 1 ≤ ws.length ∧ wipe σ'' vs = wipe σ vs ∧ ∃ R h', Ext r1 H2 R H'' ∧ HSim M R H'' h' ∧
        nextC (fun w h nx => G w cl (clrS t vs) h xBad fun s2 h => T cl s2 h xBad (fun h => A cl s2 h xBad k) nx) (fun h => k .non h) (ws.drop (i + 1)) h' = a, ?_, ?_⟩
      · intro σ'' H'' ⟨z1, z2, z3⟩
        exact ⟨ws.length - (i + 1), by omega, z1, rfl, z2, z3⟩
      · intro y H'' hy
        obtain ⟨g1, w, g2, g3⟩ := ok.yld i R H' h' y H'' e01.toExt0 fk hs hlt hy
        rw [List.getElem?_eq_getElem hlt] at g2
        cases g2
        have e3 : Ext R H' R H'' := Ext.grow g1
        have ex2 := ex.trans e3
        refine ⟨a, ws[i], clrS t vs, h', xBad, _, R, ⟨At0.good, ssim_wipe (SS.ext ex2) hw, hs.grow g1, px_bad At0.good⟩, g3, eq3, fun t3 h3 r3 σ3 H3 e4 ss3 w3 l3 hs3 eq4 => ?_⟩
        refine ⟨a, t3, h3, xBad, _, _, r3, ⟨At0.good, ss3, hs3, px_bad At0.good⟩, eq4, fun h4 r4 H4 e5 hs4 eq5 => itT ?_, fun h4 r4 H4 e5 hs4 eq5 => itF ?_⟩
        · exact ⟨a, t3, h4, xBad, _, r4, ⟨At0.good, ss3.ext e5, hs4, px_bad At0.good⟩, eq5, P1.ext ((ex2.trans e4).trans e5)⟩
        · exact ⟨hlt, w3.trans hw, r4, h4, (ex2.trans e4).trans e5, hs4, eq5⟩
    · have hi' : i = ws.length := by omega
      subst hi'
      rw [List.drop_length] at eq3
      exact .inl ⟨ok.stop R H' e01.toExt0 fk, P1 .non h' R .non H' ex rfl hs eq3⟩
theorem pec_nextG {c : Addr} {elt target iter : Expr} {ifs : List Expr} {p pos gpos cpos : Pos} {j : Nat} {scope : Scope} {k : Nat}
    (hp : (P, X.env.qual ++ "<genexpr>") ∈ M.tabs) (hu : ∀ p ∈ M.tabs, p.1 = P → p.2 = X.env.qual ++ "<genexpr>") (hr : Room (k + 1) X.A) (hg : Gl X "next") (hm : X.mg "next" = none) (TB : LamX.TabB X.base X.mg c P) (hcode : X.env.code = .ref c) (L : GnX.GenS X.env.scope scope X.N vs) (hi : PI X target iter (tI M cl E IC))
    (hgt : ∀ Ar s H code fp, Room k (Ar.deeper (GnX.gEnv X scope s.heap.objs.size code)) → PG (GnX.genCx X Ar s H scope code fp) target (tGw M cl eNo G vs))
    (htt : ∀ Ar s H code fp, Room k (Ar.deeper (GnX.gEnv X scope s.heap.objs.size code)) → PTs (GnX.genCx X Ar s H scope code fp) ifs (tT M cl eNo T))
    (hte : ∀ Ar s H code fp, Room k (Ar.deeper (GnX.gEnv X scope s.heap.objs.size code)) → PE (GnX.genCx X Ar s H scope code fp) elt (tE M cl eNo A))
    (hs : ∀ v, genFold iter X.env v = pure v := by intro _; rfl)
    (he : starEach [.GeneratorExp elt [⟨target, iter, ifs, 0⟩] scope gpos, .Constant .none j cpos] X.env = (false, eval (.GeneratorExp elt [⟨target, iter, ifs, 0⟩] scope gpos) X.env) :: starEach [.Constant .none j cpos] X.env := by rfl) :
    PE X (.Call (.Name "next" p) [.GeneratorExp elt [⟨target, iter, ifs, 0⟩] scope gpos, .Constant .none j cpos] [] pos) (tE M cl E (cNextG vs IC G T A)) :=
  PE.imp (GnX.pe_nextG hr hg hm TB hcode L hi hgt htt hte hs he) fun _ _ _ h => nextG_im hp hu h
/-- in a generator expression's own code -/
theorem noPassG {Ar : Around} {s : Shared} {H : Hp} {scope : Scope} {code : Value} {fp : List Addr} : Passes (L2.CX X.prog X.w) (GnX.genCx X Ar s H scope code fp) eNo := fun pins σ H s e s' I c => by
  obtain ⟨_, _, _, _, _, _, _, _, _, _, _, _, z⟩ := c
  exact z.elim
theorem goodG {Ar : Around} {s : Shared} {H : Hp} {scope : Scope} {code : Value} {fp : List Addr} {k : Nat} (f : Good X M) (hr : Room k (Ar.deeper (GnX.gEnv X scope s.heap.objs.size code))) : Good (GnX.genCx X Ar s H scope code fp) M := ⟨⟨f.P, f.w, f.K⟩, rfl, by have := hr.un; show (Ar.deeper (GnX.gEnv X scope s.heap.objs.size code)).units + 72 < cLine; omega⟩
end
end Eng
end
end

section
set_option maxRecDepth 100000
set_option maxHeartbeats 4000000
/-! Engine, part ZJ: an own exception whose __init__ says super().__init__(text), then self.f = x: its making, over the heap. -/
noncomputable section
namespace SupX
open PySem PySem.Spec PySem.W PySem.Calls PyProof.Rows
/-- what is known of such a class -/
structure SupC (prog : Program) (K : PySem.W.Frag) (B newId initId : String) (bmB : List Value) (C f : Addr) (name qual x0 x1 fld msg : Str) (j : Nat) (scope : Scope) (params : Arguments) (p : Nat → Pos) : Prop where
  kc : excInitIn K C bmB newId = true
  ov : excOver K C bmB = true
  cd : ∃ cd, clsIn K C = some cd ∧ cd.hasDict = true ∧ alongIn K "__init__" ((cd.mro.dropWhile (· != .ref C)).drop 1) = some (some (.builtin initId))
  self : mroIn K C (.ref C) = some true
  sub : subIn K (.ref C) (.type B) = some true
  ini : findIn K (.ref C) "__init__" = some (some (.ref f))
  sa : findIn K (.ref C) "__setattr__" = some (some (.builtin "object.__setattr__"))
  tk : takerIn K C fld = some none
  op : nsIn K cStatics "thirdparty.any" = some none
  fn : ∃ oc od osl doc pm an cda ct cc, K.lookup f = some ⟨oc, od, .func (ksFn name qual params [.Expr (.Call (.Attribute (.Call (.Name "super" (p 0)) [] [] (p 1)) "__init__" (p 2)) [.Constant (.str msg) j (p 3)] [] (p 4)) (p 5), .Assign [.Attribute (.Name x0 (p 6)) fld (p 7)] (.Name x1 (p 8)) (p 9)] scope .none .none doc pm an (.ref cda) ct cc), osl⟩ ∧ oc = .type "function" ∧
    codeIn K (.ref cda) qual = true ∧ (∃ ccl cdd vs ccs file tf, K.lookup cda = some ⟨ccl, cdd, .fields vs, ccs⟩ ∧ vs[2]? = some (.str file tf) ∧ ((prog.main.file : Str) == file) = true) ∧ ∃ cl cld csl, K.lookup cc = some ⟨cl, cld, .cell (some (.ref C)), csl⟩
  kind : scope.kind = .function
  co : scope.isCoroutine = false
  gen : scope.isGenerator = false
  cell : ∀ y ∈ scope.names, y.2 ≠ .cell
  n0 : scope.names.lookup x0 = some .local
  n1 : scope.names.lookup x1 = some .local
  ne : x1 ≠ x0
  ks : scope.names.lookup ("super" : Str) = some .globalImplicit
  kcl : scope.names.lookup ("__class__" : Str) = some .free
  d0 : (x0 == ("__debug__" : Str)) = false
  d1 : (x1 == ("__debug__" : Str)) = false
  top : (prog.main.scope.names.lookup ("super" : Str)).isSome = false
  pa : ∃ ar, (params.posonlyargs ++ params.args).head? = some ar ∧ ar.arg = x0
  mc : ∀ env : Env, ∃ pl : Sem Bool, eval (.Call (.Attribute (.Call (.Name "super" (p 0)) [] [] (p 1)) "__init__" (p 2)) [.Constant (.str msg) j (p 3)] [] (p 4)) env = (do
    let ov ← attributeBase (.Call (.Name "super" (p 0)) [] [] (p 1)) "__init__" env (eval (.Call (.Name "super" (p 0)) [] [] (p 1)) env)
    standAt (p 2).atName
    let (f, first) ← holding [ov] (getMethod ov "__init__" pl)
    callWith (p 4) f first (backTo (p 4) (starEach [.Constant (.str msg) j (p 3)] env)) [])
  bind : ∀ (name qual : Str) (body : List Stmt) (scope : Scope) (doc pm : Value) (an : Option Addr) (cdv ct : Value) (cc : Addr) (u v : Value), bindArgs (ksFn name qual params body scope .none .none doc pm an cdv ct cc) ⟨[u, v], []⟩ = pure [(x0, u), (x1, v)]
section
variable {prog : Program} {w : World} {A : Around} {E : Value → Shared → Prop} {K : PySem.W.Frag} {B newId initId : String} {bmB : List Value} {C f : Addr} {name qual x0 x1 fld msg : Str} {j : Nat} {scope : Scope} {params : Arguments} {p : Nat → Pos}
/-- self.f = v on the new exception -/
theorem sup_store (SF : StoreFacts B bmB "object.__setattr__" "object") (S : SupC prog K B newId initId bmB C f name qual x0 x1 fld msg j scope params p) {hp : Heap} {g : Array GenState} {d : Drawn} {t : Nat} {os : OsState} {x t1 : Addr} {v : Value} {Q : Unit → Shared → Prop}
    (X : K.In hp) (hx : hp.get? x = some (HandSPX.excO C t1))
    (hq : ∀ h' tk' dx, (∀ b o, b ≠ x → hp.get? b = some o → h'.get? b = some o) → hp.objs.size ≤ dx → dx ≠ x → h'.get? x = some { cls := .ref C, dict := some dx, data := .fields #[.ref t1, .none, .none, .none, .bool false, .none] } →
      h'.Ns1 dx (fun y => if y = fld then some v else none) → Q () ⟨h', g, d, tk', os⟩) : wpAny (model prog w) A (setAttr (.ref x) fld v) Q E ⟨hp, g, d, t, os⟩ := by
  have I : InstAt hp x (HandSPX.excO C t1) C none := ⟨hx, rfl, rfl, trivial⟩
  have hxs : x ≠ hp.objs.size := Nat.ne_of_lt (Heap.lt_size hx)
  obtain ⟨cd, hcd, hh, _⟩ := S.cd
  refine set_plain X I S.sa ?_
  refine osa_openX SF (s := ⟨hp, g, d, t + 1, os⟩) X I S.ov S.tk fun b => ?_
  have hcls : Looks (model prog w) hp (classData C) cd := looks_clsIn X hcd
  obtain ⟨nm, bs, mro, ns, qn, hd, sn, sb, ab, col, del⟩ := cd
  dsimp only at hh
  subst hh
  show wpAny _ _ (Builtin.ObjectAttr.storeInOwnDict (.ref x) (.ref C) (.str fld t) fld v b) _ _ _
  unfold Builtin.ObjectAttr.storeInOwnDict Builtin.ObjectAttr.ownDictForStores
  repeat (first | with_reducible refine HandSPX.store_in_new ?_ ?_ | with_reducible refine wpAny_loadPart_at hx ?_ | with_reducible refine hcls.at ?_ | wp_step)
  · exact ⟨_, #[], _, (Heap.get?_update_ne _ _ _ _ hxs.symm).trans (Heap.get?_push_at rfl rfl), rfl, fun e he => absurd he (by simp), fun _ => rfl⟩
  · intro h' tk' hn' hs
    have hx₁ : (hp.push { cls := .type "dict", data := .dict #[] }).get? x = some (HandSPX.excO C t1) := Heap.get?_push_of_some _ hx
    refine hq h' tk' hp.objs.size (fun b o hb ho => ?_) (Nat.le_refl _) hxs.symm ?_ hn'
    · exact (hs.2 b (Nat.ne_of_lt (Heap.lt_size ho))).trans ((Heap.get?_update_ne _ _ _ _ hb).trans (Heap.get?_push_of_some _ ho))
    · exact (hs.2 x hxs).trans (Heap.get?_update_self _ hx₁ rfl)
end
end SupX
end
end

section
set_option maxRecDepth 100000
set_option maxHeartbeats 4000000
/-! Engine, part ZK: such an exception's __init__, run. -/
noncomputable section
namespace SupX
open PySem PySem.Spec PySem.W PySem.Calls PyProof.Rows
section
variable {prog : Program} {w : World} {A : Around} {E : Value → Shared → Prop} {K : PySem.W.Frag} {B newId initId : String} {bmB : List Value} {C f : Addr} {name qual x0 x1 fld msg : Str} {j : Nat} {scope : Scope} {params : Arguments} {p : Nat → Pos}
/-- the bound __init__ of the built-in base, called -/
theorem mw_call (FB : ExcBaseFacts B newId initId bmB) (S : SupC prog K B newId initId bmB C f name qual x0 x1 fld msg j scope params p) {h : Heap} {g : Array GenState} {d : Drawn} {t : Nat} {os : OsState} {u x t0 : Addr} {rest : List Value} {Q : Value → Shared → Prop}
    (X : K.In h) (hu : h.get? u = some (kxs_mw initId x)) (he : h.get? x = some (HandSPX.excO C t0)) (hz : rest.length ≤ sizeLine)
    (fin : ∀ h', (∀ b o, b ≠ x → h.get? b = some o → h'.get? b = some o) → h'.get? x = some (HandSPX.excO C h.objs.size) → Q .none ⟨h', g, d, t, os⟩) :
    wpAny (model prog w) A (call (.ref u) rest) Q E ⟨h, g, d, t, os⟩ := by
  obtain ⟨nm, N', qn, bs, bm, hdct, sn, sub, ab, col, dd, k0, k1, k2, k3, k5, hC, hT⟩ := excInit_of X S.kc
  refine wpAny_call (codeAny_of_tree ?_)
  show wpAny _ A.in1 (callAny (.ref u) ⟨rest, []⟩) _ _ _
  simp only [callAny]
  refine wpAny_bind (wpAny_load hu ?_)
  simp only [kxs_mw, show (Value.type "method-wrapper" == Value.type "method" || Value.type "method-wrapper" == Value.type "builtin_function_or_method" || Value.type "method-wrapper" == Value.type "method-wrapper") = true by decide, if_true]
  refine KFB.if_so (by decide) ?_
  refine wpAny_bind (check_bound_init FB.toExcCallFacts hC he rfl ?_)
  refine wpAny_bind (wpAny_pure (wpAny_pure ?_))
  refine ⟨plainId_quiet FB.init.plain _, codeAny_builtin FB.initEntry ?_⟩
  exact exc_init_tree (cls := .ref C) (t0 := t0) (dv := none) (c2 := .none) (c3 := .none) (b4 := .bool false) he hz fun h' k e' _ => fin h' k e'
theorem sup_init (SF : StoreFacts B bmB "object.__setattr__" "object") (FB : ExcBaseFacts B newId initId bmB) (KF : KxsFacts B initId) (S : SupC prog K B newId initId bmB C f name qual x0 x1 fld msg j scope params p)
    {s : Shared} {x t0 : Addr} {v : Value} {R : Result → Shared → Prop} {mg mb : Str → Option Value} (X : K.In s.heap) (lim : s.heap.NoLimit) (hg : s.heap.Ns mainGlobals mg) (hsg : mg "super" = none) (hb : s.heap.Ns builtinsNs mb) (hsb : mb "super" = some (.type "super")) (hroom : A.depth < recursionLimit)
    (hx : s.heap.get? x = some (HandSPX.excO C t0)) (nK : K.lookup x = none)
    (hR : ∀ h' tk' dx t1, (∀ b o, b ≠ x → s.heap.get? b = some o → h'.get? b = some o) → s.heap.objs.size ≤ dx → dx ≠ x → h'.get? x = some { cls := .ref C, dict := some dx, data := .fields #[.ref t1, .none, .none, .none, .bool false, .none] } →
      h'.Ns1 dx (fun y => if y = fld then some v else none) → R (.ok (.ret .none)) { s with heap := h', toks := tk' }) :
    codeAny (model prog w) A (.call (.ref f) ⟨[.ref x, v], []⟩) R s := by
  obtain ⟨oc, od, osl, doc, pm, an, cda, ct, cc, lk, hoc, hcd, ⟨ccl, cdd, vs, ccs, file, tf, lcd, hvs, hfile⟩, cl, cld, csl, lcc⟩ := S.fn
  subst hoc
  have xC : x ≠ C := fun z => by
    obtain ⟨cd, hcd, _⟩ := S.cd
    exact ks_ne (ox := HandSPX.excO C t0) (odx := none) X ⟨hx, rfl, rfl, trivial⟩ hcd z
  refine ks_codeAny_call_defAt (fd := ksFn name qual params [.Expr (.Call (.Attribute (.Call (.Name "super" (p 0)) [] [] (p 1)) "__init__" (p 2)) [.Constant (.str msg) j (p 3)] [] (p 4)) (p 5), .Assign [.Attribute (.Name x0 (p 6)) fld (p 7)] (.Name x1 (p 8)) (p 9)] scope .none .none doc pm an (.ref cda) ct cc)
    (binds := [(x0, .ref x), (x1, v)]) hroom (X _ _ lk) rfl lim (codeRec_of X hcd) rfl (BindsTo.of_eq (S.bind _ _ _ _ _ _ _ _ _ _ _ _)) S.cell (fun y hy => ?_) (fun h₁ hns hk => ?_) S.co S.gen S.kind
  · rcases List.mem_cons.mp hy with rfl | hy
    · exact S.n0
    · rcases List.mem_cons.mp hy with rfl | hy
      · exact S.n1
      · cases hy
  have hns0 : h₁.Ns s.heap.objs.size (fun y => ([(x0, Value.ref x), (x1, v)] : List (Str × Value)).reverse.lookup y) := hns
  have m0 : (([(x0, Value.ref x), (x1, v)] : List (Str × Value)).reverse.lookup x0) = some (.ref x) := by
    have e1 : (x0 == x1) = false := by simpa using Ne.symm S.ne
    simp [List.lookup, e1]
  have m1 : (([(x0, Value.ref x), (x1, v)] : List (Str × Value)).reverse.lookup x1) = some v := by simp [List.lookup]
  have X1 : K.In h₁ := X.keeps hk
  obtain ⟨cd, hcdd, hdd, hal⟩ := S.cd
  obtain ⟨oD, hD1, hD2⟩ : ∃ oD, h₁.get? C = some oD ∧ oD.data = .cls cd := by
    have hD := hcdd
    unfold clsIn at hD
    split at hD
    · rename_i c d cd' sl ho
      cases hD
      exact ⟨_, X1 _ _ ho, rfl⟩
    · cases hD
  have hx1 := hk _ _ hx
  obtain ⟨hh, gg, dd, tt, os⟩ := s
  have hint : interactive (ksEnv qual scope hh.objs.size f (.ref cda) cc) = false := by
    show (scope.kind == .module && _) = false
    rw [S.kind]
    rfl
  refine ks_wpAt_execs_cons ?_
  obtain ⟨pl, epl⟩ := S.mc (ksEnv qual scope hh.objs.size f (.ref cda) cc)
  refine ks_wpAt_Expr_any (ks_wpAt_MethodCall (pl := pl) ?_ epl) (hi := hint)
  refine ks_wpAt_super_base S.ks S.kcl (by decide) rfl (X1 _ _ lk) rfl S.pa.choose_spec.1 rfl (X1 _ _ lcd) rfl hvs hfile S.top ?_
  refine ks_loadName_global S.kind S.ks (loadGlobal_builtin (env := ksEnv qual scope hh.objs.size f (.ref cda) cc) (hg.keeps hk) hsg (hb.keeps hk) hsb ⟨rfl, ?_⟩)
  refine wpAny_loadName_free S.kind S.kcl rfl ⟨_, X1 _ _ lcc, rfl⟩ ?_
  rw [S.pa.choose_spec.2]
  refine wpAny_loadName_local S.kind S.n0 hns0 m0 ?_
  refine ks_wpAny_isType_cls hD1 hD2 ⟨rfl, ?_⟩
  refine ks_wpAny_call_super hD1 hD2 hx1 rfl (fun c e => nomatch e) (looks_mroIn X1 S.self) (fun h2 e2 k2 => ?_)
  have X2 : K.In h2 := X1.keeps k2
  have I2 : InstAt h2 x (HandSPX.excO C t0) C none := ⟨k2 _ _ hx1, rfl, rfl, trivial⟩
  have hI : Looks (model prog w) h2 (isInstance (.ref x) (.type B)) true := I2.type.andThen (looks_subIn X2 S.sub)
  refine kxs_getMethod KF e2 (looks_opaque X2 S.op) (l₀ := cd.mro) (fun A Q E s k q => wpAny_bind ((looks_clsIn X2 hcdd) A _ E s k (wpAny_pure q))) rfl X2 hal hI xC (by decide) ?_
  have k3 : ∀ b o, h2.get? b = some o → (h2.push (kxs_mw initId x)).get? b = some o := fun b o e => Heap.get?_push_of_some _ e
  have hu3 : (h2.push (kxs_mw initId x)).get? h2.objs.size = some (kxs_mw initId x) := Heap.get?_push_at rfl rfl
  refine kxs_callWith (i := initId) (x := x) rfl (evalArgs_plain (Calls.spliced_cons (Calls.Constant_str (k := j) (pos := p 3) (Calls.spliced_nil ⟨hu3, ?_⟩))))
  have X3 : K.In (h2.push (kxs_mw initId x)) := X2.keeps k3
  refine mw_call FB S X3 hu3 (k3 _ _ (k2 _ _ hx1)) (by show 1 ≤ sizeLine; rw [sizeLine_eq]; omega) fun h4 k4 e4 => ?_
  have X4 : K.In h4 := fun b o e => k4 b o (fun z => by rw [z, nK] at e; cases e) (X3 _ _ e)
  have kk : ∀ b o, b ≠ x → h₁.get? b = some o → h4.get? b = some o := fun b o hb e => k4 b o hb (k3 _ _ (k2 _ _ e))
  have hL : hh.objs.size ≠ x := Nat.ne_of_gt (Heap.lt_size hx)
  have hns4 : h4.Ns hh.objs.size (fun y => ([(x0, Value.ref x), (x1, v)] : List (Str × Value)).reverse.lookup y) := hns0.at' fun o e => kk _ o hL e
  refine ks_wpAt_execs_cons ?_
  refine ks_wpAt_Assign_Attr ?_
  refine wpAt_of_wpAny ?_
  refine wpAny_Name (wpAny_loadName_local S.kind S.n1 hns4 m1 ?_) S.d1
  refine wpAny_Name (wpAny_loadName_local S.kind S.n0 hns4 m0 ?_) S.d0
  refine sup_store SF S X4 e4 fun h5 tk5 dx k5 hdx hdne e5 n5 => ?_
  refine wpAt_of_wpAny (wpAny_execs_nil ?_)
  have hsz : hh.objs.size ≤ dx := by
    have : hh.objs.size < h4.objs.size := hns4.lt
    omega
  exact hR h5 _ dx _ (fun b o hb e => k5 b o hb (kk b o hb (hk b o e))) hsz hdne e5 n5
end
end SupX
end
end

section
set_option maxRecDepth 100000
set_option maxHeartbeats 4000000
/-! Engine, part ZL: raise C(e) of such an exception. -/
noncomputable section
namespace SupX
open PySem PySem.Spec L2
open PyProof.Rows hiding St
section
variable {X : Cx} {B newId initId : String} {bmB : List Value} {C f : Addr} {name qual x0 x1 fld msg : Str} {j : Nat} {scope : Scope} {params : Arguments} {p : Nat → Pos}
theorem pmk_sup {x : Str} {p1 pos : Pos} {e : Expr} {te : TE} (SF : StoreFacts B bmB "object.__setattr__" "object") (FB : ExcBaseFacts B newId initId bmB) (KF : PySem.W.KxsFacts B initId) (S : SupC X.prog X.K B newId initId bmB C f name qual x0 x1 fld msg j scope params p)
    (hsg : X.mg "super" = none) (gC : X.mg x = some (.ref C)) (kC : PySem.W.keepIn X.K (.ref C) = true) (tI : PySem.W.typeIn X.K (.ref f) = some (.type "function")) (r : Raises X (.ref C)) (hg : Gl X x) {k : Nat} (hr : Room (k + 1) X.A) (he : PE X e te) (hs : starEach [e] X.env = (false, eval e X.env) :: starEach [] X.env := by rfl) (hdb : (x == ("__debug__" : Str)) = false := by decide) :
    PMk X (.Call (.Name x p1) [e] [] pos) (fun σ H Q => te σ H fun y H1 => ∀ d, H1 d = none → Q (.ref C) (some d) (upd H1 d (.xd [(fld, y)]))) := by
  intro pins s σ H Q I h
  refine wpAny_Call_Name_kw (ld_glob I hg gC ?_ hdb)
  have ha : PA X [e] (tCons te tNil) := pa_cons he pa_nil hs
  refine PySem.W.callWith_K (h₀ := X.base) I.ok.mod.kin kC (thn (ha.run pos pins s σ H (fun vs H1 => match vs with
    | [y] => ∀ d, H1 d = none → Q (.ref C) (some d) (upd H1 d (.xd [(fld, y)]))
    | _ => False) I h) fun us s1 hh => ?_) hs (by rfl)
  obtain ⟨vs, H1, I1, r1, q⟩ := hh
  refine ⟨I1.kIn, ?_⟩
  match vs, q with
  | [y], q =>
   cases r1 with
   | cons ru rn =>
    rename_i u us'
    cases rn
    show wpAny _ _ (call (.ref C) [u]) _ _ _
    obtain ⟨nm, N', qn, bs, bm, hdct, sn, sub, ab, col, dd, k0, k1, k2, k3, k5, hC, hT⟩ := PySem.W.excInit_of I1.kIn S.kc
    obtain ⟨mb, hb1, hb2⟩ := I1.mod.blt
    obtain ⟨hp, g, dr, tk, os⟩ := s1
    have kk : ∀ b o, hp.get? b = some o → ((hp.push (PySem.W.kdv_tup [u])).push (PySem.HandSPX.excO C hp.objs.size)).get? b = some o := fun b o e => Heap.get?_push_of_some _ (Heap.get?_push_of_some _ e)
    have hget : ((hp.push (PySem.W.kdv_tup [u])).push (PySem.HandSPX.excO C hp.objs.size)).get? (hp.objs.size + 1) = some (PySem.HandSPX.excO C hp.objs.size) := by heap_get
    have nK : X.K.lookup (hp.objs.size + 1) = none := by
      cases z : X.K.lookup (hp.objs.size + 1) with
      | none => rfl
      | some o => exact absurd (Heap.lt_size (I1.kIn _ _ z)) (Nat.not_lt.mpr (Nat.le_succ _))
    refine wpAny_call (PySem.HandSPX.call_own FB hT hC (PySem.W.looks_findIn I1.kIn S.ini) (fun self => PySem.W.bind_fn I1.kIn self tI) (by show 1 ≤ sizeLine; rw [sizeLine_eq]; omega) ?_)
    refine sup_init SF FB KF S (I1.kIn.keeps kk) (I1.nolimit.keeps kk) (mg := X.mg) (mb := mb) ((I1.mod.glob.keeps I1.bk).keeps kk) hsg ((hb1.keeps I1.bk).keeps kk) ((hb2 _ (by decide)).trans (by first | rfl | decide +kernel)) ?_ hget nK ?_
    · have := hr.dp
      rw [make_depth]
      omega
    · intro h' tk' dx t1 k5 hdx hne e5 n5
      have hsz : ((hp.push (PySem.W.kdv_tup [u])).push (PySem.HandSPX.excO C hp.objs.size)).objs.size = hp.objs.size + 2 := by rw [Heap.size_push, Heap.size_push]
      have ne1 : ∀ {b o}, hp.get? b = some o → b ≠ hp.objs.size + 1 := fun {b o} e => Nat.ne_of_lt (Nat.lt_succ_of_lt (Heap.lt_size e))
      have kf : ∀ b o, hp.get? b = some o → h'.get? b = some o := fun b o e => k5 b o (ne1 e) (kk b o e)
      have hdx' : hp.objs.size ≤ dx := by rw [hsz] at hdx; omega
      obtain ⟨G, gk, gn⟩ := restrict h' fun b => decide (b ≠ hp.objs.size + 1)
      have gk' : ∀ b, b ≠ hp.objs.size + 1 → G.get? b = h'.get? b := fun b hb => gk b (decide_eq_true hb)
      have ge : G.get? (hp.objs.size + 1) = none := gn _ (by simp)
      have hn : H1 dx = none := I1.hok.fresh hdx'
      have J : Inv X pins σ (upd H1 dx (.xd [(fld, y)])) { (⟨hp, g, dr, tk, os⟩ : Shared) with heap := G, toks := tk' } := I1.laid (fun b o e => (gk' b (ne1 e)).trans (kf b o e)) hdx' (by
        refine ⟨_, n5.at fun o e => (gk' dx hne).trans e, fun f => ?_⟩
        by_cases hf : f = fld
        · subst hf
          simpa [RelO] using ru
        · have hf' : (f == fld) = false := by simpa using hf
          simp [List.lookup, hf', hf, RelO])
      refine ⟨rfl, hp.objs.size + 1, _, _, _, _, .ref C, some dx, rfl, J, fun b o e => ?_, ge, e5, ⟨rfl, rfl⟩, rfl, rfl, ?_, rfl, I1.bare, r, q dx hn⟩
      · by_cases hb : b = hp.objs.size + 1
        · have e' : G.get? b = some o := e
          rw [hb, ge] at e'
          cases e'
        · exact (gk' b hb).symm.trans e
      · rw [upd_ne (Ne.symm hne)]
        exact I1.hok.fresh (Nat.le_succ _)
end
end SupX
namespace Eng
open PySem PySem.Spec L2
open PyProof.Rows hiding St
/-! ### raise C(e) -/
def scRaiseV (n : Nat) (A : Code) : SCode := fun c s h x _ _ _ _ => A c s h x fun w h => x n w h
theorem psc_raiseV {X : Cx} {M : Mo} {cl : Cl} {E : XK} {A : Code} {n : Nat} {B newId initId : String} {bmB : List Value} {fI : Addr} {name qual x0 x1 fld msg : Str} {j : Nat} {scope : Scope} {params : Arguments} {p : Nat → Pos} {x : Str} {p1 pos rpos : Pos} {e : Expr} (f : Good X M) (tk : Takes X (fun cls d _ H => E cls d H)) (hf : M.fld n = some fld)
    (SF : StoreFacts B bmB "object.__setattr__" "object") (FB : ExcBaseFacts B newId initId bmB) (KF : PySem.W.KxsFacts B initId) (S : SupX.SupC X.prog X.K B newId initId bmB (M.g n) fI name qual x0 x1 fld msg j scope params p)
    (hsg : X.mg "super" = none) (gC : X.mg x = some (.ref (M.g n))) (kC : PySem.W.keepIn X.K (.ref (M.g n)) = true) (tI : PySem.W.typeIn X.K (.ref fI) = some (.type "function")) (r : Raises X (.ref (M.g n))) (hg : Gl X x) {k : Nat} (hr : Room (k + 1) X.A) (he : PE X e (tE M cl E A))
    (hs : starEach [e] X.env = (false, eval e X.env) :: starEach [] X.env := by rfl) (hdb : (x == ("__debug__" : Str)) = false := by decide) : PS X (.Raise (some (.Call (.Name x p1) [e] [] pos)) none rpos) (tSt M cl E (scRaiseV n A)) :=
  PS.imp (ps_raise f.calm tk (SupX.pmk_sup SF FB KF S hsg gC kC tI r hg hr he hs hdb)) fun D σ H ⟨a, t, hh, xk, nx, k, b, c, rr, At0, eq, pn, pr, pb, pc⟩ =>
    ⟨a, t, hh, xk, _, rr, At0, eq, fun w h1 r1 y H1 e1 q1 hs1 eq1 d hd => At0.px n w h1 r1 (.ref (M.g n)) (some d) (upd H1 d (.xd [(fld, y)])) (e1.trans (Ext.new hd)) ⟨rfl, fun g hg => by
      rw [hf] at hg
      cases hg
      exact ⟨d, y, rfl, upd_same, hs1.fresh hd, q1.ext (Ext.new hd)⟩⟩ (hs1.new hd) eq1⟩
end Eng
end
end

section
set_option maxRecDepth 100000
set_option maxHeartbeats 4000000
/-! Engine, part ZM: len({k: v for .. in ..}), the keys whole numbers. -/
noncomputable section
namespace Eng
open PySem PySem.Spec L2
open PyProof.Rows hiding St
def anyI (is : List Int) (i : Int) : Bool := List.rec (motive := fun _ => Bool) false (fun j _ ih => cB (eqI j i) true ih) is
theorem anyI_eq (is : List Int) (i : Int) : anyI is i = is.any fun j => decide (j = i) := by
  induction is with
  | nil => rfl
  | cons j is ih =>
    show cB (eqI j i) true (anyI is i) = _
    rw [ih, List.any_cons, cB_eq]
    have e : eqI j i = decide (j = i) := by
      have h := eqI_eq j i
      first
        | exact h
        | (rw [h])
    rw [e]
    by_cases h : j = i <;> simp [h]
def compK (body : W → List Int → EH → (List Int → EH → Ans) → Ans) (done : List Int → EH → Ans) (ws : List W) (acc : List Int) (h : EH) : Ans := List.rec (motive := fun _ => List Int → EH → Ans) done (fun w _ ih acc h => body w acc h ih) ws acc h
def addK (acc : List Int) (u : W) (k : List Int → Ans) : Ans := cI u fun i => cB (anyI acc i) (k acc) (k (acc ++ [i]))
def lenI (is : List Int) : Nat := List.rec (motive := fun _ => Nat) 0 (fun _ _ ih => Nat.succ ih) is
theorem lenI_eq (is : List Int) : lenI is = is.length := by
  induction is with
  | nil => rfl
  | cons w ws ih => show Nat.succ (lenI ws) = _; rw [ih]; rfl
def cLenK (vs : List Nat) (IC : ICode) (G : GCode) (T : TCode) (A B : Code) : Code := fun c s h x k => IC c s h x fun ws h => clrC vs s fun s0 =>
  compK (fun w acc h nx => G w c s0 h xBad fun s2 h => T c s2 h xBad (fun h => A c s2 h xBad fun u h => B c s2 h xBad fun _ h => addK acc u fun acc => nx acc h) (fun h => nx acc h)) (fun acc h => frN (lenI acc) fun n => k (.int (.ofNat n)) h) ws [] h
theorem putK_keys {kvs : List (Key × V)} {acc : List Int} {i : Int} {v : V} (h : kvs.map (·.1) = acc.map Sum.inl) : (putK kvs (Sum.inl i : Key) v).map (·.1) = (if anyI acc i = true then acc else acc ++ [i]).map Sum.inl := by
  have e : (kvs.any fun kv => decide (kv.1 = (Sum.inl i : Key))) = anyI acc i := by
    rw [anyI_eq]
    have h1 : (kvs.any fun kv => decide (kv.1 = (Sum.inl i : Key))) = (kvs.map (·.1)).any fun k => decide (k = (Sum.inl i : Key)) := by rw [List.any_map]; rfl
    rw [h1, h, List.any_map]
    congr 1
    funext j
    simp
  unfold putK
  rw [e]
  by_cases hb : anyI acc i = true
  · rw [if_pos hb, if_pos hb, ← h, List.map_map]
    congr 1
    funext kv
    simp only [Function.comp]
    split <;> rfl
  · rw [if_neg hb, if_neg hb, List.map_append, h, List.map_append]
    rfl
section
variable {X : Cx} {M : Mo} {cl : Cl} {E : XK} {tg a b e kx vx iter : Expr} {ifs es : List Expr} {A B : Code} {L : LCode} {T : TCode} {pos p1 p : Pos} {IC : ICode} {G : GCode} {vs : List Nat} {scope : Scope} {own : List (Str × Nat)}
theorem lenK_im {σ : St} {H : Hp} {Q : VK} (h : tE M cl E (cLenK vs IC G T A B) σ H Q) : L2.tDc (tI M cl E IC) (tGw M cl eNo G vs) (tT M cl eNo T) (tE M cl eNo A) (tE M cl eNo B) vs σ H fun x H1 => ∃ a kvs, [x] = [V.ref a] ∧ H1 a = some (.dK kvs) ∧ Q (.int kvs.length) H1 := by
  obtain ⟨a, t, hh, x, k, r, At0, eq, P⟩ := h
  refine ⟨a, t, hh, x, _, r, At0, eq, fun ws h1 r1 H1 J e1 hs1 ok eq1 => ?_⟩
  intro D hD
  have eq2 := clrC_ok At0.good eq1
  have SS : SSim M r1 H1 (clrS t vs) (wipe σ vs) := (At0.ss.ext e1).clr
  have P1 : Post M r1 H1 a k Q := P.ext e1
  generalize clrS t vs = s0 at eq2 SS
  let body : W → List Int → EH → (List Int → EH → Ans) → Ans := fun w acc h nx => G w cl s0 h xBad fun s2 h => T cl s2 h xBad (fun h => A cl s2 h xBad fun u h => B cl s2 h xBad fun _ h => addK acc u fun acc => nx acc h) (fun h => nx acc h)
  let fin : List Int → EH → Ans := fun acc h => frN (lenI acc) fun n => k (.int (.ofNat n)) h
  have eq2 : compK body fin ws [] h1 = a := eq2
  have nf : ∀ kvs : List (Key × V), ∀ o v, HO.dK kvs ≠ .frz o v := fun kvs o v z => nomatch z
  let Stt : Nat → Hp → Prop := fun i H' => ∃ R h' acc kvs, Blk r1 H1 D R H' ∧ HSim M R H' h' ∧ H' D = some (.dK kvs) ∧ kvs.map (·.1) = acc.map Sum.inl ∧ acc.length ≤ i ∧ compK body fin (ws.drop i) acc h' = a
  refine ⟨fun i m H' => i ≤ ws.length ∧ m = ws.length - i ∧ Stt i H', ?_, ?_⟩
  · exact ⟨ws.length, Nat.zero_le _, rfl, r1.blk D, h1, [], [], Blk.start hs1 hD, hs1.blk hD, upd_same, rfl, Nat.zero_le _, by rw [List.drop_zero]; exact eq2⟩
  · intro i m H' ⟨hi, hm, R, h', acc, kvs, E1, hs, hd, l, hacc, eq3⟩
    have lk : kvs.length = acc.length := by
      have := congrArg List.length l
      simpa using this
    by_cases hlt : i < ws.length
    · rw [List.drop_eq_getElem_cons hlt] at eq3
      have eq3 : body ws[i] acc h' (fun acc h => compK body fin (ws.drop (i + 1)) acc h) = a := eq3
      refine .inr ⟨ok.go i R H' E1.e0 E1.fk hlt, fun H'' => i + 1 ≤ ws.length ∧ Stt (i + 1) H'', fun H'' ⟨z1, z2⟩ => ⟨ws.length - (i + 1), by omega, z1, rfl, z2⟩, ?_⟩
      intro y H'' hy
      obtain ⟨g1, w, g2, g3⟩ := ok.yld i R H' h' y H'' E1.e0 E1.fk hs hlt hy
      rw [List.getElem?_eq_getElem hlt] at g2
      cases g2
      have e2 : Ext R H' R H'' := Ext.grow g1
      refine ⟨a, ws[i], s0, h', xBad, _, R, ⟨At0.good, SS.ext0 (E1.e0.trans e2.toExt0), hs.grow g1, px_bad At0.good⟩, g3, eq3, fun t3 h3 r3 σ3 H3 e3 ss3 w3 l3 hs3 eq4 => ⟨by rw [w3, wipe_wipe fun _ z => z], ?_⟩⟩
      refine ⟨a, t3, h3, xBad, _, _, r3, ⟨At0.good, ss3, hs3, px_bad At0.good⟩, eq4, fun h4 r4 H4 e4 hs4 eq5 => itT ?_, fun h4 r4 H4 e4 hs4 eq5 => itF ?_⟩
      · refine ⟨a, t3, h4, xBad, _, r4, ⟨At0.good, ss3.ext e4, hs4, px_bad At0.good⟩, eq5, fun u h5 r5 v5 H5 e5 q5 hs5 eq6 => ?_⟩
        refine ⟨a, t3, h5, xBad, _, r5, ⟨At0.good, (ss3.ext e4).ext e5, hs5, px_bad At0.good⟩, eq6, fun w6 h6 r6 v6 H6 e6 q6 hs6 eq7 => ?_⟩
        have E6 := (((e2.trans e3).trans e4).trans e5).trans e6
        have B6 := E1.extG E6 hs hs6 hd (nf kvs)
        have hd6 : H6 D = some (.dK kvs) := E6.bk D _ E1.mem hd
        obtain ⟨n, e7, eq8⟩ := cI_ok At0.good eq7
        subst e7
        have e8 : v5 = .int n := q5
        subst e8
        have hx := ok.len
        refine ⟨kvs, Sum.inl n, rfl, hd6, by rw [sizeLine_eq, lk]; omega, hlt, r6, h6, if anyI acc n = true then acc else acc ++ [n], putK kvs (Sum.inl n : Key) v6, B6.put hD (NFrz.of hd6 (nf kvs)), hs6.mutB B6.mem B6.nl, upd_same, putK_keys l, ?_, ?_⟩
        · split
          · omega
          · simp; omega
        · rcases cB_ok eq8 with ⟨z, e9⟩ | ⟨z, e9⟩
          · rw [if_pos z]; exact e9
          · rw [if_neg (by rw [z]; exact Bool.false_ne_true)]; exact e9
      · have E4 := (e2.trans e3).trans e4
        exact ⟨hlt, r4, h4, acc, kvs, E1.extG E4 hs hs4 hd (nf kvs), hs4, E4.bk D _ E1.mem hd, l, by omega, eq5⟩
    · have hi' : i = ws.length := by omega
      subst hi'
      rw [List.drop_length] at eq3
      refine .inl ⟨ok.stop R H' E1.e0 E1.fk, D, kvs, rfl, hd, ?_⟩
      have eq4 : frN (lenI acc) (fun n => k (.int (.ofNat n)) h') = a := eq3
      rw [frN_eq, lenI_eq, ← lk] at eq4
      obtain ⟨Rl, Rb⟩ := R
      obtain ⟨f, hb, hDf, hfb⟩ := E1.bb
      have hb : Rb = D :: (r1.b ++ f) := hb
      subst hb
      have hs : HSim M (Rg.blk ⟨Rl, r1.b ++ f⟩ D) H' h' := hs
      have e0 : Ext0 r1 H1 (Rg.blk ⟨Rl, r1.b ++ f⟩ D) H' := E1.e0
      exact P1 (.int kvs.length) h' ⟨Rl, r1.b ++ f⟩ (.int kvs.length) H' ⟨e0.trans Ext0.unblk, ⟨f, rfl, hfb⟩, E1.bk⟩ rfl (hs.unblk E1.nl) eq4
theorem pec_lenK (f : Good X M) (hN : X.N.Nodup) (hi : PI X tg iter (tI M cl E IC)) (ok : BlkOk X.N X.env.scope scope own) (hg : InB X scope fun Y => PG Y tg (tGw M cl eNo G (own.map (·.2)))) (ht : InB X scope fun Y => PTs Y ifs (tT M cl eNo T))
    (hk : InB X scope fun Y => PE Y kx (tE M cl eNo A)) (he : InB X scope fun Y => PE Y vx (tE M cl eNo B)) (hgl : Gl X "len") (hm : X.mg "len" = none) (hs : ∀ x, foldedSetIterable iter X.env x = pure x := by intro _; rfl)
    (hst : starEach [.DictComp kx vx [⟨tg, iter, ifs, 0⟩] scope pos] X.env = (false, eval (.DictComp kx vx [⟨tg, iter, ifs, 0⟩] scope pos) X.env) :: starEach [] X.env := by rfl) : PE X (.Call (.Name "len" p) [.DictComp kx vx [⟨tg, iter, ifs, 0⟩] scope pos] [] p1) (tE M cl E (cLenK (own.map (·.2)) IC G T A B)) :=
  PE.imp (pe_callB call_lenD hgl hm PySem.boot_len (pa_cons (L2.pe_dc f.calm hN hi ok hg ht hk he hs) pa_nil hst) (by decide) (by decide) hst (by rfl)) fun σ H Q h => by
    have := lenK_im h
    exact this
end
end Eng
end
end

section
set_option maxRecDepth 100000
set_option maxHeartbeats 4000000
/-! Engine, part ZN: written dicts of the module, keys whole numbers, read. -/
noncomputable section
namespace Eng
open PySem PySem.Spec L2
open PyProof.Rows hiding St
def staC (w : W) (f : Nat → Ans) : Ans := W.rec (motive_1 := fun _ => Ans) (motive_2 := fun _ => Unit) .bad (fun _ => .bad) (fun _ => .bad) (fun _ => .bad) (fun _ _ => .bad) (fun _ _ => .bad) (fun _ => .bad) f (fun _ => .bad) .bad () (fun _ _ _ _ => ()) w
theorem staC_ok {w : W} {f : Nat → Ans} {a : Ans} (ha : a ≠ .bad) (h : staC w f = a) : ∃ n, w = .sta n ∧ f n = a := by
  cases w with
  | sta n => exact ⟨n, rfl, h⟩
  | _ => exact absurd (show Ans.bad = a from h).symm ha
def KDiE (M : Mo) : List DictEntry → List (Int × W) → Prop
  | [], kvs => kvs = []
  | e :: r, kvs => ∃ i w t q, kvs = (i, w) :: q ∧ e.key = .int i t ∧ e.hash = hashInt i ∧ (∃ v, RelV v e.val ∧ ∀ rr H, RelW M.K M.g rr H w v) ∧ KDiE M r q
def KDi (M : Mo) (d : Addr) (kvs : List (Int × W)) : Prop := ∃ es n, M.K.lookup d = some ⟨.type "dict", none, .dict es n, #[]⟩ ∧ (d == sysModules) = false ∧ KDiE M es.toList kvs
def lookKI (kvs : List (Int × W)) (i : Int) (f : W → Ans) (z : Ans) : Ans := List.rec (motive := fun _ => Ans) z (fun kv _ ih => cB (eqI kv.1 i) (f kv.2) ih) kvs
theorem KDiE.keys {M : Mo} : ∀ {l : List DictEntry} {kvs : List (Int × W)}, KDiE M l kvs → ∀ e ∈ l, ∃ i t, e.key = .int i t ∧ e.hash = hashInt i
  | [], _, _, e, he => nomatch he
  | a :: l, kvs, h, e, he => by
    obtain ⟨i, w, t, q, _, e1, e2, _, r⟩ := h
    rcases List.mem_cons.mp he with z | z
    · rw [z]; exact ⟨i, t, e1, e2⟩
    · exact r.keys e z
theorem lookKI_ok {M : Mo} {f : W → Ans} {z a : Ans} {i : Int} : ∀ {l : List DictEntry} {kvs : List (Int × W)}, KDiE M l kvs → lookKI kvs i f z = a →
    (∃ e w v, (l.find? fun e => Value.isInt i e.key) = some e ∧ RelV v e.val ∧ (∀ rr H, RelW M.K M.g rr H w v) ∧ f w = a) ∨ ((l.find? fun e => Value.isInt i e.key) = none ∧ z = a)
  | [], kvs, h, eq => by
    rw [show kvs = [] from h] at eq
    exact .inr ⟨rfl, eq⟩
  | e :: l, kvs, h, eq => by
    obtain ⟨j, w, t, q, rfl, e1, e2, ⟨v, rv, rw'⟩, r⟩ := h
    have hk : Value.isInt i e.key = decide (j = i) := by rw [e1]; show (j == i) = _; rw [Bool.eq_iff_iff]; simp
    have hq : eqI j i = decide (j = i) := eqI_eq j i
    rcases cB_ok (show cB (eqI j i) (f w) (lookKI q i f z) = a from eq) with ⟨c, eq⟩ | ⟨c, eq⟩
    · refine .inl ⟨e, w, v, ?_, rv, rw', eq⟩
      rw [List.find?_cons, hk, ← hq, c]
    · rw [List.find?_cons, hk, ← hq, c]
      exact lookKI_ok r eq
theorem KDi.map {M : Mo} {d : Addr} {es : Array DictEntry} {n : Nat} {kvs : List (Int × W)} {h : Heap} {P : Program} {w : World} (X : M.K.In h) (hl : M.K.lookup d = some ⟨.type "dict", none, .dict es n, #[]⟩) (hk : KDiE M es.toList kvs) : h.MapOf (intKind P w) d (fun k => findBy Value.isInt es k) :=
  ⟨_, es, n, X _ _ hl, ⟨rfl, rfl, rfl⟩, rfl, fun e he => by
    obtain ⟨i, t, e1, e2⟩ := hk.keys e (Array.mem_toList_iff.mpr he)
    exact ⟨i, by rw [e1]; exact intKind_is P w i t, e2⟩, fun _ => rfl⟩
theorem findBy_list {es : Array DictEntry} {i : Int} : findBy Value.isInt es i = (es.toList.find? fun e => Value.isInt i e.key).map (·.val) := by
  obtain ⟨l⟩ := es
  unfold findBy
  rw [List.find?_toArray]
def fIxK (d0 : Nat) (kvs : List (Int × W)) : BCode := fun u w h k => staC u fun n => cB (Nat.beq n d0) (cI w fun i => lookKI kvs i (fun x => k x h) .bad) .bad
def tbInK (d0 : Nat) (kvs : List (Int × W)) : TB := fun u w _ t e => staC w fun n => cB (Nat.beq n d0) (cI u fun i => lookKI kvs i (fun _ => t) e) .bad
section
variable {X : Cx} {M : Mo} {cl : Cl} {E : XK} {a b : Expr} {A B : Code} {pos p : Pos} {d0 : Nat} {kvs : List (Int × W)}
theorem ixr_K (f : Good X M) (hd : KDi M (M.g d0) kvs) : IxR X (rB M (fIxK d0 kvs)) := by
  intro value slice pins s σ H x y v u Q I rx ry h hs
  obtain ⟨a, uw, ww, hh, k, r, ha, eq, qu, qw, hsim, P⟩ := h
  obtain ⟨n, e1, eq0⟩ := staC_ok ha eq
  clear eq
  subst e1
  rcases cB_ok eq0 with ⟨c, eq1⟩ | ⟨_, eq1⟩
  · have c := Nat.eq_of_beq_eq_true c
    subst c
    obtain ⟨i, e2, eq⟩ := cI_ok ha eq1
    subst e2
    have ex : x = .ref (M.g n) := qu
    have ey : y = .int i := qw
    subst ex ey
    obtain rfl : v = Value.ref (M.g n) := rx
    obtain ⟨t, rfl⟩ := ry
    obtain ⟨es, m, hl, low, hk⟩ := hd
    have kin : M.K.In s.heap := by rw [f.K]; exact I.kIn
    have hm := KDi.map (P := X.prog) (w := X.w) kin hl hk
    rcases lookKI_ok hk eq with ⟨e, w, v0, hf, rv, rw', eq⟩ | ⟨_, eq⟩
    · refine tail_any hm.typeIs slot_dict_getitem.lookup (wpAny_getItem_of (v := e.val) (intKind_is X.prog X.w i t) hm (by rw [findBy_list, hf]; rfl) ?_) hs
      exact ⟨v0, H, I.tok _, rv, P w hh r v0 H Ext.refl (rw' r H) hsim eq⟩
    · exact absurd eq.symm ha
  · exact absurd eq1.symm ha
theorem ots_inK (f : Good X M) (hd : KDi M (M.g d0) kvs) : OpR X (compareOp .In) (rCmp M (tbInK d0 kvs)) := by
  intro pins s σ H x y v u0 Q I rx ry hr
  obtain ⟨a0, u, w, h, t, e, r, ha, eq, qu, qw, hs, pt, pf⟩ := hr
  obtain ⟨n, e1, eq0⟩ := staC_ok ha eq
  clear eq
  subst e1
  rcases cB_ok eq0 with ⟨c, eq1⟩ | ⟨_, eq1⟩
  · have c := Nat.eq_of_beq_eq_true c
    subst c
    obtain ⟨i, e2, eq⟩ := cI_ok ha eq1
    subst e2
    have ey : y = .ref (M.g n) := qw
    have ex : x = .int i := qu
    subst ex ey
    obtain rfl : u0 = Value.ref (M.g n) := ry
    obtain ⟨tk, rfl⟩ := rx
    obtain ⟨es, m, hl, low, hk⟩ := hd
    have kin : M.K.In s.heap := by rw [f.K]; exact I.kIn
    have hm := KDi.map (P := X.prog) (w := X.w) kin hl hk
    refine wpAny_in_of (intKind_is X.prog X.w i tk) low hm ?_
    rcases lookKI_ok hk eq with ⟨e', w, v0, hf, rv, rw', eq⟩ | ⟨hf, eq⟩
    · rw [findBy_list, hf]
      exact ⟨.bl true, H, I.tok _, rfl, pt eq⟩
    · rw [findBy_list, hf]
      exact ⟨.bl false, H, I.tok _, rfl, pf eq⟩
  · exact absurd eq1.symm ha
theorem pec_ixK (f : Good X M) (hd : KDi M (M.g d0) kvs) (ha : PE X a (tE M cl E A)) (hb : PE X b (tE M cl E B)) (hs : PlainIx b) : PE X (.Subscript a b pos) (tE M cl E (cBin (fIxK d0 kvs) A B)) := PE.imp (pe_ix (ixr_K f hd) ha hb hs) fun _ _ _ h => bin_im (fun _ _ _ _ q => q) h
end
end Eng
end
end

section
set_option maxRecDepth 100000
set_option maxHeartbeats 4000000
/-! Engine, part ZO: classmethods, classes held by locals, calls without arguments, what is never reached. -/
noncomputable section
namespace Eng
open PySem PySem.Spec L2
open PyProof.Rows hiding St
section
variable {X : Cx} {M : Mo} {cl : Cl} {E : XK} {CX : CXT} {a b e o : Expr} {es : List Expr} {A B C : Code} {L : LCode} {pos p1 apos pos' : Pos} {n k c0 nf i : Nat} {x m f : Str} {und : List W} {F : Cl → Fn}
/-! ### never reached -/
def cBad : Code := fun _ _ _ _ _ => .bad
def tcBad : TCode := fun _ _ _ _ _ _ => .bad
def scBad : SCode := fun _ _ _ _ _ _ _ _ => .bad
theorem pec_bad : PE X e (tE M cl E cBad) := ⟨fun _ _ _ _ _ _ ⟨_, _, _, _, _, _, A, eq, _⟩ => absurd (show Ans.bad = _ from eq).symm A.good⟩
theorem ptc_bad : PT X e (tT M cl E tcBad) := ⟨fun _ _ _ _ _ _ ⟨_, _, _, _, _, _, _, A, eq, _⟩ => absurd (show Ans.bad = _ from eq).symm A.good⟩
theorem psc_bad {st : Stmt} : PS X st (tSt M cl E scBad) := ⟨fun _ _ _ _ _ _ ⟨_, _, _, _, _, _, _, _, _, A, eq, _⟩ => absurd (show Ans.bad = _ from eq).symm A.good⟩
theorem pssc_bad {st : List Stmt} : PSs X st (tSt M cl E scBad) := ⟨fun _ _ _ _ _ _ ⟨_, _, _, _, _, _, _, _, _, A, eq, _⟩ => absurd (show Ans.bad = _ from eq).symm A.good⟩
/-! ### C.m(..), m a classmethod -/
def cCMeth (c0 : Nat) (F : Cl → Fn) (L : LCode) : Code := fun c s h x k => L c s h x fun ws h => F c (.sta c0 :: ws) h x k
theorem cmeth_im {σ : St} {H : Hp} {Q : VK} (h : tE M cl E (cCMeth c0 F L) σ H Q) : ClX.tCMeth (M.g c0) (spF M (F cl)) E (tC (.ref (M.g c0))) (tAL M cl E L) σ H Q := by
  obtain ⟨a0, t, h, x, k, r, At0, eq, P⟩ := h
  exact ⟨rfl, a0, t, h, x, _, r, At0, eq, fun ws h1 r1 vs H1 e1 q1 hs1 eq1 => ⟨a0, .sta c0 :: ws, h1, x, k, r1, At0.good, eq1, ⟨.ref (M.g c0), vs, rfl, rfl, q1⟩, hs1, At0.px.ext e1, P.ext e1⟩⟩
theorem pec_cmeth {pl : Sem Bool} {p : Addr} {mc : Value} (he : PE X o (tC (.ref (M.g c0)))) (r : ClX.CRead X.K (M.g c0) mc) (c : ClX.CMet X.K (M.g c0) mc m p (M.g n)) (FO : FnR X.prog X.w X.K X.mg X.base CX k (M.g n) (spF M (F cl))) (hr : Room k X.A) (hx : Passes CX X E) (ha : PA X (e :: es) (tAL M cl E L))
    (hst : starEach (e :: es) X.env = (false, eval e X.env) :: starEach es X.env := by rfl) (hpl : (backTo pos (starEach es X.env)).any (·.1) = false := by rfl)
    (ht : eval (.Call (.Attribute o m apos) (e :: es) [] pos) X.env = (do let ov ← eval o X.env; standAt apos.atName; let (f, first) ← holding [ov] (getMethod ov m pl); callWith pos f first (backTo pos (starEach (e :: es) X.env)) (backToKw pos (keywordEach [] X.env))) := by rfl) :
    PE X (.Call (.Attribute o m apos) (e :: es) [] pos) (tE M cl E (cCMeth c0 F L)) := PE.imp (ClX.pe_cmeth he r c FO hr hx ha hst hpl ht) fun _ _ _ h => cmeth_im h
/-! ### x(..), x a local that holds a class -/
def cMakeL (gt : Gt) (c0 : Nat) (F : Cl → Fn) (und : List W) (L : LCode) : Code := fun c s h x k => gt s fun w => staC w fun n => cB (Nat.beq n c0) (cMake c0 F und L c s h x k) .bad
theorem pe_makeL {CX : CXT} {C f : Addr} {sp : Sp} {t : TA} (Mk0 : Mk X.K C f) (FO : FnR X.prog X.w X.K X.mg X.base CX k f sp) (hr : Room (k + 1) X.A) (hN : X.N[i]? = some x) (hv : Vis X.env.scope x) (hx : Passes CX X E) (ha : PA X (e :: es) t) (hd : (x == ("__debug__" : Str)) = false := by decide) (hcd : (x == ("__classdict__" : Str)) = false := by decide)
    (he : starEach (e :: es) X.env = (false, eval e X.env) :: starEach es X.env := by rfl) (hpl : (backTo pos (starEach es X.env)).any (·.1) = false := by rfl) : PE X (.Call (.Name x p1) (e :: es) [] pos) (fun σ H Q => σ[i]? = some (some (.ref C)) ∧ StX.tMakeR C sp E t σ H Q) := by
  refine ⟨fun pins s σ H Q I ⟨hσ, h⟩ => ?_⟩
  refine wpAny_Call_Name_kw (thn ((pe_var (pos := p1) hN hv hd hcd).run pins s σ H (fun v H' => v = .ref C ∧ H' = H) I ⟨.ref C, hσ, rfl, rfl⟩) fun u s0 ⟨v, H0, I0, r0, e1, e2⟩ => ?_)
  subst e1 e2
  obtain rfl : u = Value.ref C := r0
  refine PySem.W.callWith_K (h₀ := X.base) I0.ok.mod.kin Mk0.kp (thn (ha.run pos pins s0 σ H0 _ I0 h) fun us s1 ⟨vs, H1, I1, r, q⟩ => ⟨I1.kIn, ?_⟩) he hpl
  exact StX.run_makeR Mk0 FO hr hx I1 r q
theorem pec_makeL (Mk0 : Mk X.K (M.g c0) (M.g nf)) (hu : ∀ w ∈ und, w = .und) (FO : FnR X.prog X.w X.K X.mg X.base CX k (M.g nf) (spI M (F cl) c0 und)) (hr : Room (k + 1) X.A) (hN : X.N[i]? = some x) (hv : Vis X.env.scope x) (hx : Passes CX X E) (ha : PA X (e :: es) (tAL M cl E L)) (hd : (x == ("__debug__" : Str)) = false := by decide) (hcd : (x == ("__classdict__" : Str)) = false := by decide)
    (he : starEach (e :: es) X.env = (false, eval e X.env) :: starEach es X.env := by rfl) (hpl : (backTo pos (starEach es X.env)).any (·.1) = false := by rfl) : PE X (.Call (.Name x p1) (e :: es) [] pos) (tE M cl E (cMakeL (gI i) c0 F und L)) :=
  PE.imp (pe_makeL Mk0 FO hr hN hv hx ha hd hcd he hpl) fun σ H Q ⟨a, t, hh, xk, k, r, At0, eq, P⟩ => by
    have eq0 := gI_ok At0.good i t _ eq
    obtain ⟨j, e1, eq1⟩ := staC_ok At0.good eq0
    rcases cB_ok eq1 with ⟨c, eq2⟩ | ⟨_, eq2⟩
    · have c := Nat.eq_of_beq_eq_true c
      subst c
      obtain ⟨v, s1, s2⟩ := At0.ss i (by rw [e1]; exact fun z => nomatch z)
      rw [e1] at s2
      have ev : v = .ref (M.g j) := s2
      subst ev
      exact ⟨s1, make_im hu ⟨a, t, hh, xk, k, r, At0, eq2, P⟩⟩
    · exact absurd eq2.symm At0.good
end
end Eng
end
end

section
set_option maxRecDepth 100000
set_option maxHeartbeats 4000000
/-! Engine, part ZP: try with several clauses, some of which give the exception a name. -/
noncomputable section
namespace TrX
open PySem PySem.Spec L2
open PyProof.Rows hiding St
/-- a clause: its class, the slot of its name, its suite's reading -/
structure Cla where
  c : Value
  i : Option Nat
  ts : Addr → Value → Option Addr → TS
/-- the ends behind a suite whose name has gone -/
def backE (D : Ends) : Option Nat → Ends
  | none => D
  | some i => { nx := fun σ H => D.nx (σ.set i none) H, rt := D.rt, bk := fun σ H => D.bk (σ.set i none) H, ct := fun σ H => D.ct (σ.set i none) H }
def inS (a : Addr) (σ : St) : Option Nat → St
  | none => σ
  | some i => σ.set i (some (.ref a))
/-- what the clauses wish of an exception -/
def wAny (K : PySem.W.Frag) (Wout : WX) (D : Ends) : List Cla → WX
  | [] => Wout
  | q :: r => fun cls d σ H => ∃ b, PySem.W.exmOne K cls q.c = some b ∧ (b = true → ∀ a, H a = none → q.ts a cls d (backE D q.i) (inS a σ q.i) H) ∧ (b = false → wAny K Wout D r cls d σ H)
inductive ClaOk (X : Cx) : List ExceptHandler → List Cla → Prop
  | nil : ClaOk X [] []
  | plain {x : Str} {c : Value} {ts : Addr → Value → Option Addr → TS} {b₀ : Stmt} {suite : List Stmt} {np pos' : Pos} {hds : List ExceptHandler} {l : List Cla} (hc : Names X x c)
      (hsu : ∀ (a : Addr) (oe : Obj) (cls : Value) (d : Option Addr) (pn : List (Addr × Obj)), Zc cls d oe → (∃ vs, oe.data = .fields vs) → PSs (X.suite a ((a, oe) :: pn)) (b₀ :: suite) (ts a cls d)) (r : ClaOk X hds l) :
      ClaOk X (.ExceptHandler (some (.Name x np)) none (b₀ :: suite) pos' :: hds) (⟨c, none, ts⟩ :: l)
  | named {x n : Str} {c : Value} {i : Nat} {ts : Addr → Value → Option Addr → TS} {b₀ : Stmt} {suite : List Stmt} {np pos' : Pos} {hds : List ExceptHandler} {l : List Cla} (hc : Names X x c) (hN : X.N.Nodup) (hi : X.N[i]? = some n) (hln : X.env.kindOf n = some .local)
      (hsu : ∀ (a : Addr) (oe : Obj) (cls : Value) (d : Option Addr) (pn : List (Addr × Obj)), Zc cls d oe → (∃ vs, oe.data = .fields vs) → PSs (X.suite a ((a, oe) :: pn)) (b₀ :: suite) (ts a cls d)) (r : ClaOk X hds l) :
      ClaOk X (.ExceptHandler (some (.Name x np)) (some n) (b₀ :: suite) pos' :: hds) (⟨c, some i, ts⟩ :: l)
section
variable {X : Cx} {body : List Stmt} {h₀ : ExceptHandler} {hds : List ExceptHandler} {l : List Cla} {pos : Pos} {tb : WX → TS} {Wout : WX}
theorem ps_try_any (hs : X.stack = X.env :: X.outer) (hf : X.env.frame = some X.env.locals) (tk : Takes X Wout)
    (hb : ∀ (W : WX) (pn : List (Addr × Obj)) (xe : Value → Shared → Prop), Takes (X.tr pn xe) W → PassesOwn (model X.prog X.w) X.A X.env xe → PSs (X.tr pn xe) body (tb W))
    (hh : ClaOk X (h₀ :: hds) l) : PS X (.Try body (h₀ :: hds) [] [] pos) (fun D σ H => tb (wAny X.K Wout D l) D σ H) := by
  refine ⟨fun pins s σ H D I h => ?_⟩
  have ok := I.ok
  have hfr : X.A.frames = some (X.env :: X.outer) := by rw [ok.frames, hs]
  have through : ∀ {f : Flow} {s1 : Shared}, SP (X.tr (X.pn ++ pins) (fun e s₁ => wpAny (model X.prog X.w) X.A (noteFrame e X.env) (fun _ s₂ => wpAny (model X.prog X.w) X.A (setFlight e none) (fun _ s₃ =>
      wpAny (model X.prog X.w) X.A (handleBy e X.env (h₀ :: hds)) (SP X pins D) X.xe s₃) X.xe s₂) X.xe s₁)) [] D f s1 → (match f with
      | .next => ∃ σ' H', Inv X pins σ' H' s1 ∧ D.nx σ' H'
      | .brk => ∃ σ' H', Inv X pins σ' H' s1 ∧ D.bk σ' H'
      | .cont => ∃ σ' H', Inv X pins σ' H' s1 ∧ D.ct σ' H'
      | .ret u => ∃ v σ' H', Inv X pins σ' H' s1 ∧ RelV v u ∧ D.rt v H') := fun {f s1} hsp => by
    cases f with
    | next => obtain ⟨σ', H', J', q⟩ := hsp; exact ⟨σ', H', J'.ofTry ok, q⟩
    | brk => obtain ⟨σ', H', J', q⟩ := hsp; exact ⟨σ', H', J'.ofTry ok, q⟩
    | cont => obtain ⟨σ', H', J', q⟩ := hsp; exact ⟨σ', H', J'.ofTry ok, q⟩
    | ret u => obtain ⟨v, σ', H', J', r, q⟩ := hsp; exact ⟨v, σ', H', J'.ofTry ok, r, q⟩
  refine wpAny_Try_except ?_
  refine wpAny_mono ((hb (wAny X.K Wout D l) (X.pn ++ pins) (fun e s₁ => wpAny (model X.prog X.w) X.A (noteFrame e X.env) (fun _ s₂ => wpAny (model X.prog X.w) X.A (setFlight e none) (fun _ s₃ =>
    wpAny (model X.prog X.w) X.A (handleBy e X.env (h₀ :: hds)) (SP X pins D) X.xe s₃) X.xe s₂) X.xe s₁) (fun u s' xx => ?_) PassesOwn.looking).run [] s σ H D (I.toTry _) h) (fun f s1 hsp => ?_) (fun e s1 he => he)
  · obtain ⟨a, B, sI, pins', σ', H', cls, d, rfl, J', nb, up, sky, na, os, ag, w⟩ := xx
    have J : Inv X pins σ' H' sI := J'.ofTry ok
    show wpAny (model X.prog X.w) X.A (noteFrame (.ref a) X.env) _ _ _
    refine Sky.land Zc.steady hfr hf (by rw [← hs]; exact sky) fun h3 fl3 up3 => ?_
    have J3 : Inv X pins σ' H' { s' with heap := h3 } := J.landed nb fl3.1 (up.trans up3) os ag
    obtain ⟨oe3, vs3, he3, hz3, hd3⟩ := fl3.there
    have nfr : a ∉ frs (X.env :: X.outer) := fun hm => by
      obtain ⟨_, o', e', hnf⟩ := fl3.2.2.1.mem hm
      rw [he3] at e'
      cases e'
      exact hnf _ hd3
    have nL : a ≠ X.env.locals := fun z => nfr (List.mem_filterMap.mpr ⟨X.env, List.mem_cons_self, by rw [hf, z]⟩)
    have nF : a ∉ X.fs := fun hm => by
      obtain ⟨e, he, q⟩ := List.mem_filterMap.mp hm
      exact nfr (List.mem_filterMap.mpr ⟨e, List.mem_cons_of_mem _ he, q⟩)
    have S3 := J3.suite he3 hd3 na nL nF
    have LT : PySem.W.Looks (model X.prog X.w) h3 (typeOf (.ref a)) cls := fun A Q E s k q => wpAny_typeOf_ref (k _ _ he3) (by rw [hz3.1]; exact q)
    have test : ∀ {x : Str} {c : Value} {np : Pos}, Names X x c → ∀ {Q : Value → Shared → Prop} {E : Value → Shared → Prop}, Q c { s' with heap := h3 } → wpAny (model X.prog X.w) (X.A.mark (some (.ref a))) (eval (.Name x np) X.env) Q E { s' with heap := h3 } := fun {x c np} hc {Q E} q => by
      obtain ⟨hg, hdbg, hm | ⟨hm, hv, hnn⟩⟩ := hc
      · exact ld_glob (X := X.suite a ((a, oe3) :: (X.pn ++ pins))) S3 hg hm q hdbg
      · exact ld_blt (X := X.suite a ((a, oe3) :: (X.pn ++ pins))) S3 hg hm hv q hnn hdbg
    -- a clause's suite runs
    have landed : ∀ {h4 : Heap}, HandSPX.FlyingZ B (X.env :: X.outer) a (Zc cls d) h4 → Heap.UpToSlots h3 h4 → Inv X pins σ' H' { s' with heap := h4 } := fun {h4} fl4 up4 => J.landed nb fl4.1 ((up.trans up3).trans up4) os ag
    have go : ∀ {hds' : List ExceptHandler} {l' : List Cla}, ClaOk X hds' l' → wAny X.K Wout D l' cls d σ' H' → wpAny (model X.prog X.w) X.A (handleBy (.ref a) X.env hds') (SP X pins D) X.xe { s' with heap := h3 } := by
      intro hds' l' hk
      induction hk with
      | nil =>
        intro w
        refine wpAny_handleBy_nil ?_
        obtain ⟨k1, k2, k3, oe, vs, T, oT, ts', he, hz, hd, h1, hr⟩ := id fl3
        unfold PySem.passOn
        refine wpAny_bind (wpAny_field he hd h1 ?_)
        rw [if_neg (show ¬ ((Value.ref T == Value.none) = true) from by simp)]
        have fin : wpAny (model X.prog X.w) X.A (setFlight (.ref a) X.env.frame) (fun _ s4 => wpAny (model X.prog X.w) X.A (throw (.ref a) : Sem Flow) (SP X pins D) X.xe s4) X.xe { s' with heap := h3 } := by
          rw [hf]
          refine HandSPX.setFlight_upZ fl3 fun h4 hh4 up4 => wpAny_throw (tk _ _ ?_)
          exact ⟨a, B, sI, pins, σ', H', cls, d, rfl, J, nb, (up.trans up3).trans up4, .inr (.inr (by rw [hs]; exact hh4)), na, os, ag, w⟩
        first
          | exact wpAny_bind (wpAny_pure (wpAny_bind fin))
          | exact wpAny_bind fin
      | @plain x c ts b₀ suite np pos' hds2 l2 hc hsu r ih =>
        intro ⟨b, hb1, hyes, hno⟩
        refine wpAny_handleBy_cons (codeAny_handlers_test ?_) (by intro q; cases q)
        refine test hc ((PySem.W.exm_one (M := model X.prog X.w) (J3.kIn) LT hb1).here ?_)
        cases b with
        | true =>
          refine codeAny_handlers_suite (HandSPX.lands_againZ fl3 fun h4 fl4 up4 => ?_)
          obtain ⟨oe4, vs4, he4, hz4, hd4⟩ := fl4.there
          have S4 := (landed fl4 up4).suite he4 hd4 na nL nF
          refine wpAny_mono ((hsu a oe4 cls d (X.pn ++ pins) hz4 ⟨_, hd4⟩).run [] _ _ H' _ S4 (hyes rfl a na)) (fun f s6 hsp => ?_) (fun _ _ z => False.elim z)
          cases f with
          | next => obtain ⟨σ6, H6, S6, q6⟩ := hsp; exact ⟨_, _, S6.unsuite ok, q6⟩
          | brk => obtain ⟨σ6, H6, S6, q6⟩ := hsp; exact ⟨_, _, S6.unsuite ok, q6⟩
          | cont => obtain ⟨σ6, H6, S6, q6⟩ := hsp; exact ⟨_, _, S6.unsuite ok, q6⟩
          | ret u => obtain ⟨v6, σ6, H6, S6, r6, q6⟩ := hsp; exact ⟨_, _, _, S6.unsuite ok, r6, q6⟩
        | false => exact ih (hno rfl)
      | @named x n c i ts b₀ suite np pos' hds2 l2 hc hN hi hln hsu r ih =>
        intro ⟨b, hb1, hyes, hno⟩
        refine wpAny_handleBy_cons (codeAny_handlers_test ?_) (by intro q; cases q)
        refine test hc ((PySem.W.exm_one (M := model X.prog X.w) (J3.kIn) LT hb1).here ?_)
        cases b with
        | true =>
          refine codeAny_handlers_suite_as (HandSPX.lands_againZ fl3 fun h4 fl4 up4 => ?_)
          obtain ⟨oe4, vs4, he4, hz4, hd4⟩ := fl4.there
          have S4 := (landed fl4 up4).suite he4 hd4 na nL nF
          refine store_ok (X := X.suite a ((a, oe4) :: (X.pn ++ pins))) (v := .ref a) S4 hN hi (.inl hln) rfl (fun s5 S5 => ?_) (.inr hln)
          refine wpAny_mono ((hsu a oe4 cls d (X.pn ++ pins) hz4 ⟨_, hd4⟩).run [] s5 _ H' _ S5 (hyes rfl a na)) (fun f s6 hsp => ?_) (fun _ _ z => False.elim z)
          have gone : ∀ {σ6 : St} {H6 : Hp} {Q : Shared → Prop}, Inv (X.suite a ((a, oe4) :: (X.pn ++ pins))) [] σ6 H6 s6 → (∀ s7, Inv X pins (σ6.set i none) H6 s7 → Q s7) →
              wpAny (model X.prog X.w) X.A (do bindName X.env n .none; unbindBehindTheSuite X.env n pos') (fun _ s7 => Q s7) X.xe s6 := fun {σ6 H6 Q} S6 hq => gone_ok (S6.unsuite ok) hN hi hln hq
          cases f with
          | next => obtain ⟨σ6, H6, S6, q6⟩ := hsp; exact gone S6 fun s7 J7 => ⟨_, _, J7, q6⟩
          | brk => obtain ⟨σ6, H6, S6, q6⟩ := hsp; exact gone S6 fun s7 J7 => ⟨_, _, J7, q6⟩
          | cont => obtain ⟨σ6, H6, S6, q6⟩ := hsp; exact gone S6 fun s7 J7 => ⟨_, _, J7, q6⟩
          | ret u => obtain ⟨v6, σ6, H6, S6, r6, q6⟩ := hsp; exact gone S6 fun s7 J7 => ⟨_, _, _, J7, r6, q6⟩
        | false => exact ih (hno rfl)
    exact go hh w
  · have q := through hsp
    cases f with
    | next => obtain ⟨σ', H', J', q⟩ := q; exact wpAny_execs_nil ⟨σ', H', J', q⟩
    | brk => exact q
    | cont => exact q
    | ret u => exact q
end
end TrX
end
end

set_option maxRecDepth 100000
set_option maxHeartbeats 4000000
/-! Engine, part ZQ: the law's def that calls what it is given and tells which exception came. -/
noncomputable section
namespace Eng
open PySem PySem.Spec L2
open PyProof.Rows hiding St
open TrX
theorem takes_len {X : Cx} {W : WX} (tk : Takes X W) : Takes X (fun cls d σ H => σ.length = X.N.length → W cls d σ H) := fun u s' ⟨a, B, sI, pins, σ, H, cls, d, e, I, nb, up, sky, na, os, ag, w⟩ => tk u s' ⟨a, B, sI, pins, σ, H, cls, d, e, I, nb, up, sky, na, os, ag, w I.len⟩
/-- a clause: the class, the texts ahead in what it returns, the exception's field behind them -/
structure Ct where
  n : Nat
  ss : List Str
  f : Option Str
def tStrs (t : TA) : List Str → TA
  | [] => t
  | s :: r => tCons (tC (.str s)) (tStrs t r)
def claOf (M : Mo) (i : Nat) (q : Ct) : Cla := match q.f with
  | none => ⟨.ref (M.g q.n), none, fun _ _ _ => tRet (tTup (tStrs tNil q.ss))⟩
  | some f => ⟨.ref (M.g q.n), some i, fun a cls d => tRet (tTup (tStrs (tCons (tXf a cls d (M.g q.n) f (tVar i)) tNil) q.ss))⟩
def ctW (q : Ct) (w : W) : List W := Option.rec (motive := fun _ => List W) (q.ss.map W.str) (fun _ => q.ss.map W.str ++ [w]) q.f
def metK (ct : List Ct) (n : Nat) (w : W) (k : W → Ans) : Ans := List.rec (motive := fun _ => Ans) .bad (fun q _ ih => cB (Nat.beq n q.n) (k (.tup (ctW q w))) ih) ct
theorem strs_read {σ : St} {H : Hp} {t : TA} {Q : List V → Hp → Prop} : ∀ {ss : List Str}, t σ H (fun xs H1 => Q (ss.map V.str ++ xs) H1) → tStrs t ss σ H Q
  | [], h => h
  | s :: r, h => strs_read (t := t) (ss := r) (Q := fun xs H1 => Q (V.str s :: xs) H1) h
theorem strs_rel {M : Mo} {r : Rg} {H : Hp} : ∀ ss : List Str, RelWs M.K M.g r H (ss.map W.str) (ss.map V.str)
  | [] => rfl
  | s :: q => ⟨.str s, q.map V.str, rfl, rfl, strs_rel q⟩
theorem metK_ok {M : Mo} {i : Nat} {n : Nat} {w : W} {k : K1} {h : EH} {r : Rg} {cls : Value} {d : Option Addr} {σ : St} {H : Hp} {a : Ans} {Q : VK} (ha : a ≠ .bad) (x : XRel M r H n w cls d) (hs : HSim M r H h) (P : Post M r H a k Q) (hi : i < σ.length) {N : St → Hp → Prop} :
    ∀ {ct : List Ct}, (∀ q ∈ ct, PySem.W.exmOne M.K (.ref (M.g n)) (.ref (M.g q.n)) = some (Nat.beq n q.n)) → (∀ q ∈ ct, q.f = none ∨ M.fld q.n = q.f) → (∀ q ∈ ct, q.ss.length ≤ 1000) → metK ct n w (fun u => k u h) = a → wAny M.K (fun _ _ _ _ => False) { nx := N, rt := Q } (ct.map (claOf M i)) cls d σ H
  | [], _, _, _, eq => absurd (show Ans.bad = a from eq).symm ha
  | q :: ct, hx, hf, hl, eq => by
    have e1 := x.1
    have eq1 : cB (Nat.beq n q.n) (k (.tup (ctW q w)) h) (metK ct n w fun u => k u h) = a := eq
    have hx0 := hx q (List.mem_cons_self ..)
    have rest := metK_ok (i := i) (σ := σ) (N := N) ha x hs P hi (ct := ct) (fun c hc => hx c (List.mem_cons_of_mem _ hc)) (fun c hc => hf c (List.mem_cons_of_mem _ hc)) (fun c hc => hl c (List.mem_cons_of_mem _ hc))
    obtain ⟨qn, ss, qf⟩ := q
    have hl0 : ss.length ≤ 1000 := hl ⟨qn, ss, qf⟩ (List.mem_cons_self ..)
    have hsl : sizeLine = 16777216 := sizeLine_eq
    have hf0 := hf ⟨qn, ss, qf⟩ (List.mem_cons_self ..)
    rw [List.map_cons]
    rcases cB_ok eq1 with ⟨c, eq2⟩ | ⟨c, eq2⟩
    · have c' := Nat.eq_of_beq_eq_true c
      have c' : n = qn := c'
      subst c'
      cases qf with
      | none =>
        refine ⟨true, by rw [e1, ← c]; exact hx0, fun _ b hb => ?_, fun z => nomatch z⟩
        refine strs_read ?_
        show (ss.map V.str ++ []).length ≤ sizeLine ∧ _
        rw [List.append_nil]
        refine ⟨by rw [List.length_map, hsl]; omega, fun p hp => ?_⟩
        have l : RelWs M.K M.g r H (ss.map W.str) (ss.map V.str) := strs_rel ss
        exact P _ h r (.ref p) _ (Ext.new hp) (new_tup hs hp l (by rw [List.length_map]; omega)) (hs.new hp) eq2
      | some f =>
        rcases hf0 with z | z
        · cases z
        · have z : M.fld n = some f := z
          obtain ⟨dx, v, ed, hd, _, q1⟩ := x.2 f z
          refine ⟨true, by rw [e1, ← c]; exact hx0, fun _ b hb => ?_, fun z => nomatch z⟩
          refine strs_read ?_
          show tCons (tXf b cls d (M.g n) f (tVar i)) tNil (σ.set i (some (.ref b))) H _
          refine ⟨.ref b, by rw [List.getElem?_set_self hi], rfl, e1, dx, [(f, v)], v, ed, hd, by simp, ?_⟩
          show (ss.map V.str ++ [v]).length ≤ sizeLine ∧ _
          refine ⟨by rw [List.length_append, List.length_map, hsl]; simp; omega, fun p hp => ?_⟩
          have l : RelWs M.K M.g r H (ss.map W.str ++ [w]) (ss.map V.str ++ [v]) := (strs_rel ss).append ⟨v, [], rfl, q1, rfl⟩
          exact P _ h r (.ref p) _ (Ext.new hp) (new_tup hs hp l (by rw [List.length_append, List.length_map]; simp; omega)) (hs.new hp) eq2
    · cases qf with
      | none => exact ⟨false, by rw [e1, ← c]; exact hx0, (fun z => nomatch z), fun _ => rest eq2⟩
      | some f => exact ⟨false, by rw [e1, ← c]; exact hx0, (fun z => nomatch z), fun _ => rest eq2⟩
/-- try: return (s0, a()) / except ..: what the def makes of the lambda's reading -/
def TMetA (K : PySem.W.Frag) (m : Nat) (l : List Cla) (s0 : Str) : (XK → Hp → VK → Prop) → Hp → VK → Prop := fun tl H Q =>
  tl (fun cls d H' => ∀ σ' : St, σ'.length = m → wAny K (fun _ _ _ _ => False) { nx := fun _ H' => Q .non H', rt := Q } l cls d σ' H') H (fun v H1 => ([V.str s0, v] : List V).length ≤ sizeLine ∧ ∀ p, H1 p = none → Q (.ref p) (upd H1 p (.tup [.str s0, v])))
theorem met_givesA {X : Cx} {Ng : List Str} {x a q s0 : Str} {sg : Scope} {g : Addr} {cdg : Value} {l : List Cla} {h₀ : ExceptHandler} {hds : List ExceptHandler} {j k : Nat} {p0 p1 p2 p3 p4 p8 : Pos} (h0 : ∀ f : Addr, (L2.start Ng [V.ref f])[0]? = some (some (V.ref f)))
    (hcl : ∀ s H, ClaOk (cxOf C8.CX0 X.prog X.w X.K X.mg X.base Ng x sg g cdg X.A X.stack s H C8.E0).nox (h₀ :: hds) l) :
    LamX.GivesTo X Ng x sg g cdg [.Try [.Return (some (.Tuple [.Constant (.str s0) j p0, .Call (.Name a p1) [] [] p2] k p3)) p4] (h₀ :: hds) [] [] p8] a q (TMetA X.K Ng.length l s0) := by
  intro f c' s H Q tl act hc h
  refine ⟨_, pss_one (ps_try_any (X := (cxOf C8.CX0 X.prog X.w X.K X.mg X.base Ng x sg g cdg X.A X.stack s H C8.E0).nox) (Wout := fun _ _ _ _ => False)
      (tb := fun W D σ H => ∃ Ech : XK, (∀ cls d σ' H', Ech cls d H' → σ'.length = Ng.length → W cls d σ' H') ∧ σ[0]? = some (some (.ref f)) ∧ H c' = some (LamX.CodeO c' q) ∧ tl Ech H (fun v H1 => ([V.str s0, v] : List V).length ≤ sizeLine ∧ ∀ p, H1 p = none → D.rt (.ref p) (upd H1 p (.tup [.str s0, v]))))
      rfl rfl LamX.takes0 (fun W pn xe tk _ => ?_) (hcl s H)), ?_⟩
  · refine ⟨fun pins s' σ H' D I h' => ?_⟩
    obtain ⟨Ech, hW, h1, h2, h3⟩ := h'
    have hp := act _ pn xe Ech p1 p2 (takes_len tk) fun cls d σ' H' e => hW cls d σ' H' e
    have hq := pss_one (ps_ret (pos := p4) (pe_tup (x1 := k) (pos := p3) (pa_cons (pe_str (x := s0) (j := j) (pos := p0)) (pa_cons hp pa_nil))))
    exact hq.run pins s' σ H' D I ⟨h1, h2, h3⟩
  · exact ⟨_, fun cls d σ' H' e hl => e σ' hl, h0 f, hc, h⟩
/-- the call of it with a lambda -/
def cMet (ct : List Ct) (s0 : Str) (C : Code) : Code := fun c s h x k => C c s h (fun n w h => metK ct n w fun u => k u h) (fun v h => k (.tup [.str s0, v]) h)
theorem met_imA {M : Mo} {cl : Cl} {E : XK} {C : Code} {ct : List Ct} {i m : Nat} {s0 : Str} (hm : i < m) (hx : ∀ n ∈ ct.map (·.n), ∀ c ∈ ct.map (·.n), PySem.W.exmOne M.K (.ref (M.g n)) (.ref (M.g c)) = some (Nat.beq n c)) (hf : ∀ q ∈ ct, q.f = none ∨ M.fld q.n = q.f) (hl : ∀ q ∈ ct, q.ss.length ≤ 1000)
    {σ : St} {H : Hp} {Q : VK} (h : tE M cl E (cMet ct s0 C) σ H Q) : LamX.tLam M.tabs (TMetA M.K m (ct.map (claOf M i)) s0) (fun E => tE M cl E C) σ H Q := by
  obtain ⟨a, t, hh, x, k, r, At0, eq, P⟩ := h
  refine ⟨fun p hp => (At0.hs.tab p hp).2, fun H1 eN T1 => ?_⟩
  obtain ⟨e1, hs1⟩ := tabs_ext At0.hs eN T1
  refine ⟨a, t, hh, _, _, r, ⟨At0.good, At0.ss.ext e1, hs1, fun n w h' r' cls d H' e2 x2 hs2 eq2 => ?_⟩, eq, fun w h' r' v H' e2 q2 hs2 eq2 => ?_⟩
  · intro σ' hl'
    have mem : ∀ {ct' : List Ct}, metK ct' n w (fun u => k u h') = a → n ∈ ct'.map (·.n) := by
      intro ct'
      induction ct' with
      | nil => intro z; exact absurd (show Ans.bad = a from z).symm At0.good
      | cons q ct' ih =>
        intro z
        rcases cB_ok (show cB (Nat.beq n q.n) (k (.tup (ctW q w)) h') (metK ct' n w fun u => k u h') = a from z) with ⟨c, _⟩ | ⟨_, z2⟩
        · rw [List.map_cons, ← Nat.eq_of_beq_eq_true c]; exact List.mem_cons_self ..
        · exact List.mem_cons_of_mem _ (ih z2)
    exact metK_ok At0.good x2 hs2 ((P.ext e1).ext e2) (by omega) (fun q hq => hx n (mem eq2) q.n (List.mem_map.mpr ⟨q, hq, rfl⟩)) hf hl eq2
  · refine ⟨by show 2 ≤ sizeLine; rw [sizeLine_eq]; omega, fun p hp => ?_⟩
    have l2 : RelWs M.K M.g r' H' [.str s0, w] [.str s0, v] := ⟨.str s0, [v], rfl, rfl, v, [], rfl, q2, rfl⟩
    exact P _ h' r' (.ref p) _ ((e1.trans e2).trans (Ext.new hp)) (new_tup hs2 hp l2 (by simp)) (hs2.new hp) eq2
end Eng

section
set_option maxRecDepth 100000
set_option maxHeartbeats 4000000
/-! Engine, part ZR: lists of whole numbers from outside. -/
noncomputable section
namespace Eng
open PySem PySem.Spec L2
open PyProof.Rows hiding St
/-- the numbers zs stand at M.g n0 -/
def fLenO (n0 : Nat) (zs : List Int) : List W → EH → K1 → Ans := fun ws h k => c1 ws fun u => staC u fun n => cB (Nat.beq n n0) (k (.int (.ofNat zs.length)) h) .bad
def fIxO (n0 : Nat) (zs : List Int) : BCode := fun u w h k => staC u fun n => cB (Nat.beq n n0) (cI w fun i => Option.rec (motive := fun _ => Ans) .bad (fun z => k (.int z) h) (atI zs i)) .bad
def fSlO (n0 : Nat) (zs : List Int) : W → Option Int → Option Int → EH → K1 → Ans := fun u lo hi h k => staC u fun n => cB (Nat.beq n n0) (k (.lst ((cutV (zs.map V.int) lo hi).map fun v => match v with | .int i => .int i | _ => .und)) h) .bad
def cSlO (n0 : Nat) (zs : List Int) (A : Code) (L U : OCode) : Code := fun c s h x k => A c s h x fun u h => L c s h x fun lo h => U c s h x fun hi h => fSlO n0 zs u lo hi h k
section
variable {X : Cx} {M : Mo} {cl : Cl} {E : XK} {a b e : Expr} {A B : Code} {L U : OCode} {lo hi : Option Expr} {pos p2 : Pos} {n0 : Nat} {zs : List Int}
theorem sta_ok {r : Rg} {H : Hp} {u : W} {v : V} {f : Ans} {a : Ans} (ha : a ≠ .bad) (q : RelW M.K M.g r H u v) (e : (staC u fun n => cB (Nat.beq n n0) f .bad) = a) : v = .ref (M.g n0) ∧ f = a := by
  obtain ⟨n, e1, e2⟩ := staC_ok ha e
  subst e1
  rcases cB_ok e2 with ⟨c, e3⟩ | ⟨_, e3⟩
  · have c := Nat.eq_of_beq_eq_true c
    subst c
    exact ⟨q, e3⟩
  · exact absurd e3.symm ha
theorem cf_lenO (f : Fits X M) (hz : (n0, zs) ∈ M.outs) : CallR X (.builtin "len") (rF M (fLenO n0 zs)) := CallR.imp call_len_seq fun vs H Q ⟨a, ws, h, k, r, ha, eq, q, hs, P⟩ => by
  obtain ⟨u, e, eq1⟩ := c1_ok ha eq
  subst e
  obtain ⟨v, e, q1⟩ := rel1 q
  obtain ⟨e2, eq2⟩ := sta_ok ha q1 eq1
  subst e e2
  have sq := (hs.out _ hz).sq
  rw [f.K] at sq
  refine ⟨_, _, rfl, .inl sq, ?_⟩
  rw [List.length_map]
  exact P (.int (.ofNat zs.length)) h r (.int zs.length) H Ext.refl rfl hs eq2
theorem atI_map {i : Int} {z : Int} (h : atI zs i = some z) : atI (zs.map V.int) i = some (.int z) := by
  unfold atI at h ⊢
  rw [List.length_map]
  cases q : ixN zs.length i with
  | none => rw [q] at h; cases h
  | some j =>
    rw [q] at h
    have h : zs[j]? = some z := h
    show (zs.map V.int)[j]? = _
    rw [List.getElem?_map, h]
    rfl
theorem ixr_O (f : Good X M) (hz : (n0, zs) ∈ M.outs) : IxR X (rB M (fIxO n0 zs)) := by
  intro value slice pins s σ H x y v u Q I rx ry hr hs
  obtain ⟨a0, wu, ww, h, k, r, ha, eq, qu, qw, hsim, P⟩ := hr
  obtain ⟨e1, eq1⟩ := sta_ok ha qu eq
  obtain ⟨i, e2, eq2⟩ := cI_ok ha eq1
  subst e1 e2
  have sq := (hsim.out _ hz).sq
  cases q : atI zs i with
  | none => rw [q] at eq2; exact absurd (show Ans.bad = a0 from eq2).symm ha
  | some z =>
    rw [q] at eq2
    exact ix_list value slice pins s σ H _ y v u Q I rx ry ⟨_, _, i, .int z, rfl, qw, by rw [← f.K]; exact sq, atI_map q, P (.int z) h r (.int z) H Ext.refl rfl hsim eq2⟩ hs
theorem pec_ixO (f : Good X M) (hz : (n0, zs) ∈ M.outs) (ha : PE X a (tE M cl E A)) (hb : PE X b (tE M cl E B)) (hs : PlainIx b) : PE X (.Subscript a b pos) (tE M cl E (cBin (fIxO n0 zs) A B)) := PE.imp (pe_ix (ixr_O f hz) ha hb hs) fun _ _ _ h => bin_im (fun _ _ _ _ q => q) h
theorem ints_relO {r : Rg} {H : Hp} : ∀ (l : List V), (∀ v ∈ l, ∃ i, v = .int i) → RelWs M.K M.g r H (l.map fun v => match v with | .int i => W.int i | _ => .und) l
  | [], _ => rfl
  | v :: l, h => by
    obtain ⟨i, e⟩ := h v (List.mem_cons_self ..)
    subst e
    exact ⟨.int i, l, rfl, rfl, ints_relO l fun v hv => h v (List.mem_cons_of_mem _ hv)⟩
def rSlO (M : Mo) (n0 : Nat) (zs : List Int) : V → Option Int → Option Int → Hp → VK → Prop := fun x lo hi H Q => ∃ a u h k r, a ≠ Ans.bad ∧ fSlO n0 zs u lo hi h k = a ∧ RelW M.K M.g r H u x ∧ HSim M r H h ∧ Post M r H a k Q
theorem slr_O (f : Good X M) (hz : (n0, zs) ∈ M.outs) (hl : zs.length ≤ 16777216) : SlR X (rSlO M n0 zs) := by
  intro pins s σ H x v vl vu lo hi sl Q I rx hsl pl pu hr
  obtain ⟨a0, u, h, k, r, ha, eq, qu, hs, P⟩ := hr
  obtain ⟨e1, eq1⟩ := sta_ok ha qu eq
  subst e1
  have sq := (hs.out _ hz).sq
  refine sl_list pins s σ H _ v vl vu lo hi sl Q I rx hsl pl pu ⟨_, _, rfl, by rw [← f.K]; exact sq, (fin_lst ha hs (ints_relO _ fun v hv => ?_) ?_ P eq1).2⟩
  · unfold cutV at hv
    have := List.mem_of_mem_drop (List.mem_of_mem_take hv)
    obtain ⟨i, _, e⟩ := List.mem_map.mp this
    exact ⟨i, e.symm⟩
  · rw [List.length_map]
    unfold cutV
    rw [List.length_take, List.length_drop, List.length_map]
    omega
theorem pec_slO (f : Good X M) (hz : (n0, zs) ∈ M.outs) (hln : zs.length ≤ 16777216) (ha : PE X e (tE M cl E A)) (hl : PO X lo (tO M cl E L)) (hu : PO X hi (tO M cl E U)) : PE X (.Subscript e (.Slice lo hi none p2) pos) (tE M cl E (cSlO n0 zs A L U)) :=
  PE.imp (pe_slice (slr_O f hz hln) ha hl hu) fun σ H Q ⟨a0, t, h, x, k, r, At0, eq, P⟩ => ⟨a0, t, h, x, _, r, At0, eq, fun u h1 r1 v1 H1 e1 q1 hs1 eq1 =>
    ⟨a0, t, h1, x, _, r1, At0.ext e1 hs1, eq1, fun o1 h2 r2 H2 e2 hs2 eq2 => ⟨a0, t, h2, x, _, r2, At0.ext (e1.trans e2) hs2, eq2, fun o2 h3 r3 H3 e3 hs3 eq3 =>
      ⟨a0, u, h3, k, r3, At0.good, eq3, (q1.ext e2).ext e3, hs3, P.ext ((e1.trans e2).trans e3)⟩⟩⟩⟩
end
end Eng
end
end

section
set_option maxRecDepth 100000
set_option maxHeartbeats 4000000
/-! Engine, part ZS: calls of a local that holds a def; a lambda handed to the law's def. -/
noncomputable section
namespace Eng
open PySem PySem.Spec L2
open PyProof.Rows hiding St
open TrX
/-! ### x(..), x a local that holds one of some defs -/
def dispC (ds : List (Nat × (Cl → Fn))) (n : Nat) (f : (Cl → Fn) → Ans) : Ans := List.rec (motive := fun _ => Ans) .bad (fun q _ ih => cB (Nat.beq n q.1) (f q.2) ih) ds
theorem dispC_ok {n : Nat} {f : (Cl → Fn) → Ans} {a : Ans} (ha : a ≠ .bad) : ∀ {ds : List (Nat × (Cl → Fn))}, dispC ds n f = a → ∃ q ∈ ds, q.1 = n ∧ f q.2 = a
  | [], h => absurd (show Ans.bad = a from h).symm ha
  | q :: ds, h => by
    rcases cB_ok (show cB (Nat.beq n q.1) (f q.2) (dispC ds n f) = a from h) with ⟨c, e⟩ | ⟨_, e⟩
    · exact ⟨q, List.mem_cons_self .., (Nat.eq_of_beq_eq_true c).symm, e⟩
    · obtain ⟨p, h1, h2⟩ := dispC_ok ha e
      exact ⟨p, List.mem_cons_of_mem _ h1, h2⟩
def cCallL (gt : Gt) (ds : List (Nat × (Cl → Fn))) (L : LCode) : Code := fun c s h x k => gt s fun w => staC w fun n => dispC ds n fun F => cCall F L c s h x k
section
variable {X : Cx} {M : Mo} {cl : Cl} {E : XK} {CX : CXT} {a b e o : Expr} {es : List Expr} {A B C : Code} {L : LCode} {pos p1 : Pos} {k i : Nat} {x : Str} {ds : List (Nat × (Cl → Fn))}
theorem pec_callL (FO : ∀ q ∈ ds, FnR X.prog X.w X.K X.mg X.base CX k (M.g q.1) (spF M (q.2 cl)) ∧ PySem.W.keepIn X.K (.ref (M.g q.1)) = true) (hr : Room k X.A) (hN : X.N[i]? = some x) (hv : Vis X.env.scope x) (hx : Passes CX X E) (ha : PA X (e :: es) (tAL M cl E L)) (hd : (x == ("__debug__" : Str)) = false := by decide) (hcd : (x == ("__classdict__" : Str)) = false := by decide)
    (he : starEach (e :: es) X.env = (false, eval e X.env) :: starEach es X.env := by rfl) (hpl : (backTo pos (starEach es X.env)).any (·.1) = false := by rfl) : PE X (.Call (.Name x p1) (e :: es) [] pos) (tE M cl E (cCallL (gI i) ds L)) := by
  refine ⟨fun pins s σ H Q I ⟨a, t, hh, xk, kk, r, At0, eq, P⟩ => ?_⟩
  have eq0 := gI_ok At0.good i t _ eq
  obtain ⟨j, e1, eq1⟩ := staC_ok At0.good eq0
  obtain ⟨q, hq, e2, eq2⟩ := dispC_ok At0.good eq1
  obtain ⟨v, s1, s2⟩ := At0.ss i (by rw [e1]; exact fun z => nomatch z)
  rw [e1] at s2
  have ev : v = .ref (M.g j) := s2
  subst ev
  subst e2
  obtain ⟨F, kp⟩ := FO q hq
  refine wpAny_Call_Name_kw (thn ((pe_var (pos := p1) hN hv hd hcd).run pins s σ H (fun v H' => v = .ref (M.g q.1) ∧ H' = H) I ⟨.ref (M.g q.1), s1, rfl, rfl⟩) fun u s0 ⟨v, H0, I0, r0, e1, e2⟩ => ?_)
  subst e1 e2
  obtain rfl : u = Value.ref (M.g q.1) := r0
  refine PySem.W.callWith_K (h₀ := X.base) I0.ok.mod.kin kp (thn (ha.run pos pins s0 σ H0 _ I0 (call_im (F := q.2) ⟨a, t, hh, xk, kk, r, At0, eq2, P⟩)) fun us s1 ⟨vs, H1, I1, r, q⟩ => ⟨I1.kIn, wpAny_call (run_fnR F hr hx I1 r q)⟩) he hpl
end
/-! ### x(lambda: body) -/
section
variable {X : Cx} {M : Mo} {cl : Cl} {E : XK} {C : Code} {ct : List Ct} {i k : Nat} {s0 x a : Str} {g c P : Addr} {pg : Arguments} {sg : Scope} {dV kV doc pm cdv tc oc : Value} {an od : Option Addr} {osl : Array (Option Value)} {Ng : List Str} {h₀ : ExceptHandler} {hds : List ExceptHandler} {j kk : Nat} {p0 p1 p2 p3 p4 p8 : Pos}
  {params : Arguments} {body : Expr} {scope : Scope} {p lpos pos : Pos}
theorem pec_met (fK : X.K = M.K) (hi : i < Ng.length) (hxm : ∀ n ∈ ct.map (·.n), ∀ c ∈ ct.map (·.n), PySem.W.exmOne M.K (.ref (M.g n)) (.ref (M.g c)) = some (Nat.beq n c)) (hf : ∀ q ∈ ct, q.f = none ∨ M.fld q.n = q.f) (hl : ∀ q ∈ ct, q.ss.length ≤ 1000)
    (hg : Gl X x) (hm : X.mg x = some (.ref g)) (hk : PySem.W.keepIn X.K (.ref g) = true)
    (lk : X.K.lookup g = some ⟨oc, od, .func (PySem.W.fnOf x x pg [.Try [.Return (some (.Tuple [.Constant (.str s0) j p0, .Call (.Name a p1) [] [] p2] kk p3)) p4] (h₀ :: hds) [] [] p8] sg dV kV doc pm an cdv tc), osl⟩) (hcg : PySem.W.codeIn X.K cdv x = true)
    (hb : L2.Binds X.K (PySem.W.fnOf x x pg [.Try [.Return (some (.Tuple [.Constant (.str s0) j p0, .Call (.Name a p1) [] [] p2] kk p3)) p4] (h₀ :: hds) [] [] p8] sg dV kV doc pm an cdv tc) [a] []) (Sg : FnScope Ng [a] sg) (hNg : Ng[0]? = some a) (hva : Vis sg a)
    (h0 : ∀ f : Addr, (L2.start Ng [V.ref f])[0]? = some (some (V.ref f)))
    (hcl : ∀ s H, ClaOk (cxOf C8.CX0 X.prog X.w X.K X.mg X.base Ng x sg g cdv X.A X.stack s H C8.E0).nox (h₀ :: hds) (ct.map (claOf M i)))
    (TB : LamX.TabB X.base X.mg c P) (hcode : X.env.code = .ref c) (hmT : (P, X.env.qual ++ "<lambda>") ∈ M.tabs) (hu : ∀ p ∈ M.tabs, p.1 = P → p.2 = X.env.qual ++ "<lambda>") (hr : Room (k + 2) X.A) (L : LamX.LamS X.env.scope scope) (hdef : defaultsOf params X.env = ([], []))
    (hbind : ∀ (q : Str) (cl : List (Str × Addr)) (pm cv ctv : Value), bindArgs (PySem.W.kla_fn "<lambda>" q params body scope cl pm cv ctv) ⟨[], []⟩ = pure [])
    (hbody : ∀ (A : Around) (outer : List Env) (s : Shared) (H : Hp) (E : XK) (f c' : Addr), Room k (A.deeper (LamX.lamEnv X scope s.heap.objs.size f c')) → PE (LamX.lamCx X A outer s H E scope f c') body (tE M cl E C))
    (hdb : (x == ("__debug__" : Str)) = false := by decide) (hd : (a == ("__debug__" : Str)) = false := by decide) (hcd : (a == ("__classdict__" : Str)) = false := by decide) :
    PE X (.Call (.Name x p) [.Lambda params body scope lpos] [] pos) (tE M cl E (cMet ct s0 C)) :=
  PE.imp (LamX.pe_lamcall (T := M.tabs) (TT := TMetA X.K Ng.length (ct.map (claOf M i)) s0) (t := fun E => tE M cl E C) hg hm hk lk hcg hb Sg hNg hva (met_givesA h0 hcl) TB hcode hmT hu hr L hdef hbind hbody hdb hd hcd) fun _ _ _ h => by
    rw [fK]
    exact met_imA hi hxm hf hl h
/-- in a lambda's body -/
theorem passL {A : Around} {outer : List Env} {s : Shared} {H : Hp} {scope : Scope} {f c' : Addr} : Passes (L2.CX X.prog X.w) (LamX.lamCx X A outer s H E scope f c') E := passes_call (takes_of rfl rfl rfl rfl) (fun _ _ _ _ h => h)
theorem goodL {A : Around} {outer : List Env} {s : Shared} {H : Hp} {scope : Scope} {f c' : Addr} (G : Good X M) (hr : Room k (A.deeper (LamX.lamEnv X scope s.heap.objs.size f c'))) : Good (LamX.lamCx X A outer s H E scope f c') M := ⟨⟨G.P, G.w, G.K⟩, rfl, by have := hr.un; show (A.deeper (LamX.lamEnv X scope s.heap.objs.size f c')).units + 72 < cLine; omega⟩
end
end Eng
end
end

section
set_option maxRecDepth 100000
set_option maxHeartbeats 4000000
/-! Engine, part ZT: what the head is asked. -/
noncomputable section
namespace Eng
open PySem PySem.Spec L2
open PyProof.Rows hiding St
def slAd (K : PySem.W.Frag) (C : Addr) (f : Str) : Addr := match PySem.W.findIn K (.ref C) f with
  | some (some (.ref p)) => p
  | _ => 0
def cmAd (K : PySem.W.Frag) (C : Addr) (m : Str) : Addr := match PySem.W.findCls K (.ref C) (.type "type") m with
  | some (.get _ (.ref p) _ _) => p
  | _ => 0
/-- the places in super().__init__(text); self.f = x -/
def suB (st : List Stmt) : Nat × List Pos := match st with
  | [.Expr (.Call (.Attribute (.Call (.Name _ p0) _ _ p1) _ p2) [.Constant _ j p3] _ p4) p5, .Assign [.Attribute (.Name _ p6) _ p7] (.Name _ p8) p9] => (j, [p0, p1, p2, p3, p4, p5, p6, p7, p8, p9])
  | _ => (0, [])
theorem all_nil {α : Type} {p : α → Prop} : ∀ x ∈ ([] : List α), p x := fun x hx => nomatch hx
theorem all_cons {α : Type} {p : α → Prop} {a : α} {l : List α} (h : p a) (t : ∀ x ∈ l, p x) : ∀ x ∈ a :: l, p x := fun x hx => by
  rcases List.mem_cons.mp hx with e | e
  · rw [e]; exact h
  · exact t x e
/-- a generator expression's scope, checked -/
def genSB (sc scope : Scope) (N : List Str) (vs : List Nat) : Bool :=
  decide (scope.kind = .function) && !scope.isCoroutine && (scope.names.all fun y => !decide (y.2 = .cell) && (!decide (y.2 = .free) || decide (sc.names.lookup y.1 = some .cell) || decide (sc.names.lookup y.1 = some .free))) && decide (scope.names.lookup (".0" : Str) = some NameKind.local) &&
    (List.range N.length).all fun i => match N[i]? with
      | some y => !decide (scope.names.lookup y = some .local) || vs.contains i
      | none => true
theorem genS_by {sc scope : Scope} {N : List Str} {vs : List Nat} (h : genSB sc scope N vs = true) : GnX.GenS sc scope N vs := by
  unfold genSB at h
  simp only [Bool.and_eq_true, List.all_eq_true, decide_eq_true_eq, Bool.not_eq_true', Bool.or_eq_true, decide_eq_false_iff_not] at h
  obtain ⟨⟨⟨⟨h1, h2⟩, h3⟩, h4⟩, h5⟩ := h
  refine ⟨h1, h2, fun y hy => (h3 y hy).1, h4, fun y hy e => ?_, fun i y hi e => ?_⟩
  · rcases (h3 y hy).2 with (z | z) | z
    · exact absurd e z
    · exact .inl z
    · exact .inr z
  · have hl : i < N.length := (List.getElem?_eq_some_iff.mp hi).1
    have := h5 i (List.mem_range.mpr hl)
    rw [hi] at this
    simp only [Bool.or_eq_true, Bool.not_eq_true', decide_eq_false_iff_not, List.contains_iff_mem] at this
    rcases this with z | z
    · exact absurd e z
    · exact z
end Eng
end
end

section
set_option maxRecDepth 100000
set_option maxHeartbeats 4000000
/-! Engine, part ZU: a list of the heap walked: it is read only from now on. -/
noncomputable section
namespace Eng
open PySem PySem.Spec L2
open PyProof.Rows hiding St
def frlC (u : W) (h : EH) (f : List W → EH → Ans) : Ans := W.rec (motive_1 := fun _ => Ans) (motive_2 := fun _ => Unit) .bad (fun _ => .bad) (fun _ => .bad) (fun _ => .bad) (fun ws _ => f ws h) (fun ws _ => f ws h)
  (fun n => BT.getC h.t n fun o => MO.rec (motive := fun _ => Ans) (fun ws => BT.insC h.t n (.flc ws) fun t => f ws ⟨h.n, t⟩) (fun _ _ => .bad) (fun _ => .bad) (fun _ => .bad) (fun ws => f ws h) o) (fun _ => .bad) (fun _ => .bad) .bad () (fun _ _ _ _ => ()) u
def icSeqO (A : Code) : ICode := fun c s h x k => A c s h x fun u h => frlC u h k
section
variable {X : Cx} {M : Mo} {cl : Cl} {E : XK} {tg e : Expr} {A : Code}
/-- a list or a tuple; a list may be locked first -/
theorem pi_seqO {l : Expr} {tl : TE} (hl : PE X l tl) : PI X tg l (fun σ H R => tl σ H fun x H1 => ∃ a, x = .ref a ∧ (((∃ xs, SqL X.K H1 a xs) ∧ R (Itl X.K a) H1) ∨ ((∃ xs, SqT X.K H1 a xs) ∧ R (Itt X.K a) H1) ∨ ∃ xs, H1 a = some (.lst xs) ∧ ∀ od, R (Itl X.K a) (upd H1 a (.frz od (.lst xs))))) := by
  refine ⟨fun pins s0 σ H0 R I0 hw => thn (hl.run pins s0 σ H0 _ I0 hw) fun v s1 ⟨x, H1, I1, rx, b, eb, q⟩ => ?_⟩
  subst eb
  cases rx
  have fp : ∀ {H2}, Inv X pins σ H2 s1 → ∀ c ∈ [s1.heap.objs.size], FpOk X pins H2 c := fun I2 c hc => by
    rw [List.mem_singleton.mp hc]
    exact I2.fpOk (Nat.le_refl _) (I2.hok.fresh (Nat.le_refl _))
  rcases q with ⟨⟨xs, hq⟩, q⟩ | ⟨⟨xs, hq⟩, q⟩ | ⟨xs, hd, q⟩
  · obtain ⟨its, rv, pl, _⟩ := I1.list hq
    exact wpAny_pyIter_list pl.isList ⟨s1.heap.objs.size, [s1.heap.objs.size], _, _, H1, rfl, I1.kept (t' := s1.toks) fun c o z => Heap.get?_push_of_some _ z, turn_list b _, ⟨_, Heap.get?_push_size _ rfl, rfl, rfl⟩, fp I1, q⟩
  · obtain ⟨its, rv, pl, _⟩ := I1.tuple hq
    exact wpAny_pyIter_tuple (show s1.heap.IsTuple b its.toArray from pl) ⟨s1.heap.objs.size, [s1.heap.objs.size], _, _, H1, rfl, I1.kept (t' := s1.toks) fun c o z => Heap.get?_push_of_some _ z, turn_tuple b _, ⟨_, Heap.get?_push_size _ rfl, rfl, rfl⟩, fp I1, q⟩
  · obtain ⟨od, I2⟩ := I1.lock hd True.intro
    have hq : SqL X.K (upd H1 b (.frz od (.lst xs))) b xs := .inl (.inr ⟨od, upd_same⟩)
    obtain ⟨its, rv, pl, _⟩ := I2.list hq
    exact wpAny_pyIter_list pl.isList ⟨s1.heap.objs.size, [s1.heap.objs.size], _, _, _, rfl, I2.kept (t' := s1.toks) fun c o z => Heap.get?_push_of_some _ z, turn_list b _, ⟨_, Heap.get?_push_size _ rfl, rfl, rfl⟩, fp I2, q od⟩
theorem it_frz {r : Rg} {H : Hp} {p : Addr} {od : Obj} {ws : List W} {vs : List V} (hl : ws.length ≤ 16777216) (hd : H p = some (.frz od (.lst vs))) (l : RelWs M.K M.g r H ws vs) : ItOk M (Itl M.K p) r H ws where
  len := hl
  go := fun i r' H' e fk hi => by
    obtain ⟨v, e1, _⟩ := l.get (List.getElem?_eq_getElem hi)
    exact ⟨vs, v, .inl (.inr ⟨od, fk p _ _ hd⟩), e1⟩
  yld := fun i r' H' h' x H'' e fk hs hi ⟨e1, e2⟩ => by
    subst e1
    obtain ⟨v, e3, e4⟩ := (l.ext0 e).get (List.getElem?_eq_getElem hi)
    have := e2 vs (.inl (.inr ⟨od, fk p _ _ hd⟩))
    rw [e3] at this
    cases this
    exact ⟨fun a o q => q, ws[i], List.getElem?_eq_getElem hi, e4⟩
  stop := fun r' H' e fk => ⟨vs, .inl (.inr ⟨od, fk p _ _ hd⟩), by rw [l.length]; exact Nat.le_refl _⟩
theorem pic_seqO (f : Good X M) (he : PE X e (tE M cl E A)) : PI X tg e (tI M cl E (icSeqO A)) := PI.imp (pi_seqO he) fun σ H R ⟨a, t, h, x, k, r, At0, eq, P⟩ => by
  refine ⟨a, t, h, x, _, r, At0, eq, fun u h1 r1 v1 H1 e1 q1 hs1 eq1 => ?_⟩
  cases u with
  | tup ws =>
    obtain ⟨p, vs, e3, z, tt, l⟩ := (show ∃ a vs, v1 = .ref a ∧ ws.length ≤ 16777216 ∧ TupAt M.K r1 H1 a vs ∧ RelWs M.K M.g r1 H1 ws vs from q1)
    refine ⟨p, e3, .inr (.inl ⟨⟨vs, by rw [← f.K]; exact tt.sq⟩, ?_⟩)⟩
    rw [← f.K]
    exact P ws h1 r1 H1 _ e1 hs1 (it_tup z tt l) eq1
  | lst ws =>
    obtain ⟨p, vs, e3, z, tt, l⟩ := (show ∃ a vs, v1 = .ref a ∧ ws.length ≤ 16777216 ∧ LstAt M.K r1 H1 a vs ∧ RelWs M.K M.g r1 H1 ws vs from q1)
    refine ⟨p, e3, .inl ⟨⟨vs, SqL.of tt.1⟩, ?_⟩⟩
    rw [← f.K]
    exact P ws h1 r1 H1 _ e1 hs1 (it_list z tt l) eq1
  | ref n =>
    obtain ⟨p, e3, e4⟩ := (show ∃ a, v1 = .ref a ∧ r1.l[n]? = some a from q1)
    obtain ⟨o, ok, e5⟩ := hs1.at At0.good e4 eq1
    cases o with
    | lst ws =>
      obtain ⟨z, vs, e6, e7⟩ := ok
      obtain ⟨t', e8, e9⟩ := BT.insC_ok At0.good (show BT.insC h1.t n (.flc ws) (fun t => k ws ⟨h1.n, t⟩) = a from e5)
      refine ⟨p, e3, .inr (.inr ⟨vs, e6, fun od => ?_⟩)⟩
      obtain ⟨k1, k2⟩ := hs1.frzL (od := od) e4 e6 z e7 e8
      rw [← f.K]
      exact P ws ⟨h1.n, t'⟩ _ _ _ (e1.trans k2) k1 (it_frz z upd_same (e7.ext k2)) e9
    | flc ws =>
      obtain ⟨_, z, od, vs, e6, e7⟩ := ok
      refine ⟨p, e3, .inl ⟨⟨vs, .inl (.inr ⟨od, e6⟩)⟩, ?_⟩⟩
      rw [← f.K]
      exact P ws h1 r1 H1 _ e1 hs1 (it_frz z e6 e7) e5
    | ins c fs => exact absurd (show Ans.bad = a from e5).symm At0.good
    | dct kvs => exact absurd (show Ans.bad = a from e5).symm At0.good
    | fdc kvs => exact absurd (show Ans.bad = a from e5).symm At0.good
  | _ => exact absurd (show Ans.bad = a from eq1).symm At0.good
end
end Eng
end
end

section
set_option maxRecDepth 100000
set_option maxHeartbeats 4000000
/-! Engine, part ZV: codes run by rewriting (where numbers are not known). -/
noncomputable section
namespace Eng
open PySem PySem.Spec L2
open PyProof.Rows hiding St
/-! ### the draws, by steps -/
theorem ev_cvar (g : Gt) (c : Cl) (s : S4) (h : EH) (x : KX) (k : K1) : cVar g c s h x k = g s fun w => cU w (k w h) := rfl
theorem ev_g0 {a b c d : W} {t : S4} {k : W → Ans} : g0 (.mk a b c d t) k = k a := rfl
theorem ev_g1 {a b c d : W} {t : S4} {k : W → Ans} : g1 (.mk a b c d t) k = k b := rfl
theorem ev_g2 {a b c d : W} {t : S4} {k : W → Ans} : g2 (.mk a b c d t) k = k c := rfl
theorem ev_g3 {a b c d : W} {t : S4} {k : W → Ans} : g3 (.mk a b c d t) k = k d := rfl
theorem ev_up {a b c d : W} {t : S4} {k : W → Ans} {g : Gt} : gUp g (.mk a b c d t) k = g t k := rfl
theorem ev_s0 {a b c d w : W} {t : S4} {k : S4 → Ans} : s0 w (.mk a b c d t) k = k (.mk w b c d t) := rfl
theorem ev_s1 {a b c d w : W} {t : S4} {k : S4 → Ans} : s1 w (.mk a b c d t) k = k (.mk a w c d t) := rfl
theorem ev_s2 {a b c d w : W} {t : S4} {k : S4 → Ans} : s2 w (.mk a b c d t) k = k (.mk a b w d t) := rfl
theorem ev_s3 {a b c d w : W} {t : S4} {k : S4 → Ans} : s3 w (.mk a b c d t) k = k (.mk a b c w t) := rfl
theorem ev_sup {a b c d w : W} {t : S4} {k : S4 → Ans} {g : Stt} : sUp g w (.mk a b c d t) k = g w t fun t => k (.mk a b c d t) := rfl
theorem ev_ui {i : Int} {z : Ans} : cU (.int i) z = z := rfl
theorem ev_ur {i : Nat} {z : Ans} : cU (.ref i) z = z := rfl
theorem ev_us {i : Nat} {z : Ans} : cU (.sta i) z = z := rfl
theorem ev_ul {i : List W} {z : Ans} : cU (.lst i) z = z := rfl
theorem ev_ci {i : Int} {f : Int → Ans} : cI (.int i) f = f i := rfl
theorem ev_bin (f : BCode) (A B : Code) (c : Cl) (s : S4) (h : EH) (x : KX) (k : K1) : cBin f A B c s h x k = A c s h x fun u h => B c s h x fun w h => f u w h k := rfl
theorem ev_con (w : W) (c : Cl) (s : S4) (h : EH) (x : KX) (k : K1) : cCon w c s h x k = k w h := rfl
theorem ev_fn (f : FCode) (L : LCode) (c : Cl) (s : S4) (h : EH) (x : KX) (k : K1) : cFn f L c s h x k = L c s h x fun ws h => f ws h k := rfl
theorem ev_nil (c : Cl) (s : S4) (h : EH) (x : KX) (k : KL) : aNil c s h x k = k [] h := rfl
theorem ev_cons (A : Code) (L : LCode) (c : Cl) (s : S4) (h : EH) (x : KX) (k : KL) : aCons A L c s h x k = A c s h x fun u h => L c s h x fun us h => k (u :: us) h := rfl
theorem ev_asg (A : Code) (G : GCode) (c : Cl) (s : S4) (h : EH) (x : KX) (n : KN) (k : K1) (b ct : KN) : scAsg A G c s h x n k b ct = A c s h x fun u h => G u c s h x n := rfl
theorem ev_seq (A B : SCode) (c : Cl) (s : S4) (h : EH) (x : KX) (n : KN) (k : K1) (b ct : KN) : scSeq A B c s h x n k b ct = A c s h x (fun s h => B c s h x n k b ct) k b ct := rfl
theorem ev_if (T : TCode) (A B : SCode) (c : Cl) (s : S4) (h : EH) (x : KX) (n : KN) (k : K1) (b ct : KN) : scIf T A B c s h x n k b ct = T c s h x (fun h => A c s h x n k b ct) (fun h => B c s h x n k b ct) := rfl
theorem ev_ret (A : Code) (c : Cl) (s : S4) (h : EH) (x : KX) (n : KN) (k : K1) (b ct : KN) : scRet A c s h x n k b ct = A c s h x k := rfl
theorem ev_nop (c : Cl) (s : S4) (h : EH) (x : KX) (n : KN) (k : K1) (b ct : KN) : scNil c s h x n k b ct = n s h := rfl
theorem ev_name (g : Stt) (w : W) (c : Cl) (s : S4) (h : EH) (x : KX) (k : KN) : gcName g w c s h x k = g w s fun s => k s h := rfl
theorem ev_sub (A B : Code) (w : W) (c : Cl) (s : S4) (h : EH) (x : KX) (k : KN) : gcSub A B w c s h x k = A c s h x fun uo h => B c s h x fun ui h => fSet uo ui w h fun h => k s h := rfl
theorem ev_cmp (f : TB) (A B : Code) (c : Cl) (s : S4) (h : EH) (x : KX) (kt kf : EH → Ans) : cCmp f A B c s h x kt kf = A c s h x fun u h => B c s h x fun w h => f u w h (kt h) (kf h) := rfl
theorem ev_ite (T : TCode) (A B : Code) (c : Cl) (s : S4) (h : EH) (x : KX) (k : K1) : cIte T A B c s h x k = T c s h x (fun h => A c s h x k) (fun h => B c s h x k) := rfl
theorem ev_val (T : TCode) (c : Cl) (s : S4) (h : EH) (x : KX) (k : K1) : cVal T c s h x k = T c s h x (fun h => k (.bl true) h) (fun h => k (.bl false) h) := rfl
theorem ev_call (F : Cl → Fn) (L : LCode) (c : Cl) (s : S4) (h : EH) (x : KX) (k : K1) : cCall F L c s h x k = L c s h x fun ws h => F c ws h x k := rfl
theorem ev_int {i : Int} {h : EH} {k : K1} : fInt [.int i] h k = k (.int i) h := rfl
theorem ev_intb {b : Bool} {h : EH} {k : K1} : fInt [.bl b] h k = k (.int (if b = true then 1 else 0)) h := by cases b <;> rfl
theorem ev_gt {i j : Int} {h : EH} {t e : Ans} : tbI (fun i j => ltI j i) (.int i) (.int j) h t e = if j < i then t else e := by
  show cB (ltI j i) t e = _
  rw [ltI_eq, cB_eq]
  simp
theorem ev_lt {i j : Int} {h : EH} {t e : Ans} : tbLt (.int i) (.int j) h t e = if i < j then t else e := by
  have q : tbLt (.int i) (.int j) h t e = cB (ltI i j) t e := rfl
  rw [q, ltI_eq, cB_eq]
  simp
theorem ev_add {i j : Int} {h : EH} {k : K1} : fAddS (.int i) (.int j) h k = k (.int (i + j)) h := by
  have q : fAddS (.int i) (.int j) h k = addC i j fun n => k (.int n) h := rfl
  rw [q, addC_eq]
theorem ev_sb {i j : Int} {h : EH} {k : K1} : fSub (.int i) (.int j) h k = k (.int (i - j)) h := by
  have q : fSub (.int i) (.int j) h k = frI (Int.sub i j) fun n => k (.int n) h := rfl
  rw [q, frI_eq]
  rfl
theorem ev_mul {i j : Int} {h : EH} {k : K1} (hb : i.natAbs < 18446744073709551616 ∨ j.natAbs < 18446744073709551616) : fMulS false (.int i) (.int j) h k = k (.int (i * j)) h := by
  have q : fMulS false (.int i) (.int j) h k = mulB i j .bad fun n => k (.int n) h := rfl
  rw [q]
  unfold mulB
  rw [blt_eq, blt_eq, cB_eq, cB_eq, mulC_eq]
  by_cases h1 : i.natAbs < 18446744073709551616
  · simp [h1]
  · rcases hb with z | z
    · exact absurd z h1
    · simp [h1, z]
theorem ev_mod {i j : Int} {h : EH} {k : K1} (hb : 0 < j) : fMod (.int i) (.int j) h k = k (.int (i.fmod j)) h := by
  have q : fMod (.int i) (.int j) h k = modB i j .bad fun n => k (.int n) h := rfl
  rw [q]
  unfold modB
  rw [eqI_eq, cB_eq, frI_eq]
  have : ¬ j = 0 := by omega
  simp [this]
theorem ev_div {i j : Int} {h : EH} {k : K1} (hb : 0 < j) (hc : j.natAbs < 1073741824) : fDiv (.int i) (.int j) h k = k (.int (i.fdiv j)) h := by
  have q : fDiv (.int i) (.int j) h k = divB i j .bad fun n => k (.int n) h := rfl
  rw [q]
  unfold divB
  rw [eqI_eq, blt_eq, cB_eq, cB_eq, frI_eq]
  have : ¬ j = 0 := by omega
  simp [this, hc]
def crk (n : Nat) (a b c : Int) (l r : BT) : EH := ⟨n, .node (.lst [.int a, .int b, .int c]) l r⟩
section
variable {n : Nat} {a b c v : Int} {l r : BT} {k : K1} {kk : EH → Ans}
theorem ev_ix0 : fIx (.ref 0) (.int (.ofNat 0)) (crk n a b c l r) k = k (.int a) (crk n a b c l r) := rfl
theorem ev_ix1 : fIx (.ref 0) (.int (.ofNat 1)) (crk n a b c l r) k = k (.int b) (crk n a b c l r) := rfl
theorem ev_ix2 : fIx (.ref 0) (.int (.ofNat 2)) (crk n a b c l r) k = k (.int c) (crk n a b c l r) := rfl
theorem ev_st0 : fSet (.ref 0) (.int (.ofNat 0)) (.int v) (crk n a b c l r) kk = kk (crk n v b c l r) := rfl
theorem ev_st2 : fSet (.ref 0) (.int (.ofNat 2)) (.int v) (crk n a b c l r) kk = kk (crk n a b v l r) := rfl
end
end Eng
end
end

section
set_option maxRecDepth 100000
set_option maxHeartbeats 4000000
/-! Engine, part ZW: the head's facts, by checks. -/
noncomputable section
namespace Eng
open PySem PySem.Spec L2
open PyProof.Rows hiding St
/-! ### which objects are looked at -/
/-- new ones among as: m the mask of those that were met -/
def bfA {β : Type} (as : List Addr) (m : Nat) (out : List Addr) (k : Nat → List Addr → β) : β := List.rec (motive := fun _ => Nat → List Addr → β) (fun m out => k m out) (fun a _ ih m out => frN a fun a => cB (Nat.beq (Nat.mod (Nat.shiftRight m a) 2) 1) (ih m out) (frN (Nat.lor m (Nat.shiftLeft 1 a)) fun m => ih m (a :: out))) as m out
def bfR {β : Type} (g : Addr → Option Obj) (fr : List Addr) (m : Nat) (out : List Addr) (k : Nat → List Addr → β) : β := List.rec (motive := fun _ => Nat → List Addr → β) (fun m out => k m out) (fun a _ ih m out => bfA (match g a with
  | some o => He.refsD o
  | none => []) m out ih) fr m out
def bfS (g : Addr → Option Obj) (n : Nat) (fr : List Addr) (m : Nat) (all : List Addr) : List Addr := Nat.rec (motive := fun _ => List Addr → Nat → List Addr → List Addr) (fun _ _ all => all) (fun _ ih fr m all => bfR g fr m [] fun m new => ih new m (all ++ new)) n fr m all
def asZ (g : Addr → Option Obj) (n : Nat) : List Addr := bfA [mainGlobals, cStatics] 0 [] fun m fr => bfS g n fr m fr
/-! ### a def at an address -/
abbrev FnZ : Type := Option (Str × Str × Arguments × FuncBody × Scope)
def fnZ (K : PySem.W.Frag) (a : Addr) : FnZ := match K.lookup a with
  | some ⟨_, _, .func fd, _⟩ => some (fd.name, fd.qualname, fd.params, fd.body, fd.scope)
  | _ => none
def fnB (K : PySem.W.Frag) (a : Addr) (qual : Str) (dvs : List V) (kws : List (Str × V)) : Bool := PySem.W.keepIn K (.ref a) && (match K.lookup a with
  | some ⟨_, _, .func fd, _⟩ => PySem.W.codeIn K fd.code qual && (He.dflB K fd.defaults dvs && (He.kwdB K fd.kwdefaults kws && (decide (fd.globals = mainGlobals) && (fd.closure.isEmpty && decide (fd.builtins = builtinsNs)))))
  | _ => false)
theorem funD_of {K : PySem.W.Frag} {a : Addr} {name qual : Str} {params : Arguments} {body : List Stmt} {scope : Scope} {dvs : List V} {kws : List (Str × V)} (e : fnZ K a = some (name, qual, params, .stmts body, scope)) (c : fnB K a qual dvs kws = true) : ∃ fd, FunD K name qual params body scope dvs kws a fd := by
  obtain ⟨kp, c2⟩ := He.ba c
  unfold fnZ at e
  cases q : K.lookup a with
  | none =>
    rw [q] at c2
    cases c2
  | some o =>
    obtain ⟨oc, od, dt, osl⟩ := o
    rw [q] at c2 e
    cases dt with
    | func fd =>
      obtain ⟨n1, n2, n3, n4, n5, n6, n7, n8, n9, n10, n11, n12, n13, n14, n15⟩ := fd
      obtain ⟨c3, c4⟩ := He.ba c2
      obtain ⟨c5, c6⟩ := He.ba c4
      obtain ⟨c7, c8⟩ := He.ba c6
      obtain ⟨c9, c10⟩ := He.ba c8
      obtain ⟨c11, c12⟩ := He.ba c10
      have e2 : (some (n1, n2, n3, n4, n5) : FnZ) = some (name, qual, params, .stmts body, scope) := e
      simp only [Option.some.injEq, Prod.mk.injEq] at e2
      obtain ⟨h1, h2, h3, h4, h5⟩ := e2
      have h6 : n6 = mainGlobals := of_decide_eq_true c9
      have h7 : n7 = [] := List.isEmpty_iff.mp c11
      have h15 : n15 = builtinsNs := of_decide_eq_true c12
      subst h1 h2 h3 h4 h5 h6 h7 h15
      exact ⟨_, ⟨oc, od, n8, n9, n10, n11, n12, n13, n14, osl, rfl, q, c3, He.dflB_ok c5, He.kwdB_ok c7⟩, kp⟩
    | _ => cases c2
/-! ### own classes: a place for a name; 0: of the module, 1: a def of a class, 2: the def in a classmethod, 3: the def in a property -/
structure Pth where
  c : Str
  m : Str
  k : Nat
def recA (K : PySem.W.Frag) (p : Addr) (kind : String) : Addr := match PySem.W.recIn K p kind with
  | some (.ref g :: _) => g
  | _ => 0
def adZ (K : PySem.W.Frag) (p : Pth) : Addr := cB (Nat.beq p.k 0) (He.ga K p.c) (cB (Nat.beq p.k 1) (He.ma K (He.ga K p.c) p.m) (recA K (cmAd K (He.ga K p.c) p.m) "classmethod"))
def gzA (K : PySem.W.Frag) (ps : List Pth) (n : Nat) : Addr := adZ K (ps.getD n ⟨"", "", 0⟩)
def gZ (K : PySem.W.Frag) (ps : List Pth) (a0 : Addr) (n : Nat) : Addr := match n with
  | 0 => a0
  | n + 1 => gzA K ps n
/-- the i-th default of the def at f, if it is an object -/
def dflZ (K : PySem.W.Frag) (f : Addr) (i : Nat) : Addr := match K.lookup f with
  | some ⟨_, _, .func fd, _⟩ => (match fd.defaults with
    | .ref T => (match K.lookup T with
      | some ⟨_, _, .seq its _, _⟩ => (match its.toList.getD i .none with
        | .ref b => b
        | _ => 0)
      | _ => 0)
    | _ => 0)
  | _ => 0
/-! ### checks -/
section
variable {K : PySem.W.Frag} {h : Heap} {mg : Str → Option Value} {C p : Addr} {f : Str} {i : Nat}
theorem glo_of (X : K.In h) (G : h.Ns mainGlobals mg) {x : Str} {a : Addr} (c : He.eqO (PySem.W.nsIn K mainGlobals x) (some (some (.ref a))) = true) : mg x = some (.ref a) := PySem.W.mg_of X G (He.eqO_ok c)
def intB (K : PySem.W.Frag) (x : Str) (i : Int) : Bool := (He.Fa.int x i).ok K
def tstB (K : PySem.W.Frag) (x z : Str) : Bool := (He.Fa.str x z).ok K
theorem int_of (X : K.In h) (G : h.Ns mainGlobals mg) {x : Str} {i : Int} (c : intB K x i = true) : ∃ t, mg x = some (.int i t) := He.int_ok X G c
theorem str_of (X : K.In h) (G : h.Ns mainGlobals mg) {x z : Str} (c : tstB K x z = true) : ∃ t, mg x = some (.str z t) := He.str_ok X G c
def sclB (K : PySem.W.Frag) (C : Addr) : Bool := PySem.W.plainGet K C Str.empty && (PySem.W.isClsIn K C && (PySem.W.plainOver K C && He.eqO (PySem.W.findIn K (.ref C) "__setattr__") (some (some (.builtin "object.__setattr__")))))
theorem sclB_ok (c : sclB K C = true) : SlX.SCls K C := by
  obtain ⟨c1, c⟩ := He.ba c
  obtain ⟨c2, c⟩ := He.ba c
  obtain ⟨c3, c4⟩ := He.ba c
  exact ⟨c1, c2, c3, He.eqO_ok c4⟩
def slotB (K : PySem.W.Frag) (C : Addr) (f : Str) (i : Nat) : Bool := He.eqO (PySem.W.findIn K (.ref C) f) (some (some (.ref (slAd K C f)))) && (He.eqO (PySem.W.specialIn K (.ref (slAd K C f)) "__get__") (some (some (.builtin "member_descriptor.__get__"))) && (decide (PySem.W.takesIn K (.ref (slAd K C f)) = some true) &&
  (decide (PySem.W.typeIn K (.ref (slAd K C f)) = some (.type "member_descriptor")) && (decide (PySem.W.slotIn K (slAd K C f) C = some i) && decide (i < 1000)))))
theorem slotB_ok (c : slotB K C f i = true) : SlX.Slot1 K C f (slAd K C f) i := by
  obtain ⟨c1, c⟩ := He.ba c
  obtain ⟨c2, c⟩ := He.ba c
  obtain ⟨c3, c⟩ := He.ba c
  obtain ⟨c4, c⟩ := He.ba c
  obtain ⟨c5, c6⟩ := He.ba c
  exact ⟨He.eqO_ok c1, He.eqO_ok c2, of_decide_eq_true c3, of_decide_eq_true c4, of_decide_eq_true c5, of_decide_eq_true c6⟩
def methB (K : PySem.W.Frag) (C : Addr) (m : Str) (f : Addr) : Bool := He.eqO (PySem.W.findIn K (.ref C) m) (some (some (.ref f))) && (PySem.W.isFn K (.ref f) && PySem.W.keepIn K (.ref f))
theorem methB_ok {m : Str} {f : Addr} (c : methB K C m f = true) : Meth K C m f := by
  obtain ⟨c1, c⟩ := He.ba c
  obtain ⟨c2, c3⟩ := He.ba c
  exact ⟨He.eqO_ok c1, c2, c3⟩
def mkB (K : PySem.W.Frag) (C f : Addr) : Bool := PySem.W.makesIn K C && (He.eqO (PySem.W.findIn K (.ref C) "__init__") (some (some (.ref f))) && (PySem.W.isFn K (.ref f) && PySem.W.keepIn K (.ref C)))
theorem mkB_ok {f : Addr} (c : mkB K C f = true) : Mk K C f := by
  obtain ⟨c1, c⟩ := He.ba c
  obtain ⟨c2, c⟩ := He.ba c
  obtain ⟨c3, c4⟩ := He.ba c
  exact ⟨c1, He.eqO_ok c2, c3, c4⟩
def sisB (K : PySem.W.Frag) (C : Addr) : Bool := He.eqO (PySem.W.findIn K (.ref C) "__class__") (some (some (.builtin "object.__class__"))) && (He.eqO (PySem.W.specialIn K (.builtin "object.__class__") "__get__") (some (some (.builtin "getset_descriptor.__get__"))) && (decide (PySem.W.takesIn K (.builtin "object.__class__") = some true) && decide (PySem.W.mroIn K C (.type "object") = some true)))
theorem sisB_ok (c : sisB K C = true) : SlX.SIsi K C := by
  obtain ⟨c1, c⟩ := He.ba c
  obtain ⟨c2, c⟩ := He.ba c
  obtain ⟨c3, c4⟩ := He.ba c
  exact ⟨He.eqO_ok c1, He.eqO_ok c2, of_decide_eq_true c3, of_decide_eq_true c4⟩
/-- isinstance(x, C): the classes ns of instances, which of them is C's -/
def isiB (K : PySem.W.Frag) (c : Value) (ns : List (Addr × Bool)) : Bool := (["NoneType", "bool", "int", "str", "tuple", "list", "dict"].all fun t => decide (PySem.W.kitOne K (.type t) c = some false)) && ns.all fun q => sclB K q.1 && (sisB K q.1 && decide (PySem.W.kitOne K (.ref q.1) c = some q.2))
theorem isiB_ok {c : Value} {ns : List (Addr × Bool)} {g : Nat → Addr} {ins : Nat → Option Bool} (e : isiB K c ns = true) (hi : ∀ n b, ins n = some b → (g n, b) ∈ ns) : IsiOk K g c ⟨false, false, false, false, false, false, false, ins⟩ := by
  obtain ⟨c1, c2⟩ := He.ba e
  have q : ∀ t ∈ ["NoneType", "bool", "int", "str", "tuple", "list", "dict"], PySem.W.kitOne K (.type t) c = some false := fun t ht => of_decide_eq_true (List.all_eq_true.mp c1 t ht)
  refine ⟨q _ (by simp), q _ (by simp), q _ (by simp), q _ (by simp), q _ (by simp), q _ (by simp), q _ (by simp), fun n b hb => ?_⟩
  obtain ⟨d1, d⟩ := He.ba (List.all_eq_true.mp c2 _ (hi n b hb))
  obtain ⟨d2, d3⟩ := He.ba d
  exact ⟨sclB_ok d1, sisB_ok d2, of_decide_eq_true d3⟩
theorem isi_nil {g : Nat → Addr} {ns : List (Addr × Bool)} : ∀ n b, (none : Option Bool) = some b → (g n, b) ∈ ns := fun _ _ h => nomatch h
theorem isi_cons {g : Nat → Addr} {ns : List (Addr × Bool)} {ins : Nat → Option Bool} {m : Nat} {x : Bool} (h1 : (g m, x) ∈ ns) (h : ∀ n b, ins n = some b → (g n, b) ∈ ns) : ∀ n b, cB (Nat.beq n m) (some x) (ins n) = some b → (g n, b) ∈ ns := fun n b e => by
  rw [cBn] at e
  by_cases z : n = m
  · rw [if_pos z] at e
    cases e
    rw [z]
    exact h1
  · rw [if_neg z] at e
    exact h n b e
def exB (K : PySem.W.Frag) (C : Addr) (bm : List Value) (new : String) : Bool := PySem.W.excIn K C bm new
def subEB (K : PySem.W.Frag) (C : Addr) : Bool := decide (PySem.W.subIn K (.ref C) (.type "BaseException") = some true)
theorem subEB_ok (c : subEB K C = true) : PySem.W.subIn K (.ref C) (.type "BaseException") = some true := of_decide_eq_true c
def tyB (K : PySem.W.Frag) (C : Addr) (t : String) : Bool := decide (PySem.W.typeIn K (.ref C) = some (.type t))
theorem tyB_ok {t : String} (c : tyB K C t = true) : PySem.W.typeIn K (.ref C) = some (.type t) := of_decide_eq_true c
def crB (K : PySem.W.Frag) (C : Addr) : Bool := PySem.W.readsIn K C (.type "type") && He.eqO (PySem.W.specialIn K (.ref C) "__getattribute__") (some (some (.builtin "type.__getattribute__")))
theorem crB_ok (c : crB K C = true) : ClX.CRead K C (.type "type") := by
  obtain ⟨c1, c2⟩ := He.ba c
  exact ⟨c1, He.eqO_ok c2⟩
def cmB (K : PySem.W.Frag) (C : Addr) (m : Str) (g : Addr) : Bool := (match PySem.W.findCls K (.ref C) (.type "type") m with
  | some (.get (.builtin s) (.ref p) .none (.ref c)) => decide (s = "classmethod.__get__") && (decide (p = cmAd K C m) && decide (c = C))
  | _ => false) && ((match PySem.W.recIn K (cmAd K C m) "classmethod" with
  | some (.ref a :: _) => decide (a = g)
  | _ => false) && PySem.W.fnIn K g)
theorem cmB_ok {m : Str} {g : Addr} (c : cmB K C m g = true) : ClX.CMet K C (.type "type") m (cmAd K C m) g := by
  obtain ⟨c1, c⟩ := He.ba c
  obtain ⟨c2, c3⟩ := He.ba c
  refine ⟨?_, ?_, c3⟩
  · split at c1
    · rename_i s p c0 e
      obtain ⟨d1, d⟩ := He.ba c1
      obtain ⟨d2, d3⟩ := He.ba d
      have d1 := of_decide_eq_true d1
      have d2 := of_decide_eq_true d2
      have d3 := of_decide_eq_true d3
      rw [e, d1, ← d2, d3]
    · cases c1
  · split at c2
    · rename_i a r e
      exact ⟨r, by rw [e, of_decide_eq_true c2]⟩
    · cases c2
/-! ### constants -/
mutual
def cnB (K : PySem.W.Frag) : W → Value → Bool
  | .non, .none => true
  | .bl b, .bool c => decide (b = c)
  | .int i, .int j _ => decide (i = j)
  | .str s, .str t _ => decide (s = t)
  | .tup ws, .ref a => (match K.lookup a with
    | some ⟨.type c, _, .seq its _, _⟩ => decide (c = "tuple") && (decide (its.size ≤ sizeLine) && (decide (ws.length ≤ 16777216) && cnsB K ws its.toList))
    | _ => false)
  | _, _ => false
def cnsB (K : PySem.W.Frag) : List W → List Value → Bool
  | [], [] => true
  | w :: ws, v :: vs => cnB K w v && cnsB K ws vs
  | _, _ => false
end
mutual
theorem cnB_ok : ∀ {w : W} {u : Value}, cnB K w u = true → ∃ v, RelV v u ∧ ∀ g r H, RelW K g r H w v
  | .non, u, c => by
    cases u with
    | none => exact ⟨.non, rfl, fun _ _ _ => rfl⟩
    | _ => simp [cnB] at c
  | .bl b, u, c => by
    cases u with
    | bool d => simp [cnB] at c; exact ⟨.bl b, by rw [c]; exact rfl, fun _ _ _ => rfl⟩
    | _ => simp [cnB] at c
  | .int i, u, c => by
    cases u with
    | int j t => simp [cnB] at c; exact ⟨.int i, ⟨t, by rw [c]⟩, fun _ _ _ => rfl⟩
    | _ => simp [cnB] at c
  | .str i, u, c => by
    cases u with
    | str j t => simp [cnB] at c; exact ⟨.str i, ⟨t, by rw [c]⟩, fun _ _ _ => rfl⟩
    | _ => simp [cnB] at c
  | .tup ws, u, c => by
    cases u with
    | ref a =>
      unfold cnB at c
      split at c
      · rename_i t _ its _ _ e
        obtain ⟨c1, c⟩ := He.ba c
        obtain ⟨c2, c⟩ := He.ba c
        obtain ⟨c3, c4⟩ := He.ba c
        have c1 := of_decide_eq_true c1
        subst c1
        obtain ⟨vs, rv, h⟩ := cnsB_ok c4
        exact ⟨.ref a, rfl, fun g r H => ⟨a, vs, rfl, of_decide_eq_true c3, .inr ⟨_, its, _, e, rfl, rfl, of_decide_eq_true c2, rv⟩, h g r H⟩⟩
      · cases c
    | _ => simp [cnB] at c
  | .lst ws, u, c => by cases u <;> simp [cnB] at c
  | .ref n, u, c => by cases u <;> simp [cnB] at c
  | .sta n, u, c => by cases u <;> simp [cnB] at c
  | .ty n, u, c => by cases u <;> simp [cnB] at c
  | .und, u, c => by cases u <;> simp [cnB] at c
theorem cnsB_ok : ∀ {ws : List W} {us : List Value}, cnsB K ws us = true → ∃ vs, Vals vs us ∧ ∀ g r H, RelWs K g r H ws vs
  | [], us, c => by
    cases us with
    | nil => exact ⟨[], .nil, fun _ _ _ => rfl⟩
    | cons _ _ => simp [cnsB] at c
  | w :: ws, us, c => by
    cases us with
    | nil => simp [cnsB] at c
    | cons u us =>
      obtain ⟨c1, c2⟩ := He.ba (show (cnB K w u && cnsB K ws us) = true from c)
      obtain ⟨v, rv, hv⟩ := cnB_ok c1
      obtain ⟨vs, rvs, hvs⟩ := cnsB_ok c2
      exact ⟨v :: vs, .cons rv rvs, fun g r H => ⟨v, vs, rfl, hv g r H, hvs g r H⟩⟩
end
theorem cnB_ref {w : W} {a : Addr} (c : cnB K w (.ref a) = true) (g : Nat → Addr) : ∀ r H, RelW K g r H w (.ref a) := fun r H => by
  obtain ⟨v, rv, h⟩ := cnB_ok c
  have e : v = .ref a := by
    cases v with
    | ref b => rw [Value.ref.inj (show Value.ref a = Value.ref b from rv)]
    | int i => obtain ⟨t, z⟩ := (show ∃ t, Value.ref a = .int i t from rv); cases z
    | str i => obtain ⟨t, z⟩ := (show ∃ t, Value.ref a = .str i t from rv); cases z
    | byt i => obtain ⟨t, z⟩ := (show ∃ t, Value.ref a = .bytes i t from rv); cases z
    | flt i => obtain ⟨t, z⟩ := (show ∃ t, Value.ref a = .float i t from rv); cases z
    | non => cases (show Value.ref a = .none from rv)
    | bl b => cases (show Value.ref a = .bool b from rv)
    | ty b => cases (show Value.ref a = .type b from rv)
  rw [← e]
  exact h g r H
def kdsB (K : PySem.W.Frag) : List DictEntry → List (Int × W) → Bool
  | [], [] => true
  | e :: r, q :: kvs => (match e.key with
    | .int i _ => decide (i = q.1)
    | _ => false) && (decide (e.hash = hashInt q.1) && (cnB K q.2 e.val && kdsB K r kvs))
  | _, _ => false
theorem kdsB_ok {M : Mo} (hK : M.K = K) : ∀ {es : List DictEntry} {kvs : List (Int × W)}, kdsB K es kvs = true → KDiE M es kvs
  | [], [], _ => rfl
  | [], _ :: _, c => by cases c
  | _ :: _, [], c => by cases c
  | e :: r, q :: kvs, c => by
    obtain ⟨c1, c⟩ := He.ba c
    obtain ⟨c2, c⟩ := He.ba c
    obtain ⟨c3, c4⟩ := He.ba c
    obtain ⟨v, rv, hv⟩ := cnB_ok c3
    split at c1
    · rename_i i t ek
      have c1 : i = q.1 := of_decide_eq_true c1
      exact ⟨q.1, q.2, t, kvs, rfl, by rw [ek, c1], of_decide_eq_true c2, ⟨v, rv, fun rr H => by rw [hK]; exact hv M.g rr H⟩, kdsB_ok hK c4⟩
    · cases c1
def kdB (K : PySem.W.Frag) (d : Addr) (kvs : List (Int × W)) : Bool := !(d == sysModules) && (match K.lookup d with
  | some ⟨.type c, none, .dict es _, sl⟩ => decide (c = "dict") && (sl.isEmpty && kdsB K es.toList kvs)
  | _ => false)
theorem kdB_ok {M : Mo} (hK : M.K = K) {d : Addr} {kvs : List (Int × W)} (c : kdB K d kvs = true) : KDi M d kvs := by
  obtain ⟨c1, c⟩ := He.ba c
  split at c
  · rename_i t es n sl e
    obtain ⟨c2, c⟩ := He.ba c
    obtain ⟨c3, c4⟩ := He.ba c
    have c2 := of_decide_eq_true c2
    have c3 : sl = #[] := Array.isEmpty_iff.mp c3
    subst c2 c3
    exact ⟨es, n, by rw [hK]; exact e, by simpa using c1, kdsB_ok hK c4⟩
  · cases c
/-! ### an own exception with a field -/
def supB (P : Program) (K : PySem.W.Frag) (B newId initId : String) (bmB : List Value) (C f : Addr) (qual fld : Str) : Bool :=
  PySem.W.excInitIn K C bmB newId && (PySem.W.excOver K C bmB && ((match PySem.W.clsIn K C with
    | some cd => cd.hasDict && He.eqO (PySem.W.alongIn K "__init__" ((cd.mro.dropWhile (· != .ref C)).drop 1)) (some (some (.builtin initId)))
    | none => false) && (decide (PySem.W.mroIn K C (.ref C) = some true) && (decide (PySem.W.subIn K (.ref C) (.type B) = some true) && (He.eqO (PySem.W.findIn K (.ref C) "__init__") (some (some (.ref f))) &&
    (He.eqO (PySem.W.findIn K (.ref C) "__setattr__") (some (some (.builtin "object.__setattr__"))) && (He.eqO (PySem.W.takerIn K C fld) (some none) && (He.eqO (PySem.W.nsIn K cStatics "thirdparty.any") (some none) &&
    (match K.lookup f with
    | some ⟨oc, _, .func fd, _⟩ => decide (oc = .type "function") && (decide (fd.globals = mainGlobals) && (decide (fd.builtins = builtinsNs) && ((decide (fd.defaults = .none) && decide (fd.kwdefaults = .none)) && ((match fd.code with
      | .ref cda => PySem.W.codeIn K (.ref cda) qual && (match K.lookup cda with
        | some ⟨_, _, .fields vs, _⟩ => (match vs[2]? with
          | some (Value.str file _) => ((P.main.file : Str) == file)
          | _ => false)
        | _ => false)
      | _ => false) && (match fd.closure with
      | [(x, cc)] => decide (x = "__class__") && (match K.lookup cc with
        | some ⟨_, _, .cell (some (.ref c)), _⟩ => decide (c = C)
        | _ => false)
      | _ => false)))))
    | _ => false)))))))))
theorem supB_ok {P : Program} {B newId initId : String} {bmB : List Value} {f : Addr} {name qual x0 x1 fld msg : Str} {j : Nat} {scope : Scope} {params : Arguments} {p : Nat → Pos}
    (e : fnZ K f = some (name, qual, params, .stmts [.Expr (.Call (.Attribute (.Call (.Name "super" (p 0)) [] [] (p 1)) "__init__" (p 2)) [.Constant (.str msg) j (p 3)] [] (p 4)) (p 5), .Assign [.Attribute (.Name x0 (p 6)) fld (p 7)] (.Name x1 (p 8)) (p 9)], scope)) (c : supB P K B newId initId bmB C f qual fld = true)
    (kind : scope.kind = .function) (co : scope.isCoroutine = false) (gen : scope.isGenerator = false) (cell : (scope.names.all fun y => !decide (y.2 = .cell)) = true) (n0 : scope.names.lookup x0 = some .local) (n1 : scope.names.lookup x1 = some .local) (ne : x1 ≠ x0) (ks : scope.names.lookup ("super" : Str) = some .globalImplicit)
    (kcl : scope.names.lookup ("__class__" : Str) = some .free) (d0 : (x0 == ("__debug__" : Str)) = false) (d1 : (x1 == ("__debug__" : Str)) = false) (top : (P.main.scope.names.lookup ("super" : Str)).isSome = false) (pa : ∃ ar, (params.posonlyargs ++ params.args).head? = some ar ∧ ar.arg = x0)
    (mc : ∀ env : Env, ∃ pl : Sem Bool, eval (.Call (.Attribute (.Call (.Name "super" (p 0)) [] [] (p 1)) "__init__" (p 2)) [.Constant (.str msg) j (p 3)] [] (p 4)) env = (do
      let ov ← attributeBase (.Call (.Name "super" (p 0)) [] [] (p 1)) "__init__" env (eval (.Call (.Name "super" (p 0)) [] [] (p 1)) env)
      standAt (p 2).atName
      let (f, first) ← holding [ov] (getMethod ov "__init__" pl)
      callWith (p 4) f first (backTo (p 4) (starEach [.Constant (.str msg) j (p 3)] env)) []))
    (bind : ∀ (name qual : Str) (body : List Stmt) (scope : Scope) (doc pm : Value) (an : Option Addr) (cdv ct : Value) (cc : Addr) (u v : Value), bindArgs (PySem.W.ksFn name qual params body scope .none .none doc pm an cdv ct cc) ⟨[u, v], []⟩ = pure [(x0, u), (x1, v)]) :
    SupX.SupC P K B newId initId bmB C f name qual x0 x1 fld msg j scope params p := by
  obtain ⟨c1, c⟩ := He.ba c
  obtain ⟨c2, c⟩ := He.ba c
  obtain ⟨c3, c⟩ := He.ba c
  obtain ⟨c4, c⟩ := He.ba c
  obtain ⟨c5, c⟩ := He.ba c
  obtain ⟨c6, c⟩ := He.ba c
  obtain ⟨c7, c⟩ := He.ba c
  obtain ⟨c8, c⟩ := He.ba c
  obtain ⟨c9, c⟩ := He.ba c
  refine ⟨c1, c2, ?_, of_decide_eq_true c4, of_decide_eq_true c5, He.eqO_ok c6, He.eqO_ok c7, He.eqO_ok c8, He.eqO_ok c9, ?_, kind, co, gen, fun y hy => by simpa using List.all_eq_true.mp cell y hy, n0, n1, ne, ks, kcl, d0, d1, top, pa, mc, bind⟩
  · split at c3
    · rename_i cd e2
      obtain ⟨h1, h2⟩ := He.ba c3
      exact ⟨cd, e2, h1, He.eqO_ok h2⟩
    · cases c3
  · unfold fnZ at e
    cases q : K.lookup f with
    | none =>
      rw [q] at c
      cases c
    | some o =>
      obtain ⟨oc, od, dt, osl⟩ := o
      rw [q] at c e
      cases dt with
      | func fd =>
        obtain ⟨m1, m2, m3, m4, m5, m6, m7, m8, m9, m10, m11, m12, m13, m14, m15⟩ := fd
        obtain ⟨k1, c⟩ := He.ba c
        obtain ⟨k2, c⟩ := He.ba c
        obtain ⟨k3, c⟩ := He.ba c
        obtain ⟨k6, c⟩ := He.ba c
        obtain ⟨k7, k8⟩ := He.ba k6
        have h8 : m8 = .none := of_decide_eq_true k7
        have h9 : m9 = .none := of_decide_eq_true k8
        obtain ⟨k4, k5⟩ := He.ba c
        have e2 : (some (m1, m2, m3, m4, m5) : FnZ) = some (name, qual, params, .stmts _, scope) := e
        simp only [Option.some.injEq, Prod.mk.injEq] at e2
        obtain ⟨h1, h2, h3, h4, h5⟩ := e2
        have h6 : m6 = mainGlobals := of_decide_eq_true k2
        have h15 : m15 = builtinsNs := of_decide_eq_true k3
        have k1 := of_decide_eq_true k1
        cases m13 with
        | ref cda =>
          obtain ⟨l1, l2⟩ := He.ba k4
          cases m7 with
          | nil => cases k5
          | cons y ys =>
            obtain ⟨x, cc⟩ := y
            cases ys with
            | cons _ _ => cases k5
            | nil =>
              obtain ⟨r1, r2⟩ := He.ba k5
              have r1 := of_decide_eq_true r1
              subst h1 h2 h3 h4 h5 h6 h8 h9 h15 r1
              refine ⟨oc, od, osl, m10, m11, m12, cda, m14, cc, rfl, k1, l1, ?_, ?_⟩
              · cases q2 : K.lookup cda with
                | none => rw [q2] at l2; cases l2
                | some o2 =>
                  obtain ⟨ccl, cdd, dt2, ccs⟩ := o2
                  rw [q2] at l2
                  cases dt2 with
                  | fields vs =>
                    have l2 : (match vs[2]? with
                      | some (Value.str file _) => ((P.main.file : Str) == file)
                      | _ => false) = true := l2
                    split at l2
                    · rename_i file t e3
                      exact ⟨ccl, cdd, vs, ccs, file, t, rfl, e3, l2⟩
                    · cases l2
                  | _ => cases l2
              · cases q2 : K.lookup cc with
                | none => rw [q2] at r2; cases r2
                | some o2 =>
                  obtain ⟨ccl, cdd, dt2, ccs⟩ := o2
                  rw [q2] at r2
                  cases dt2 with
                  | cell v =>
                    cases v with
                    | none => cases r2
                    | some v =>
                      cases v with
                      | ref c0 =>
                        have r2 : c0 = C := of_decide_eq_true r2
                        subst r2
                        exact ⟨ccl, cdd, ccs, rfl⟩
                      | _ => cases r2
                  | _ => cases r2
        | _ => cases k4
      | _ => cases c
def exmB (K : PySem.W.Frag) (ns : List Addr) : Bool := ns.all fun a => ns.all fun b => decide (PySem.W.exmOne K (.ref a) (.ref b) = some (Nat.beq a b))
/-! ### tables of code objects -/
def codA (K : PySem.W.Frag) (a : Addr) : Addr := match K.lookup a with
  | some ⟨_, _, .func fd, _⟩ => (match fd.code with
    | .ref c => c
    | _ => 0)
  | _ => 0
def tabA (K : PySem.W.Frag) (a : Addr) : Addr := He.tabOf K (codA K a)
theorem codA_eq {a : Addr} {oc : Value} {od : Option Addr} {osl : Array (Option Value)} {fd : FuncData} {c : Addr} (lk : K.lookup a = some ⟨oc, od, .func fd, osl⟩) (e : fd.code = .ref c) : codA K a = c := by
  unfold codA
  rw [lk]
  show (match fd.code with | .ref c => c | _ => 0) = c
  rw [e]
/-- all names of a table are one -/
def tabU (tabs : List (Addr × Str)) : Bool := tabs.all fun p => tabs.all fun q => !decide (p.1 = q.1) || decide (p.2 = q.2)
theorem tabU_ok {tabs : List (Addr × Str)} (c : tabU tabs = true) {P : Addr} {q : Str} (hm : (P, q) ∈ tabs) : ∀ p ∈ tabs, p.1 = P → p.2 = q := fun p hp e => by
  have := List.all_eq_true.mp (List.all_eq_true.mp c p hp) _ hm
  simp only [Bool.or_eq_true, Bool.not_eq_true', decide_eq_false_iff_not, decide_eq_true_eq] at this
  exact this.resolve_left (fun n => n e)
end
/-! ### the Hook -/
structure SaysZ (ats : List (PySem.W.Frag → Addr)) (vs : List FnZ) (tf : List (PySem.W.Frag → Addr)) (ex : PySem.W.Frag → Bool) (h : Heap) (K : PySem.W.Frag) : Prop where
  fn : ats.map (fun a => fnZ K (a K)) = vs
  more : ex K = true
  hd : ∀ p ∈ tf, PySem.W.codeHdIn K (codA K (p K)) (tabA K (p K)) = true
  out : ∀ p ∈ tf, K.lookup (tabA K (p K)) = none
  empty : ∀ p ∈ tf, h.get? (tabA K (p K)) = some { cls := .none, data := .fields #[] }
def tabsZ (g : Addr → Option Obj) (tf : List (PySem.W.Frag → Addr)) (K : PySem.W.Frag) : Bool := tf.all fun p => PySem.W.codeHdIn K (codA K (p K)) (tabA K (p K)) && (match g (tabA K (p K)) with
  | some o => He.emptyTab o
  | none => false)
abbrev AlZ : Type := List FnZ × Bool
def obsK (ats : List (PySem.W.Frag → Addr)) (tf : List (PySem.W.Frag → Addr)) (ex : PySem.W.Frag → Bool) (g : Addr → Option Obj) (K : PySem.W.Frag) : AlZ := (ats.map (fun a => fnZ K (a K)), ex K && tabsZ g tf K)
def obsZ (n : Nat) (ats : List (PySem.W.Frag → Addr)) (tf : List (PySem.W.Frag → Addr)) (ex : PySem.W.Frag → Bool) (g : Addr → Option Obj) : AlZ := obsK ats tf ex g (He.frT g (asZ g n))
theorem saysZ_of {n : Nat} {ats : List (PySem.W.Frag → Addr)} {vs : List FnZ} {tf : List (PySem.W.Frag → Addr)} {ex : PySem.W.Frag → Bool} {h : Heap} (e : obsZ n ats tf ex h.get? = (vs, true)) : SaysZ ats vs tf ex h (He.frT h.get? (asZ h.get? n)) := by
  have e1 := congrArg (fun z : AlZ => z.1) e
  have e2 : (ex (He.frT h.get? (asZ h.get? n)) && tabsZ h.get? tf (He.frT h.get? (asZ h.get? n))) = true := congrArg (fun z : AlZ => z.2) e
  obtain ⟨h1, h2⟩ := He.ba e2
  have key : ∀ p ∈ tf, PySem.W.codeHdIn (He.frT h.get? (asZ h.get? n)) (codA (He.frT h.get? (asZ h.get? n)) (p (He.frT h.get? (asZ h.get? n)))) (tabA (He.frT h.get? (asZ h.get? n)) (p (He.frT h.get? (asZ h.get? n)))) = true ∧ ∃ o, h.get? (tabA (He.frT h.get? (asZ h.get? n)) (p (He.frT h.get? (asZ h.get? n)))) = some o ∧ He.emptyTab o = true := fun p hp => by
    obtain ⟨h3, h4⟩ := He.ba (List.all_eq_true.mp h2 p hp)
    refine ⟨h3, ?_⟩
    cases q : h.get? (tabA (He.frT h.get? (asZ h.get? n)) (p (He.frT h.get? (asZ h.get? n)))) with
    | none =>
      rw [q] at h4
      cases h4
    | some o =>
      rw [q] at h4
      exact ⟨o, rfl, h4⟩
  exact ⟨e1, h1, fun p hp => (key p hp).1, fun p hp => by
    obtain ⟨_, o, q, z⟩ := key p hp
    exact He.frT_none q z, fun p hp => by
    obtain ⟨_, o, q, z⟩ := key p hp
    rw [q, He.emptyTab_eq z]⟩
def hookZ (n : Nat) (ats : List (PySem.W.Frag → Addr)) (vs : List FnZ) (tf : List (PySem.W.Frag → Addr)) (ex : PySem.W.Frag → Bool) : PySem.W.Hook where
  α := AlZ
  obs := fun s => obsZ n ats tf ex s.heap.get?
  val := fun _ => (vs, true)
  says := fun _ h => ∃ K : PySem.W.Frag, K.In h ∧ SaysZ ats vs tf ex h K
  of := fun _ _ e => ⟨_, He.frT_in, saysZ_of e⟩
  keeps := fun _ _ _ ⟨K, hK, c⟩ k => ⟨K, PySem.W.Frag.In.keeps hK k, ⟨c.fn, c.more, c.hd, c.out, fun p hp => k _ _ (c.empty p hp)⟩⟩
theorem obsZ_eq {n : Nat} {ats : List (PySem.W.Frag → Addr)} {vs : List FnZ} {tf : List (PySem.W.Frag → Addr)} {ex : PySem.W.Frag → Bool} {g : Addr → Option Obj} {s : Shared} (h : ∀ a, g a = s.heap.get? a) : obsZ n ats tf ex g = (hookZ n ats vs tf ex).obs s := by
  have e : g = s.heap.get? := funext h
  rw [e] <;> rfl
theorem SaysZ.at_ {ats : List (PySem.W.Frag → Addr)} {vs : List FnZ} {tf : List (PySem.W.Frag → Addr)} {ex : PySem.W.Frag → Bool} {h : Heap} {K : PySem.W.Frag} (c : SaysZ ats vs tf ex h K) (i : Nat) {a : PySem.W.Frag → Addr} {v : FnZ} (ha : ats[i]? = some a) (hv : vs[i]? = some v) : fnZ K (a K) = v := by
  have e : (ats.map fun a => fnZ K (a K))[i]? = vs[i]? := by rw [c.fn]
  rw [List.getElem?_map, ha, hv] at e
  exact Option.some.inj e
end Eng
end
end

section
set_option maxRecDepth 100000
set_option maxHeartbeats 4000000
/-! Engine, part ZX: a part of a run in a view of its own. -/
noncomputable section
namespace Eng
open PySem PySem.Spec L2
open PyProof.Rows hiding St
/-- nothing of the evaluator's heap in it; z: but its first object -/
def kpB (z : Bool) (w : W) : Bool := W.rec (motive_1 := fun _ => Bool) (motive_2 := fun _ => Unit) true (fun _ => true) (fun _ => true) (fun _ => true) (fun _ _ => false) (fun _ _ => false) (fun n => cB z (Nat.beq n 0) false) (fun _ => true) (fun _ => true) false () (fun _ _ _ _ => ()) w
def kpW (z : Bool) (w : W) : W := cB (kpB z w) w .und
def kpS (z : Bool) (t : S4) : S4 := S4.rec (motive := fun _ => S4) .nil (fun a b c d _ t => .mk (kpW z a) (kpW z b) (kpW z c) (kpW z d) t) t
theorem kpW_und {z : Bool} : kpW z .und = .und := rfl
theorem kpS_get {z : Bool} : ∀ (t : S4) (i : Nat), (kpS z t).get i = kpW z (t.get i)
  | .nil, _ => rfl
  | .mk _ _ _ _ _, 0 => rfl
  | .mk _ _ _ _ _, 1 => rfl
  | .mk _ _ _ _ _, 2 => rfl
  | .mk _ _ _ _ _, 3 => rfl
  | .mk _ _ _ _ t, n + 4 => kpS_get t n
theorem kpW_ne {z : Bool} {w : W} (h : kpW z w ≠ .und) : kpB z w = true ∧ kpW z w = w := by
  unfold kpW at h ⊢
  cases e : kpB z w with
  | true => exact ⟨rfl, rfl⟩
  | false => rw [e] at h; exact absurd rfl h
theorem kp_rel {K : PySem.W.Frag} {g : Nat → Addr} {r r1 : Rg} {H H1 : Hp} {z : Bool} {w : W} {v : V} (h : kpB z w = true) (hz : z = true → ∀ a, r.l[0]? = some a → r1.l[0]? = some a) (q : RelW K g r H w v) : RelW K g r1 H1 w v := by
  cases w with
  | ref n =>
    obtain ⟨a, e1, e2⟩ := q
    cases z with
    | false => exact Bool.noConfusion h
    | true =>
      have h : Nat.beq n 0 = true := h
      have h0 := Nat.eq_of_beq_eq_true h
      subst h0
      exact ⟨a, e1, hz rfl a e2⟩
  | tup _ => exact Bool.noConfusion h
  | lst _ => exact Bool.noConfusion h
  | und => exact Bool.noConfusion h
  | _ => exact q
section
variable {M : Mo} {r r1 r' : Rg} {H H' : Hp} {h h' : EH} {a : Ans}
theorem kp_ss {t : S4} {σ : St} {z : Bool} (hz : z = true → ∀ a, r.l[0]? = some a → r1.l[0]? = some a) (x : SSim M r H t σ) : SSim M r1 H' (kpS z t) σ := fun i n => by
  rw [kpS_get] at n ⊢
  obtain ⟨hb, e⟩ := kpW_ne n
  rw [e] at n ⊢
  obtain ⟨v, q1, q2⟩ := x i n
  exact ⟨v, q1, kp_rel hb hz q2⟩
theorem Out.view {ns : List Int} {b : Addr} (x : Out M r H b ns) (n : b ∉ r → b ∉ r1) : Out M r1 H b ns := x.imp (fun y => ⟨y.1, n y.2⟩) id
/-- what stands outside the view is kept -/
theorem view_back {t' : BT} (x : HSim M r H h) (hb : r1.b = []) (hs : ∀ a ∈ r1.l, a ∈ r.l ∧ a ∉ r.b) (e : Ext r1 H r' H') (y : HSim M r' H' h') (ht : ∀ i a, r.l[i]? = some a → ∃ o, t'.get i = some o ∧ ((a ∉ r1.l ∧ h.t.get i = some o) ∨ (Ext r H r H' → MOk M r H' a o))) : HSim M r H' ⟨h.n, t'⟩ ∧ Ext r H r H' := by
  have nm : ∀ a, a ∉ r1.l → a ∉ r1 := fun a n m => m.elim n (by rw [hb]; exact fun z => nomatch z)
  have n1 : ∀ a, a ∉ r → a ∉ r1 := fun a n => nm a fun m => n (.inl (hs a m).1)
  have nb : ∀ a, a ∈ r.b → a ∉ r1 := fun a m => nm a fun z => (hs a z).2 m
  have E : Ext r H r H' := ⟨⟨⟨[], by simp⟩, fun a o q nt n => ⟨(e.keep a o q nt (n1 a n)).1, n⟩⟩, ⟨[], by simp, by simp⟩, fun a o m q => (e.keep a o q (x.ntb a o m q).1 (nb a m)).1⟩
  refine ⟨⟨x.len, x.nd, fun i a q => ?_, fun a m => ?_, fun p hp => ⟨(x.tab p hp).1, (y.tab p hp).2⟩, fun a o m q => ?_, fun p hp => (x.out p hp).ext0 E.toExt0⟩, E⟩
  · obtain ⟨o, o1, o2⟩ := ht i a q
    refine ⟨o, o1, ?_⟩
    rcases o2 with ⟨m, e1⟩ | k
    · obtain ⟨o', e2, ok⟩ := x.obj i a q
      rw [e1] at e2
      cases e2
      refine ok.ext E.toExt0 ?_ id
      cases z : H a with
      | none => exact absurd z ok.tracked
      | some u => exact (e.keep a u z (fun ps w => ok.nt ps (by rw [z, w])) (nm a m)).1
    · exact k E
  · obtain ⟨d1, d2⟩ := x.dis a m
    cases z : H a with
    | none => exact absurd z d1
    | some u =>
      have k := E.bk a u m z
      refine ⟨by rw [k]; exact (fun w => nomatch w), d2.imp id fun ⟨o, u', w⟩ => ⟨o, u', ?_⟩⟩
      rw [z] at w
      rw [k, w]
  · cases z : H a with
    | none => exact absurd z (x.dis a m).1
    | some u =>
      have k := E.bk a u m z
      rw [k] at q
      cases q
      exact x.ntb a _ m z
def hE : EH := ⟨0, .nil⟩
def xB : KX := fun _ _ _ => .bad
theorem px_xB {E : XK} (ha : a ≠ .bad) : PostX M r H a xB E := fun _ _ _ _ _ _ _ _ _ _ e => absurd (show Ans.bad = a from e).symm ha
theorem hsim_empty (x : HSim M r H h) : HSim M ⟨[], []⟩ H hE :=
  ⟨rfl, List.nodup_nil, fun i a q => (by simp at q), fun a m => absurd m List.not_mem_nil, fun p hp => ⟨List.not_mem_nil, (x.tab p hp).2⟩, fun a o m _ => absurd m List.not_mem_nil, fun p hp => (x.out p hp).view fun _ z => z.elim List.not_mem_nil List.not_mem_nil⟩
/-- a suite, run as if nothing had been made before -/
def scFr (S : SCode) : SCode := fun c s h x n k b ct => S c (kpS false s) hE xB (fun s2 _ => n (kpS false s2) h) (fun w _ => cB (kpB false w) (k w h) .bad) (fun _ _ => .bad) (fun _ _ => .bad)
theorem psc_fr {X : Cx} {cl : Cl} {E : XK} {body : List Stmt} {S : SCode} (hS : PSs X body (tSt M cl E S)) : PSs X body (tSt M cl E (scFr S)) :=
  PSs.imp hS fun D σ H ⟨a, t, hh, x, n, k, b, c, r, At0, eq, pn, pr, pb, pc⟩ => by
    have V : ∀ {h' r' H'}, Ext ⟨[], []⟩ H r' H' → HSim M r' H' h' → HSim M r H' hh ∧ Ext r H r H' := fun e y => view_back At0.hs rfl (fun a m => absurd m List.not_mem_nil) e y (fun i a q => by
      obtain ⟨o, e1, _⟩ := At0.hs.obj i a q
      exact ⟨o, e1, .inl ⟨List.not_mem_nil, e1⟩⟩)
    have F : ∀ {α : Type} {f : α → EH → Ans} {Q : St → Hp → Prop} , True := fun {_ _ _} => trivial
    refine ⟨a, kpS false t, hE, xB, _, _, _, _, ⟨[], []⟩, ⟨At0.good, kp_ss (fun z => nomatch z) At0.ss, hsim_empty At0.hs, px_xB At0.good⟩, eq, ?_, ?_, ?_, ?_⟩
    · intro t' h' r' σ' H' e ss l hs eq
      obtain ⟨v1, v2⟩ := V e hs
      exact pn _ _ _ _ _ v2 (kp_ss (z := false) (fun z => Bool.noConfusion z) ss) l v1 eq
    · intro w h' r' v H' e q hs eq
      obtain ⟨v1, v2⟩ := V e hs
      rcases cB_ok eq with ⟨b1, eq⟩ | ⟨_, eq⟩
      · exact pr _ _ _ _ _ v2 (kp_rel b1 (fun z => nomatch z) q) v1 eq
      · exact absurd eq.symm At0.good
    · exact fun _ _ _ _ _ _ _ _ _ e => absurd (show Ans.bad = a from e).symm At0.good
    · exact fun _ _ _ _ _ _ _ _ _ e => absurd (show Ans.bad = a from e).symm At0.good
/-! ### a list of numbers alone -/
def intB1 (w : W) : Bool := W.rec (motive_1 := fun _ => Bool) (motive_2 := fun _ => Unit) false (fun _ => false) (fun _ => true) (fun _ => false) (fun _ _ => false) (fun _ _ => false) (fun _ => false) (fun _ => false) (fun _ => false) false () (fun _ _ _ _ => ()) w
def intsZ (ws : List W) : Bool := List.rec (motive := fun _ => Bool) true (fun w _ ih => cB (intB1 w) ih false) ws
def intsO (o : MO) : Bool := MO.rec (motive := fun _ => Bool) intsZ (fun _ _ => false) (fun _ => false) (fun _ => false) (fun _ => false) o
theorem ints_relZ {K : PySem.W.Frag} {g : Nat → Addr} : ∀ {ws : List W} {vs : List V}, intsZ ws = true → RelWs K g r H ws vs → RelWs K g r1 H' ws vs
  | [], _, _, q => q
  | w :: ws, vs, c, q => by
    obtain ⟨v, q', e, q1, q2⟩ := q
    have c : cB (intB1 w) (intsZ ws) false = true := c
    cases w with
    | int i => exact ⟨v, q', e, q1, ints_relZ (show intsZ ws = true from c) q2⟩
    | _ => cases c
theorem ints_mok {o : MO} {p : Addr} (c : intsO o = true) (q : MOk M r H p o) : MOk M r1 H p o ∧ ∃ vs, H p = some (.lst vs) := by
  cases o with
  | lst ws =>
    obtain ⟨l, vs, e, rv⟩ := q
    exact ⟨⟨l, vs, e, ints_relZ c rv⟩, vs, e⟩
  | _ => cases c
/-- a call, run as if but the first object, a list of numbers, had been made before -/
def cGc (C : Code) : Code := fun c s h x k => cB (Nat.beq h.n 0) .bad (BT.getC h.t 0 fun o => cB (intsO o) (C c (kpS true s) ⟨1, .node o .nil .nil⟩ xB fun w h' => BT.getC h'.t 0 fun o' => cB (intsO o') (BT.insC h.t 0 o' fun t' => cB (kpB false w) (k w ⟨h.n, t'⟩) .bad) .bad) .bad)
theorem pec_gc {X : Cx} {cl : Cl} {E : XK} {e : Expr} {C : Code} (hC : PE X e (tE M cl E C)) : PE X e (tE M cl E (cGc C)) :=
  PE.imp hC fun σ H Q ⟨a, t, h, x, k, r, At0, eq, pk⟩ => by
    rcases cB_ok eq with ⟨_, eq⟩ | ⟨n0, eq⟩
    · exact absurd eq.symm At0.good
    obtain ⟨o, ho, eq⟩ := BT.getC_ok At0.good eq
    rcases cB_ok eq with ⟨io, eq⟩ | ⟨_, eq⟩
    · have hn : h.n ≠ 0 := fun z => by rw [z] at n0; cases n0
      have hl : 0 < r.l.length := by rw [At0.hs.len]; omega
      obtain ⟨p, hp⟩ : ∃ p, r.l[0]? = some p := ⟨r.l[0], List.getElem?_eq_getElem hl⟩
      obtain ⟨o2, ho2, ok⟩ := At0.hs.obj 0 p hp
      rw [ho] at ho2
      cases ho2
      obtain ⟨ok1, vs, hv⟩ := ints_mok (r1 := ⟨[p], []⟩) io ok
      have pl : p ∈ r.l := List.mem_of_getElem? hp
      have pb : p ∉ r.b := At0.hs.nb pl (NFrz.of hv fun o v z => nomatch z)
      have n1 : ∀ b, b ∉ r → b ∉ (⟨[p], []⟩ : Rg) := fun b n m => m.elim (fun z => n (.inl (by rw [List.mem_singleton.mp z]; exact pl))) (fun z => nomatch z)
      have hs1 : HSim M ⟨[p], []⟩ H ⟨1, .node o .nil .nil⟩ := ⟨rfl, (by simp), fun i b q => (by
        have q : ([p] : List Addr)[i]? = some b := q
        cases i with
        | zero => simp at q; subst q; exact ⟨o, rfl, ok1⟩
        | succ i => simp at q), fun b m => absurd m List.not_mem_nil, fun q hq => ⟨List.not_mem_nil, (At0.hs.tab q hq).2⟩, fun b o m _ => absurd m List.not_mem_nil, fun q hq => (At0.hs.out q hq).view (n1 _)⟩
      refine ⟨a, kpS true t, _, xB, _, ⟨[p], []⟩, ⟨At0.good, kp_ss (fun _ b e => by rw [hp] at e; cases e; rfl) At0.ss, hs1, px_xB At0.good⟩, eq, ?_⟩
      intro w h' r' v H' e q hs eq
      obtain ⟨o', ho', eq⟩ := BT.getC_ok At0.good eq
      rcases cB_ok eq with ⟨io', eq⟩ | ⟨_, eq⟩
      · obtain ⟨t', ht', eq⟩ := BT.insC_ok At0.good eq
        rcases cB_ok eq with ⟨kw, eq⟩ | ⟨_, eq⟩
        · obtain ⟨o3, ho3, ok3⟩ := hs.obj 0 p (e.at rfl)
          rw [ho'] at ho3
          cases ho3
          obtain ⟨v1, v2⟩ := view_back (t' := t') At0.hs rfl (fun b m => by rw [List.mem_singleton.mp m]; exact ⟨pl, pb⟩) e hs (fun i b q => by
            have g := BT.get_ins ht' i
            by_cases z : i = 0
            · subst z
              rw [hp] at q
              cases q
              exact ⟨o', by rw [g, if_pos rfl], .inr fun _ => (ints_mok io' ok3).1⟩
            · obtain ⟨o4, e1, _⟩ := At0.hs.obj i b q
              refine ⟨o4, by rw [g, if_neg z]; exact e1, .inl ⟨fun m => ?_, e1⟩⟩
              rw [List.mem_singleton.mp m] at q
              obtain ⟨h1, e1⟩ := List.getElem?_eq_some_iff.mp q
              obtain ⟨h2, e2⟩ := List.getElem?_eq_some_iff.mp hp
              exact z ((List.getElem_inj At0.hs.nd).mp (e1.trans e2.symm)))
          exact pk _ _ _ _ _ v2 (kp_rel kw (fun z => nomatch z) q) v1 eq
        · exact absurd eq.symm At0.good
      · exact absurd eq.symm At0.good
    · exact absurd eq.symm At0.good
end
end Eng
end
end

section
set_option maxRecDepth 100000
set_option maxHeartbeats 4000000
/-! Engine, part ZY: what a call leaves behind is forgotten. -/
noncomputable section
namespace Eng
open PySem PySem.Spec L2
open PyProof.Rows hiding St
/-- no object of the heap in it -/
def noR (w : W) : Bool := W.rec (motive_1 := fun _ => Bool) (motive_2 := fun _ => Bool) true (fun _ => true) (fun _ => true) (fun _ => true) (fun _ ih => ih) (fun _ ih => ih) (fun _ => false) (fun _ => true) (fun _ => true) true true (fun _ _ i j => cB i j false) w
def noRs (ws : List W) : Bool := List.rec (motive := fun _ => Bool) true (fun w _ ih => cB (noR w) ih false) ws
theorem noR_tup : ∀ ws : List W, noR (.tup ws) = noRs ws
  | [] => rfl
  | w :: ws => by
    show cB (noR w) (noR (.tup ws)) false = cB (noR w) (noRs ws) false
    rw [noR_tup ws]
theorem noR_lst : ∀ ws : List W, noR (.lst ws) = noRs ws
  | [] => rfl
  | w :: ws => by
    show cB (noR w) (noR (.lst ws)) false = cB (noR w) (noRs ws) false
    rw [noR_lst ws]
theorem noRs_cons {w : W} {ws : List W} (h : noRs (w :: ws) = true) : noR w = true ∧ noRs ws = true := by
  have h : cB (noR w) (noRs ws) false = true := h
  rw [cB_eq] at h
  by_cases e : noR w = true
  · rw [if_pos e] at h; exact ⟨e, h⟩
  · rw [if_neg e] at h; cases h
theorem noRs_mem : ∀ {ws : List W}, noRs ws = true → ∀ w ∈ ws, noR w = true
  | [], _, w, hw => nomatch hw
  | u :: ws, h, w, hw => by
    obtain ⟨h1, h2⟩ := noRs_cons h
    rcases List.mem_cons.mp hw with z | z
    · rw [z]; exact h1
    · exact noRs_mem h2 w z
def noRp (kvs : List (W × W)) : Bool := List.rec (motive := fun _ => Bool) true (fun q _ ih => cB (noR q.1) (cB (noR q.2) ih false) false) kvs
def noRO (o : MO) : Bool := MO.rec (motive := fun _ => Bool) noRs (fun _ fs => noRs fs) noRp (fun _ => false) (fun _ => false) o
def isFz (o : MO) : Bool := MO.rec (motive := fun _ => Bool) (fun _ => false) (fun _ _ => false) (fun _ => false) (fun _ => true) (fun _ => true) o
def truncC (n : Nat) (t0 t : BT) (k : BT → Ans) : Ans := Nat.rec (motive := fun _ => (BT → Ans) → Ans) (fun k => k .nil) (fun i ih k => ih fun acc => BT.getC t0 i fun o0 => cB (isFz o0) (BT.insC acc i o0 k) (BT.getC t i fun o => cB (noRO o) (BT.insC acc i o k) .bad)) n k
def cTr (C : Code) : Code := fun c s h x k => C c s h x fun w h' => cB (noR w) (truncC h.n h.t h'.t fun t => k w ⟨h.n, t⟩) .bad
section
variable {K : PySem.W.Frag} {g : Nat → Addr} {r r' : Rg} {H : Hp}
mutual
theorem RelW.shrink (hr : ∀ a, a ∈ r → a ∈ r') : ∀ {w : W} {v : V}, noR w = true → RelW K g r' H w v → RelW K g r H w v
  | .non, _, _, h => h
  | .bl _, _, _, h => h
  | .int _, _, _, h => h
  | .str _, _, _, h => h
  | .tup ws, _, c, h => let ⟨a, vs, q, z, t, l⟩ := h; ⟨a, vs, q, z, t.imp (fun y => ⟨y.1, fun m => y.2 (hr a m)⟩) id, RelWs.shrink hr (by rw [← noR_tup]; exact c) l⟩
  | .lst ws, _, c, h => let ⟨a, vs, q, z, t, l⟩ := h; ⟨a, vs, q, z, ⟨t.1, fun m => t.2 (hr a m)⟩, RelWs.shrink hr (by rw [← noR_lst]; exact c) l⟩
  | .ref n, _, c, _ => nomatch (show false = true from c)
  | .sta _, _, _, h => h
  | .ty _, _, _, h => h
  | .und, _, _, h => h
theorem RelWs.shrink (hr : ∀ a, a ∈ r → a ∈ r') : ∀ {ws : List W} {vs : List V}, noRs ws = true → RelWs K g r' H ws vs → RelWs K g r H ws vs
  | [], _, _, h => h
  | w :: ws, _, c, h => let ⟨v, q, e1, a, b⟩ := h; ⟨v, q, e1, RelW.shrink hr (noRs_cons c).1 a, RelWs.shrink hr (noRs_cons c).2 b⟩
end
theorem RelD.shrink {M : Mo} (hr : ∀ a, a ∈ r → a ∈ r') : ∀ {kvs : List (W × W)} {xs : List DEnt}, noRp kvs = true → RelD M r' H kvs xs → RelD M r H kvs xs
  | [], _, _, h => h
  | (kw, vw) :: q, _, c, h => by
    have c : cB (noR kw) (cB (noR vw) (noRp q) false) false = true := c
    rw [cB_eq, cB_eq] at c
    obtain ⟨k, ka, u, v, ys, e1, e2, e3, e4, e5, e6, e7⟩ := h
    by_cases c1 : noR kw = true
    · rw [if_pos c1] at c
      by_cases c2 : noR vw = true
      · rw [if_pos c2] at c
        exact ⟨k, ka, u, v, ys, e1, e2, e3, RelW.shrink hr c1 e4, e5, RelW.shrink hr c2 e6, RelD.shrink hr c e7⟩
      · rw [if_neg c2] at c; cases c
    · rw [if_neg c1] at c; cases c
theorem MOk.shrink {M : Mo} (hr : ∀ a, a ∈ r → a ∈ r') {a : Addr} {o : MO} (c : noRO o = true) (h : MOk M r' H a o) : MOk M r H a o := by
  cases o with
  | lst ws => obtain ⟨z, vs, e, q⟩ := h; exact ⟨z, vs, e, RelWs.shrink hr c q⟩
  | ins n fs =>
    obtain ⟨dx, vs, e, d1, d2, q⟩ := h
    exact ⟨dx, vs, e, d1, (fun m => d2 (hr dx m)), fun i w hi hn => by
      obtain ⟨v, q1, q2⟩ := q i w hi hn
      exact ⟨v, q1, RelW.shrink hr (noRs_mem c w (List.mem_of_getElem? hi)) q2⟩⟩
  | dct kvs => obtain ⟨z, xs, e, q⟩ := h; exact ⟨z, xs, e, RelD.shrink hr c q⟩
  | fdc kvs => cases c
  | flc ws => cases c
theorem truncC_ok {t0 t : BT} {a : Ans} (ha : a ≠ .bad) : ∀ {n : Nat} {k : BT → Ans}, truncC n t0 t k = a → ∃ acc, k acc = a ∧ ∀ i, i < n → ∃ o, acc.get i = some o ∧ ((t0.get i = some o ∧ isFz o = true) ∨ (t.get i = some o ∧ noRO o = true))
  | 0, k, h => ⟨.nil, h, fun i hi => absurd hi (Nat.not_lt_zero _)⟩
  | n + 1, k, h => by
    obtain ⟨acc, e, q⟩ := truncC_ok ha (n := n) (show truncC n t0 t (fun acc => BT.getC t0 n fun o0 => cB (isFz o0) (BT.insC acc n o0 k) (BT.getC t n fun o => cB (noRO o) (BT.insC acc n o k) .bad)) = a from h)
    have fin : ∀ o, BT.insC acc n o k = a → ((t0.get n = some o ∧ isFz o = true) ∨ (t.get n = some o ∧ noRO o = true)) → ∃ acc, k acc = a ∧ ∀ i, i < n + 1 → ∃ o, acc.get i = some o ∧ ((t0.get i = some o ∧ isFz o = true) ∨ (t.get i = some o ∧ noRO o = true)) := fun o e hh => by
      obtain ⟨acc', e2, e3⟩ := BT.insC_ok ha e
      refine ⟨acc', e3, fun i hi => ?_⟩
      rw [BT.get_ins e2 i]
      by_cases z : i = n
      · rw [if_pos z]
        exact ⟨o, rfl, by rw [z]; exact hh⟩
      · rw [if_neg z]
        exact q i (by omega)
    obtain ⟨o0, e0, e⟩ := BT.getC_ok ha e
    rcases cB_ok e with ⟨c, e⟩ | ⟨_, e⟩
    · exact fin o0 e (.inl ⟨e0, c⟩)
    · obtain ⟨o, e1, e⟩ := BT.getC_ok ha e
      rcases cB_ok e with ⟨c, e⟩ | ⟨_, e⟩
      · exact fin o e (.inr ⟨e1, c⟩)
      · exact absurd e.symm ha
end
theorem pec_tr {X : Cx} {M : Mo} {cl : Cl} {E : XK} {e : Expr} {C : Code} (hC : PE X e (tE M cl E C)) : PE X e (tE M cl E (cTr C)) :=
  PE.imp hC fun σ H Q ⟨a, t, h, x, k, r, At0, eq, pk⟩ => by
    refine ⟨a, t, h, x, _, r, At0, eq, fun w h' r' v H' ex q hs eq => ?_⟩
    rcases cB_ok eq with ⟨cw, eq⟩ | ⟨_, eq⟩
    · obtain ⟨acc, eq, ho⟩ := truncC_ok At0.good eq
      have hr : ∀ a, a ∈ r → a ∈ r' := fun a m => ex.mem m
      have E : Ext r H r H' := ⟨⟨⟨[], by simp⟩, fun a o q nt n => ⟨(ex.keep a o q nt n).1, n⟩⟩, ⟨[], by simp, by simp⟩, ex.bk⟩
      refine pk w ⟨h.n, acc⟩ r v H' E (RelW.shrink hr cw q) ⟨At0.hs.len, At0.hs.nd, fun i a qi => ?_, fun a m => ?_, fun p hp => ⟨(At0.hs.tab p hp).1, (hs.tab p hp).2⟩, fun a o m z => ?_, fun p hp => (hs.out p hp).imp (fun y => ⟨y.1, fun m => y.2 (hr _ m)⟩) id⟩ eq
      · have hi : i < h.n := by rw [← At0.hs.len]; exact (List.getElem?_eq_some_iff.mp qi).1
        obtain ⟨o, o1, ⟨o2, o3⟩ | ⟨o2, o3⟩⟩ := ho i hi
        · obtain ⟨o', e1, ok⟩ := At0.hs.obj i a qi
          rw [o2] at e1
          cases e1
          refine ⟨o, o1, ok.ext E.toExt0 ?_ id⟩
          have hb : a ∈ r.b := by
            cases o with
            | fdc _ => exact ok.1
            | flc _ => exact ok.1
            | _ => cases o3
          cases z : H a with
          | none => exact absurd z ok.tracked
          | some u => exact ex.bk a u hb z
        · obtain ⟨o', e1, ok⟩ := hs.obj i a (ex.at qi)
          rw [o2] at e1
          cases e1
          exact ⟨o, o1, MOk.shrink hr o3 ok⟩
      · obtain ⟨d1, d2⟩ := At0.hs.dis a m
        cases z : H a with
        | none => exact absurd z d1
        | some u =>
          have k := ex.bk a u m z
          exact ⟨(by rw [k]; exact (fun w => nomatch w)), d2.imp id fun ⟨o, u', w⟩ => ⟨o, u', by rw [z] at w; rw [k, w]⟩⟩
      · cases z2 : H a with
        | none => exact absurd z2 (At0.hs.dis a m).1
        | some u =>
          have k := ex.bk a u m z2
          rw [k] at z
          cases z
          exact At0.hs.ntb a _ m z2
    · exact absurd eq.symm At0.good
/-- a def that is never called to its end -/
def cutF : Fn := fun _ _ _ _ => .bad
theorem fnr_cut {P : Program} {w : World} {K : PySem.W.Frag} {mg : Str → Option Value} {base : Heap} {CX : CXT} {k : Nat} {f : Addr} {M : Mo} : FnR P w K mg base CX k f (spF M cutF) := fun _ _ _ _ _ _ _ _ _ _ _ h => by
  obtain ⟨a, ws, h, x, k, r, ha, eq, _⟩ := h
  exact absurd (show Ans.bad = a from eq).symm ha
end Eng
end
end

section
set_option maxRecDepth 100000
set_option maxHeartbeats 4000000
/-! Engine, part ZZ: from the head's facts to the law. -/
noncomputable section
namespace Eng
open PySem PySem.Spec L2
open PyProof.Rows hiding St
theorem gZ_pos {K : PySem.W.Frag} {ps : List Pth} {a b : Addr} : ∀ {n : Nat}, n ≠ 0 → gZ K ps a n = gZ K ps b n
  | 0, h => absurd rfl h
  | n + 1, _ => rfl
def xmB (K : PySem.W.Frag) (ps : List Pth) (ns : List Nat) : Bool := ns.all fun n => !decide (n = 0) && ns.all fun c => decide (PySem.W.exmOne K (.ref (gZ K ps 0 n)) (.ref (gZ K ps 0 c)) = some (Nat.beq n c))
theorem xm_of {K : PySem.W.Frag} {ps : List Pth} {ns : List Nat} {a : Addr} (h : xmB K ps ns = true) : ∀ n ∈ ns, ∀ c ∈ ns, PySem.W.exmOne K (.ref (gZ K ps a n)) (.ref (gZ K ps a c)) = some (Nat.beq n c) := fun n hn c hc => by
  obtain ⟨h1, h2⟩ := He.ba (List.all_eq_true.mp h n hn)
  obtain ⟨h3, _⟩ := He.ba (List.all_eq_true.mp h c hc)
  have n0 : n ≠ 0 := by simpa using h1
  have c0 : c ≠ 0 := by simpa using h3
  rw [gZ_pos (b := 0) n0, gZ_pos (b := 0) c0]
  exact of_decide_eq_true (List.all_eq_true.mp h2 c hc)
theorem tb_of {K : PySem.W.Frag} {mg : Str → Option Value} {base : Heap} {a : Addr} {x qual : Str} {params : Arguments} {body : List Stmt} {scope : Scope} {dvs : List V} {kws : List (Str × V)} {q : Str} {tabs : List (Addr × Str)} {cs : List (Addr × Addr)}
    (T : ∀ p ∈ cs, LamX.TabB base mg p.1 p.2) (hc : (codA K a, tabA K a) ∈ cs) (hm : (tabA K a, q) ∈ tabs) (u : tabU tabs = true) : ∀ fd, FunD K x qual params body scope dvs kws a fd → ∃ c P, fd.code = .ref c ∧ LamX.TabB base mg c P ∧ (P, q) ∈ tabs ∧ ∀ p ∈ tabs, p.1 = P → p.2 = q := fun fd D => by
  obtain ⟨oc, od, dV, kV, doc, pm, an, cdv, ct, osl, rfl, lk, hcd, _⟩ := D.ex
  obtain ⟨c, hc2⟩ := He.codeIn_ref hcd
  subst hc2
  have e : codA K a = c := codA_eq lk rfl
  exact ⟨c, tabA K a, rfl, by rw [← e]; exact T _ hc, hm, tabU_ok u hm⟩
section
variable {P : Program} {w : World} {K : PySem.W.Frag} {M : Mo} {S : SCode} {cl : Cl} {np b : Nat} {N : List Str} {vs : List V} {H : Hp} {Q : VK} {E : XK}
/-- a def's promise, told at the start of its body -/
theorem fn_start (h : spF M (fnC np b S cl) vs H Q E) : tSt M cl E S { nx := fun _ H' => Q .non H', rt := Q } (start N vs) H := by
  obtain ⟨a, ws, h, x, kk, r, ha, eq, q, hs, px, p⟩ := h
  rcases cB_ok eq with ⟨_, eq⟩ | ⟨_, e⟩
  · obtain ⟨t, e1, e2⟩ := stC_ok b ws _ eq
    refine ⟨a, t, h, x, _, kk, _, _, r, ⟨ha, start_sim q e2, hs, px⟩, e1, ?_, p, ?_, ?_⟩
    · intro t' h' r' σ' H' ex ss l hs' eq'
      exact fin_non (p.ext ex) hs' eq'
    · intro t' h' r' σ' H' ex ss l hs' eq'
      exact absurd (show Ans.bad = a from eq').symm ha
    · intro t' h' r' σ' H' ex ss l hs' eq'
      exact absurd (show Ans.bad = a from eq').symm ha
  · exact absurd e.symm ha
theorem spF_len (h : spF M (fnC np b S cl) vs H Q E) : vs.length = np := by
  obtain ⟨a, ws, h, x, kk, r, ha, eq, q, hs, px, p⟩ := h
  rcases cB_ok eq with ⟨e, _⟩ | ⟨_, e⟩
  · rw [lenN_eq] at e
    rw [← Nat.eq_of_beq_eq_true e, q.length]
  · exact absurd e.symm ha
end
/-- the heap at the law's call -/
theorem hsim_start {M : Mo} {H : Hp} {ns : List Int} (ho : M.outs = [(0, ns)]) (hS : SqL M.K H (M.g 0) (ns.map V.int)) (ht : ∀ p ∈ M.tabs, H p.1 = some (.tbl #[])) : HSim M ⟨[], []⟩ H hE :=
  ⟨rfl, List.nodup_nil, fun i a q => (by simp at q), fun a m => absurd m List.not_mem_nil, fun p hp => ⟨List.not_mem_nil, #[], ht p hp, trivial, fun pos cv h => (nomatch h)⟩, fun a o m _ => absurd m List.not_mem_nil, fun p hp => by
    rw [ho] at hp
    rw [List.mem_singleton.mp hp]
    exact hS.imp (fun y => ⟨y, fun z => z.elim List.not_mem_nil List.not_mem_nil⟩) id⟩
end Eng
end
end

section
set_option maxRecDepth 100000
set_option maxHeartbeats 4000000
noncomputable section
namespace K73
open PySem PySem.Spec L2 Eng
open PyProof.Rows hiding St

def top (i : Nat) : Stmt := (PySem.W.OpenLaw.row PySem.Challenge.rw_underwords_k73_errors_of_smooth_members).prog.main.body.getD i (.Pass ⟨0, 0, 0, 0⟩)
def mem (i j : Nat) : Stmt := match top i with | .ClassDef _ _ _ b _ _ _ _ _ _ _ => b.getD j (.Pass ⟨0, 0, 0, 0⟩) | _ => .Pass ⟨0, 0, 0, 0⟩
abbrev i_script : Nat := 0
abbrev i__law_crock : Nat := 1
abbrev i__law_scoop : Nat := 2
abbrev i__law_select : Nat := 3
abbrev i_is_whole : Nat := 4
abbrev i_is_within : Nat := 5
abbrev i_is_bond_told : Nat := 6
abbrev i_are_bonds : Nat := 7
abbrev i_factors_by : Nat := 8
abbrev i_System___init__ : Nat := 9
abbrev i_System_rows : Nat := 10
abbrev i_require_system : Nat := 11
abbrev i_is_word_in : Nat := 12
abbrev i_require_word : Nat := 13
abbrev i_require_system_and_word : Nat := 14
abbrev i_letter_row : Nat := 15
abbrev i_first_frame : Nat := 16
abbrev i_led_row : Nat := 17
abbrev i_frame_behind : Nat := 18
abbrev i_frame_of : Nat := 19
abbrev i_is_row_below : Nat := 20
abbrev i_is_left : Nat := 21
abbrev i_first_left : Nat := 22
abbrev i_added_row : Nat := 23
abbrev i_frame_ahead : Nat := 24
abbrev i_word_of_frame : Nat := 25
abbrev i_normal_in : Nat := 26
abbrev i_Roll___init__ : Nat := 27
abbrev i_Roll_put : Nat := 28
abbrev i_Roll_frame : Nat := 29
abbrev i_Roll_word : Nat := 30
abbrev i_Roll_behind : Nat := 31
abbrev i_under_in : Nat := 32
abbrev i_members_under_in : Nat := 33
abbrev i_numbers_of : Nat := 34
abbrev i_is_smooth_lot : Nat := 35
abbrev i_smooth_paper : Nat := 36
abbrev i_Roll_ahead : Nat := 37
abbrev i_added_numbers : Nat := 38
abbrev i_put_at : Nat := 39
abbrev i_letter_sum : Nat := 40
abbrev i_Roll_is_left : Nat := 41
abbrev i_mu_of : Nat := 42
abbrev i_later_row : Nat := 43
abbrev i_p_row_kept : Nat := 44
abbrev i_p_row_in : Nat := 45
abbrev i_led_down : Nat := 46
abbrev i_is_under_in : Nat := 47
abbrev i_worst_in : Nat := 48
abbrev i_worst_members : Nat := 49
abbrev i_is_smooth : Nat := 50
abbrev i_mirrors_at : Nat := 51
abbrev i_is_smooth_paper : Nat := 52
abbrev i_is_row : Nat := 53
abbrev i_require_row : Nat := 54
abbrev i_row_paper : Nat := 55
abbrev i_is_row_paper : Nat := 56
abbrev i__law_right : Nat := 57
abbrev i_System_ring : Nat := 58
abbrev i_law : Nat := 59
abbrev i_BARRED : Nat := 60
abbrev i_BONDS : Nat := 61
abbrev i_FACTORS : Nat := 62
abbrev i_InvalidNumber : Nat := 63
abbrev i_InvalidOperation : Nat := 64
abbrev i_InvalidRow : Nat := 65
abbrev i_InvalidSystem : Nat := 66
abbrev i_InvalidWord : Nat := 67
abbrev i_Roll : Nat := 68
abbrev i_System : Nat := 69
abbrev i_TooMany : Nat := 70
abbrev i__law_met : Nat := 71
abbrev i_barred_places : Nat := 72
abbrev i_four_places : Nat := 73
abbrev i_is_below : Nat := 74
abbrev i_is_numbers : Nat := 75
abbrev i_lies_as : Nat := 76
abbrev i_mirror_numbers : Nat := 77
abbrev i_runs_of : Nat := 78
abbrev i_times_s : Nat := 79
abbrev i_InvalidNumber___init__ : Nat := 80
abbrev i_TooMany___init__ : Nat := 81
def paths0 : List (Str × Option Str) := [("_law_crock", none), ("_law_scoop", none), ("_law_select", none), ("is_whole", none), ("is_within", none), ("is_bond_told", none), ("are_bonds", none), ("factors_by", none), ("System", some "__init__"), ("System", some "rows"), ("require_system", none), ("is_word_in", none), ("require_word", none), ("require_system_and_word", none), ("letter_row", none), ("first_frame", none), ("led_row", none), ("frame_behind", none), ("frame_of", none), ("is_row_below", none)]
def paths1 : List (Str × Option Str) := [("is_left", none), ("first_left", none), ("added_row", none), ("frame_ahead", none), ("word_of_frame", none), ("normal_in", none), ("Roll", some "__init__"), ("Roll", some "put"), ("Roll", some "frame"), ("Roll", some "word"), ("Roll", some "behind"), ("under_in", none), ("members_under_in", none), ("numbers_of", none), ("is_smooth_lot", none), ("smooth_paper", none), ("Roll", some "ahead"), ("added_numbers", none), ("put_at", none), ("letter_sum", none)]
def paths2 : List (Str × Option Str) := [("Roll", some "is_left"), ("mu_of", none), ("later_row", none), ("p_row_kept", none), ("p_row_in", none), ("led_down", none), ("is_under_in", none), ("worst_in", none), ("worst_members", none), ("is_smooth", none), ("mirrors_at", none), ("is_smooth_paper", none), ("is_row", none), ("require_row", none), ("row_paper", none), ("is_row_paper", none), ("_law_right", none), ("System", some "ring"), ("law", none), ("BARRED", none)]
def paths3 : List (Str × Option Str) := [("BONDS", none), ("FACTORS", none), ("InvalidNumber", none), ("InvalidOperation", none), ("InvalidRow", none), ("InvalidSystem", none), ("InvalidWord", none), ("Roll", none), ("System", none), ("TooMany", none), ("_law_met", none), ("barred_places", none), ("four_places", none), ("is_below", none), ("is_numbers", none), ("lies_as", none), ("mirror_numbers", none), ("runs_of", none), ("times_s", none), ("InvalidNumber", some "__init__")]
def paths4 : List (Str × Option Str) := [("TooMany", some "__init__")]
def paths : List (Str × Option Str) := paths0 ++ paths1 ++ paths2 ++ paths3 ++ paths4
def W_BARRED : W := (.tup [(.tup [(.int (.ofNat 3)), (.int (.ofNat 4)), (.int (.ofNat 1)), (.int (.ofNat 2))]), (.tup [(.int (.ofNat 4)), (.int (.ofNat 2)), (.int (.ofNat 3)), (.int (.ofNat 1))])])
def W_BONDS : W := (.tup [(.int (.ofNat 0)), (.int (.ofNat 2)), (.int (.ofNat 3)), (.int (.ofNat 4)), (.int (.ofNat 5)), (.int (.ofNat 6))])
def D_FACTORS : List (Int × W) := [((.ofNat 3), (.tup [(.tup [(.int (.ofNat 1)), (.int (.ofNat 0))]), (.tup [(.int (.ofNat 1)), (.int (.ofNat 0))])])), ((.ofNat 4), (.tup [(.tup [(.int (.ofNat 1)), (.int (.ofNat 0))]), (.tup [(.int (.ofNat 2)), (.int (.ofNat 0))])])), ((.ofNat 5), (.tup [(.tup [(.int (.ofNat 0)), (.int (.ofNat 1))]), (.tup [(.int (.ofNat 0)), (.int (.ofNat 1))])])), ((.ofNat 6), (.tup [(.tup [(.int (.ofNat 1)), (.int (.ofNat 0))]), (.tup [(.int (.ofNat 3)), (.int (.ofNat 0))])])), ((.ofNat 0), (.tup [(.tup [(.int (.ofNat 2)), (.int (.ofNat 0))]), (.tup [(.int (.ofNat 2)), (.int (.ofNat 0))])]))]
def und_Roll : List W := [.und, .und, .und]
theorem und_Roll_ok : ∀ w ∈ und_Roll, w = .und := fun w h => by simp [und_Roll] at h; exact h
def und_System : List W := [.und, .und, .und, .und]
theorem und_System_ok : ∀ w ∈ und_System, w = .und := fun w h => by simp [und_System] at h; exact h
def isiC_System : Nat → Option Bool := fun n => cB (Nat.beq n i_System) (some true) (cB (Nat.beq n i_Roll) (some false) (none))
theorem bo_abs : bootBuiltins "abs" = some (.builtin "abs") := by decide +kernel
theorem bo_all : bootBuiltins "all" = some (.builtin "all") := by decide +kernel
theorem bo_any : bootBuiltins "any" = some (.builtin "any") := by decide +kernel
theorem bo_bool : bootBuiltins "bool" = some (.type "bool") := by decide +kernel
theorem bo_int : bootBuiltins "int" = some (.type "int") := by decide +kernel
theorem bo_isinstance : bootBuiltins "isinstance" = some (.builtin "isinstance") := by decide +kernel
theorem bo_len : bootBuiltins "len" = some (.builtin "len") := by decide +kernel
theorem bo_list : bootBuiltins "list" = some (.type "list") := by decide +kernel
theorem bo_max : bootBuiltins "max" = some (.builtin "max") := by decide +kernel
theorem bo_min : bootBuiltins "min" = some (.builtin "min") := by decide +kernel
theorem bo_next : bootBuiltins "next" = some (.builtin "next") := by decide +kernel
theorem bo_sorted : bootBuiltins "sorted" = some (.builtin "sorted") := by decide +kernel
theorem bo_str : bootBuiltins "str" = some (.type "str") := by decide +kernel
theorem bo_sum : bootBuiltins "sum" = some (.builtin "sum") := by decide +kernel
theorem bo_tuple : bootBuiltins "tuple" = some (.type "tuple") := by decide +kernel
def noC : Nat → Option Bool := fun _ => none
theorem isi_int {K : PySem.W.Frag} {g : Nat → Addr} : IsiOk K g (.type "int") ⟨false, true, true, false, false, false, false, noC⟩ := ⟨kit_ty (by decide +kernel), kit_ty (by decide +kernel), kit_ty (by decide +kernel), kit_ty (by decide +kernel), kit_ty (by decide +kernel), kit_ty (by decide +kernel), kit_ty (by decide +kernel), fun n b h => nomatch h⟩
theorem isi_bool {K : PySem.W.Frag} {g : Nat → Addr} : IsiOk K g (.type "bool") ⟨false, true, false, false, false, false, false, noC⟩ := ⟨kit_ty (by decide +kernel), kit_ty (by decide +kernel), kit_ty (by decide +kernel), kit_ty (by decide +kernel), kit_ty (by decide +kernel), kit_ty (by decide +kernel), kit_ty (by decide +kernel), fun n b h => nomatch h⟩
theorem isi_tuple {K : PySem.W.Frag} {g : Nat → Addr} : IsiOk K g (.type "tuple") ⟨false, false, false, false, true, false, false, noC⟩ := ⟨kit_ty (by decide +kernel), kit_ty (by decide +kernel), kit_ty (by decide +kernel), kit_ty (by decide +kernel), kit_ty (by decide +kernel), kit_ty (by decide +kernel), kit_ty (by decide +kernel), fun n b h => nomatch h⟩
theorem isi_str {K : PySem.W.Frag} {g : Nat → Addr} : IsiOk K g (.type "str") ⟨false, false, false, true, false, false, false, noC⟩ := ⟨kit_ty (by decide +kernel), kit_ty (by decide +kernel), kit_ty (by decide +kernel), kit_ty (by decide +kernel), kit_ty (by decide +kernel), kit_ty (by decide +kernel), kit_ty (by decide +kernel), fun n b h => nomatch h⟩
abbrev bm_IndexError : List Value := [.type "IndexError", .type "LookupError", .type "Exception", .type "BaseException", .type "object"]
abbrev bm_OverflowError : List Value := [.type "OverflowError", .type "ArithmeticError", .type "Exception", .type "BaseException", .type "object"]
abbrev bm_ValueError : List Value := [.type "ValueError", .type "Exception", .type "BaseException", .type "object"]
def dv__law_crock (K : PySem.W.Frag) : List V := []
def dv__law_scoop (K : PySem.W.Frag) : List V := []
def dv__law_select (K : PySem.W.Frag) : List V := []
def dv_is_whole (K : PySem.W.Frag) : List V := []
def dv_is_within (K : PySem.W.Frag) : List V := []
def dv_is_bond_told (K : PySem.W.Frag) : List V := []
def dv_are_bonds (K : PySem.W.Frag) : List V := []
def dv_factors_by (K : PySem.W.Frag) : List V := []
def dv_System___init__ (K : PySem.W.Frag) : List V := [.ref (He.dflAt ("System", some "__init__") 0 K)]
def dv_System_rows (K : PySem.W.Frag) : List V := []
def dv_require_system (K : PySem.W.Frag) : List V := []
def dv_is_word_in (K : PySem.W.Frag) : List V := []
def dv_require_word (K : PySem.W.Frag) : List V := []
def dv_require_system_and_word (K : PySem.W.Frag) : List V := []
def dv_letter_row (K : PySem.W.Frag) : List V := []
def dv_first_frame (K : PySem.W.Frag) : List V := []
def dv_led_row (K : PySem.W.Frag) : List V := []
def dv_frame_behind (K : PySem.W.Frag) : List V := []
def dv_frame_of (K : PySem.W.Frag) : List V := []
def dv_is_row_below (K : PySem.W.Frag) : List V := []
def dv_is_left (K : PySem.W.Frag) : List V := []
def dv_first_left (K : PySem.W.Frag) : List V := []
def dv_added_row (K : PySem.W.Frag) : List V := []
def dv_frame_ahead (K : PySem.W.Frag) : List V := []
def dv_word_of_frame (K : PySem.W.Frag) : List V := []
def dv_normal_in (K : PySem.W.Frag) : List V := []
def dv_Roll___init__ (K : PySem.W.Frag) : List V := []
def dv_Roll_put (K : PySem.W.Frag) : List V := []
def dv_Roll_frame (K : PySem.W.Frag) : List V := []
def dv_Roll_word (K : PySem.W.Frag) : List V := []
def dv_Roll_behind (K : PySem.W.Frag) : List V := []
def dv_under_in (K : PySem.W.Frag) : List V := []
def dv_members_under_in (K : PySem.W.Frag) : List V := []
def dv_numbers_of (K : PySem.W.Frag) : List V := []
def dv_is_smooth_lot (K : PySem.W.Frag) : List V := []
def dv_smooth_paper (K : PySem.W.Frag) : List V := []
def dv_Roll_ahead (K : PySem.W.Frag) : List V := []
def dv_added_numbers (K : PySem.W.Frag) : List V := []
def dv_put_at (K : PySem.W.Frag) : List V := []
def dv_letter_sum (K : PySem.W.Frag) : List V := []
def dv_Roll_is_left (K : PySem.W.Frag) : List V := []
def dv_mu_of (K : PySem.W.Frag) : List V := []
def dv_later_row (K : PySem.W.Frag) : List V := []
def dv_p_row_kept (K : PySem.W.Frag) : List V := []
def dv_p_row_in (K : PySem.W.Frag) : List V := []
def dv_led_down (K : PySem.W.Frag) : List V := []
def dv_is_under_in (K : PySem.W.Frag) : List V := []
def dv_worst_in (K : PySem.W.Frag) : List V := []
def dv_worst_members (K : PySem.W.Frag) : List V := []
def dv_is_smooth (K : PySem.W.Frag) : List V := []
def dv_mirrors_at (K : PySem.W.Frag) : List V := []
def dv_is_smooth_paper (K : PySem.W.Frag) : List V := []
def dv_is_row (K : PySem.W.Frag) : List V := []
def dv_require_row (K : PySem.W.Frag) : List V := []
def dv_row_paper (K : PySem.W.Frag) : List V := []
def dv_is_row_paper (K : PySem.W.Frag) : List V := []
def dv__law_right (K : PySem.W.Frag) : List V := []
def dv_System_ring (K : PySem.W.Frag) : List V := []
def dv_law (K : PySem.W.Frag) : List V := []
def dv__law_met (K : PySem.W.Frag) : List V := []
structure Fc0 (M : Mo) (mg : Str → Option Value) (base : Heap) : Prop where
  c_GOLDEN_BOND : ∃ t, mg "GOLDEN_BOND" = some (.int (.ofNat 5) t)
  c_LEAST_PLACES : ∃ t, mg "LEAST_PLACES" = some (.int (.ofNat 2) t)
  c_MAX_LETTERS : ∃ t, mg "MAX_LETTERS" = some (.int (.ofNat 4) t)
  c_MAX_UNDER : ∃ t, mg "MAX_UNDER" = some (.int (.ofNat 120) t)
  c_MAX_WORD : ∃ t, mg "MAX_WORD" = some (.int (.ofNat 40) t)
  c_MIRRORS : ∃ t, mg "MIRRORS" = some (.str "mirrors" t)
  c_MOST_PLACES_rows : ∃ t, mg "MOST_PLACES_rows" = some (.int (.ofNat 5) t)
  c_MOST_PLACES_systems : ∃ t, mg "MOST_PLACES_systems" = some (.int (.ofNat 5) t)
  c_MOST_RING : ∃ t, mg "MOST_RING" = some (.int (.ofNat 3) t)
  c_PATTERN : ∃ t, mg "PATTERN" = some (.str "pattern" t)
  c_SMOOTH : ∃ t, mg "SMOOTH" = some (.str "smooth" t)
  cm_System_ring : ClX.CMet M.K (M.g i_System) (.type "type") "ring" (cmAd M.K (M.g i_System) "ring") (M.g i_System_ring)
structure Fc1 (M : Mo) (mg : Str → Option Value) (base : Heap) : Prop where
  cm_System_rows : ClX.CMet M.K (M.g i_System) (.type "type") "rows" (cmAd M.K (M.g i_System) "rows") (M.g i_System_rows)
  cr_System : ClX.CRead M.K (M.g i_System) (.type "type")
  d_Roll___init__ : ∃ fd, FunD M.K "__init__" "Roll.__init__" (defArgs (mem 28 1)) (defBody (mem 28 1)) (defScope (mem 28 1)) (dv_Roll___init__ M.K) [] (M.g i_Roll___init__) fd
  d_Roll_ahead : ∃ fd, FunD M.K "ahead" "Roll.ahead" (defArgs (mem 28 5)) (defBody (mem 28 5)) (defScope (mem 28 5)) (dv_Roll_ahead M.K) [] (M.g i_Roll_ahead) fd
  d_Roll_behind : ∃ fd, FunD M.K "behind" "Roll.behind" (defArgs (mem 28 6)) (defBody (mem 28 6)) (defScope (mem 28 6)) (dv_Roll_behind M.K) [] (M.g i_Roll_behind) fd
  d_Roll_frame : ∃ fd, FunD M.K "frame" "Roll.frame" (defArgs (mem 28 2)) (defBody (mem 28 2)) (defScope (mem 28 2)) (dv_Roll_frame M.K) [] (M.g i_Roll_frame) fd
  d_Roll_is_left : ∃ fd, FunD M.K "is_left" "Roll.is_left" (defArgs (mem 28 7)) (defBody (mem 28 7)) (defScope (mem 28 7)) (dv_Roll_is_left M.K) [] (M.g i_Roll_is_left) fd
  d_Roll_put : ∃ fd, FunD M.K "put" "Roll.put" (defArgs (mem 28 3)) (defBody (mem 28 3)) (defScope (mem 28 3)) (dv_Roll_put M.K) [] (M.g i_Roll_put) fd
  d_Roll_word : ∃ fd, FunD M.K "word" "Roll.word" (defArgs (mem 28 4)) (defBody (mem 28 4)) (defScope (mem 28 4)) (dv_Roll_word M.K) [] (M.g i_Roll_word) fd
  d_System___init__ : ∃ fd, FunD M.K "__init__" "System.__init__" (defArgs (mem 40 1)) (defBody (mem 40 1)) (defScope (mem 40 1)) (dv_System___init__ M.K) [] (M.g i_System___init__) fd
  d_System_ring : ∃ fd, FunD M.K "ring" "System.ring" (defArgs (mem 40 6)) (defBody (mem 40 6)) (defScope (mem 40 6)) (dv_System_ring M.K) [] (M.g i_System_ring) fd
  d_System_rows : ∃ fd, FunD M.K "rows" "System.rows" (defArgs (mem 40 2)) (defBody (mem 40 2)) (defScope (mem 40 2)) (dv_System_rows M.K) [] (M.g i_System_rows) fd
structure Fc2 (M : Mo) (mg : Str → Option Value) (base : Heap) : Prop where
  d__law_crock : ∃ fd, FunD M.K "_law_crock" "_law_crock" (defArgs (top 91)) (defBody (top 91)) (defScope (top 91)) (dv__law_crock M.K) [] (M.g i__law_crock) fd
  d__law_met : ∃ fd, FunD M.K "_law_met" "_law_met" (defArgs (top 94)) (defBody (top 94)) (defScope (top 94)) (dv__law_met M.K) [] (M.g i__law_met) fd
  d__law_right : ∃ fd, FunD M.K "_law_right" "_law_right" (defArgs (top 95)) (defBody (top 95)) (defScope (top 95)) (dv__law_right M.K) [] (M.g i__law_right) fd
  d__law_scoop : ∃ fd, FunD M.K "_law_scoop" "_law_scoop" (defArgs (top 92)) (defBody (top 92)) (defScope (top 92)) (dv__law_scoop M.K) [] (M.g i__law_scoop) fd
  d__law_select : ∃ fd, FunD M.K "_law_select" "_law_select" (defArgs (top 93)) (defBody (top 93)) (defScope (top 93)) (dv__law_select M.K) [] (M.g i__law_select) fd
  d_added_numbers : ∃ fd, FunD M.K "added_numbers" "added_numbers" (defArgs (top 55)) (defBody (top 55)) (defScope (top 55)) (dv_added_numbers M.K) [] (M.g i_added_numbers) fd
  d_added_row : ∃ fd, FunD M.K "added_row" "added_row" (defArgs (top 18)) (defBody (top 18)) (defScope (top 18)) (dv_added_row M.K) [] (M.g i_added_row) fd
  d_are_bonds : ∃ fd, FunD M.K "are_bonds" "are_bonds" (defArgs (top 37)) (defBody (top 37)) (defScope (top 37)) (dv_are_bonds M.K) [] (M.g i_are_bonds) fd
  d_factors_by : ∃ fd, FunD M.K "factors_by" "factors_by" (defArgs (top 38)) (defBody (top 38)) (defScope (top 38)) (dv_factors_by M.K) [] (M.g i_factors_by) fd
  d_first_frame : ∃ fd, FunD M.K "first_frame" "first_frame" (defArgs (top 19)) (defBody (top 19)) (defScope (top 19)) (dv_first_frame M.K) [] (M.g i_first_frame) fd
  d_first_left : ∃ fd, FunD M.K "first_left" "first_left" (defArgs (top 25)) (defBody (top 25)) (defScope (top 25)) (dv_first_left M.K) [] (M.g i_first_left) fd
  d_frame_ahead : ∃ fd, FunD M.K "frame_ahead" "frame_ahead" (defArgs (top 21)) (defBody (top 21)) (defScope (top 21)) (dv_frame_ahead M.K) [] (M.g i_frame_ahead) fd
structure Fc3 (M : Mo) (mg : Str → Option Value) (base : Heap) : Prop where
  d_frame_behind : ∃ fd, FunD M.K "frame_behind" "frame_behind" (defArgs (top 20)) (defBody (top 20)) (defScope (top 20)) (dv_frame_behind M.K) [] (M.g i_frame_behind) fd
  d_frame_of : ∃ fd, FunD M.K "frame_of" "frame_of" (defArgs (top 22)) (defBody (top 22)) (defScope (top 22)) (dv_frame_of M.K) [] (M.g i_frame_of) fd
  d_is_bond_told : ∃ fd, FunD M.K "is_bond_told" "is_bond_told" (defArgs (top 36)) (defBody (top 36)) (defScope (top 36)) (dv_is_bond_told M.K) [] (M.g i_is_bond_told) fd
  d_is_left : ∃ fd, FunD M.K "is_left" "is_left" (defArgs (top 23)) (defBody (top 23)) (defScope (top 23)) (dv_is_left M.K) [] (M.g i_is_left) fd
  d_is_row : ∃ fd, FunD M.K "is_row" "is_row" (defArgs (top 65)) (defBody (top 65)) (defScope (top 65)) (dv_is_row M.K) [] (M.g i_is_row) fd
  d_is_row_below : ∃ fd, FunD M.K "is_row_below" "is_row_below" (defArgs (top 14)) (defBody (top 14)) (defScope (top 14)) (dv_is_row_below M.K) [] (M.g i_is_row_below) fd
  d_is_row_paper : ∃ fd, FunD M.K "is_row_paper" "is_row_paper" (defArgs (top 89)) (defBody (top 89)) (defScope (top 89)) (dv_is_row_paper M.K) [] (M.g i_is_row_paper) fd
  d_is_smooth : ∃ fd, FunD M.K "is_smooth" "is_smooth" (defArgs (top 84)) (defBody (top 84)) (defScope (top 84)) (dv_is_smooth M.K) [] (M.g i_is_smooth) fd
  d_is_smooth_lot : ∃ fd, FunD M.K "is_smooth_lot" "is_smooth_lot" (defArgs (top 75)) (defBody (top 75)) (defScope (top 75)) (dv_is_smooth_lot M.K) [] (M.g i_is_smooth_lot) fd
  d_is_smooth_paper : ∃ fd, FunD M.K "is_smooth_paper" "is_smooth_paper" (defArgs (top 86)) (defBody (top 86)) (defScope (top 86)) (dv_is_smooth_paper M.K) [] (M.g i_is_smooth_paper) fd
  d_is_under_in : ∃ fd, FunD M.K "is_under_in" "is_under_in" (defArgs (top 51)) (defBody (top 51)) (defScope (top 51)) (dv_is_under_in M.K) [] (M.g i_is_under_in) fd
  d_is_whole : ∃ fd, FunD M.K "is_whole" "is_whole" (defArgs (top 10)) (defBody (top 10)) (defScope (top 10)) (dv_is_whole M.K) [] (M.g i_is_whole) fd
structure Fc4 (M : Mo) (mg : Str → Option Value) (base : Heap) : Prop where
  d_is_within : ∃ fd, FunD M.K "is_within" "is_within" (defArgs (top 11)) (defBody (top 11)) (defScope (top 11)) (dv_is_within M.K) [] (M.g i_is_within) fd
  d_is_word_in : ∃ fd, FunD M.K "is_word_in" "is_word_in" (defArgs (top 44)) (defBody (top 44)) (defScope (top 44)) (dv_is_word_in M.K) [] (M.g i_is_word_in) fd
  d_later_row : ∃ fd, FunD M.K "later_row" "later_row" (defArgs (top 59)) (defBody (top 59)) (defScope (top 59)) (dv_later_row M.K) [] (M.g i_later_row) fd
  d_law : ∃ fd, FunD M.K "law" "law" (defArgs (top 96)) (defBody (top 96)) (defScope (top 96)) (dv_law M.K) [] (M.g i_law) fd
  d_led_down : ∃ fd, FunD M.K "led_down" "led_down" (defArgs (top 50)) (defBody (top 50)) (defScope (top 50)) (dv_led_down M.K) [] (M.g i_led_down) fd
  d_led_row : ∃ fd, FunD M.K "led_row" "led_row" (defArgs (top 16)) (defBody (top 16)) (defScope (top 16)) (dv_led_row M.K) [] (M.g i_led_row) fd
  d_letter_row : ∃ fd, FunD M.K "letter_row" "letter_row" (defArgs (top 15)) (defBody (top 15)) (defScope (top 15)) (dv_letter_row M.K) [] (M.g i_letter_row) fd
  d_letter_sum : ∃ fd, FunD M.K "letter_sum" "letter_sum" (defArgs (top 57)) (defBody (top 57)) (defScope (top 57)) (dv_letter_sum M.K) [] (M.g i_letter_sum) fd
  d_members_under_in : ∃ fd, FunD M.K "members_under_in" "members_under_in" (defArgs (top 53)) (defBody (top 53)) (defScope (top 53)) (dv_members_under_in M.K) [] (M.g i_members_under_in) fd
  d_mirrors_at : ∃ fd, FunD M.K "mirrors_at" "mirrors_at" (defArgs (top 83)) (defBody (top 83)) (defScope (top 83)) (dv_mirrors_at M.K) [] (M.g i_mirrors_at) fd
  d_mu_of : ∃ fd, FunD M.K "mu_of" "mu_of" (defArgs (top 58)) (defBody (top 58)) (defScope (top 58)) (dv_mu_of M.K) [] (M.g i_mu_of) fd
  d_normal_in : ∃ fd, FunD M.K "normal_in" "normal_in" (defArgs (top 45)) (defBody (top 45)) (defScope (top 45)) (dv_normal_in M.K) [] (M.g i_normal_in) fd
structure Fc5 (M : Mo) (mg : Str → Option Value) (base : Heap) : Prop where
  d_numbers_of : ∃ fd, FunD M.K "numbers_of" "numbers_of" (defArgs (top 74)) (defBody (top 74)) (defScope (top 74)) (dv_numbers_of M.K) [] (M.g i_numbers_of) fd
  d_p_row_in : ∃ fd, FunD M.K "p_row_in" "p_row_in" (defArgs (top 61)) (defBody (top 61)) (defScope (top 61)) (dv_p_row_in M.K) [] (M.g i_p_row_in) fd
  d_p_row_kept : ∃ fd, FunD M.K "p_row_kept" "p_row_kept" (defArgs (top 60)) (defBody (top 60)) (defScope (top 60)) (dv_p_row_kept M.K) [] (M.g i_p_row_kept) fd
  d_put_at : ∃ fd, FunD M.K "put_at" "put_at" (defArgs (top 56)) (defBody (top 56)) (defScope (top 56)) (dv_put_at M.K) [] (M.g i_put_at) fd
  d_require_row : ∃ fd, FunD M.K "require_row" "require_row" (defArgs (top 66)) (defBody (top 66)) (defScope (top 66)) (dv_require_row M.K) [] (M.g i_require_row) fd
  d_require_system : ∃ fd, FunD M.K "require_system" "require_system" (defArgs (top 41)) (defBody (top 41)) (defScope (top 41)) (dv_require_system M.K) [] (M.g i_require_system) fd
  d_require_system_and_word : ∃ fd, FunD M.K "require_system_and_word" "require_system_and_word" (defArgs (top 47)) (defBody (top 47)) (defScope (top 47)) (dv_require_system_and_word M.K) [] (M.g i_require_system_and_word) fd
  d_require_word : ∃ fd, FunD M.K "require_word" "require_word" (defArgs (top 46)) (defBody (top 46)) (defScope (top 46)) (dv_require_word M.K) [] (M.g i_require_word) fd
  d_row_paper : ∃ fd, FunD M.K "row_paper" "row_paper" (defArgs (top 88)) (defBody (top 88)) (defScope (top 88)) (dv_row_paper M.K) [] (M.g i_row_paper) fd
  d_smooth_paper : ∃ fd, FunD M.K "smooth_paper" "smooth_paper" (defArgs (top 85)) (defBody (top 85)) (defScope (top 85)) (dv_smooth_paper M.K) [] (M.g i_smooth_paper) fd
  d_under_in : ∃ fd, FunD M.K "under_in" "under_in" (defArgs (top 52)) (defBody (top 52)) (defScope (top 52)) (dv_under_in M.K) [] (M.g i_under_in) fd
  d_word_of_frame : ∃ fd, FunD M.K "word_of_frame" "word_of_frame" (defArgs (top 26)) (defBody (top 26)) (defScope (top 26)) (dv_word_of_frame M.K) [] (M.g i_word_of_frame) fd
structure Fc6 (M : Mo) (mg : Str → Option Value) (base : Heap) : Prop where
  d_worst_in : ∃ fd, FunD M.K "worst_in" "worst_in" (defArgs (top 76)) (defBody (top 76)) (defScope (top 76)) (dv_worst_in M.K) [] (M.g i_worst_in) fd
  d_worst_members : ∃ fd, FunD M.K "worst_members" "worst_members" (defArgs (top 87)) (defBody (top 87)) (defScope (top 87)) (dv_worst_members M.K) [] (M.g i_worst_members) fd
  es_InvalidNumber : PySem.W.subIn M.K (.ref (M.g i_InvalidNumber)) (.type "BaseException") = some true
  es_InvalidOperation : PySem.W.subIn M.K (.ref (M.g i_InvalidOperation)) (.type "BaseException") = some true
  es_InvalidRow : PySem.W.subIn M.K (.ref (M.g i_InvalidRow)) (.type "BaseException") = some true
  es_InvalidSystem : PySem.W.subIn M.K (.ref (M.g i_InvalidSystem)) (.type "BaseException") = some true
  es_InvalidWord : PySem.W.subIn M.K (.ref (M.g i_InvalidWord)) (.type "BaseException") = some true
  es_TooMany : PySem.W.subIn M.K (.ref (M.g i_TooMany)) (.type "BaseException") = some true
  et_InvalidNumber : PySem.W.typeIn M.K (.ref (M.g i_InvalidNumber)) = some (.type "type")
  et_InvalidOperation : PySem.W.typeIn M.K (.ref (M.g i_InvalidOperation)) = some (.type "type")
  et_InvalidRow : PySem.W.typeIn M.K (.ref (M.g i_InvalidRow)) = some (.type "type")
  et_InvalidSystem : PySem.W.typeIn M.K (.ref (M.g i_InvalidSystem)) = some (.type "type")
structure Fc7 (M : Mo) (mg : Str → Option Value) (base : Heap) : Prop where
  et_InvalidWord : PySem.W.typeIn M.K (.ref (M.g i_InvalidWord)) = some (.type "type")
  et_TooMany : PySem.W.typeIn M.K (.ref (M.g i_TooMany)) = some (.type "type")
  ex_InvalidOperation : PySem.W.excIn M.K (M.g i_InvalidOperation) He.veBase "ValueError.__new__" = true
  ex_InvalidRow : PySem.W.excIn M.K (M.g i_InvalidRow) He.veBase "ValueError.__new__" = true
  ex_InvalidSystem : PySem.W.excIn M.K (M.g i_InvalidSystem) He.veBase "ValueError.__new__" = true
  ex_InvalidWord : PySem.W.excIn M.K (M.g i_InvalidWord) He.veBase "ValueError.__new__" = true
  fl_InvalidNumber : M.fld i_InvalidNumber = some "given"
  fl_InvalidOperation : M.fld i_InvalidOperation = none
  fl_InvalidRow : M.fld i_InvalidRow = none
  fl_InvalidSystem : M.fld i_InvalidSystem = none
  fl_InvalidWord : M.fld i_InvalidWord = none
  fl_TooMany : M.fld i_TooMany = some "most"
structure Fc8 (M : Mo) (mg : Str → Option Value) (base : Heap) : Prop where
  g_BARRED : mg "BARRED" = some (.ref (M.g i_BARRED))
  g_BONDS : mg "BONDS" = some (.ref (M.g i_BONDS))
  g_FACTORS : mg "FACTORS" = some (.ref (M.g i_FACTORS))
  g_InvalidNumber : mg "InvalidNumber" = some (.ref (M.g i_InvalidNumber))
  g_InvalidOperation : mg "InvalidOperation" = some (.ref (M.g i_InvalidOperation))
  g_InvalidRow : mg "InvalidRow" = some (.ref (M.g i_InvalidRow))
  g_InvalidSystem : mg "InvalidSystem" = some (.ref (M.g i_InvalidSystem))
  g_InvalidWord : mg "InvalidWord" = some (.ref (M.g i_InvalidWord))
  g_Roll : mg "Roll" = some (.ref (M.g i_Roll))
  g_System : mg "System" = some (.ref (M.g i_System))
  g_TooMany : mg "TooMany" = some (.ref (M.g i_TooMany))
  g__law_crock : mg "_law_crock" = some (.ref (M.g i__law_crock))
structure Fc9 (M : Mo) (mg : Str → Option Value) (base : Heap) : Prop where
  g__law_met : mg "_law_met" = some (.ref (M.g i__law_met))
  g__law_right : mg "_law_right" = some (.ref (M.g i__law_right))
  g__law_scoop : mg "_law_scoop" = some (.ref (M.g i__law_scoop))
  g__law_select : mg "_law_select" = some (.ref (M.g i__law_select))
  g_added_numbers : mg "added_numbers" = some (.ref (M.g i_added_numbers))
  g_added_row : mg "added_row" = some (.ref (M.g i_added_row))
  g_are_bonds : mg "are_bonds" = some (.ref (M.g i_are_bonds))
  g_barred_places : mg "barred_places" = some (.ref (M.g i_barred_places))
  g_factors_by : mg "factors_by" = some (.ref (M.g i_factors_by))
  g_first_frame : mg "first_frame" = some (.ref (M.g i_first_frame))
  g_first_left : mg "first_left" = some (.ref (M.g i_first_left))
  g_four_places : mg "four_places" = some (.ref (M.g i_four_places))
structure Fc10 (M : Mo) (mg : Str → Option Value) (base : Heap) : Prop where
  g_frame_ahead : mg "frame_ahead" = some (.ref (M.g i_frame_ahead))
  g_frame_behind : mg "frame_behind" = some (.ref (M.g i_frame_behind))
  g_frame_of : mg "frame_of" = some (.ref (M.g i_frame_of))
  g_is_below : mg "is_below" = some (.ref (M.g i_is_below))
  g_is_bond_told : mg "is_bond_told" = some (.ref (M.g i_is_bond_told))
  g_is_left_frames : mg "is_left_frames" = some (.ref (M.g i_is_left))
  g_is_numbers : mg "is_numbers" = some (.ref (M.g i_is_numbers))
  g_is_row : mg "is_row" = some (.ref (M.g i_is_row))
  g_is_row_below : mg "is_row_below" = some (.ref (M.g i_is_row_below))
  g_is_row_paper : mg "is_row_paper" = some (.ref (M.g i_is_row_paper))
  g_is_smooth : mg "is_smooth" = some (.ref (M.g i_is_smooth))
  g_is_smooth_lot : mg "is_smooth_lot" = some (.ref (M.g i_is_smooth_lot))
structure Fc11 (M : Mo) (mg : Str → Option Value) (base : Heap) : Prop where
  g_is_smooth_paper : mg "is_smooth_paper" = some (.ref (M.g i_is_smooth_paper))
  g_is_under_in : mg "is_under_in" = some (.ref (M.g i_is_under_in))
  g_is_whole : mg "is_whole" = some (.ref (M.g i_is_whole))
  g_is_within : mg "is_within" = some (.ref (M.g i_is_within))
  g_is_word_in : mg "is_word_in" = some (.ref (M.g i_is_word_in))
  g_later_row : mg "later_row" = some (.ref (M.g i_later_row))
  g_led_down : mg "led_down" = some (.ref (M.g i_led_down))
  g_led_row : mg "led_row" = some (.ref (M.g i_led_row))
  g_letter_row : mg "letter_row" = some (.ref (M.g i_letter_row))
  g_letter_sum : mg "letter_sum" = some (.ref (M.g i_letter_sum))
  g_lies_as : mg "lies_as" = some (.ref (M.g i_lies_as))
  g_members_under_in : mg "members_under_in" = some (.ref (M.g i_members_under_in))
structure Fc12 (M : Mo) (mg : Str → Option Value) (base : Heap) : Prop where
  g_mirror_numbers : mg "mirror_numbers" = some (.ref (M.g i_mirror_numbers))
  g_mirrors_at : mg "mirrors_at" = some (.ref (M.g i_mirrors_at))
  g_mu_of : mg "mu_of" = some (.ref (M.g i_mu_of))
  g_normal_in : mg "normal_in" = some (.ref (M.g i_normal_in))
  g_numbers_of : mg "numbers_of" = some (.ref (M.g i_numbers_of))
  g_p_row_in : mg "p_row_in" = some (.ref (M.g i_p_row_in))
  g_p_row_kept : mg "p_row_kept" = some (.ref (M.g i_p_row_kept))
  g_put_at : mg "put_at" = some (.ref (M.g i_put_at))
  g_require_row : mg "require_row" = some (.ref (M.g i_require_row))
  g_require_system : mg "require_system" = some (.ref (M.g i_require_system))
  g_require_system_and_word : mg "require_system_and_word" = some (.ref (M.g i_require_system_and_word))
  g_require_word : mg "require_word" = some (.ref (M.g i_require_word))
structure Fc13 (M : Mo) (mg : Str → Option Value) (base : Heap) : Prop where
  g_row_paper : mg "row_paper" = some (.ref (M.g i_row_paper))
  g_runs_of : mg "runs_of" = some (.ref (M.g i_runs_of))
  g_smooth_paper : mg "smooth_paper" = some (.ref (M.g i_smooth_paper))
  g_times_s : mg "times_s" = some (.ref (M.g i_times_s))
  g_under_in : mg "under_in" = some (.ref (M.g i_under_in))
  g_word_of_frame : mg "word_of_frame" = some (.ref (M.g i_word_of_frame))
  g_worst_in : mg "worst_in" = some (.ref (M.g i_worst_in))
  g_worst_members : mg "worst_members" = some (.ref (M.g i_worst_members))
  isi_System : IsiOk M.K M.g (.ref (M.g i_System)) ⟨false, false, false, false, false, false, false, isiC_System⟩
  k_InvalidNumber : PySem.W.keepIn M.K (.ref (M.g i_InvalidNumber)) = true
  k_InvalidOperation : PySem.W.keepIn M.K (.ref (M.g i_InvalidOperation)) = true
  k_InvalidRow : PySem.W.keepIn M.K (.ref (M.g i_InvalidRow)) = true
structure Fc14 (M : Mo) (mg : Str → Option Value) (base : Heap) : Prop where
  k_InvalidSystem : PySem.W.keepIn M.K (.ref (M.g i_InvalidSystem)) = true
  k_InvalidWord : PySem.W.keepIn M.K (.ref (M.g i_InvalidWord)) = true
  k_TooMany : PySem.W.keepIn M.K (.ref (M.g i_TooMany)) = true
  k__law_crock : PySem.W.keepIn M.K (.ref (M.g i__law_crock)) = true
  k__law_met : PySem.W.keepIn M.K (.ref (M.g i__law_met)) = true
  k__law_right : PySem.W.keepIn M.K (.ref (M.g i__law_right)) = true
  k__law_scoop : PySem.W.keepIn M.K (.ref (M.g i__law_scoop)) = true
  k__law_select : PySem.W.keepIn M.K (.ref (M.g i__law_select)) = true
  k_added_numbers : PySem.W.keepIn M.K (.ref (M.g i_added_numbers)) = true
  k_added_row : PySem.W.keepIn M.K (.ref (M.g i_added_row)) = true
  k_are_bonds : PySem.W.keepIn M.K (.ref (M.g i_are_bonds)) = true
  k_barred_places : PySem.W.keepIn M.K (.ref (M.g i_barred_places)) = true
structure Fc15 (M : Mo) (mg : Str → Option Value) (base : Heap) : Prop where
  k_factors_by : PySem.W.keepIn M.K (.ref (M.g i_factors_by)) = true
  k_first_frame : PySem.W.keepIn M.K (.ref (M.g i_first_frame)) = true
  k_first_left : PySem.W.keepIn M.K (.ref (M.g i_first_left)) = true
  k_four_places : PySem.W.keepIn M.K (.ref (M.g i_four_places)) = true
  k_frame_ahead : PySem.W.keepIn M.K (.ref (M.g i_frame_ahead)) = true
  k_frame_behind : PySem.W.keepIn M.K (.ref (M.g i_frame_behind)) = true
  k_frame_of : PySem.W.keepIn M.K (.ref (M.g i_frame_of)) = true
  k_is_below : PySem.W.keepIn M.K (.ref (M.g i_is_below)) = true
  k_is_bond_told : PySem.W.keepIn M.K (.ref (M.g i_is_bond_told)) = true
  k_is_left : PySem.W.keepIn M.K (.ref (M.g i_is_left)) = true
  k_is_numbers : PySem.W.keepIn M.K (.ref (M.g i_is_numbers)) = true
  k_is_row : PySem.W.keepIn M.K (.ref (M.g i_is_row)) = true
structure Fc16 (M : Mo) (mg : Str → Option Value) (base : Heap) : Prop where
  k_is_row_below : PySem.W.keepIn M.K (.ref (M.g i_is_row_below)) = true
  k_is_row_paper : PySem.W.keepIn M.K (.ref (M.g i_is_row_paper)) = true
  k_is_smooth : PySem.W.keepIn M.K (.ref (M.g i_is_smooth)) = true
  k_is_smooth_lot : PySem.W.keepIn M.K (.ref (M.g i_is_smooth_lot)) = true
  k_is_smooth_paper : PySem.W.keepIn M.K (.ref (M.g i_is_smooth_paper)) = true
  k_is_under_in : PySem.W.keepIn M.K (.ref (M.g i_is_under_in)) = true
  k_is_whole : PySem.W.keepIn M.K (.ref (M.g i_is_whole)) = true
  k_is_within : PySem.W.keepIn M.K (.ref (M.g i_is_within)) = true
  k_is_word_in : PySem.W.keepIn M.K (.ref (M.g i_is_word_in)) = true
  k_later_row : PySem.W.keepIn M.K (.ref (M.g i_later_row)) = true
  k_led_down : PySem.W.keepIn M.K (.ref (M.g i_led_down)) = true
  k_led_row : PySem.W.keepIn M.K (.ref (M.g i_led_row)) = true
structure Fc17 (M : Mo) (mg : Str → Option Value) (base : Heap) : Prop where
  k_letter_row : PySem.W.keepIn M.K (.ref (M.g i_letter_row)) = true
  k_letter_sum : PySem.W.keepIn M.K (.ref (M.g i_letter_sum)) = true
  k_lies_as : PySem.W.keepIn M.K (.ref (M.g i_lies_as)) = true
  k_members_under_in : PySem.W.keepIn M.K (.ref (M.g i_members_under_in)) = true
  k_mirror_numbers : PySem.W.keepIn M.K (.ref (M.g i_mirror_numbers)) = true
  k_mirrors_at : PySem.W.keepIn M.K (.ref (M.g i_mirrors_at)) = true
  k_mu_of : PySem.W.keepIn M.K (.ref (M.g i_mu_of)) = true
  k_normal_in : PySem.W.keepIn M.K (.ref (M.g i_normal_in)) = true
  k_numbers_of : PySem.W.keepIn M.K (.ref (M.g i_numbers_of)) = true
  k_p_row_in : PySem.W.keepIn M.K (.ref (M.g i_p_row_in)) = true
  k_p_row_kept : PySem.W.keepIn M.K (.ref (M.g i_p_row_kept)) = true
  k_put_at : PySem.W.keepIn M.K (.ref (M.g i_put_at)) = true
structure Fc18 (M : Mo) (mg : Str → Option Value) (base : Heap) : Prop where
  k_require_row : PySem.W.keepIn M.K (.ref (M.g i_require_row)) = true
  k_require_system : PySem.W.keepIn M.K (.ref (M.g i_require_system)) = true
  k_require_system_and_word : PySem.W.keepIn M.K (.ref (M.g i_require_system_and_word)) = true
  k_require_word : PySem.W.keepIn M.K (.ref (M.g i_require_word)) = true
  k_row_paper : PySem.W.keepIn M.K (.ref (M.g i_row_paper)) = true
  k_runs_of : PySem.W.keepIn M.K (.ref (M.g i_runs_of)) = true
  k_smooth_paper : PySem.W.keepIn M.K (.ref (M.g i_smooth_paper)) = true
  k_times_s : PySem.W.keepIn M.K (.ref (M.g i_times_s)) = true
  k_under_in : PySem.W.keepIn M.K (.ref (M.g i_under_in)) = true
  k_word_of_frame : PySem.W.keepIn M.K (.ref (M.g i_word_of_frame)) = true
  k_worst_in : PySem.W.keepIn M.K (.ref (M.g i_worst_in)) = true
  k_worst_members : PySem.W.keepIn M.K (.ref (M.g i_worst_members)) = true
structure Fc19 (M : Mo) (mg : Str → Option Value) (base : Heap) : Prop where
  kd_FACTORS : KDi M (M.g i_FACTORS) D_FACTORS
  m_Roll_ahead : Meth M.K (M.g i_Roll) "ahead" (M.g i_Roll_ahead)
  m_Roll_behind : Meth M.K (M.g i_Roll) "behind" (M.g i_Roll_behind)
  m_Roll_frame : Meth M.K (M.g i_Roll) "frame" (M.g i_Roll_frame)
  m_Roll_is_left : Meth M.K (M.g i_Roll) "is_left" (M.g i_Roll_is_left)
  m_Roll_put : Meth M.K (M.g i_Roll) "put" (M.g i_Roll_put)
  m_Roll_word : Meth M.K (M.g i_Roll) "word" (M.g i_Roll_word)
  mk_Roll : Mk M.K (M.g i_Roll) (M.g i_Roll___init__)
  mk_System : Mk M.K (M.g i_System) (M.g i_System___init__)
  n_abs : mg "abs" = none
  n_all : mg "all" = none
  n_any : mg "any" = none
structure Fc20 (M : Mo) (mg : Str → Option Value) (base : Heap) : Prop where
  n_bool : mg "bool" = none
  n_enumerate : mg "enumerate" = none
  n_int : mg "int" = none
  n_isinstance : mg "isinstance" = none
  n_len : mg "len" = none
  n_list : mg "list" = none
  n_max : mg "max" = none
  n_min : mg "min" = none
  n_next : mg "next" = none
  n_range : mg "range" = none
  n_sorted : mg "sorted" = none
  n_str : mg "str" = none
structure Fc21 (M : Mo) (mg : Str → Option Value) (base : Heap) : Prop where
  n_sum : mg "sum" = none
  n_super : mg "super" = none
  n_tuple : mg "tuple" = none
  n_zip : mg "zip" = none
  no_TooMany : PySem.W.findIn M.K (.ref (M.g i_TooMany)) "most" = some none
  sc_Roll : SlX.SCls M.K (M.g i_Roll)
  sc_System : SlX.SCls M.K (M.g i_System)
  sl_own_bonds : SlX.Slot1 M.K (M.g i_System) "own_bonds" (slAd M.K (M.g i_System) "own_bonds") 0
  sl_own_factors : SlX.Slot1 M.K (M.g i_System) "own_factors" (slAd M.K (M.g i_System) "own_factors") 1
  sl_own_frames : SlX.Slot1 M.K (M.g i_Roll) "own_frames" (slAd M.K (M.g i_Roll) "own_frames") 0
  sl_own_golden : SlX.Slot1 M.K (M.g i_System) "own_golden" (slAd M.K (M.g i_System) "own_golden") 2
  sl_own_letters : SlX.Slot1 M.K (M.g i_System) "own_letters" (slAd M.K (M.g i_System) "own_letters") 3
structure Fc22 (M : Mo) (mg : Str → Option Value) (base : Heap) : Prop where
  sl_own_system : SlX.Slot1 M.K (M.g i_Roll) "own_system" (slAd M.K (M.g i_Roll) "own_system") 1
  sl_own_words : SlX.Slot1 M.K (M.g i_Roll) "own_words" (slAd M.K (M.g i_Roll) "own_words") 2
  su_InvalidNumber : SupX.SupC M.P M.K "IndexError" "IndexError.__new__" "IndexError.__init__" bm_IndexError (M.g i_InvalidNumber) (M.g i_InvalidNumber___init__) "__init__" "InvalidNumber.__init__" "self" "given" "given" "a number within the told bounds is expected" (suB (defBody (mem 7 0))).1 (defScope (mem 7 0)) (defArgs (mem 7 0)) (fun n => (suB (defBody (mem 7 0))).2.getD n ⟨0, 0, 0, 0⟩)
  su_TooMany : SupX.SupC M.P M.K "OverflowError" "OverflowError.__new__" "OverflowError.__init__" bm_OverflowError (M.g i_TooMany) (M.g i_TooMany___init__) "__init__" "TooMany.__init__" "self" "most" "most" "fewer of them are expected" (suB (defBody (mem 8 0))).1 (defScope (mem 8 0)) (defArgs (mem 8 0)) (fun n => (suB (defBody (mem 8 0))).2.getD n ⟨0, 0, 0, 0⟩)
  t_BARRED : ∀ r H, RelW M.K M.g r H W_BARRED (.ref (M.g i_BARRED))
  t_BONDS : ∀ r H, RelW M.K M.g r H W_BONDS (.ref (M.g i_BONDS))
  tb__law_right : ∀ fd, FunD M.K "_law_right" "_law_right" (defArgs (top 95)) (defBody (top 95)) (defScope (top 95)) (dv__law_right M.K) [] (M.g i__law_right) fd → ∃ c P, fd.code = .ref c ∧ LamX.TabB base mg c P ∧ (P, ("_law_right.<locals>.<lambda>" : Str)) ∈ M.tabs ∧ ∀ p ∈ M.tabs, p.1 = P → p.2 = ("_law_right.<locals>.<lambda>" : Str)
  tb_first_left : ∀ fd, FunD M.K "first_left" "first_left" (defArgs (top 25)) (defBody (top 25)) (defScope (top 25)) (dv_first_left M.K) [] (M.g i_first_left) fd → ∃ c P, fd.code = .ref c ∧ LamX.TabB base mg c P ∧ (P, ("first_left.<locals>.<genexpr>" : Str)) ∈ M.tabs ∧ ∀ p ∈ M.tabs, p.1 = P → p.2 = ("first_left.<locals>.<genexpr>" : Str)
  tb_law : ∀ fd, FunD M.K "law" "law" (defArgs (top 96)) (defBody (top 96)) (defScope (top 96)) (dv_law M.K) [] (M.g i_law) fd → ∃ c P, fd.code = .ref c ∧ LamX.TabB base mg c P ∧ (P, ("law.<locals>.<lambda>" : Str)) ∈ M.tabs ∧ ∀ p ∈ M.tabs, p.1 = P → p.2 = ("law.<locals>.<lambda>" : Str)
  tb_smooth_paper : ∀ fd, FunD M.K "smooth_paper" "smooth_paper" (defArgs (top 85)) (defBody (top 85)) (defScope (top 85)) (dv_smooth_paper M.K) [] (M.g i_smooth_paper) fd → ∃ c P, fd.code = .ref c ∧ LamX.TabB base mg c P ∧ (P, ("smooth_paper.<locals>.<genexpr>" : Str)) ∈ M.tabs ∧ ∀ p ∈ M.tabs, p.1 = P → p.2 = ("smooth_paper.<locals>.<genexpr>" : Str)
  ti_InvalidNumber : PySem.W.typeIn M.K (.ref (M.g i_InvalidNumber___init__)) = some (.type "function")
  ti_TooMany : PySem.W.typeIn M.K (.ref (M.g i_TooMany___init__)) = some (.type "function")
structure Fc23 (M : Mo) (mg : Str → Option Value) (base : Heap) : Prop where
  xf_TooMany : XfC M.K (M.g i_TooMany)
  xm_met : ∀ n ∈ [i_InvalidSystem, i_InvalidWord, i_InvalidRow, i_InvalidOperation, i_TooMany], ∀ c ∈ [i_InvalidSystem, i_InvalidWord, i_InvalidRow, i_InvalidOperation, i_TooMany], PySem.W.exmOne M.K (.ref (M.g n)) (.ref (M.g c)) = some (Nat.beq n c)
/-- what the head tells -/
structure Fc (M : Mo) (mg : Str → Option Value) (base : Heap) : Prop where
  a0 : Fc0 M mg base
  a1 : Fc1 M mg base
  a2 : Fc2 M mg base
  a3 : Fc3 M mg base
  a4 : Fc4 M mg base
  a5 : Fc5 M mg base
  a6 : Fc6 M mg base
  a7 : Fc7 M mg base
  a8 : Fc8 M mg base
  a9 : Fc9 M mg base
  a10 : Fc10 M mg base
  a11 : Fc11 M mg base
  a12 : Fc12 M mg base
  a13 : Fc13 M mg base
  a14 : Fc14 M mg base
  a15 : Fc15 M mg base
  a16 : Fc16 M mg base
  a17 : Fc17 M mg base
  a18 : Fc18 M mg base
  a19 : Fc19 M mg base
  a20 : Fc20 M mg base
  a21 : Fc21 M mg base
  a22 : Fc22 M mg base
  a23 : Fc23 M mg base
end K73
end
end

section
set_option maxRecDepth 100000
set_option maxHeartbeats 4000000
noncomputable section
namespace K73
open PySem PySem.Spec L2 Eng
open PyProof.Rows hiding St

def ctMet : List Ct := [⟨i_InvalidSystem, ["refused", "system"], none⟩, ⟨i_InvalidWord, ["refused", "word"], none⟩, ⟨i_InvalidRow, ["refused", "row"], none⟩, ⟨i_InvalidOperation, ["refused", "operation"], none⟩, ⟨i_TooMany, ["refused", "many"], some "most"⟩]
def R__law_crock_0 (zs : List Int) : SCode := (scAsg (cIte (cCmp tbLt (cVar g1) (cFn (fLenO 0 zs) (aCons (cVar g0) aNil))) (cFn fInt (aCons (cBin (fIxO 0 zs) (cVar g0) (cVar g1)) aNil)) (cBin fAddS (cBin fAddS (cBin (fMulS false) (cCon (.int (.ofNat 2399))) (cVar g1)) (cCon (.int (.ofNat 61)))) (cBin fMod (cFn fInt (aCons (cFn fSum (aCons (cSlO 0 zs (cVar g0) oN (oS (cCon (.int (.ofNat 1))))) aNil)) aNil)) (cCon (.int (.ofNat 1000199)))))) (gcName s2))
def R__law_crock_1 (zs : List Int) : SCode := (scAsg (cBin fMod (cFn fInt (aCons (cFn fAbs (aCons (cVar g2) aNil)) aNil)) (cBin fPow (cBin fPow (cCon (.int (.ofNat 10))) (cCon (.int (.ofNat 54)))) (cCon (.int (.ofNat 8))))) (gcName s3))
def R__law_crock_2 (zs : List Int) : SCode := (scAsg (cBin fMod (cFn fInt (aCons (cBin fAddS (cBin fAddS (cBin fAddS (cBin (fMulS false) (cBin fMod (cVar g3) (cCon (.int (.ofNat 2305843009213693921)))) (cCon (.int (.ofNat 70001)))) (cBin (fMulS false) (cCon (.int (.ofNat 6301))) (cVar g1))) (cBin (fMulS false) (cCon (.int (.ofNat 23))) (cFn fInt (aCons (cVal (cCmp tbLt (cVar g2) (cCon (.int (.ofNat 0))))) aNil)))) (cCon (.int (.ofNat 59)))) aNil)) (cCon (.int (.ofNat 2305843009213693951)))) (gcName (sUp s0)))
def R__law_crock_3 (zs : List Int) : SCode := (scRet (cLstO (aCons (cFn fMax2 (aCons (cCon (.int (.ofNat 0))) (aCons (cBin fSub (cVar g3) (cBin fPow (cCon (.int (.ofNat 10))) (cCon (.int (.ofNat 16))))) aNil))) (aCons (cVar (gUp g0)) (aCons (cCon (.int (.ofNat 0))) aNil)))))
def S__law_crock (zs : List Int) : SCode := (scSeq (R__law_crock_0 zs) (scSeq (R__law_crock_1 zs) (scSeq (R__law_crock_2 zs) (R__law_crock_3 zs))))
def C__law_crock (zs : List Int) : Cl → Fn := fnC 2 2 (S__law_crock zs)
def S__law_scoop : SCode := (scSeq (scIf (cCmp (tbI fun i j => ltI j i) (cBin fIx (cVar g0) (cCon (.int (.ofNat 0)))) (cCon (.int (.ofNat 0)))) (scSeq (scAsg (cBin fMod (cFn fInt (aCons (cBin fIx (cVar g0) (cCon (.int (.ofNat 0)))) aNil)) (cVar g1)) (gcName (sUp s0))) (scSeq (scAsg (cBin fDiv (cBin fIx (cVar g0) (cCon (.int (.ofNat 0)))) (cVar g1)) (gcSub (cVar g0) (cCon (.int (.ofNat 0))))) (scRet (cVar (gUp g0))))) scNil) (scSeq (scAsg (cBin fAddS (cBin fIx (cVar g0) (cCon (.int (.ofNat 2)))) (cCon (.int (.ofNat 1)))) (gcSub (cVar g0) (cCon (.int (.ofNat 2))))) (scSeq (scAsg (cBin fMod (cFn fInt (aCons (cBin fAddS (cBin fIx (cVar g0) (cCon (.int (.ofNat 1)))) (cBin (fMulS false) (cCon (.int (.ofNat 32452867))) (cBin fIx (cVar g0) (cCon (.int (.ofNat 2)))))) aNil)) (cCon (.int (.ofNat 2305843009213693907)))) (gcName s2)) (scSeq (scAsg (cBin fAddS (cBin fAddS (cBin (fMulS false) (cBin fMod (cFn fInt (aCons (cBin (fMulS false) (cVar g2) (cVar g2)) aNil)) (cCon (.int (.ofNat 2305843009213693951)))) (cCon (.int (.ofNat 86028157)))) (cVar g2)) (cBin (fMulS false) (cCon (.int (.ofNat 7))) (cBin fIx (cVar g0) (cCon (.int (.ofNat 2)))))) (gcName s3)) (scRet (cBin fMod (cFn fInt (aCons (cBin fDiv (cVar g3) (cCon (.int (.ofNat 131072)))) aNil)) (cVar g1)))))))
def C__law_scoop : Cl → Fn := fnC 2 2 (S__law_scoop)
def S__law_select : SCode := (scRet (cBin fIx (cVar g1) (cCall (fun c => C__law_scoop c) (aCons (cVar g0) (aCons (cFn fLen (aCons (cVar g1) aNil)) aNil)))))
def C__law_select : Cl → Fn := fnC 2 1 (S__law_select)
def S_is_whole : SCode := (scRet (cAndV (cVal (cIsi false true true false false false false noC (cVar g0))) (cNotV (cVal (cIsi false true false false false false false noC (cVar g0))))))
def C_is_whole : Cl → Fn := fnC 1 1 (S_is_whole)
def S_is_within : SCode := (scRet (cAndV (cCall (fun c => C_is_whole c) (aCons (cVar g0) aNil)) (cVal (cChain (tbI leI) (tbI leI) (cVar g1) (cVar g0) (cVar g2)))))
def C_is_within : Cl → Fn := fnC 3 1 (S_is_within)
def S_is_bond_told : SCode := (scSeq (scIf (cOr (cNot (cTst (cVal (cIsi false false false false true false false noC (cVar g1))))) (cCmp fNe (cFn fLen (aCons (cVar g1) aNil)) (cCon (.int (.ofNat 3))))) (scRet (cCon (.bl false))) scNil) (scSeq (scIf (cNot (cTst (cFn fAll (aCons (cLc false [2] (icSeq (cSl (cVar g1) oN (oS (cCon (.int (.ofNat 2)))))) (gcName s2) tcYes (cCall (fun c => C_is_within c) (aCons (cVar g2) (aCons (cCon (.int (.ofNat 0))) (aCons (cBin fSub (cVar g0) (cCon (.int (.ofNat 1)))) aNil))))) aNil)))) (scRet (cCon (.bl false))) scNil) (scRet (cAndV (cVal (cCmp tbLt (cBin fIx (cVar g1) (cCon (.int (.ofNat 0)))) (cBin fIx (cVar g1) (cCon (.int (.ofNat 1)))))) (cAndV (cCall (fun c => C_is_within c) (aCons (cBin fIx (cVar g1) (cCon (.int (.ofNat 2)))) (aCons (cCon (.int (.ofNat 0))) (aCons (cBin fIx (cCon W_BONDS) (cNeg (cCon (.int (.ofNat 1))))) aNil)))) (cVal (cCmp (tbInK i_FACTORS D_FACTORS) (cBin fIx (cVar g1) (cCon (.int (.ofNat 2)))) (cCon (.sta i_FACTORS)))))))))
def C_is_bond_told : Cl → Fn := fnC 2 1 (S_is_bond_told)
def S_are_bonds : SCode := (scSeq (scIf (cOr (cNot (cTst (cVal (cIsi false false false false true false false noC (cVar g1))))) (cNot (cTst (cFn fAll (aCons (cLc false [2] (icSeq (cVar g1)) (gcName s2) tcYes (cCall (fun c => C_is_bond_told c) (aCons (cVar g0) (aCons (cVar g2) aNil)))) aNil))))) (scRet (cCon (.bl false))) scNil) (scRet (cFn fAll (aCons (cLc false [2, 3] (icZip (aCons (cVar g1) (aCons (cSl (cVar g1) (oS (cCon (.int (.ofNat 1)))) oN) aNil))) (gcTup 2 (gcCons (gcName s2) (gcCons (gcName s3) gcNil))) tcYes (cVal (cCmp tbLt (cSl (cVar g2) oN (oS (cCon (.int (.ofNat 2))))) (cSl (cVar g3) oN (oS (cCon (.int (.ofNat 2)))))))) aNil))))
def C_are_bonds : Cl → Fn := fnC 2 1 (S_are_bonds)
def S_factors_by : SCode := (scSeq (scAsg (cLc true [6] (icR1 (aCons (cVar g0) aNil)) (gcName (sUp s2)) tcYes (cLc true [7] (icR1 (aCons (cVar g0) aNil)) (gcName (sUp s3)) tcYes (cTupD (aCons (cCon (.int (.ofNat 0))) (aCons (cCon (.int (.ofNat 0))) aNil))))) (gcName s2)) (scSeq (scFor (icSeq (cVar g1)) (gcTup 3 (gcCons (gcName s3) (gcCons (gcName (sUp s0)) (gcCons (gcName (sUp s1)) gcNil)))) (scAsg (cBin (fIxK i_FACTORS D_FACTORS) (cCon (.sta i_FACTORS)) (cVar (gUp g1))) (gcTup 2 (gcCons (gcSub (cBin fIx (cVar g2) (cVar g3)) (cVar (gUp g0))) (gcCons (gcSub (cBin fIx (cVar g2) (cVar (gUp g0))) (cVar g3)) gcNil))))) (scRet (cFn fTuple (aCons (cLc false [8] (icSeqO (cVar g2)) (gcName (sUp (sUp s0))) tcYes (cFn fTuple (aCons (cVar (gUp (gUp g0))) aNil))) aNil)))))
def C_factors_by : Cl → Fn := fnC 2 3 (S_factors_by)
def S_System___init__ : SCode := (scSeq (scIf (cNot (cTst (cCall (fun c => C_is_within c) (aCons (cVar g1) (aCons (cCon (.int (.ofNat 1))) (aCons (cCon (.int (.ofNat 4))) aNil)))))) (scRaiseV i_InvalidNumber (cVar g1)) scNil) (scSeq (scIf (cNot (cTst (cCall (fun c => C_are_bonds c) (aCons (cVar g1) (aCons (cVar g2) aNil))))) (scRaise i_InvalidSystem) scNil) (scSeq (scAttr i_System 3 (cVar g0) (cVar g1)) (scSeq (scAttr i_System 0 (cVar g0) (cVar g2)) (scSeq (scAttr i_System 1 (cVar g0) (cCall (fun c => C_factors_by c) (aCons (cVar g1) (aCons (cVar g2) aNil)))) (scAttr i_System 2 (cVar g0) (cFn fAny (aCons (cLc false [3, 4, 5] (icSeq (cVar g2)) (gcTup 3 (gcCons (gcName s3) (gcCons (gcName (sUp s0)) (gcCons (gcName (sUp s1)) gcNil)))) tcYes (cVal (cCmp fEq (cVar (gUp g1)) (cCon (.int (.ofNat 5)))))) aNil))))))))
def C_System___init__ : Cl → Fn := fnC 3 2 (S_System___init__)
def S_System_rows : SCode := (scSeq (scIf (cNot (cTst (cCall (fun c => C_is_within c) (aCons (cVar g1) (aCons (cCon (.int (.ofNat 2))) (aCons (cCon (.int (.ofNat 5))) aNil)))))) (scRaiseV i_InvalidNumber (cVar g1)) scNil) (scRet (cMakeL g0 i_System (fun c => C_System___init__ c) und_System (aCons (cBin fSub (cVar g1) (cCon (.int (.ofNat 1)))) (aCons (cFn fTuple (aCons (cLc false [2] (icR1 (aCons (cBin fSub (cVar g1) (cCon (.int (.ofNat 2)))) aNil)) (gcName s2) tcYes (cTupD (aCons (cVar g2) (aCons (cBin fAddS (cVar g2) (cCon (.int (.ofNat 1)))) (aCons (cCon (.int (.ofNat 3))) aNil))))) aNil)) aNil)))))
def C_System_rows : Cl → Fn := fnC 2 1 (S_System_rows)
def S_require_system : SCode := (scIf (cNot (cTst (cVal (cIsi false false false false false false false isiC_System (cVar g0))))) (scRaise i_InvalidSystem) scNil)
def C_require_system : Cl → Fn := fnC 1 1 (S_require_system)
def S_is_word_in : SCode := (scSeq (scIf (cOr (cNot (cTst (cVal (cIsi false false false false true false false noC (cVar g1))))) (cCmp (tbI fun i j => ltI j i) (cFn fLen (aCons (cVar g1) aNil)) (cCon (.int (.ofNat 40))))) (scRet (cCon (.bl false))) scNil) (scRet (cFn fAll (aCons (cLc false [2] (icSeq (cVar g1)) (gcName s2) tcYes (cCall (fun c => C_is_within c) (aCons (cVar g2) (aCons (cCon (.int (.ofNat 0))) (aCons (cBin fSub (cAttr i_System 3 (cVar g0)) (cCon (.int (.ofNat 1)))) aNil))))) aNil))))
def C_is_word_in : Cl → Fn := fnC 2 1 (S_is_word_in)
def S_require_word : SCode := (scIf (cNot (cTst (cCall (fun c => C_is_word_in c) (aCons (cVar g0) (aCons (cVar g1) aNil))))) (scRaise i_InvalidWord) scNil)
def C_require_word : Cl → Fn := fnC 2 1 (S_require_word)
def S_require_system_and_word : SCode := (scSeq (scE (cCall (fun c => C_require_system c) (aCons (cVar g0) aNil))) (scE (cCall (fun c => C_require_word c) (aCons (cVar g0) (aCons (cVar g1) aNil)))))
def C_require_system_and_word : Cl → Fn := fnC 2 1 (S_require_system_and_word)
def S_letter_row : SCode := (scSeq (scAsg (cBin (fMulS false) (cAttr i_System 3 (cVar g0)) (cIte (cTst (cAttr i_System 2 (cVar g0))) (cCon (.int (.ofNat 2))) (cCon (.int (.ofNat 1))))) (gcName s2)) (scRet (cFn fTuple (aCons (cLc false [3] (icR1 (aCons (cVar g2) aNil)) (gcName s3) tcYes (cFn fInt (aCons (cVal (cCmp fEq (cVar g3) (cVar g1))) aNil))) aNil))))
def C_letter_row : Cl → Fn := fnC 2 1 (S_letter_row)
def S_first_frame : SCode := (scRet (cFn fTuple (aCons (cLc false [1] (icR1 (aCons (cAttr i_System 3 (cVar g0)) aNil)) (gcName s1) tcYes (cCall (fun c => C_letter_row c) (aCons (cVar g0) (aCons (cVar g1) aNil)))) aNil)))
def C_first_frame : Cl → Fn := fnC 1 1 (S_first_frame)
def S_led_row : SCode := (scSeq (scAsg (cTupD (aCons (cBin fIx (cAttr i_System 1 (cVar g0)) (cVar g1)) (aCons (cAttr i_System 3 (cVar g0)) aNil))) (gcTup 2 (gcCons (gcName (sUp s2)) (gcCons (gcName (sUp s3)) gcNil)))) (scSeq (scAsg (cBin fAddS (cNeg (cBin fIx (cVar g2) (cVar g1))) (cFn fSum (aCons (cLc false [8, 9] (icEnum (aCons (cVar (gUp g2)) aNil)) (gcTup 2 (gcCons (gcName (sUp (sUp s0))) (gcCons (gcName (sUp (sUp s1))) gcNil))) tcYes (cBin (fMulS false) (cBin fIx (cVar (gUp (gUp g1))) (cCon (.int (.ofNat 0)))) (cBin fIx (cVar g2) (cVar (gUp (gUp g0)))))) aNil))) (gcName s3)) (scSeq (scIf (cNot (cTst (cAttr i_System 2 (cVar g0)))) (scRet (cTupD (aStar (cSl (cVar g2) oN (oS (cVar g1))) (aCons (cVar g3) (aStar (cSl (cVar g2) (oS (cBin fAddS (cVar g1) (cCon (.int (.ofNat 1))))) oN) aNil))))) scNil) (scSeq (scAsg (cBin fAddS (cVar g1) (cVar (gUp g3))) (gcName (sUp s0))) (scSeq (scAug g3 s3 (cFn fSum (aCons (cLc false [8, 9] (icEnum (aCons (cVar (gUp g2)) aNil)) (gcTup 2 (gcCons (gcName (sUp (sUp s0))) (gcCons (gcName (sUp (sUp s1))) gcNil))) tcYes (cBin (fMulS false) (cBin fIx (cVar (gUp (gUp g1))) (cCon (.int (.ofNat 1)))) (cBin fIx (cVar g2) (cBin fAddS (cVar (gUp (gUp g0))) (cVar (gUp g3)))))) aNil)) fAdd) (scSeq (scAsg (cBin fAddS (cNeg (cBin fIx (cVar g2) (cVar (gUp g0)))) (cFn fSum (aCons (cLc false [8, 9] (icEnum (aCons (cVar (gUp g2)) aNil)) (gcTup 2 (gcCons (gcName (sUp (sUp s0))) (gcCons (gcName (sUp (sUp s1))) gcNil))) tcYes (cBin (fMulS false) (cBin fIx (cVar (gUp (gUp g1))) (cCon (.int (.ofNat 0)))) (cBin fIx (cVar g2) (cBin fAddS (cVar (gUp (gUp g0))) (cVar (gUp g3)))))) aNil))) (gcName (sUp s1))) (scSeq (scAug (gUp g1) (sUp s1) (cFn fSum (aCons (cLc false [8, 9] (icEnum (aCons (cVar (gUp g2)) aNil)) (gcTup 2 (gcCons (gcName (sUp (sUp s0))) (gcCons (gcName (sUp (sUp s1))) gcNil))) tcYes (cBin (fMulS false) (cBin fIx (cVar (gUp (gUp g1))) (cCon (.int (.ofNat 1)))) (cBin fAddS (cBin fIx (cVar g2) (cVar (gUp (gUp g0)))) (cBin fIx (cVar g2) (cBin fAddS (cVar (gUp (gUp g0))) (cVar (gUp g3))))))) aNil)) fAdd) (scRet (cTupD (aStar (cSl (cVar g2) oN (oS (cVar g1))) (aCons (cVar g3) (aStar (cSl (cVar g2) (oS (cBin fAddS (cVar g1) (cCon (.int (.ofNat 1))))) (oS (cVar (gUp g0)))) (aCons (cVar (gUp g1)) (aStar (cSl (cVar g2) (oS (cBin fAddS (cVar (gUp g0)) (cCon (.int (.ofNat 1))))) oN) aNil))))))))))))))
def C_led_row : Cl → Fn := fnC 3 3 (S_led_row)
def S_frame_behind : SCode := (scRet (cFn fTuple (aCons (cLc false [3] (icSeq (cVar g1)) (gcName s3) tcYes (cCall (fun c => C_led_row c) (aCons (cVar g0) (aCons (cVar g2) (aCons (cVar g3) aNil))))) aNil)))
def C_frame_behind : Cl → Fn := fnC 3 1 (S_frame_behind)
def S_frame_of : SCode := (scSeq (scAsg (cCall (fun c => C_first_frame c) (aCons (cVar g0) aNil)) (gcName s2)) (scSeq (scFor (icSeq (cVar g1)) (gcName s3) (scAsg (cCall (fun c => C_frame_behind c) (aCons (cVar g0) (aCons (cVar g2) (aCons (cVar g3) aNil)))) (gcName s2))) (scRet (cVar g2))))
def C_frame_of : Cl → Fn := fnC 2 1 (S_frame_of)
def S_is_row_below : SCode := (scSeq (scIf (cNot (cTst (cAttr i_System 2 (cVar g0)))) (scRet (cVal (cCmp tbLt (cFn fMinT (aCons (cVar g1) aNil)) (cCon (.int (.ofNat 0)))))) scNil) (scSeq (scAsg (cAttr i_System 3 (cVar g0)) (gcName s2)) (scRet (cFn fAny (aCons (cLc false [3] (icR1 (aCons (cVar g2) aNil)) (gcName s3) tcYes (cCall (fun _ => cutF) (aCons (cBin fIx (cVar g1) (cVar g3)) (aCons (cBin fIx (cVar g1) (cBin fAddS (cVar g3) (cVar g2))) aNil)))) aNil)))))
def C_is_row_below : Cl → Fn := fnC 2 1 (S_is_row_below)
def S_is_left : SCode := (scRet (cCall (fun c => C_is_row_below c) (aCons (cVar g0) (aCons (cBin fIx (cVar g1) (cVar g2)) aNil))))
def C_is_left : Cl → Fn := fnC 3 1 (S_is_left)
def S_first_left : SCode := (scRet (cNextG [2] (icR1 (aCons (cAttr i_System 3 (cVar g0)) aNil)) (gcName s2) (cTst (cCall (fun c => C_is_left c) (aCons (cVar g0) (aCons (cVar g1) (aCons (cVar g2) aNil))))) (cVar g2)))
def C_first_left : Cl → Fn := fnC 2 1 (S_first_left)
def S_added_row : SCode := (scSeq (scAsg (cVar g2) (gcTup 2 (gcCons (gcName (sUp s0)) (gcCons (gcName (sUp s1)) gcNil)))) (scSeq (scIf (cCmp fNe (cVar (gUp g1)) (cCon (.int (.ofNat 0)))) (scSeq (scAsg (cCall (fun _ => cutF) (aCons (cAttr i_System 3 (cVar g0)) (aCons (cVar g3) aNil))) (gcName s3)) (scAsg (cVar (gUp g1)) (gcName (sUp s0)))) scNil) (scRet (cIte (cCmp fEq (cVar (gUp g0)) (cCon (.int (.ofNat 0)))) (cVar g1) (cFn fTuple (aCons (cLc false [6, 7] (icZip (aCons (cVar g1) (aCons (cVar g3) aNil))) (gcTup 2 (gcCons (gcName (sUp s2)) (gcCons (gcName (sUp s3)) gcNil))) tcYes (cBin fAddS (cVar (gUp g2)) (cBin (fMulS false) (cVar (gUp g0)) (cVar (gUp g3))))) aNil))))))
def C_added_row : Cl → Fn := fnC 4 2 (S_added_row)
def S_frame_ahead : SCode := (scSeq (scAsg (cTupD (aCons (cBin fIx (cVar g1) (cVar g2)) (aCons (cBin fIx (cAttr i_System 1 (cVar g0)) (cVar g2)) aNil))) (gcTup 2 (gcCons (gcName (sUp s0)) (gcCons (gcName (sUp s1)) gcNil)))) (scSeq (scAsg (cLc true [6, 7] (icZip (aCons (cVar g1) (aCons (cVar (gUp g1)) aNil))) (gcTup 2 (gcCons (gcName (sUp s2)) (gcCons (gcName (sUp s3)) gcNil))) tcYes (cCall (fun c => C_added_row c) (aCons (cVar g0) (aCons (cVar (gUp g2)) (aCons (cVar (gUp g3)) (aCons (cVar (gUp g0)) aNil)))))) (gcName s3)) (scSeq (scAsg (cFn fTuple (aCons (cLc false [8] (icSeq (cVar (gUp g0))) (gcName (sUp (sUp s0))) tcYes (cNeg (cVar (gUp (gUp g0))))) aNil)) (gcSub (cVar g3) (cVar g2))) (scRet (cFn fTuple (aCons (cVar g3) aNil))))))
def C_frame_ahead : Cl → Fn := fnC 3 3 (S_frame_ahead)
def S_word_of_frame : SCode := (scSeq (scAsg (cLstO aNil) (gcName s2)) (scSeq (scAsg (cCall (fun c => C_first_left c) (aCons (cVar g0) (aCons (cVar g1) aNil))) (gcName s3)) (scSeq (scWhile 100000 (cN tbNotN (cVar g3)) (scSeq (scE (cMtL fApp (cVar g2) (aCons (cVar g3) aNil))) (scSeq (scAsg (cCall (fun c => C_frame_ahead c) (aCons (cVar g0) (aCons (cVar g1) (aCons (cVar g3) aNil)))) (gcName s1)) (scAsg (cCall (fun c => C_first_left c) (aCons (cVar g0) (aCons (cVar g1) aNil))) (gcName s3))))) (scRet (cFn fTuple (aCons (cVar g2) aNil))))))
def C_word_of_frame : Cl → Fn := fnC 2 1 (S_word_of_frame)
def S_normal_in : SCode := (scRet (cCall (fun c => C_word_of_frame c) (aCons (cVar g0) (aCons (cCall (fun c => C_frame_of c) (aCons (cVar g0) (aCons (cVar g1) aNil))) aNil))))
def C_normal_in : Cl → Fn := fnC 2 1 (S_normal_in)
def S_Roll___init__ : SCode := (scSeq (scAttr i_Roll 1 (cVar g0) (cVar g1)) (scSeq (scAttr i_Roll 0 (cVar g0) cDict0) (scAttr i_Roll 2 (cVar g0) cDict0)))
def C_Roll___init__ : Cl → Fn := fnC 2 1 (S_Roll___init__)
def S_Roll_put : SCode := (scSeq (scAsg (cVar g1) (gcSub (cAttr i_Roll 0 (cVar g0)) (cVar g2))) (scAsg (cVar g2) (gcSub (cAttr i_Roll 2 (cVar g0)) (cVar g1))))
def C_Roll_put : Cl → Fn := fnC 3 1 (S_Roll_put)
def S_Roll_frame : SCode := (scSeq (scIf (cCmp tbNin (cVar g1) (cAttr i_Roll 0 (cVar g0))) (scE (cMeth i_Roll (fun c => C_Roll_put c) (cVar g0) (aCons (cCall (fun c => C_frame_of c) (aCons (cAttr i_Roll 1 (cVar g0)) (aCons (cVar g1) aNil))) (aCons (cVar g1) aNil)))) scNil) (scRet (cBin fIx (cAttr i_Roll 0 (cVar g0)) (cVar g1))))
def C_Roll_frame : Cl → Fn := fnC 2 1 (S_Roll_frame)
def S_Roll_word : SCode := (scSeq (scIf (cCmp tbNin (cVar g1) (cAttr i_Roll 2 (cVar g0))) (scE (cMeth i_Roll (fun c => C_Roll_put c) (cVar g0) (aCons (cVar g1) (aCons (cCall (fun c => C_word_of_frame c) (aCons (cAttr i_Roll 1 (cVar g0)) (aCons (cVar g1) aNil))) aNil)))) scNil) (scRet (cBin fIx (cAttr i_Roll 2 (cVar g0)) (cVar g1))))
def C_Roll_word : Cl → Fn := fnC 2 1 (S_Roll_word)
def S_Roll_behind : SCode := (scRet (cMeth i_Roll (fun c => C_Roll_word c) (cVar g0) (aCons (cCall (fun c => C_frame_behind c) (aCons (cAttr i_Roll 1 (cVar g0)) (aCons (cMeth i_Roll (fun c => C_Roll_frame c) (cVar g0) (aCons (cVar g1) aNil)) (aCons (cVar g2) aNil)))) aNil)))
def C_Roll_behind : Cl → Fn := fnC 3 1 (S_Roll_behind)
def S_under_in : SCode := (scSeq (scAsg (cDict1 (cTupD aNil) (cCon (.bl true))) (gcName s2)) (scSeq (scFor (icSeq (cVar g1)) (gcName s3) (scSeq (scE (cMtDE fUpd (cVar g2) (aCons (cDc [5] (icSeq (cFn (fListD false) (aCons (cVar g2) aNil))) (gcName (sUp s1)) tcYes (cMeth i_Roll (fun c => C_Roll_behind c) (cVar g0) (aCons (cVar (gUp g1)) (aCons (cVar g3) aNil))) (cCon (.bl true))) aNil))) (scIf (cCmp (tbI fun i j => ltI j i) (cFn fLenD (aCons (cVar g2) aNil)) (cCon (.int (.ofNat 120)))) (scRaiseV i_TooMany (cCon (.int (.ofNat 120)))) scNil))) (scRet (cLc false [4, 5] (icSeq (cFn fSrtP (aCons (cLc false [5] (icKeys (cVar g2)) (gcName (sUp s1)) tcYes (cTupD (aCons (cFn fLen (aCons (cVar (gUp g1)) aNil)) (aCons (cVar (gUp g1)) aNil)))) aNil))) (gcTup 2 (gcCons (gcName (sUp s0)) (gcCons (gcName (sUp s1)) gcNil))) tcYes (cVar (gUp g1))))))
def C_under_in : Cl → Fn := fnC 2 2 (S_under_in)
def S_members_under_in : SCode := (scRet (cCall (fun c => C_under_in c) (aCons (cMake i_Roll (fun c => C_Roll___init__ c) und_Roll (aCons (cVar g0) aNil)) (aCons (cCall (fun c => C_normal_in c) (aCons (cVar g0) (aCons (cVar g1) aNil))) aNil))))
def C_members_under_in : Cl → Fn := fnC 2 1 (S_members_under_in)
def S_numbers_of : SCode := (scSeq (scAsg (cBin (fMulS true) (cLstD (aCons (cCon (.int (.ofNat 0))) aNil)) (cBin fAddS (cFn fLen (aCons (cBin fIx (cVar g0) (cNeg (cCon (.int (.ofNat 1))))) aNil)) (cCon (.int (.ofNat 1))))) (gcName s1)) (scSeq (scFor (icSeq (cVar g0)) (gcName s2) (scAugS (cVar g1) (cFn fLen (aCons (cVar g2) aNil)) (cCon (.int (.ofNat 1))) fAdd)) (scRet (cVar g1))))
def C_numbers_of : Cl → Fn := fnC 1 1 (S_numbers_of)
def S_is_smooth_lot : SCode := (scSeq (scAsg (cCall (fun c => C_numbers_of c) (aCons (cVar g0) aNil)) (gcName s1)) (scRet (cVal (cCmp fEq (cVar g1) (cRev (cVar g1))))))
def C_is_smooth_lot : Cl → Fn := fnC 1 1 (S_is_smooth_lot)
def S_smooth_paper : SCode := (scSeq (scE (cCall (fun c => C_require_system_and_word c) (aCons (cVar g0) (aCons (cVar g1) aNil)))) (scSeq (scAsg (cCall (fun c => C_members_under_in c) (aCons (cVar g0) (aCons (cVar g1) aNil))) (gcName s2)) (scSeq (scIf (cTst (cCall (fun c => C_is_smooth_lot c) (aCons (cVar g2) aNil))) (scRet (cTupD (aCons (cCon (.str "smooth")) (aCons (cFn fTuple (aCons (cCall (fun c => C_numbers_of c) (aCons (cVar g2) aNil)) aNil)) aNil)))) scNil) (scSeq (scAsg (cCall (fun _ => cutF) (aCons (cVar g0) (aCons (cVar g2) aNil))) (gcName s3)) (scSeq (scAsg (cNextG [5] (icSeq (cVar g2)) (gcName (sUp s1)) (cCmp (tbI fun i j => ltI j i) (cBin fIx (cVar g3) (cVar (gUp g1))) (cFn fLen (aCons (cBin fIx (cVar g2) (cNeg (cCon (.int (.ofNat 1))))) aNil))) (cVar (gUp g1))) (gcName (sUp s0))) (scRet (cTupD (aCons (cCon (.str "mirrors")) (aCons (cVar (gUp g0)) (aCons (cBin fIx (cVar g3) (cVar (gUp g0))) aNil))))))))))
def C_smooth_paper : Cl → Fn := fnC 2 2 (S_smooth_paper)
def S_Roll_ahead : SCode := (scRet (cMeth i_Roll (fun c => C_Roll_word c) (cVar g0) (aCons (cCall (fun c => C_frame_ahead c) (aCons (cAttr i_Roll 1 (cVar g0)) (aCons (cMeth i_Roll (fun c => C_Roll_frame c) (cVar g0) (aCons (cVar g2) aNil)) (aCons (cVar g1) aNil)))) aNil)))
def C_Roll_ahead : Cl → Fn := fnC 3 1 (S_Roll_ahead)
def S_added_numbers : SCode := (scSeq (scAsg (cLstD (aStar (cBin (fMulS false) (cLstD (aCons (cCon (.int (.ofNat 0))) aNil)) (cVar g3)) (aStar (cVar g1) aNil))) (gcName (sUp s0))) (scSeq (scAsg (cFn fMax2 (aCons (cFn fLen (aCons (cVar g0) aNil)) (aCons (cFn fLen (aCons (cVar (gUp g0)) aNil)) aNil))) (gcName (sUp s1))) (scSeq (scPar (aCons (cLstD (aStar (cVar g0) (aStar (cBin (fMulS false) (cLstD (aCons (cCon (.int (.ofNat 0))) aNil)) (cBin fSub (cVar (gUp g1)) (cFn fLen (aCons (cVar g0) aNil)))) aNil))) (aCons (cLstD (aStar (cVar (gUp g0)) (aStar (cBin (fMulS false) (cLstD (aCons (cCon (.int (.ofNat 0))) aNil)) (cBin fSub (cVar (gUp g1)) (cFn fLen (aCons (cVar (gUp g0)) aNil)))) aNil))) aNil)) (sUp s3) (sUp (sUp s0))) (scSeq (scAsg (cLc true [9, 10] (icZip (aCons (cVar (gUp g3)) (aCons (cVar (gUp (gUp g0))) aNil))) (gcTup 2 (gcCons (gcName (sUp (sUp s1))) (gcCons (gcName (sUp (sUp s2))) gcNil))) tcYes (cBin fAddS (cVar (gUp (gUp g1))) (cBin (fMulS false) (cVar g2) (cVar (gUp (gUp g2)))))) (gcName (sUp s2))) (scSeq (scWhile 100000 (cAnd (cCmp fNe (cVar (gUp g2)) (cLstD aNil)) (cCmp fEq (cBin fIx (cVar (gUp g2)) (cNeg (cCon (.int (.ofNat 1))))) (cCon (.int (.ofNat 0))))) (scE (cMtL fPop (cVar (gUp g2)) aNil))) (scRet (cVar (gUp g2))))))))
def C_added_numbers : Cl → Fn := fnC 4 3 (S_added_numbers)
def S_put_at : SCode := (scAsg (cCall (fun c => C_added_numbers c) (aCons (cMtDE fGet2 (cVar g0) (aCons (cVar g1) (aCons (cTupD aNil) aNil))) (aCons (cVar g2) (aCons (cVar g3) (aCons (cVar (gUp g0)) aNil))))) (gcSub (cVar g0) (cVar g1)))
def C_put_at : Cl → Fn := fnC 5 2 (S_put_at)
def S_letter_sum : SCode := (scSeq (scAsg cDict0 (gcName s3)) (scSeq (scFor (icItems (cVar g2)) (gcTup 2 (gcCons (gcName (sUp s0)) (gcCons (gcName (sUp s1)) gcNil))) (scSeq (scAsg (cMeth i_Roll (fun c => C_Roll_ahead c) (cVar g0) (aCons (cVar g1) (aCons (cVar (gUp g0)) aNil))) (gcName (sUp s2))) (scSeq (scAsg (cIte (cCmp (tbI fun i j => ltI j i) (cFn fLen (aCons (cVar (gUp g2)) aNil)) (cFn fLen (aCons (cVar (gUp g0)) aNil))) (cCon (.int (.ofNat 0))) (cCon (.int (.ofNat 1)))) (gcName (sUp s3))) (scSeq (scE (cCall (fun c => C_put_at c) (aCons (cVar g3) (aCons (cVar (gUp g2)) (aCons (cVar (gUp g1)) (aCons (cCon (.int (.ofNat 1))) (aCons (cVar (gUp g3)) aNil))))))) (scE (cCall (fun c => C_put_at c) (aCons (cVar g3) (aCons (cVar (gUp g0)) (aCons (cVar (gUp g1)) (aCons (cCon (.int (.ofNat 1))) (aCons (cVar (gUp g3)) aNil))))))))))) (scRet (cVar g3))))
def C_letter_sum : Cl → Fn := fnC 3 2 (S_letter_sum)
def S_Roll_is_left : SCode := (scRet (cCall (fun c => C_is_left c) (aCons (cAttr i_Roll 1 (cVar g0)) (aCons (cMeth i_Roll (fun c => C_Roll_frame c) (cVar g0) (aCons (cVar g2) aNil)) (aCons (cVar g1) aNil)))))
def C_Roll_is_left : Cl → Fn := fnC 3 1 (S_Roll_is_left)
def S_mu_of : SCode := (scSeq (scAsg (cBin fSub (cFn fLen (aCons (cVar g2) aNil)) (cFn fLen (aCons (cVar g1) aNil))) (gcName s3)) (scSeq (scAsg (cMtDE fGet2 (cVar g0) (aCons (cVar g1) (aCons (cTupD aNil) aNil))) (gcName (sUp s0))) (scRet (cIte (cAnd (cCmp (tbI fun i j => ltI j i) (cVar g3) (cCon (.int (.ofNat 0)))) (cAnd (cCmp fEq (cBin fMod (cVar g3) (cCon (.int (.ofNat 2)))) (cCon (.int (.ofNat 1)))) (cCmp (tbI fun i j => ltI j i) (cFn fLen (aCons (cVar (gUp g0)) aNil)) (cBin fDiv (cVar g3) (cCon (.int (.ofNat 2))))))) (cBin fIx (cVar (gUp g0)) (cBin fDiv (cVar g3) (cCon (.int (.ofNat 2))))) (cCon (.int (.ofNat 0)))))))
def C_mu_of : Cl → Fn := fnC 3 2 (S_mu_of)
def S_later_row : SCode := (scSeq (scAsg (cBin fIx (cVar g3) (cVar g2)) (gcName (sUp s0))) (scSeq (scAsg (cCall (fun c => C_letter_sum c) (aCons (cVar g0) (aCons (cVar g1) (aCons (cVar (gUp g0)) aNil)))) (gcName (sUp s1))) (scSeq (scFor (icKeys (cVar (gUp g0))) (gcName (sUp s2)) (scSeq (scAsg (cIte (cTst (cMeth i_Roll (fun c => C_Roll_is_left c) (cVar g0) (aCons (cVar g1) (aCons (cVar (gUp g2)) aNil)))) (cCall (fun c => C_mu_of c) (aCons (cVar (gUp g0)) (aCons (cVar (gUp g2)) (aCons (cVar g2) aNil)))) (cCon (.int (.ofNat 0)))) (gcName (sUp s3))) (scIf (cCmp fNe (cVar (gUp g3)) (cCon (.int (.ofNat 0)))) (scFor (icItems (cCall (fun c => c 0) (aCons (cVar g0) (aCons (cVar (gUp g2)) (aCons (cVar g3) aNil))))) (gcTup 2 (gcCons (gcName (sUp (sUp s0))) (gcCons (gcName (sUp (sUp s1))) gcNil))) (scE (cCall (fun c => C_put_at c) (aCons (cVar (gUp g1)) (aCons (cVar (gUp (gUp g0))) (aCons (cVar (gUp (gUp g1))) (aCons (cNeg (cVar (gUp g3))) (aCons (cBin fDiv (cBin fAddS (cBin fSub (cFn fLen (aCons (cVar g2) aNil)) (cFn fLen (aCons (cVar (gUp g2)) aNil))) (cCon (.int (.ofNat 1)))) (cCon (.int (.ofNat 2)))) aNil)))))))) scNil))) (scRet (cDc [8, 9] (icItems (cVar (gUp g1))) (gcTup 2 (gcCons (gcName (sUp (sUp s0))) (gcCons (gcName (sUp (sUp s1))) gcNil))) tcYes (cVar (gUp (gUp g0))) (cFn fTuple (aCons (cVar (gUp (gUp g1))) aNil)))))))
def C_later_row : Cl → Fn := fnC 4 3 (S_later_row)
def S_p_row_kept : SCode := (scSeq (scFor (icR3 (aCons (cBin fSub (cFn fLen (aCons (cVar g1) aNil)) (cCon (.int (.ofNat 1)))) (aCons (cNeg (cCon (.int (.ofNat 1)))) (aCons (cNeg (cCon (.int (.ofNat 1)))) aNil)))) (gcName s3) (scIf (cCmp tbNin (cSl (cVar g1) (oS (cVar g3)) oN) (cVar g2)) (scAsg (cCall (fun c => C_later_row c) (aCons (cVar g0) (aCons (cBin fIx (cVar g1) (cVar g3)) (aCons (cSl (cVar g1) (oS (cBin fAddS (cVar g3) (cCon (.int (.ofNat 1))))) oN) (aCons (cVar g2) aNil))))) (gcSub (cVar g2) (cSl (cVar g1) (oS (cVar g3)) oN))) scNil)) (scRet (cBin fIx (cVar g2) (cVar g1))))
def C_p_row_kept : Cl → Fn := fnC 3 1 (S_p_row_kept)
def clF : Nat → Cl := fun n => Nat.rec (motive := fun _ => Cl) (fun _ _ _ _ _ => .bad) (fun _ ih i => cB (Nat.beq i 0) (C_p_row_kept ih) (fun _ _ _ _ => .bad)) n
def S_p_row_in : SCode := (scSeq (scAsg (cCall (fun c => C_under_in c) (aCons (cVar g0) (aCons (cVar g1) aNil))) (gcName s2)) (scSeq (scAsg (cCall (fun _ => C_p_row_kept (clF 40)) (aCons (cVar g0) (aCons (cVar g1) (aCons (cDict1 (cTupD aNil) (cDict1 (cTupD aNil) (cTupD (aCons (cCon (.int (.ofNat 1))) aNil)))) aNil)))) (gcName s3)) (scRet (cDc [4] (icSeq (cVar g2)) (gcName (sUp s0)) tcYes (cVar (gUp g0)) (cBin fIx (cVar g3) (cVar (gUp g0)))))))
def C_p_row_in : Cl → Fn := fnC 2 2 (S_p_row_in)
def S_led_down : SCode := (scSeq (scPar (aCons (cVar g1) (aCons (cLstO aNil) aNil)) s3 (sUp s0)) (scSeq (scFor (icEnum (aCons (cVar g2) aNil)) (gcTup 2 (gcCons (gcName (sUp s1)) (gcCons (gcName (sUp s2)) gcNil))) (scIf (cTst (cMeth i_Roll (fun c => C_Roll_is_left c) (cVar g0) (aCons (cVar (gUp g2)) (aCons (cVar g3) aNil)))) (scSeq (scAsg (cMeth i_Roll (fun c => C_Roll_ahead c) (cVar g0) (aCons (cVar (gUp g2)) (aCons (cVar g3) aNil))) (gcName s3)) (scE (cMtL fApp (cVar (gUp g0)) (aCons (cVar (gUp g1)) aNil)))) scNil)) (scRet (cTupD (aCons (cVar g3) (aCons (cVar (gUp g0)) aNil))))))
def C_led_down : Cl → Fn := fnC 3 2 (S_led_down)
def S_is_under_in : SCode := (scRet (cAndV (cVal (cCmp (tbI leI) (cFn fLen (aCons (cVar g1) aNil)) (cFn fLen (aCons (cVar g2) aNil)))) (cVal (cCmp fEq (cBin fIx (cCall (fun c => C_led_down c) (aCons (cVar g0) (aCons (cVar g1) (aCons (cVar g2) aNil)))) (cCon (.int (.ofNat 0)))) (cTupD aNil)))))
def C_is_under_in : Cl → Fn := fnC 3 1 (S_is_under_in)
def S_worst_in : SCode := (scSeq (scAsg (cTupD (aCons (cMake i_Roll (fun c => C_Roll___init__ c) und_Roll (aCons (cVar g0) aNil)) (aCons (cLstO aNil) aNil))) (gcTup 2 (gcCons (gcName (sUp s0)) (gcCons (gcName (sUp s1)) gcNil)))) (scSeq (scAsg (cLc false [3, 6] (icItems (cCall (fun c => C_p_row_in c) (aCons (cVar (gUp g0)) (aCons (cCall (fun c => C_normal_in c) (aCons (cVar g0) (aCons (cVar g1) aNil))) aNil)))) (gcTup 2 (gcCons (gcName s3) (gcCons (gcName (sUp s2)) gcNil))) (cCmp fNe (cVar (gUp g2)) (cTupD (aCons (cCon (.int (.ofNat 1))) aNil))) (cVar g3)) (gcName s2)) (scSeq (scFor (icSeq (cVar g2)) (gcName s3) (scIf (cNot (cTst (cFn fAny (aCons (cLc false [8] (icSeq (cVar g2)) (gcName (sUp (sUp s0))) tcYes (cAndV (cVal (cCmp fNe (cVar (gUp (gUp g0))) (cVar g3))) (cCall (fun c => C_is_under_in c) (aCons (cVar (gUp g0)) (aCons (cVar g3) (aCons (cVar (gUp (gUp g0))) aNil)))))) aNil)))) (scE (cMtL fApp (cVar (gUp g1)) (aCons (cVar g3) aNil))) scNil)) (scRet (cLc false [7, 3] (icSeq (cFn fSrtP (aCons (cLc false [3] (icSeqO (cVar (gUp g1))) (gcName s3) tcYes (cTupD (aCons (cFn fLen (aCons (cVar g3) aNil)) (aCons (cVar g3) aNil)))) aNil))) (gcTup 2 (gcCons (gcName (sUp s3)) (gcCons (gcName s3) gcNil))) tcYes (cVar g3))))))
def C_worst_in : Cl → Fn := fnC 2 3 (S_worst_in)
def S_worst_members : SCode := (scSeq (scE (cCall (fun c => C_require_system_and_word c) (aCons (cVar g0) (aCons (cVar g1) aNil)))) (scRet (cFn fTuple (aCons (cCall (fun c => C_worst_in c) (aCons (cVar g0) (aCons (cVar g1) aNil))) aNil))))
def C_worst_members : Cl → Fn := fnC 2 1 (S_worst_members)
def S_is_smooth : SCode := (scSeq (scE (cCall (fun c => C_require_system c) (aCons (cVar g0) aNil))) (scRet (cAndV (cCall (fun c => C_is_word_in c) (aCons (cVar g0) (aCons (cVar g1) aNil))) (cCall (fun c => C_is_smooth_lot c) (aCons (cCall (fun c => C_members_under_in c) (aCons (cVar g0) (aCons (cVar g1) aNil))) aNil)))))
def C_is_smooth : Cl → Fn := fnC 2 1 (S_is_smooth)
def S_mirrors_at : SCode := (scSeq (scE (cCall (fun c => C_require_system_and_word c) (aCons (cVar g0) (aCons (cVar g1) aNil)))) (scSeq (scE (cCall (fun c => C_require_word c) (aCons (cVar g0) (aCons (cVar g2) aNil)))) (scSeq (scAsg (cCall (fun c => C_normal_in c) (aCons (cVar g0) (aCons (cVar g2) aNil))) (gcName s3)) (scSeq (scIf (cNot (cTst (cCall (fun c => C_is_under_in c) (aCons (cMake i_Roll (fun c => C_Roll___init__ c) und_Roll (aCons (cVar g0) aNil)) (aCons (cVar g3) (aCons (cCall (fun c => C_normal_in c) (aCons (cVar g0) (aCons (cVar g1) aNil))) aNil)))))) (scRaise i_InvalidOperation) scNil) (scRet (cBin fIx (cCall (fun _ => cutF) (aCons (cVar g0) (aCons (cCall (fun c => C_members_under_in c) (aCons (cVar g0) (aCons (cVar g1) aNil))) aNil))) (cVar g3)))))))
def C_mirrors_at : Cl → Fn := fnC 3 1 (S_mirrors_at)
def S_is_smooth_paper : SCode := (scSeq (scE (cCall (fun c => C_require_system_and_word c) (aCons (cVar g0) (aCons (cVar g1) aNil)))) (scSeq (scAsg (cCall (fun c => C_members_under_in c) (aCons (cVar g0) (aCons (cVar g1) aNil))) (gcName s3)) (scSeq (scIf (cOr (cNot (cTst (cVal (cIsi false false false false true false false noC (cVar g2))))) (cOr (cCmp tbNin (cFn fLen (aCons (cVar g2) aNil)) (cTupD (aCons (cCon (.int (.ofNat 2))) (aCons (cCon (.int (.ofNat 3))) aNil)))) (cNot (cTst (cVal (cIsi false false false true false false false noC (cBin fIx (cVar g2) (cCon (.int (.ofNat 0)))))))))) (scRet (cCon (.bl false))) scNil) (scSeq (scIf (cCmp fEq (cFn fLen (aCons (cVar g2) aNil)) (cCon (.int (.ofNat 2)))) (scRet (cAndV (cVal (cCmp fEq (cBin fIx (cVar g2) (cCon (.int (.ofNat 0)))) (cCon (.str "smooth")))) (cAndV (cCall (fun c => C_is_smooth_lot c) (aCons (cVar g3) aNil)) (cCall (fun _ => cutF) (aCons (cBin fIx (cVar g2) (cCon (.int (.ofNat 1)))) (aCons (cCall (fun c => C_numbers_of c) (aCons (cVar g3) aNil)) aNil)))))) scNil) (scSeq (scIf (cOr (cCmp fNe (cBin fIx (cVar g2) (cCon (.int (.ofNat 0)))) (cCon (.str "mirrors"))) (cOr (cNot (cTst (cCall (fun c => C_is_word_in c) (aCons (cVar g0) (aCons (cBin fIx (cVar g2) (cCon (.int (.ofNat 1)))) aNil))))) (cCmp tbNin (cBin fIx (cVar g2) (cCon (.int (.ofNat 1)))) (cVar g3)))) (scRet (cCon (.bl false))) scNil) (scSeq (scAsg (cBin fIx (cCall (fun _ => cutF) (aCons (cVar g0) (aCons (cVar g3) aNil))) (cBin fIx (cVar g2) (cCon (.int (.ofNat 1))))) (gcName (sUp s0))) (scRet (cAndV (cVal (cCmp (tbI fun i j => ltI j i) (cVar (gUp g0)) (cFn fLen (aCons (cBin fIx (cVar g3) (cNeg (cCon (.int (.ofNat 1))))) aNil)))) (cCall (fun c => C_is_within c) (aCons (cBin fIx (cVar g2) (cCon (.int (.ofNat 2)))) (aCons (cVar (gUp g0)) (aCons (cVar (gUp g0)) aNil))))))))))))
def C_is_smooth_paper : Cl → Fn := fnC 3 2 (S_is_smooth_paper)
def S_is_row : SCode := (scSeq (scIf (cOr (cNot (cTst (cVal (cIsi false false false false true false false noC (cVar g0))))) (cNot (cChain (tbI leI) (tbI leI) (cCon (.int (.ofNat 2))) (cFn fLen (aCons (cVar g0) aNil)) (cCon (.int (.ofNat 5)))))) (scRet (cCon (.bl false))) scNil) (scSeq (scIf (cNot (cTst (cFn fAll (aCons (cLc false [1] (icSeq (cVar g0)) (gcName s1) tcYes (cCall (fun c => C_is_within c) (aCons (cVar g1) (aCons (cCon (.int (.ofNat 1))) (aCons (cFn fLen (aCons (cVar g0) aNil)) aNil))))) aNil)))) (scRet (cCon (.bl false))) scNil) (scRet (cVal (cCmp fEq (cLenK [1] (icSeq (cVar g0)) (gcName s1) tcYes (cVar g1) (cCon (.bl true))) (cFn fLen (aCons (cVar g0) aNil)))))))
def C_is_row : Cl → Fn := fnC 1 1 (S_is_row)
def S_require_row : SCode := (scIf (cNot (cTst (cCall (fun c => C_is_row c) (aCons (cVar g0) aNil)))) (scRaise i_InvalidRow) scNil)
def C_require_row : Cl → Fn := fnC 1 1 (S_require_row)
def S_row_paper : SCode := (scSeq (scE (cCall (fun c => C_require_row c) (aCons (cVar g0) aNil))) (scSeq (scAsg (cCall (fun _ => cutF) (aCons (cVar g0) aNil)) (gcName s1)) (scRet (cIte (cN tbIsN (cVar g1)) (cTupD (aCons (cCon (.str "smooth")) (aCons (cFn fTuple (aCons (cCall (fun _ => cutF) (aCons (cVar g0) aNil)) aNil)) aNil))) (cTupD (aCons (cCon (.str "pattern")) (aCons (cVar g1) aNil)))))))
def C_row_paper : Cl → Fn := fnC 1 1 (S_row_paper)
def S_is_row_paper : SCode := (scSeq (scE (cCall (fun c => C_require_row c) (aCons (cVar g0) aNil))) (scSeq (scIf (cOr (cNot (cTst (cVal (cIsi false false false false true false false noC (cVar g1))))) (cOr (cCmp fNe (cFn fLen (aCons (cVar g1) aNil)) (cCon (.int (.ofNat 2)))) (cNot (cTst (cVal (cIsi false false false true false false false noC (cBin fIx (cVar g1) (cCon (.int (.ofNat 0)))))))))) (scRet (cCon (.bl false))) scNil) (scSeq (scIf (cCmp fEq (cBin fIx (cVar g1) (cCon (.int (.ofNat 0)))) (cCon (.str "smooth"))) (scRet (cAndV (cVal (cN tbIsN (cCall (fun _ => cutF) (aCons (cVar g0) aNil)))) (cCall (fun _ => cutF) (aCons (cBin fIx (cVar g1) (cCon (.int (.ofNat 1)))) (aCons (cCall (fun _ => cutF) (aCons (cVar g0) aNil)) aNil))))) scNil) (scSeq (scIf (cOr (cCmp fNe (cBin fIx (cVar g1) (cCon (.int (.ofNat 0)))) (cCon (.str "pattern"))) (cOr (cNot (cTst (cVal (cIsi false false false false true false false noC (cBin fIx (cVar g1) (cCon (.int (.ofNat 1)))))))) (cCmp tbNin (cBin fIx (cVar g1) (cCon (.int (.ofNat 1)))) (cCall (fun _ => cutF) (aCons (cFn fLen (aCons (cVar g0) aNil)) aNil))))) (scRet (cCon (.bl false))) scNil) (scSeq (scAsg (cFn fAll (aCons (cLc false [3] (icSeq (cBin fIx (cVar g1) (cCon (.int (.ofNat 1))))) (gcName s3) tcYes (cCall (fun c => C_is_within c) (aCons (cVar g3) (aCons (cCon (.int (.ofNat 0))) (aCons (cBin fSub (cFn fLen (aCons (cVar g0) aNil)) (cCon (.int (.ofNat 1)))) aNil))))) aNil)) (gcName s2)) (scRet (cAndV (cVar g2) (cVal (cCmp tbIn (cCall (fun _ => cutF) (aCons (cLc false [3] (icSeq (cBin fIx (cVar g1) (cCon (.int (.ofNat 1))))) (gcName s3) tcYes (cBin fIx (cVar g0) (cVar g3))) aNil)) (cCon W_BARRED))))))))))
def C_is_row_paper : Cl → Fn := fnC 2 1 (S_is_row_paper)
def R__law_right_0 : SCode := (scAsg (cCall (fun c => C__law_select c) (aCons (cVar g0) (aCons (cLstD (aCons (cCon .non) (aCons (cCon (.int (.ofNat 3))) (aCons (cTupD (aCons (cCon (.int (.ofNat 3))) (aCons (cTupD aNil) aNil))) (aCons (cCon (.str "3 letters")) (aCons (cLstD aNil) (aCons cDict0 (aCons (cCon (.bl true)) aNil)))))))) aNil))) (gcName s1))
def R__law_right_1 : SCode := (scAsg (cLstD (aCons (cCon .non) (aCons (cCon (.int (.ofNat 0))) (aCons (cCon (.str "01")) (aCons (cLstD (aCons (cCon (.int (.ofNat 0))) (aCons (cCon (.int (.ofNat 1))) aNil))) (aCons (cTupD (aCons (cCon (.int (.ofNat 3))) aNil)) (aCons (cTupD (aCons (cCon (.int (.ofNat 0))) (aCons (cNeg (cCon (.int (.ofNat 1)))) aNil))) (aCons (cTupD (aCons (cCon (.bl true)) aNil)) (aCons (cTupD (aCons (cCon .non) aNil)) (aCons (cTupD (aCons (cCon (.str "0")) aNil)) (aCons (cBin (fMulS false) (cTupD (aCons (cCon (.int (.ofNat 0))) aNil)) (cCon (.int (.ofNat 41)))) (aCons (cTupD (aCons (cTupD (aCons (cCon (.int (.ofNat 0))) aNil)) aNil)) (aCons (cTupD (aCons (cBin fPow (cCon (.int (.ofNat 10))) (cCon (.int (.ofNat 60)))) aNil)) (aCons cDict0 aNil)))))))))))))) (gcName s2))
def R__law_right_2 : SCode := (scAsg (cTupD (aCons (cCall (fun c => C__law_select c) (aCons (cVar g0) (aCons (cVar g2) aNil))) (aCons (cCall (fun c => C__law_select c) (aCons (cVar g0) (aCons (cLstD (aCons (cCon .non) (aCons (cCon (.int (.ofNat 1))) (aCons (cLstD (aCons (cCon (.int (.ofNat 1))) aNil)) (aCons (cTupD (aCons (cCon (.int (.ofNat 1))) (aCons (cCon (.int (.ofNat 3))) aNil))) (aCons (cTupD (aCons (cCon (.bl false)) aNil)) (aCons (cTupD (aCons (cCon (.int (.ofNat 0))) (aCons (cCon .non) aNil))) (aCons (cCon (.str "1")) (aCons (cBin (fMulS false) (cTupD (aCons (cCon (.int (.ofNat 0))) aNil)) (cCon (.int (.ofNat 41)))) aNil))))))))) aNil))) aNil))) (gcTup 2 (gcCons (gcName s2) (gcCons (gcName (sUp s3)) gcNil))))
def R__law_right_3 : SCode := (scAsg (cLstD (aCons (cCon .non) (aCons (cCon (.int (.ofNat 3))) (aCons (cCon (.str "12")) (aCons (cLstD (aCons (cCon (.int (.ofNat 1))) (aCons (cCon (.int (.ofNat 2))) aNil))) (aCons (cTupD (aCons (cCon (.int (.ofNat 1))) aNil)) (aCons (cTupD aNil) (aCons (cTupD (aCons (cCon (.int (.ofNat 1))) (aCons (cCon (.int (.ofNat 1))) aNil))) (aCons (cTupD (aCons (cCon (.int (.ofNat 0))) (aCons (cCon (.int (.ofNat 1))) aNil))) (aCons (cTupD (aCons (cCon (.int (.ofNat 1))) (aCons (cCon (.int (.ofNat 3))) aNil))) (aCons (cTupD (aCons (cCon (.bl true)) (aCons (cCon (.int (.ofNat 2))) aNil))) (aCons (cTupD (aCons (cCon (.int (.ofNat 1))) (aCons (cCon (.int (.ofNat 2))) (aCons (cCon (.int (.ofNat 3))) (aCons (cCon (.int (.ofNat 4))) (aCons (cCon (.int (.ofNat 5))) (aCons (cCon (.int (.ofNat 6))) aNil))))))) (aCons (cTupD (aCons (cNeg (cCon (.int (.ofNat 1)))) (aCons (cCon (.int (.ofNat 2))) aNil))) (aCons (cTupD (aCons (cCon (.int (.ofNat 1))) (aCons (cCon (.str "2")) aNil))) aNil)))))))))))))) (gcName s3))
def R__law_right_4 : SCode := (scAsg (cCall (fun c => C__law_select c) (aCons (cVar g0) (aCons (cVar g3) aNil))) (gcName s3))
def R__law_right_5 : SCode := (scAsg (cTupD (aCons (cCMeth i_System (fun c => C_System_rows c) (aCons (cCon (.int (.ofNat 4))) aNil)) (aCons (cLstO aNil) aNil))) (gcTup 2 (gcCons (gcName (sUp (sUp s0))) (gcCons (gcName (sUp s2)) gcNil))))
def R__law_right_6 : SCode := (scFor (icSeq (cTupD (aCons (cCon (.sta i_smooth_paper)) (aCons (cCon (.sta i_worst_members)) aNil)))) (gcName (sUp s0)) (scSeq (scE (cMtL fApp (cVar (gUp g2)) (aCons (cMet ctMet "told" (cCallL (gUp g0) [(i_smooth_paper, fun c => C_smooth_paper c), (i_worst_members, fun c => C_worst_members c)] (aCons (cVar g1) (aCons (cVar g2) aNil)))) aNil))) (scE (cMtL fApp (cVar (gUp g2)) (aCons (cMet ctMet "told" (cCallL (gUp g0) [(i_smooth_paper, fun c => C_smooth_paper c), (i_worst_members, fun c => C_worst_members c)] (aCons (cVar (gUp (gUp g0))) (aCons (cVar g2) aNil)))) aNil)))))
def R__law_right_7 : SCode := (scE (cMtL fApp (cVar (gUp g2)) (aCons (cMet ctMet "told" (cCall (fun c => C_is_smooth c) (aCons (cVar g1) (aCons (cVar g2) aNil)))) aNil)))
def R__law_right_8 : SCode := (scE (cMtL fApp (cVar (gUp g2)) (aCons (cMet ctMet "told" (cCall (fun c => C_is_smooth c) (aCons (cVar (gUp (gUp g0))) (aCons (cVar g2) aNil)))) aNil)))
def R__law_right_9 : SCode := (scE (cMtL fApp (cVar (gUp g2)) (aCons (cMet ctMet "told" (cCall (fun c => C_mirrors_at c) (aCons (cVar g1) (aCons (cVar g2) (aCons (cVar (gUp g3)) aNil))))) aNil)))
def R__law_right_10 : SCode := (scE (cMtL fApp (cVar (gUp g2)) (aCons (cMet ctMet "told" (cCall (fun c => C_mirrors_at c) (aCons (cVar (gUp (gUp g0))) (aCons (cVar g2) (aCons (cVar (gUp g3)) aNil))))) aNil)))
def R__law_right_11 : SCode := (scE (cMtL fApp (cVar (gUp g2)) (aCons (cMet ctMet "told" (cCall (fun c => C_mirrors_at c) (aCons (cVar (gUp (gUp g0))) (aCons (cTupD (aCons (cCon (.int (.ofNat 0))) (aCons (cCon (.int (.ofNat 1))) aNil))) (aCons (cVar (gUp g3)) aNil))))) aNil)))
def R__law_right_12 : SCode := (scE (cMtL fApp (cVar (gUp g2)) (aCons (cMet ctMet "told" (cCall (fun c => C_mirrors_at c) (aCons (cVar (gUp (gUp g0))) (aCons (cTupD (aCons (cCon (.int (.ofNat 0))) (aCons (cCon (.int (.ofNat 1))) aNil))) (aCons (cTupD (aCons (cCon (.int (.ofNat 1))) (aCons (cCon (.int (.ofNat 0))) aNil))) aNil))))) aNil)))
def R__law_right_13 : SCode := (scAsg (cBin fAddS (cBin (fMulS false) (cLstD (aCons (cTupD (aCons (cCon (.str "refused")) (aCons (cCon (.str "system")) aNil))) (aCons (cTupD (aCons (cCon (.str "refused")) (aCons (cCon (.str "word")) aNil))) aNil))) (cCon (.int (.ofNat 2)))) (cLstD (aCons (cTupD (aCons (cCon (.str "refused")) (aCons (cCon (.str "system")) aNil))) (aCons (cTupD (aCons (cCon (.str "told")) (aCons (cCon (.bl false)) aNil))) aNil)))) (gcName (sUp s1)))
def R__law_right_14 : SCode := (scIf (cCmp fNe (cVar (gUp g2)) (cBin fAddS (cVar (gUp g1)) (cLstD (aCons (cTupD (aCons (cCon (.str "refused")) (aCons (cCon (.str "system")) aNil))) (aCons (cTupD (aCons (cCon (.str "refused")) (aCons (cCon (.str "word")) aNil))) (aCons (cTupD (aCons (cCon (.str "refused")) (aCons (cCon (.str "word")) aNil))) (aCons (cTupD (aCons (cCon (.str "refused")) (aCons (cCon (.str "operation")) aNil))) aNil))))))) (scRet (cCon (.bl false))) scNil)
def R__law_right_15 : SCode := (scAsg (cLstO (aCons (cMet ctMet "told" (cCall (fun c => C_is_smooth_paper c) (aCons (cVar g1) (aCons (cVar g2) (aCons (cCon .non) aNil))))) aNil)) (gcName (sUp s2)))
def R__law_right_16 : SCode := (scE (cMtL fApp (cVar (gUp g2)) (aCons (cMet ctMet "told" (cCall (fun c => C_is_smooth_paper c) (aCons (cVar (gUp (gUp g0))) (aCons (cVar g2) (aCons (cCon .non) aNil))))) aNil)))
def R__law_right_17 : SCode := (scE (cMtL fApp (cVar (gUp g2)) (aCons (cMet ctMet "told" (cCall (fun c => C_is_smooth_paper c) (aCons (cVar (gUp (gUp g0))) (aCons (cTupD (aCons (cCon (.int (.ofNat 0))) aNil)) (aCons (cVar g2) aNil))))) aNil)))
def R__law_right_18 : SCode := (scE (cMtL fApp (cVar (gUp g2)) (aCons (cMet ctMet "told" (cCall (fun c => C_row_paper c) (aCons (cVar g3) aNil))) aNil)))
def R__law_right_19 : SCode := (scE (cMtL fApp (cVar (gUp g2)) (aCons (cMet ctMet "told" (cCall (fun c => C_is_row_paper c) (aCons (cVar g3) (aCons (cCon .non) aNil)))) aNil)))
def R__law_right_20 : SCode := (scE (cMtL fApp (cVar (gUp g2)) (aCons (cMet ctMet "told" (cCall (fun c => C_is_row_paper c) (aCons (cTupD (aCons (cCon (.int (.ofNat 2))) (aCons (cCon (.int (.ofNat 1))) aNil))) (aCons (cVar g2) aNil)))) aNil)))
def R__law_right_21 : SCode := (scAsg (cLstD (aCons (cTupD (aCons (cCon (.str "refused")) (aCons (cCon (.str "system")) aNil))) (aCons (cTupD (aCons (cCon (.str "refused")) (aCons (cCon (.str "word")) aNil))) (aCons (cTupD (aCons (cCon (.str "told")) (aCons (cCon (.bl false)) aNil))) aNil)))) (gcName (sUp s1)))
def R__law_right_22 : SCode := (scRet (cVal (cCmp fEq (cVar (gUp g2)) (cBin fAddS (cVar (gUp g1)) (cLstD (aCons (cTupD (aCons (cCon (.str "refused")) (aCons (cCon (.str "row")) aNil))) (aCons (cTupD (aCons (cCon (.str "refused")) (aCons (cCon (.str "row")) aNil))) (aCons (cTupD (aCons (cCon (.str "told")) (aCons (cCon (.bl false)) aNil))) aNil))))))))
def S__law_right : SCode := (scSeq R__law_right_0 (scSeq R__law_right_1 (scSeq R__law_right_2 (scSeq R__law_right_3 (scSeq R__law_right_4 (scSeq R__law_right_5 (scSeq R__law_right_6 (scSeq R__law_right_7 (scSeq R__law_right_8 (scSeq R__law_right_9 (scSeq R__law_right_10 (scSeq R__law_right_11 (scSeq R__law_right_12 (scSeq R__law_right_13 (scSeq R__law_right_14 (scSeq R__law_right_15 (scSeq R__law_right_16 (scSeq R__law_right_17 (scSeq R__law_right_18 (scSeq R__law_right_19 (scSeq R__law_right_20 (scSeq R__law_right_21 R__law_right_22))))))))))))))))))))))
def C__law_right : Cl → Fn := fnC 1 3 (S__law_right)
def S_System_ring : SCode := (scSeq (scIf (cNot (cTst (cCall (fun c => C_is_within c) (aCons (cVar g1) (aCons (cCon (.int (.ofNat 2))) (aCons (cCon (.int (.ofNat 3))) aNil)))))) (scRaiseV i_InvalidNumber (cVar g1)) scNil) (scRet (cMakeL g0 i_System (fun c => C_System___init__ c) und_System (aCons (cVar g1) (aCons (cIte (cCmp fEq (cVar g1) (cCon (.int (.ofNat 2)))) (cTupD (aCons (cTupD (aCons (cCon (.int (.ofNat 0))) (aCons (cCon (.int (.ofNat 1))) (aCons (cCon (.int (.ofNat 0))) aNil)))) aNil)) (cTupD (aCons (cTupD (aCons (cCon (.int (.ofNat 0))) (aCons (cCon (.int (.ofNat 1))) (aCons (cCon (.int (.ofNat 3))) aNil)))) (aCons (cTupD (aCons (cCon (.int (.ofNat 0))) (aCons (cCon (.int (.ofNat 2))) (aCons (cCon (.int (.ofNat 3))) aNil)))) (aCons (cTupD (aCons (cCon (.int (.ofNat 1))) (aCons (cCon (.int (.ofNat 2))) (aCons (cCon (.int (.ofNat 3))) aNil)))) aNil))))) aNil)))))
def C_System_ring : Cl → Fn := fnC 2 1 (S_System_ring)
def R_law_0 (zs : List Int) : SCode := (scFor (icR1 (aCons (cFn fMax2 (aCons (cCon (.int (.ofNat 1))) (aCons (cFn fMin2 (aCons (cCon (.int (.ofNat 3))) (aCons (cFn (fLenO 0 zs) (aCons (cVar g0) aNil)) aNil))) aNil))) aNil)) (gcName s1) (scFr (scSeq (scAsg (cCall (fun c => C__law_crock zs c) (aCons (cVar g0) (aCons (cVar g1) aNil))) (gcName s3)) (scIf (cOr (cNot (cTst (cGc (cCall (fun c => C__law_right c) (aCons (cVar g3) aNil))))) (cNot (cTst (cGc (cCall (fun c => C__law_right c) (aCons (cVar g3) aNil)))))) (scRet (cCon (.bl false))) scNil))))
def R_law_1 (zs : List Int) : SCode := (scAsg (cTupD (aCons (cCMeth i_System (fun c => C_System_ring c) (aCons (cCon (.int (.ofNat 3))) aNil)) (aCons (cBin (fMulS false) (cTupD (aCons (cCon (.int (.ofNat 0))) (aCons (cCon (.int (.ofNat 1))) (aCons (cCon (.int (.ofNat 2))) aNil)))) (cCon (.int (.ofNat 9)))) aNil))) (gcTup 2 (gcCons (gcName (sUp s0)) (gcCons (gcName (sUp s1)) gcNil))))
def R_law_2 (zs : List Int) : SCode := (scAsg (cLstO (aCons (cTr (cMet ctMet "told" (cCall (fun c => C_is_smooth c) (aCons (cVar (gUp g0)) (aCons (cVar (gUp g1)) aNil))))) aNil)) (gcName s2))
def R_law_3 (zs : List Int) : SCode := (scE (cMtL fApp (cVar g2) (aCons (cTr (cMet ctMet "told" (cCall (fun c => C_smooth_paper c) (aCons (cVar (gUp g0)) (aCons (cVar (gUp g1)) aNil))))) aNil)))
def R_law_4 (zs : List Int) : SCode := (scE (cMtL fApp (cVar g2) (aCons (cTr (cMet ctMet "told" (cCall (fun c => C_is_smooth_paper c) (aCons (cVar (gUp g0)) (aCons (cVar (gUp g1)) (aCons (cTupD (aCons (cCon (.str "smooth")) (aCons (cTupD (aCons (cCon (.int (.ofNat 1))) aNil)) aNil))) aNil)))))) aNil)))
def R_law_5 (zs : List Int) : SCode := (scE (cMtL fApp (cVar g2) (aCons (cTr (cMet ctMet "told" (cCall (fun c => C_worst_members c) (aCons (cVar (gUp g0)) (aCons (cVar (gUp g1)) aNil))))) aNil)))
def R_law_6 (zs : List Int) : SCode := (scE (cMtL fApp (cVar g2) (aCons (cTr (cMet ctMet "told" (cCall (fun c => C_mirrors_at c) (aCons (cVar (gUp g0)) (aCons (cVar (gUp g1)) (aCons (cTupD (aCons (cCon (.int (.ofNat 0))) aNil)) aNil)))))) aNil)))
def R_law_7 (zs : List Int) : SCode := (scE (cMtL fApp (cVar g2) (aCons (cTr (cMet ctMet "told" (cCall (fun c => C_mirrors_at c) (aCons (cVar (gUp g0)) (aCons (cVar (gUp g1)) (aCons (cCon (.str "0")) aNil)))))) aNil)))
def R_law_8 (zs : List Int) : SCode := (scE (cMtL fApp (cVar g2) (aCons (cTr (cMet ctMet "told" (cCall (fun c => C_worst_members c) (aCons (cCMeth i_System (fun c => C_System_ring c) (aCons (cCon (.int (.ofNat 2))) aNil)) (aCons (cBin (fMulS false) (cTupD (aCons (cCon (.int (.ofNat 0))) (aCons (cCon (.int (.ofNat 1))) aNil))) (cCon (.int (.ofNat 10)))) aNil))))) aNil)))
def R_law_9 (zs : List Int) : SCode := (scRet (cVal (cCmp fEq (cVar g2) (cBin fAddS (cBin (fMulS false) (cLstD (aCons (cTupD (aCons (cCon (.str "refused")) (aCons (cCon (.str "many")) (aCons (cCon (.int (.ofNat 120))) aNil)))) aNil)) (cCon (.int (.ofNat 5)))) (cLstD (aCons (cTupD (aCons (cCon (.str "refused")) (aCons (cCon (.str "word")) aNil))) (aCons (cTupD (aCons (cCon (.str "told")) (aCons (cTupD aNil) aNil))) aNil)))))))
def S_law (zs : List Int) : SCode := (scSeq (R_law_0 zs) (scSeq (R_law_1 zs) (scSeq (R_law_2 zs) (scSeq (R_law_3 zs) (scSeq (R_law_4 zs) (scSeq (R_law_5 zs) (scSeq (R_law_6 zs) (scSeq (R_law_7 zs) (scSeq (R_law_8 zs) (R_law_9 zs))))))))))
def C_law (zs : List Int) : Cl → Fn := fnC 1 2 (S_law zs)
def S_lawT (zs : List Int) : SCode := (scSeq (scAsg (cTupD (aCons (cCMeth i_System (fun c => C_System_ring c) (aCons (cCon (.int (.ofNat 3))) aNil)) (aCons (cBin (fMulS false) (cTupD (aCons (cCon (.int (.ofNat 0))) (aCons (cCon (.int (.ofNat 1))) (aCons (cCon (.int (.ofNat 2))) aNil)))) (cCon (.int (.ofNat 9)))) aNil))) (gcTup 2 (gcCons (gcName (sUp s0)) (gcCons (gcName (sUp s1)) gcNil)))) (scSeq (scAsg (cLstO (aCons (cTr (cMet ctMet "told" (cCall (fun c => C_is_smooth c) (aCons (cVar (gUp g0)) (aCons (cVar (gUp g1)) aNil))))) aNil)) (gcName s2)) (scSeq (scE (cMtL fApp (cVar g2) (aCons (cTr (cMet ctMet "told" (cCall (fun c => C_smooth_paper c) (aCons (cVar (gUp g0)) (aCons (cVar (gUp g1)) aNil))))) aNil))) (scSeq (scE (cMtL fApp (cVar g2) (aCons (cTr (cMet ctMet "told" (cCall (fun c => C_is_smooth_paper c) (aCons (cVar (gUp g0)) (aCons (cVar (gUp g1)) (aCons (cTupD (aCons (cCon (.str "smooth")) (aCons (cTupD (aCons (cCon (.int (.ofNat 1))) aNil)) aNil))) aNil)))))) aNil))) (scSeq (scE (cMtL fApp (cVar g2) (aCons (cTr (cMet ctMet "told" (cCall (fun c => C_worst_members c) (aCons (cVar (gUp g0)) (aCons (cVar (gUp g1)) aNil))))) aNil))) (scSeq (scE (cMtL fApp (cVar g2) (aCons (cTr (cMet ctMet "told" (cCall (fun c => C_mirrors_at c) (aCons (cVar (gUp g0)) (aCons (cVar (gUp g1)) (aCons (cTupD (aCons (cCon (.int (.ofNat 0))) aNil)) aNil)))))) aNil))) (scSeq (scE (cMtL fApp (cVar g2) (aCons (cTr (cMet ctMet "told" (cCall (fun c => C_mirrors_at c) (aCons (cVar (gUp g0)) (aCons (cVar (gUp g1)) (aCons (cCon (.str "0")) aNil)))))) aNil))) (scSeq (scE (cMtL fApp (cVar g2) (aCons (cTr (cMet ctMet "told" (cCall (fun c => C_worst_members c) (aCons (cCMeth i_System (fun c => C_System_ring c) (aCons (cCon (.int (.ofNat 2))) aNil)) (aCons (cBin (fMulS false) (cTupD (aCons (cCon (.int (.ofNat 0))) (aCons (cCon (.int (.ofNat 1))) aNil))) (cCon (.int (.ofNat 10)))) aNil))))) aNil))) (scRet (cVal (cCmp fEq (cVar g2) (cBin fAddS (cBin (fMulS false) (cLstD (aCons (cTupD (aCons (cCon (.str "refused")) (aCons (cCon (.str "many")) (aCons (cCon (.int (.ofNat 120))) aNil)))) aNil)) (cCon (.int (.ofNat 5)))) (cLstD (aCons (cTupD (aCons (cCon (.str "refused")) (aCons (cCon (.str "word")) aNil))) (aCons (cTupD (aCons (cCon (.str "told")) (aCons (cTupD aNil) aNil))) aNil)))))))))))))))
def S_law1 (zs : List Int) : SCode := (scFor (icR1 (aCons (cFn fMax2 (aCons (cCon (.int (.ofNat 1))) (aCons (cFn fMin2 (aCons (cCon (.int (.ofNat 3))) (aCons (cFn (fLenO 0 zs) (aCons (cVar g0) aNil)) aNil))) aNil))) aNil)) (gcName s1) (scFr (scSeq (scAsg (cCall (fun c => C__law_crock zs c) (aCons (cVar g0) (aCons (cVar g1) aNil))) (gcName s3)) (scIf (cOr (cNot (cTst (cGc (cCall (fun c => C__law_right c) (aCons (cVar g3) aNil))))) (cNot (cTst (cGc (cCall (fun c => C__law_right c) (aCons (cVar g3) aNil)))))) (scRet (cCon (.bl false))) scNil))))
end K73
end
end

section
set_option maxRecDepth 100000
set_option maxHeartbeats 4000000
noncomputable section
namespace K73
open PySem PySem.Spec L2 Eng
open PyProof.Rows hiding St

theorem sc__law_crock : FnScope ["_law_script", "_law_spot", "_law_cell", "_law_great", "_law_mixed"] ["_law_script", "_law_spot"] (defScope (top 91)) := ⟨rfl, rfl, rfl, by decide +kernel, rfl, by decide +kernel, by decide +kernel⟩
theorem b__law_crock {M : Mo} {mg : Str → Option Value} {base : Heap} (F : Fc M mg base) (cl : Cl) {zs : List Int} (hz : ((0 : Nat), zs) ∈ M.outs) (hzl : zs.length ≤ 16777216) {A : Around} {outer : List Env} {s : Shared} {H : Hp} {E : XK} {f : Addr} {cd : Value} (B : Body (cxOf (L2.CX M.P M.w) M.P M.w M.K mg base ["_law_script", "_law_spot", "_law_cell", "_law_great", "_law_mixed"] "_law_crock" (defScope (top 91)) f cd A outer s H E) M E 1) : PSs (cxOf (L2.CX M.P M.w) M.P M.w M.K mg base ["_law_script", "_law_spot", "_law_cell", "_law_great", "_law_mixed"] "_law_crock" (defScope (top 91)) f cd A outer s H E) (defBody (top 91)) (tSt M cl E (S__law_crock zs)) := by
  have hN : (["_law_script", "_law_spot", "_law_cell", "_law_great", "_law_mixed"] : List Str).Nodup := by decide
  exact (psc_cons (psc_set (i := 2) hN rfl (.inl rfl) (pec_ite (ptc_cmp (ots_lt B.good) (pec_var (i := 1) rfl (.inl rfl) rfl rfl) (pec_fn (cf_lenO B.good.toFits hz) rfl F.a20.n_len bo_len (pac_cons (pec_var (i := 0) rfl (.inl rfl) rfl rfl) pac_nil)) (nomark _)) (pec_ty cf_int rfl F.a20.n_int bo_int (pac_cons (pec_ixO B.good hz (pec_var (i := 0) rfl (.inl rfl) rfl rfl) (pec_var (i := 1) rfl (.inl rfl) rfl rfl) (fun _ _ => rfl)) pac_nil)) (pec_bin (opb_addS B.good) (pec_bin (opb_addS B.good) (pec_bin (opb_mulS B.good.K) (pec_con pe_int fun _ _ => rfl) (pec_var (i := 1) rfl (.inl rfl) rfl rfl)) (pec_con pe_int fun _ _ => rfl)) (pec_bin ob_mod (pec_ty cf_int rfl F.a20.n_int bo_int (pac_cons (pec_fn (cf_sum B.good.calm) rfl F.a21.n_sum bo_sum (pac_cons (pec_slO B.good hz hzl (pec_var (i := 0) rfl (.inl rfl) rfl rfl) poc_none (poc_some (pec_con pe_int fun _ _ => rfl))) pac_nil)) pac_nil)) (pec_con pe_int fun _ _ => rfl))))) (psc_cons (psc_set (i := 3) hN rfl (.inl rfl) (pec_bin ob_mod (pec_ty cf_int rfl F.a20.n_int bo_int (pac_cons (pec_fn cf_abs rfl F.a19.n_abs bo_abs (pac_cons (pec_var (i := 2) rfl (.inl rfl) rfl rfl) pac_nil)) pac_nil)) (pec_bin ob_pow (pec_bin ob_pow (pec_con pe_int fun _ _ => rfl) (pec_con pe_int fun _ _ => rfl)) (pec_con pe_int fun _ _ => rfl)))) (psc_cons (psc_set (i := 4) hN rfl (.inl rfl) (pec_bin ob_mod (pec_ty cf_int rfl F.a20.n_int bo_int (pac_cons (pec_bin (opb_addS B.good) (pec_bin (opb_addS B.good) (pec_bin (opb_addS B.good) (pec_bin (opb_mulS B.good.K) (pec_bin ob_mod (pec_var (i := 3) rfl (.inl rfl) rfl rfl) (pec_con pe_int fun _ _ => rfl)) (pec_con pe_int fun _ _ => rfl)) (pec_bin (opb_mulS B.good.K) (pec_con pe_int fun _ _ => rfl) (pec_var (i := 1) rfl (.inl rfl) rfl rfl))) (pec_bin (opb_mulS B.good.K) (pec_con pe_int fun _ _ => rfl) (pec_ty cf_int rfl F.a20.n_int bo_int (pac_cons (pec_cmp (ots_lt B.good) (pec_var (i := 2) rfl (.inl rfl) rfl rfl) (pec_con pe_int fun _ _ => rfl) (nomark _)) pac_nil)))) (pec_con pe_int fun _ _ => rfl)) pac_nil)) (pec_con pe_int fun _ _ => rfl))) (psc_one (psc_ret (pec_lstO (pac_cons (pec_fn (cf_max2 B.good.calm) rfl F.a20.n_max bo_max (pac_cons (pec_con pe_int fun _ _ => rfl) (pac_cons (pec_bin ob_sub (pec_var (i := 3) rfl (.inl rfl) rfl rfl) (pec_bin ob_pow (pec_con pe_int fun _ _ => rfl) (pec_con pe_int fun _ _ => rfl))) pac_nil))) (pac_cons (pec_var (i := 4) rfl (.inl rfl) rfl rfl) (pac_cons (pec_con pe_int fun _ _ => rfl) pac_nil)))))))))
theorem o__law_crock {M : Mo} {mg : Str → Option Value} {base : Heap} (F : Fc M mg base) (cl : Cl) {zs : List Int} (hz : ((0 : Nat), zs) ∈ M.outs) (hzl : zs.length ≤ 16777216) : FnR M.P M.w M.K mg base (L2.CX M.P M.w) (1 + 1) (M.g i__law_crock) (spF M (C__law_crock zs cl)) := by
  obtain ⟨fd, D⟩ := F.a2.d__law_crock
  obtain ⟨oc, od, dV, kV, doc, pm, an, cdv, ct, osl, rfl, lk, hcd, hdv, _⟩ := D.ex
  have e0 : dV = Value.none := hdv.elim (fun h => h.2) fun h => absurd rfl h.1
  subst e0
  exact fn_code ⟨rfl, rfl, rfl⟩ lk hcd sc__law_crock rfl (Binds.all fun us h => match us, h with | [_, _], _ => rfl) fun A outer s H E B => b__law_crock F cl hz hzl B
theorem sc__law_scoop : FnScope ["_law_crock_here", "_law_many", "_law_one", "_law_two", "_law_found"] ["_law_crock_here", "_law_many"] (defScope (top 92)) := ⟨rfl, rfl, rfl, by decide +kernel, rfl, by decide +kernel, by decide +kernel⟩
theorem b__law_scoop {M : Mo} {mg : Str → Option Value} {base : Heap} (F : Fc M mg base) (cl : Cl) {A : Around} {outer : List Env} {s : Shared} {H : Hp} {E : XK} {f : Addr} {cd : Value} (B : Body (cxOf (L2.CX M.P M.w) M.P M.w M.K mg base ["_law_crock_here", "_law_many", "_law_one", "_law_two", "_law_found"] "_law_scoop" (defScope (top 92)) f cd A outer s H E) M E 1) : PSs (cxOf (L2.CX M.P M.w) M.P M.w M.K mg base ["_law_crock_here", "_law_many", "_law_one", "_law_two", "_law_found"] "_law_scoop" (defScope (top 92)) f cd A outer s H E) (defBody (top 92)) (tSt M cl E (S__law_scoop)) := by
  have hN : (["_law_crock_here", "_law_many", "_law_one", "_law_two", "_law_found"] : List Str).Nodup := by decide
  exact (psc_cons (psc_if (ptc_cmp ot_gt (pec_ix B.good (pec_var (i := 0) rfl (.inl rfl) rfl rfl) (pec_con pe_int fun _ _ => rfl) (fun _ _ => rfl)) (pec_con pe_int fun _ _ => rfl) (nomark _)) (psc_cons (psc_set (i := 4) hN rfl (.inl rfl) (pec_bin ob_mod (pec_ty cf_int rfl F.a20.n_int bo_int (pac_cons (pec_ix B.good (pec_var (i := 0) rfl (.inl rfl) rfl rfl) (pec_con pe_int fun _ _ => rfl) (fun _ _ => rfl)) pac_nil)) (pec_var (i := 1) rfl (.inl rfl) rfl rfl))) (psc_cons (psc_asg (pec_bin ob_div (pec_ix B.good (pec_var (i := 0) rfl (.inl rfl) rfl rfl) (pec_con pe_int fun _ _ => rfl) (fun _ _ => rfl)) (pec_var (i := 1) rfl (.inl rfl) rfl rfl)) (pgc_sub B.good (pec_var (i := 0) rfl (.inl rfl) rfl rfl) (pec_con pe_int fun _ _ => rfl))) (psc_one (psc_ret (pec_var (i := 4) rfl (.inl rfl) rfl rfl))))) psc_nil) (psc_cons (psc_asg (pec_bin (opb_addS B.good) (pec_ix B.good (pec_var (i := 0) rfl (.inl rfl) rfl rfl) (pec_con pe_int fun _ _ => rfl) (fun _ _ => rfl)) (pec_con pe_int fun _ _ => rfl)) (pgc_sub B.good (pec_var (i := 0) rfl (.inl rfl) rfl rfl) (pec_con pe_int fun _ _ => rfl))) (psc_cons (psc_set (i := 2) hN rfl (.inl rfl) (pec_bin ob_mod (pec_ty cf_int rfl F.a20.n_int bo_int (pac_cons (pec_bin (opb_addS B.good) (pec_ix B.good (pec_var (i := 0) rfl (.inl rfl) rfl rfl) (pec_con pe_int fun _ _ => rfl) (fun _ _ => rfl)) (pec_bin (opb_mulS B.good.K) (pec_con pe_int fun _ _ => rfl) (pec_ix B.good (pec_var (i := 0) rfl (.inl rfl) rfl rfl) (pec_con pe_int fun _ _ => rfl) (fun _ _ => rfl)))) pac_nil)) (pec_con pe_int fun _ _ => rfl))) (psc_cons (psc_set (i := 3) hN rfl (.inl rfl) (pec_bin (opb_addS B.good) (pec_bin (opb_addS B.good) (pec_bin (opb_mulS B.good.K) (pec_bin ob_mod (pec_ty cf_int rfl F.a20.n_int bo_int (pac_cons (pec_bin (opb_mulS B.good.K) (pec_var (i := 2) rfl (.inl rfl) rfl rfl) (pec_var (i := 2) rfl (.inl rfl) rfl rfl)) pac_nil)) (pec_con pe_int fun _ _ => rfl)) (pec_con pe_int fun _ _ => rfl)) (pec_var (i := 2) rfl (.inl rfl) rfl rfl)) (pec_bin (opb_mulS B.good.K) (pec_con pe_int fun _ _ => rfl) (pec_ix B.good (pec_var (i := 0) rfl (.inl rfl) rfl rfl) (pec_con pe_int fun _ _ => rfl) (fun _ _ => rfl))))) (psc_one (psc_ret (pec_bin ob_mod (pec_ty cf_int rfl F.a20.n_int bo_int (pac_cons (pec_bin ob_div (pec_var (i := 3) rfl (.inl rfl) rfl rfl) (pec_con pe_int fun _ _ => rfl)) pac_nil)) (pec_var (i := 1) rfl (.inl rfl) rfl rfl))))))))
theorem o__law_scoop {M : Mo} {mg : Str → Option Value} {base : Heap} (F : Fc M mg base) (cl : Cl) : FnR M.P M.w M.K mg base (L2.CX M.P M.w) (1 + 1) (M.g i__law_scoop) (spF M (C__law_scoop cl)) := by
  obtain ⟨fd, D⟩ := F.a2.d__law_scoop
  obtain ⟨oc, od, dV, kV, doc, pm, an, cdv, ct, osl, rfl, lk, hcd, hdv, _⟩ := D.ex
  have e0 : dV = Value.none := hdv.elim (fun h => h.2) fun h => absurd rfl h.1
  subst e0
  exact fn_code ⟨rfl, rfl, rfl⟩ lk hcd sc__law_scoop rfl (Binds.all fun us h => match us, h with | [_, _], _ => rfl) fun A outer s H E B => b__law_scoop F cl B
theorem sc__law_select : FnScope ["_law_crock_here", "_law_items"] ["_law_crock_here", "_law_items"] (defScope (top 93)) := ⟨rfl, rfl, rfl, by decide +kernel, rfl, by decide +kernel, by decide +kernel⟩
theorem b__law_select {M : Mo} {mg : Str → Option Value} {base : Heap} (F : Fc M mg base) (cl : Cl) {A : Around} {outer : List Env} {s : Shared} {H : Hp} {E : XK} {f : Addr} {cd : Value} (B : Body (cxOf (L2.CX M.P M.w) M.P M.w M.K mg base ["_law_crock_here", "_law_items"] "_law_select" (defScope (top 93)) f cd A outer s H E) M E 2) : PSs (cxOf (L2.CX M.P M.w) M.P M.w M.K mg base ["_law_crock_here", "_law_items"] "_law_select" (defScope (top 93)) f cd A outer s H E) (defBody (top 93)) (tSt M cl E (S__law_select)) := by
  have hN : (["_law_crock_here", "_law_items"] : List Str).Nodup := by decide
  have o__law_scoop := (o__law_scoop F cl).mono (show 2 ≤ 2 by decide)
  exact (psc_one (psc_ret (pec_ix B.good (pec_var (i := 1) rfl (.inl rfl) rfl rfl) (pec_call (n := i__law_scoop) o__law_scoop B.room rfl F.a9.g__law_scoop F.a14.k__law_scoop B.pass (pac_cons (pec_var (i := 0) rfl (.inl rfl) rfl rfl) (pac_cons (pec_fn (cf_len B.good.toFits) rfl F.a20.n_len bo_len (pac_cons (pec_var (i := 1) rfl (.inl rfl) rfl rfl) pac_nil)) pac_nil))) (fun _ _ => rfl))))
theorem o__law_select {M : Mo} {mg : Str → Option Value} {base : Heap} (F : Fc M mg base) (cl : Cl) : FnR M.P M.w M.K mg base (L2.CX M.P M.w) (2 + 1) (M.g i__law_select) (spF M (C__law_select cl)) := by
  obtain ⟨fd, D⟩ := F.a2.d__law_select
  obtain ⟨oc, od, dV, kV, doc, pm, an, cdv, ct, osl, rfl, lk, hcd, hdv, _⟩ := D.ex
  have e0 : dV = Value.none := hdv.elim (fun h => h.2) fun h => absurd rfl h.1
  subst e0
  exact fn_code ⟨rfl, rfl, rfl⟩ lk hcd sc__law_select rfl (Binds.all fun us h => match us, h with | [_, _], _ => rfl) fun A outer s H E B => b__law_select F cl B
theorem sc_is_whole : FnScope ["value"] ["value"] (defScope (top 10)) := ⟨rfl, rfl, rfl, by decide +kernel, rfl, by decide +kernel, by decide +kernel⟩
theorem b_is_whole {M : Mo} {mg : Str → Option Value} {base : Heap} (F : Fc M mg base) (cl : Cl) {A : Around} {outer : List Env} {s : Shared} {H : Hp} {E : XK} {f : Addr} {cd : Value} (B : Body (cxOf (L2.CX M.P M.w) M.P M.w M.K mg base ["value"] "is_whole" (defScope (top 10)) f cd A outer s H E) M E 1) : PSs (cxOf (L2.CX M.P M.w) M.P M.w M.K mg base ["value"] "is_whole" (defScope (top 10)) f cd A outer s H E) (defBody (top 10)) (tSt M cl E (S_is_whole)) := by
  have hN : (["value"] : List Str).Nodup := by decide
  exact (psc_one (psc_ret (pec_and (pec_isi (cv := .ty "int") B.good (fun _ h => h) isi_int (pec_var (i := 0) rfl (.inl rfl) rfl rfl) (pe_bltn rfl F.a20.n_int bo_int rfl) rfl F.a20.n_isinstance bo_isinstance) (pec_one (pec_notV (pec_isi (cv := .ty "bool") B.good (fun _ h => h) isi_bool (pec_var (i := 0) rfl (.inl rfl) rfl rfl) (pe_bltn rfl F.a20.n_bool bo_bool rfl) rfl F.a20.n_isinstance bo_isinstance))))))
theorem o_is_whole {M : Mo} {mg : Str → Option Value} {base : Heap} (F : Fc M mg base) (cl : Cl) : FnR M.P M.w M.K mg base (L2.CX M.P M.w) (1 + 1) (M.g i_is_whole) (spF M (C_is_whole cl)) := by
  obtain ⟨fd, D⟩ := F.a3.d_is_whole
  obtain ⟨oc, od, dV, kV, doc, pm, an, cdv, ct, osl, rfl, lk, hcd, hdv, _⟩ := D.ex
  have e0 : dV = Value.none := hdv.elim (fun h => h.2) fun h => absurd rfl h.1
  subst e0
  exact fn_code ⟨rfl, rfl, rfl⟩ lk hcd sc_is_whole rfl (Binds.all fun us h => match us, h with | [_], _ => rfl) fun A outer s H E B => b_is_whole F cl B
theorem sc_is_within : FnScope ["value", "least", "greatest"] ["value", "least", "greatest"] (defScope (top 11)) := ⟨rfl, rfl, rfl, by decide +kernel, rfl, by decide +kernel, by decide +kernel⟩
theorem b_is_within {M : Mo} {mg : Str → Option Value} {base : Heap} (F : Fc M mg base) (cl : Cl) {A : Around} {outer : List Env} {s : Shared} {H : Hp} {E : XK} {f : Addr} {cd : Value} (B : Body (cxOf (L2.CX M.P M.w) M.P M.w M.K mg base ["value", "least", "greatest"] "is_within" (defScope (top 11)) f cd A outer s H E) M E 2) : PSs (cxOf (L2.CX M.P M.w) M.P M.w M.K mg base ["value", "least", "greatest"] "is_within" (defScope (top 11)) f cd A outer s H E) (defBody (top 11)) (tSt M cl E (S_is_within)) := by
  have hN : (["value", "least", "greatest"] : List Str).Nodup := by decide
  have o_is_whole := (o_is_whole F cl).mono (show 2 ≤ 2 by decide)
  exact (psc_one (psc_ret (pec_and (pec_call (n := i_is_whole) o_is_whole B.room rfl F.a11.g_is_whole F.a16.k_is_whole B.pass (pac_cons (pec_var (i := 0) rfl (.inl rfl) rfl rfl) pac_nil)) (pec_one (pec_chain ot_le ot_le (pec_var (i := 1) rfl (.inl rfl) rfl rfl) (pec_var (i := 0) rfl (.inl rfl) rfl rfl) (pec_var (i := 2) rfl (.inl rfl) rfl rfl) rfl)))))
theorem o_is_within {M : Mo} {mg : Str → Option Value} {base : Heap} (F : Fc M mg base) (cl : Cl) : FnR M.P M.w M.K mg base (L2.CX M.P M.w) (2 + 1) (M.g i_is_within) (spF M (C_is_within cl)) := by
  obtain ⟨fd, D⟩ := F.a4.d_is_within
  obtain ⟨oc, od, dV, kV, doc, pm, an, cdv, ct, osl, rfl, lk, hcd, hdv, _⟩ := D.ex
  have e0 : dV = Value.none := hdv.elim (fun h => h.2) fun h => absurd rfl h.1
  subst e0
  exact fn_code ⟨rfl, rfl, rfl⟩ lk hcd sc_is_within rfl (Binds.all fun us h => match us, h with | [_, _, _], _ => rfl) fun A outer s H E B => b_is_within F cl B
theorem sc_is_bond_told : FnScope ["letters", "value", "one"] ["letters", "value"] (defScope (top 36)) := ⟨rfl, rfl, rfl, by decide +kernel, rfl, by decide +kernel, by decide +kernel⟩
theorem b_is_bond_told {M : Mo} {mg : Str → Option Value} {base : Heap} (F : Fc M mg base) (cl : Cl) {A : Around} {outer : List Env} {s : Shared} {H : Hp} {E : XK} {f : Addr} {cd : Value} (B : Body (cxOf (L2.CX M.P M.w) M.P M.w M.K mg base ["letters", "value", "one"] "is_bond_told" (defScope (top 36)) f cd A outer s H E) M E 3) : PSs (cxOf (L2.CX M.P M.w) M.P M.w M.K mg base ["letters", "value", "one"] "is_bond_told" (defScope (top 36)) f cd A outer s H E) (defBody (top 36)) (tSt M cl E (S_is_bond_told)) := by
  have hN : (["letters", "value", "one"] : List Str).Nodup := by decide
  have o_is_within := (o_is_within F cl).mono (show 3 ≤ 3 by decide)
  exact (psc_cons (psc_if (ptc_of (pwc_or (ptc_not (ptc_val (pec_isi (cv := .ty "tuple") B.good (fun _ h => h) isi_tuple (pec_var (i := 1) rfl (.inl rfl) rfl rfl) (pe_bltn rfl F.a21.n_tuple bo_tuple rfl) rfl F.a20.n_isinstance bo_isinstance))) (pwc_one_or (ptc_cmp (ot_neG B.good) (pec_fn (cf_len B.good.toFits) rfl F.a20.n_len bo_len (pac_cons (pec_var (i := 1) rfl (.inl rfl) rfl rfl) pac_nil)) (pec_con pe_int fun _ _ => rfl) (nomark _))))) (psc_one (psc_ret (pec_con pe_bl fun _ _ => rfl))) psc_nil) (psc_cons (psc_if (ptc_not (ptc_val (pec_fn (cf_all B.good.calm) rfl F.a19.n_all bo_all (pac_cons (pec_lc (own := [("one", 2)]) B.good hN (pic_seq B.good (pec_sl B.good (pec_var (i := 1) rfl (.inl rfl) rfl rfl) poc_none (poc_some (pec_con pe_int fun _ _ => rfl)))) (blkOk_by rfl) (fun _ _ _ _ _ => (pgw_name (i := 2) hN rfl (.inl rfl) (by decide))) (fun _ _ _ _ _ => ptsc_nil) (fun _ _ _ _ _ => (pec_call (n := i_is_within) o_is_within B.room rfl F.a11.g_is_within F.a16.k_is_within noPass (pac_cons (pec_var (i := 2) rfl (.inl rfl) rfl rfl) (pac_cons (pec_con pe_int fun _ _ => rfl) (pac_cons (pec_bin ob_sub (pec_var (i := 0) rfl (.inr (.inl rfl)) rfl rfl) (pec_con pe_int fun _ _ => rfl)) pac_nil)))))) pac_nil)))) (psc_one (psc_ret (pec_con pe_bl fun _ _ => rfl))) psc_nil) (psc_one (psc_ret (pec_and (pec_cmp (ots_lt B.good) (pec_ix B.good (pec_var (i := 1) rfl (.inl rfl) rfl rfl) (pec_con pe_int fun _ _ => rfl) (fun _ _ => rfl)) (pec_ix B.good (pec_var (i := 1) rfl (.inl rfl) rfl rfl) (pec_con pe_int fun _ _ => rfl) (fun _ _ => rfl)) (nomark _)) (pec_and (pec_call (n := i_is_within) o_is_within B.room rfl F.a11.g_is_within F.a16.k_is_within B.pass (pac_cons (pec_ix B.good (pec_var (i := 1) rfl (.inl rfl) rfl rfl) (pec_con pe_int fun _ _ => rfl) (fun _ _ => rfl)) (pac_cons (pec_con pe_int fun _ _ => rfl) (pac_cons (pec_ix B.good (pec_con (pe_glob (v := .ref (M.g i_BONDS)) rfl F.a8.g_BONDS rfl) F.a22.t_BONDS) (pec_neg (pec_con pe_int fun _ _ => rfl)) (fun _ _ => rfl)) pac_nil)))) (pec_one (pec_cmp (ots_inK B.good F.a19.kd_FACTORS) (pec_ix B.good (pec_var (i := 1) rfl (.inl rfl) rfl rfl) (pec_con pe_int fun _ _ => rfl) (fun _ _ => rfl)) (pec_con (pe_glob (v := .ref (M.g i_FACTORS)) rfl F.a8.g_FACTORS rfl) fun _ _ => rfl) rfl))))))))
theorem o_is_bond_told {M : Mo} {mg : Str → Option Value} {base : Heap} (F : Fc M mg base) (cl : Cl) : FnR M.P M.w M.K mg base (L2.CX M.P M.w) (3 + 1) (M.g i_is_bond_told) (spF M (C_is_bond_told cl)) := by
  obtain ⟨fd, D⟩ := F.a3.d_is_bond_told
  obtain ⟨oc, od, dV, kV, doc, pm, an, cdv, ct, osl, rfl, lk, hcd, hdv, _⟩ := D.ex
  have e0 : dV = Value.none := hdv.elim (fun h => h.2) fun h => absurd rfl h.1
  subst e0
  exact fn_code ⟨rfl, rfl, rfl⟩ lk hcd sc_is_bond_told rfl (Binds.all fun us h => match us, h with | [_, _], _ => rfl) fun A outer s H E B => b_is_bond_told F cl B
end K73
end
end

section
set_option maxRecDepth 100000
set_option maxHeartbeats 4000000
noncomputable section
namespace K73
open PySem PySem.Spec L2 Eng
open PyProof.Rows hiding St

theorem sc_are_bonds : FnScope ["letters", "value", "one", "other"] ["letters", "value"] (defScope (top 37)) := ⟨rfl, rfl, rfl, by decide +kernel, rfl, by decide +kernel, by decide +kernel⟩
theorem b_are_bonds {M : Mo} {mg : Str → Option Value} {base : Heap} (F : Fc M mg base) (cl : Cl) {A : Around} {outer : List Env} {s : Shared} {H : Hp} {E : XK} {f : Addr} {cd : Value} (B : Body (cxOf (L2.CX M.P M.w) M.P M.w M.K mg base ["letters", "value", "one", "other"] "are_bonds" (defScope (top 37)) f cd A outer s H E) M E 4) : PSs (cxOf (L2.CX M.P M.w) M.P M.w M.K mg base ["letters", "value", "one", "other"] "are_bonds" (defScope (top 37)) f cd A outer s H E) (defBody (top 37)) (tSt M cl E (S_are_bonds)) := by
  have hN : (["letters", "value", "one", "other"] : List Str).Nodup := by decide
  have o_is_bond_told := (o_is_bond_told F cl).mono (show 4 ≤ 4 by decide)
  exact (psc_cons (psc_if (ptc_of (pwc_or (ptc_not (ptc_val (pec_isi (cv := .ty "tuple") B.good (fun _ h => h) isi_tuple (pec_var (i := 1) rfl (.inl rfl) rfl rfl) (pe_bltn rfl F.a21.n_tuple bo_tuple rfl) rfl F.a20.n_isinstance bo_isinstance))) (pwc_one_or (ptc_not (ptc_val (pec_fn (cf_all B.good.calm) rfl F.a19.n_all bo_all (pac_cons (pec_lc (own := [("one", 2)]) B.good hN (pic_seq B.good (pec_var (i := 1) rfl (.inl rfl) rfl rfl)) (blkOk_by rfl) (fun _ _ _ _ _ => (pgw_name (i := 2) hN rfl (.inl rfl) (by decide))) (fun _ _ _ _ _ => ptsc_nil) (fun _ _ _ _ _ => (pec_call (n := i_is_bond_told) o_is_bond_told B.room rfl F.a10.g_is_bond_told F.a15.k_is_bond_told noPass (pac_cons (pec_var (i := 0) rfl (.inr (.inl rfl)) rfl rfl) (pac_cons (pec_var (i := 2) rfl (.inl rfl) rfl rfl) pac_nil))))) pac_nil))))))) (psc_one (psc_ret (pec_con pe_bl fun _ _ => rfl))) psc_nil) (psc_one (psc_ret (pec_fn (cf_all B.good.calm) rfl F.a19.n_all bo_all (pac_cons (pec_lc (own := [("one", 2), ("other", 3)]) B.good hN (pic_zip B.good rfl F.a21.n_zip (pac_cons (pec_var (i := 1) rfl (.inl rfl) rfl rfl) (pac_cons (pec_sl B.good (pec_var (i := 1) rfl (.inl rfl) rfl rfl) (poc_some (pec_con pe_int fun _ _ => rfl)) poc_none) pac_nil))) (blkOk_by rfl) (fun _ _ _ _ _ => (pgw_tup B.good.blk.calm B.good.blk.toFits (pgsw_cons (pgw_name (i := 2) hN rfl (.inl rfl) (by decide)) (pgsw_cons (pgw_name (i := 3) hN rfl (.inl rfl) (by decide)) pgsw_nil)))) (fun _ _ _ _ _ => ptsc_nil) (fun _ _ _ _ _ => (pec_cmp (ots_lt B.good.blk) (pec_sl B.good.blk (pec_var (i := 2) rfl (.inl rfl) rfl rfl) poc_none (poc_some (pec_con pe_int fun _ _ => rfl))) (pec_sl B.good.blk (pec_var (i := 3) rfl (.inl rfl) rfl rfl) poc_none (poc_some (pec_con pe_int fun _ _ => rfl))) (nomark _)))) pac_nil)))))
theorem o_are_bonds {M : Mo} {mg : Str → Option Value} {base : Heap} (F : Fc M mg base) (cl : Cl) : FnR M.P M.w M.K mg base (L2.CX M.P M.w) (4 + 1) (M.g i_are_bonds) (spF M (C_are_bonds cl)) := by
  obtain ⟨fd, D⟩ := F.a2.d_are_bonds
  obtain ⟨oc, od, dV, kV, doc, pm, an, cdv, ct, osl, rfl, lk, hcd, hdv, _⟩ := D.ex
  have e0 : dV = Value.none := hdv.elim (fun h => h.2) fun h => absurd rfl h.1
  subst e0
  exact fn_code ⟨rfl, rfl, rfl⟩ lk hcd sc_are_bonds rfl (Binds.all fun us h => match us, h with | [_, _], _ => rfl) fun A outer s H E B => b_are_bonds F cl B
theorem sc_factors_by : FnScope ["letters", "bonds", "found", "low", "high", "bond", "one", "other", "row"] ["letters", "bonds"] (defScope (top 38)) := ⟨rfl, rfl, rfl, by decide +kernel, rfl, by decide +kernel, by decide +kernel⟩
theorem b_factors_by {M : Mo} {mg : Str → Option Value} {base : Heap} (F : Fc M mg base) (cl : Cl) {A : Around} {outer : List Env} {s : Shared} {H : Hp} {E : XK} {f : Addr} {cd : Value} (B : Body (cxOf (L2.CX M.P M.w) M.P M.w M.K mg base ["letters", "bonds", "found", "low", "high", "bond", "one", "other", "row"] "factors_by" (defScope (top 38)) f cd A outer s H E) M E 1) : PSs (cxOf (L2.CX M.P M.w) M.P M.w M.K mg base ["letters", "bonds", "found", "low", "high", "bond", "one", "other", "row"] "factors_by" (defScope (top 38)) f cd A outer s H E) (defBody (top 38)) (tSt M cl E (S_factors_by)) := by
  have hN : (["letters", "bonds", "found", "low", "high", "bond", "one", "other", "row"] : List Str).Nodup := by decide
  exact (psc_cons (psc_setLc (own := [("one", 6)]) B.good hN (i := 2) rfl rfl rfl (pic_r1 rfl F.a20.n_range (pac_cons (pec_var (i := 0) rfl (.inr (.inl rfl)) rfl rfl) pac_nil)) (blkOk_by rfl) (fun _ _ _ _ _ => (pgw_name (i := 6) hN rfl (.inl rfl) (by decide))) (fun _ _ _ _ _ => ptsc_nil) (fun _ _ _ _ _ => (pec_lc (own := [("other", 7)]) B.good.blk hN (pic_r1 rfl F.a20.n_range (pac_cons (pec_var (i := 0) rfl (.inr (.inl rfl)) rfl rfl) pac_nil)) (blkOk_by rfl) (fun _ _ _ _ _ => (pgw_name (i := 7) hN rfl (.inl rfl) (by decide))) (fun _ _ _ _ _ => ptsc_nil) (fun _ _ _ _ _ => (pec_tup (pac_cons (pec_con pe_int fun _ _ => rfl) (pac_cons (pec_con pe_int fun _ _ => rfl) pac_nil))))))) (psc_cons (psc_for B.good B.own (pic_seq B.good (pec_var (i := 1) rfl (.inl rfl) rfl rfl)) (pgc_tup B.good (pgsc_cons (pgc_name (i := 3) hN rfl (.inl rfl)) (pgsc_cons (pgc_name (i := 4) hN rfl (.inl rfl)) (pgsc_cons (pgc_name (i := 5) hN rfl (.inl rfl)) pgsc_nil)))) (psc_one (psc_asg (pec_ixK B.good F.a19.kd_FACTORS (pec_con (pe_glob (v := .ref (M.g i_FACTORS)) rfl F.a8.g_FACTORS rfl) fun _ _ => rfl) (pec_var (i := 5) rfl (.inl rfl) rfl rfl) (fun _ _ => rfl)) (pgc_tup B.good (pgsc_cons (pgc_sub B.good (pec_ix B.good (pec_var (i := 2) rfl (.inl rfl) rfl rfl) (pec_var (i := 3) rfl (.inl rfl) rfl rfl) (fun _ _ => rfl)) (pec_var (i := 4) rfl (.inl rfl) rfl rfl)) (pgsc_cons (pgc_sub B.good (pec_ix B.good (pec_var (i := 2) rfl (.inl rfl) rfl rfl) (pec_var (i := 4) rfl (.inl rfl) rfl rfl) (fun _ _ => rfl)) (pec_var (i := 3) rfl (.inl rfl) rfl rfl)) pgsc_nil)))))) (psc_one (psc_ret (pec_ty (cf_tuple B.good.toFits) rfl F.a21.n_tuple bo_tuple (pac_cons (pec_lc (own := [("row", 8)]) B.good hN (pic_seqO B.good (pec_var (i := 2) rfl (.inl rfl) rfl rfl)) (blkOk_by rfl) (fun _ _ _ _ _ => (pgw_name (i := 8) hN rfl (.inl rfl) (by decide))) (fun _ _ _ _ _ => ptsc_nil) (fun _ _ _ _ _ => (pec_ty (cf_tuple B.good.blk.toFits) rfl F.a21.n_tuple bo_tuple (pac_cons (pec_var (i := 8) rfl (.inl rfl) rfl rfl) pac_nil)))) pac_nil))))))
theorem o_factors_by {M : Mo} {mg : Str → Option Value} {base : Heap} (F : Fc M mg base) (cl : Cl) : FnR M.P M.w M.K mg base (L2.CX M.P M.w) (1 + 1) (M.g i_factors_by) (spF M (C_factors_by cl)) := by
  obtain ⟨fd, D⟩ := F.a2.d_factors_by
  obtain ⟨oc, od, dV, kV, doc, pm, an, cdv, ct, osl, rfl, lk, hcd, hdv, _⟩ := D.ex
  have e0 : dV = Value.none := hdv.elim (fun h => h.2) fun h => absurd rfl h.1
  subst e0
  exact fn_code ⟨rfl, rfl, rfl⟩ lk hcd sc_factors_by rfl (Binds.all fun us h => match us, h with | [_, _], _ => rfl) fun A outer s H E B => b_factors_by F cl B
theorem sc_System___init__ : FnScope ["self", "letters", "bonds", "low", "high", "bond"] ["self", "letters", "bonds"] (defScope (mem 40 1)) := ⟨rfl, rfl, rfl, by decide +kernel, rfl, by decide +kernel, by decide +kernel⟩
theorem b_System___init__ {M : Mo} {mg : Str → Option Value} {base : Heap} (F : Fc M mg base) (cl : Cl) {A : Around} {outer : List Env} {s : Shared} {H : Hp} {E : XK} {f : Addr} {cd : Value} (B : Body (cxOf (L2.CX M.P M.w) M.P M.w M.K mg base ["self", "letters", "bonds", "low", "high", "bond"] "System.__init__" (defScope (mem 40 1)) f cd A outer s H E) M E 5) : PSs (cxOf (L2.CX M.P M.w) M.P M.w M.K mg base ["self", "letters", "bonds", "low", "high", "bond"] "System.__init__" (defScope (mem 40 1)) f cd A outer s H E) (defBody (mem 40 1)) (tSt M cl E (S_System___init__)) := by
  have hN : (["self", "letters", "bonds", "low", "high", "bond"] : List Str).Nodup := by decide
  have o_is_within := (o_is_within F cl).mono (show 3 ≤ 5 by decide)
  have o_are_bonds := (o_are_bonds F cl).mono (show 5 ≤ 5 by decide)
  have o_factors_by := (o_factors_by F cl).mono (show 2 ≤ 5 by decide)
  exact (psc_cons (psc_if (ptc_not (ptc_val (pec_call (n := i_is_within) o_is_within B.room rfl F.a11.g_is_within F.a16.k_is_within B.pass (pac_cons (pec_var (i := 1) rfl (.inl rfl) rfl rfl) (pac_cons (pec_con pe_int fun _ _ => rfl) (pac_cons (pec_gint rfl F.a0.c_MAX_LETTERS) pac_nil)))))) (psc_one (psc_raiseV B.good B.takes F.a7.fl_InvalidNumber PySem.F.store_IndexError PySem.F.excBase_IndexError PySem.W.kxs_IndexError F.a22.su_InvalidNumber F.a21.n_super F.a8.g_InvalidNumber F.a13.k_InvalidNumber F.a22.ti_InvalidNumber (raises_own F.a6.es_InvalidNumber F.a6.et_InvalidNumber) rfl B.room (pec_var (i := 1) rfl (.inl rfl) rfl rfl))) psc_nil) (psc_cons (psc_if (ptc_not (ptc_val (pec_call (n := i_are_bonds) o_are_bonds B.room rfl F.a9.g_are_bonds F.a14.k_are_bonds B.pass (pac_cons (pec_var (i := 1) rfl (.inl rfl) rfl rfl) (pac_cons (pec_var (i := 2) rfl (.inl rfl) rfl rfl) pac_nil))))) (psc_one (psc_raise (n := i_InvalidSystem) B.good B.takes F.a7.fl_InvalidSystem PySem.F.excBase_ValueError F.a7.ex_InvalidSystem F.a8.g_InvalidSystem F.a14.k_InvalidSystem (raises_own F.a6.es_InvalidSystem F.a6.et_InvalidSystem) rfl)) psc_nil) (psc_cons (psc_attr (pec_var (i := 0) rfl (.inl rfl) rfl rfl) (pec_var (i := 1) rfl (.inl rfl) rfl rfl) F.a21.sc_System F.a21.sl_own_letters) (psc_cons (psc_attr (pec_var (i := 0) rfl (.inl rfl) rfl rfl) (pec_var (i := 2) rfl (.inl rfl) rfl rfl) F.a21.sc_System F.a21.sl_own_bonds) (psc_cons (psc_attr (pec_var (i := 0) rfl (.inl rfl) rfl rfl) (pec_call (n := i_factors_by) o_factors_by B.room rfl F.a9.g_factors_by F.a15.k_factors_by B.pass (pac_cons (pec_var (i := 1) rfl (.inl rfl) rfl rfl) (pac_cons (pec_var (i := 2) rfl (.inl rfl) rfl rfl) pac_nil))) F.a21.sc_System F.a21.sl_own_factors) (psc_one (psc_attr (pec_var (i := 0) rfl (.inl rfl) rfl rfl) (pec_fn (cf_any B.good.calm) rfl F.a19.n_any bo_any (pac_cons (pec_lc (own := [("low", 3), ("high", 4), ("bond", 5)]) B.good hN (pic_seq B.good (pec_var (i := 2) rfl (.inl rfl) rfl rfl)) (blkOk_by rfl) (fun _ _ _ _ _ => (pgw_tup B.good.blk.calm B.good.blk.toFits (pgsw_cons (pgw_name (i := 3) hN rfl (.inl rfl) (by decide)) (pgsw_cons (pgw_name (i := 4) hN rfl (.inl rfl) (by decide)) (pgsw_cons (pgw_name (i := 5) hN rfl (.inl rfl) (by decide)) pgsw_nil))))) (fun _ _ _ _ _ => ptsc_nil) (fun _ _ _ _ _ => (pec_cmp (ot_eqG B.good.blk) (pec_var (i := 5) rfl (.inl rfl) rfl rfl) (pec_gint rfl F.a0.c_GOLDEN_BOND) (nomark _)))) pac_nil)) F.a21.sc_System F.a21.sl_own_golden)))))))
theorem o_System___init__ {M : Mo} {mg : Str → Option Value} {base : Heap} (F : Fc M mg base) (cl : Cl) : FnR M.P M.w M.K mg base (L2.CX M.P M.w) (5 + 1) (M.g i_System___init__) (spI M (C_System___init__ cl) i_System und_System) := by
  obtain ⟨fd, D⟩ := F.a1.d_System___init__
  obtain ⟨ds, hv, hb⟩ := D.binds1 (ps := ["self", "letters", "bonds"]) 3 1 (by simp [dv_System___init__]) rfl (fun T kV doc pm an cdv ct us its h1 h2 => match us, h1, its, h2 with | [_, _, _], _, [_], _ => ⟨_, rfl, rfl⟩)
  cases hv
  obtain ⟨oc, od, dV, kV, doc, pm, an, cdv, ct, osl, rfl, lk, hcd, hdv, _⟩ := D.ex
  exact fn_init ⟨rfl, rfl, rfl⟩ lk hcd sc_System___init__ rfl hb fun A outer s H E B => b_System___init__ F cl B
theorem sc_System_rows : FnScope ["cls", "places", "low"] ["cls", "places"] (defScope (mem 40 2)) := ⟨rfl, rfl, rfl, by decide +kernel, rfl, by decide +kernel, by decide +kernel⟩
theorem b_System_rows {M : Mo} {mg : Str → Option Value} {base : Heap} (F : Fc M mg base) (cl : Cl) {A : Around} {outer : List Env} {s : Shared} {H : Hp} {E : XK} {f : Addr} {cd : Value} (B : Body (cxOf (L2.CX M.P M.w) M.P M.w M.K mg base ["cls", "places", "low"] "System.rows" (defScope (mem 40 2)) f cd A outer s H E) M E 7) : PSs (cxOf (L2.CX M.P M.w) M.P M.w M.K mg base ["cls", "places", "low"] "System.rows" (defScope (mem 40 2)) f cd A outer s H E) (defBody (mem 40 2)) (tSt M cl E (S_System_rows)) := by
  have hN : (["cls", "places", "low"] : List Str).Nodup := by decide
  have o_is_within := (o_is_within F cl).mono (show 3 ≤ 7 by decide)
  have o_System___init__ := (o_System___init__ F cl).mono (show 6 ≤ 6 by decide)
  exact (psc_cons (psc_if (ptc_not (ptc_val (pec_call (n := i_is_within) o_is_within B.room rfl F.a11.g_is_within F.a16.k_is_within B.pass (pac_cons (pec_var (i := 1) rfl (.inl rfl) rfl rfl) (pac_cons (pec_con pe_int fun _ _ => rfl) (pac_cons (pec_gint rfl F.a0.c_MOST_PLACES_systems) pac_nil)))))) (psc_one (psc_raiseV B.good B.takes F.a7.fl_InvalidNumber PySem.F.store_IndexError PySem.F.excBase_IndexError PySem.W.kxs_IndexError F.a22.su_InvalidNumber F.a21.n_super F.a8.g_InvalidNumber F.a13.k_InvalidNumber F.a22.ti_InvalidNumber (raises_own F.a6.es_InvalidNumber F.a6.et_InvalidNumber) rfl B.room (pec_var (i := 1) rfl (.inl rfl) rfl rfl))) psc_nil) (psc_one (psc_ret (pec_makeL (i := 0) (c0 := i_System) (nf := i_System___init__) F.a19.mk_System und_System_ok o_System___init__ B.room rfl (.inl rfl) B.pass (pac_cons (pec_bin ob_sub (pec_var (i := 1) rfl (.inl rfl) rfl rfl) (pec_con pe_int fun _ _ => rfl)) (pac_cons (pec_ty (cf_tuple B.good.toFits) rfl F.a21.n_tuple bo_tuple (pac_cons (pec_lc (own := [("low", 2)]) B.good hN (pic_r1 rfl F.a20.n_range (pac_cons (pec_bin ob_sub (pec_var (i := 1) rfl (.inl rfl) rfl rfl) (pec_con pe_int fun _ _ => rfl)) pac_nil)) (blkOk_by rfl) (fun _ _ _ _ _ => (pgw_name (i := 2) hN rfl (.inl rfl) (by decide))) (fun _ _ _ _ _ => ptsc_nil) (fun _ _ _ _ _ => (pec_tup (pac_cons (pec_var (i := 2) rfl (.inl rfl) rfl rfl) (pac_cons (pec_bin (opb_addS B.good.blk) (pec_var (i := 2) rfl (.inl rfl) rfl rfl) (pec_con pe_int fun _ _ => rfl)) (pac_cons (pec_con pe_int fun _ _ => rfl) pac_nil)))))) pac_nil)) pac_nil))))))
theorem o_System_rows {M : Mo} {mg : Str → Option Value} {base : Heap} (F : Fc M mg base) (cl : Cl) : FnR M.P M.w M.K mg base (L2.CX M.P M.w) (7 + 1) (M.g i_System_rows) (spF M (C_System_rows cl)) := by
  obtain ⟨fd, D⟩ := F.a1.d_System_rows
  obtain ⟨oc, od, dV, kV, doc, pm, an, cdv, ct, osl, rfl, lk, hcd, hdv, _⟩ := D.ex
  have e0 : dV = Value.none := hdv.elim (fun h => h.2) fun h => absurd rfl h.1
  subst e0
  exact fn_code ⟨rfl, rfl, rfl⟩ lk hcd sc_System_rows rfl (Binds.all fun us h => match us, h with | [_, _], _ => rfl) fun A outer s H E B => b_System_rows F cl B
theorem sc_require_system : FnScope ["value"] ["value"] (defScope (top 41)) := ⟨rfl, rfl, rfl, by decide +kernel, rfl, by decide +kernel, by decide +kernel⟩
theorem b_require_system {M : Mo} {mg : Str → Option Value} {base : Heap} (F : Fc M mg base) (cl : Cl) {A : Around} {outer : List Env} {s : Shared} {H : Hp} {E : XK} {f : Addr} {cd : Value} (B : Body (cxOf (L2.CX M.P M.w) M.P M.w M.K mg base ["value"] "require_system" (defScope (top 41)) f cd A outer s H E) M E 1) : PSs (cxOf (L2.CX M.P M.w) M.P M.w M.K mg base ["value"] "require_system" (defScope (top 41)) f cd A outer s H E) (defBody (top 41)) (tSt M cl E (S_require_system)) := by
  have hN : (["value"] : List Str).Nodup := by decide
  exact (psc_one (psc_if (ptc_not (ptc_val (pec_isi (cv := .ref (M.g i_System)) B.good (fun _ h => h) F.a13.isi_System (pec_var (i := 0) rfl (.inl rfl) rfl rfl) (pe_glob (v := .ref (M.g i_System)) rfl F.a8.g_System rfl) rfl F.a20.n_isinstance bo_isinstance))) (psc_one (psc_raise (n := i_InvalidSystem) B.good B.takes F.a7.fl_InvalidSystem PySem.F.excBase_ValueError F.a7.ex_InvalidSystem F.a8.g_InvalidSystem F.a14.k_InvalidSystem (raises_own F.a6.es_InvalidSystem F.a6.et_InvalidSystem) rfl)) psc_nil))
theorem o_require_system {M : Mo} {mg : Str → Option Value} {base : Heap} (F : Fc M mg base) (cl : Cl) : FnR M.P M.w M.K mg base (L2.CX M.P M.w) (1 + 1) (M.g i_require_system) (spF M (C_require_system cl)) := by
  obtain ⟨fd, D⟩ := F.a5.d_require_system
  obtain ⟨oc, od, dV, kV, doc, pm, an, cdv, ct, osl, rfl, lk, hcd, hdv, _⟩ := D.ex
  have e0 : dV = Value.none := hdv.elim (fun h => h.2) fun h => absurd rfl h.1
  subst e0
  exact fn_code ⟨rfl, rfl, rfl⟩ lk hcd sc_require_system rfl (Binds.all fun us h => match us, h with | [_], _ => rfl) fun A outer s H E B => b_require_system F cl B
theorem sc_is_word_in : FnScope ["system", "value", "letter"] ["system", "value"] (defScope (top 44)) := ⟨rfl, rfl, rfl, by decide +kernel, rfl, by decide +kernel, by decide +kernel⟩
theorem b_is_word_in {M : Mo} {mg : Str → Option Value} {base : Heap} (F : Fc M mg base) (cl : Cl) {A : Around} {outer : List Env} {s : Shared} {H : Hp} {E : XK} {f : Addr} {cd : Value} (B : Body (cxOf (L2.CX M.P M.w) M.P M.w M.K mg base ["system", "value", "letter"] "is_word_in" (defScope (top 44)) f cd A outer s H E) M E 3) : PSs (cxOf (L2.CX M.P M.w) M.P M.w M.K mg base ["system", "value", "letter"] "is_word_in" (defScope (top 44)) f cd A outer s H E) (defBody (top 44)) (tSt M cl E (S_is_word_in)) := by
  have hN : (["system", "value", "letter"] : List Str).Nodup := by decide
  have o_is_within := (o_is_within F cl).mono (show 3 ≤ 3 by decide)
  exact (psc_cons (psc_if (ptc_of (pwc_or (ptc_not (ptc_val (pec_isi (cv := .ty "tuple") B.good (fun _ h => h) isi_tuple (pec_var (i := 1) rfl (.inl rfl) rfl rfl) (pe_bltn rfl F.a21.n_tuple bo_tuple rfl) rfl F.a20.n_isinstance bo_isinstance))) (pwc_one_or (ptc_cmp ot_gt (pec_fn (cf_len B.good.toFits) rfl F.a20.n_len bo_len (pac_cons (pec_var (i := 1) rfl (.inl rfl) rfl rfl) pac_nil)) (pec_gint rfl F.a0.c_MAX_WORD) (nomark _))))) (psc_one (psc_ret (pec_con pe_bl fun _ _ => rfl))) psc_nil) (psc_one (psc_ret (pec_fn (cf_all B.good.calm) rfl F.a19.n_all bo_all (pac_cons (pec_lc (own := [("letter", 2)]) B.good hN (pic_seq B.good (pec_var (i := 1) rfl (.inl rfl) rfl rfl)) (blkOk_by rfl) (fun _ _ _ _ _ => (pgw_name (i := 2) hN rfl (.inl rfl) (by decide))) (fun _ _ _ _ _ => ptsc_nil) (fun _ _ _ _ _ => (pec_call (n := i_is_within) o_is_within B.room rfl F.a11.g_is_within F.a16.k_is_within noPass (pac_cons (pec_var (i := 2) rfl (.inl rfl) rfl rfl) (pac_cons (pec_con pe_int fun _ _ => rfl) (pac_cons (pec_bin ob_sub (pec_attr (pec_var (i := 0) rfl (.inr (.inl rfl)) rfl rfl) F.a21.sc_System F.a21.sl_own_letters) (pec_con pe_int fun _ _ => rfl)) pac_nil)))))) pac_nil)))))
theorem o_is_word_in {M : Mo} {mg : Str → Option Value} {base : Heap} (F : Fc M mg base) (cl : Cl) : FnR M.P M.w M.K mg base (L2.CX M.P M.w) (3 + 1) (M.g i_is_word_in) (spF M (C_is_word_in cl)) := by
  obtain ⟨fd, D⟩ := F.a4.d_is_word_in
  obtain ⟨oc, od, dV, kV, doc, pm, an, cdv, ct, osl, rfl, lk, hcd, hdv, _⟩ := D.ex
  have e0 : dV = Value.none := hdv.elim (fun h => h.2) fun h => absurd rfl h.1
  subst e0
  exact fn_code ⟨rfl, rfl, rfl⟩ lk hcd sc_is_word_in rfl (Binds.all fun us h => match us, h with | [_, _], _ => rfl) fun A outer s H E B => b_is_word_in F cl B
end K73
end
end

section
set_option maxRecDepth 100000
set_option maxHeartbeats 4000000
noncomputable section
namespace K73
open PySem PySem.Spec L2 Eng
open PyProof.Rows hiding St

theorem sc_require_word : FnScope ["system", "value"] ["system", "value"] (defScope (top 46)) := ⟨rfl, rfl, rfl, by decide +kernel, rfl, by decide +kernel, by decide +kernel⟩
theorem b_require_word {M : Mo} {mg : Str → Option Value} {base : Heap} (F : Fc M mg base) (cl : Cl) {A : Around} {outer : List Env} {s : Shared} {H : Hp} {E : XK} {f : Addr} {cd : Value} (B : Body (cxOf (L2.CX M.P M.w) M.P M.w M.K mg base ["system", "value"] "require_word" (defScope (top 46)) f cd A outer s H E) M E 4) : PSs (cxOf (L2.CX M.P M.w) M.P M.w M.K mg base ["system", "value"] "require_word" (defScope (top 46)) f cd A outer s H E) (defBody (top 46)) (tSt M cl E (S_require_word)) := by
  have hN : (["system", "value"] : List Str).Nodup := by decide
  have o_is_word_in := (o_is_word_in F cl).mono (show 4 ≤ 4 by decide)
  exact (psc_one (psc_if (ptc_not (ptc_val (pec_call (n := i_is_word_in) o_is_word_in B.room rfl F.a11.g_is_word_in F.a16.k_is_word_in B.pass (pac_cons (pec_var (i := 0) rfl (.inl rfl) rfl rfl) (pac_cons (pec_var (i := 1) rfl (.inl rfl) rfl rfl) pac_nil))))) (psc_one (psc_raise (n := i_InvalidWord) B.good B.takes F.a7.fl_InvalidWord PySem.F.excBase_ValueError F.a7.ex_InvalidWord F.a8.g_InvalidWord F.a14.k_InvalidWord (raises_own F.a6.es_InvalidWord F.a7.et_InvalidWord) rfl)) psc_nil))
theorem o_require_word {M : Mo} {mg : Str → Option Value} {base : Heap} (F : Fc M mg base) (cl : Cl) : FnR M.P M.w M.K mg base (L2.CX M.P M.w) (4 + 1) (M.g i_require_word) (spF M (C_require_word cl)) := by
  obtain ⟨fd, D⟩ := F.a5.d_require_word
  obtain ⟨oc, od, dV, kV, doc, pm, an, cdv, ct, osl, rfl, lk, hcd, hdv, _⟩ := D.ex
  have e0 : dV = Value.none := hdv.elim (fun h => h.2) fun h => absurd rfl h.1
  subst e0
  exact fn_code ⟨rfl, rfl, rfl⟩ lk hcd sc_require_word rfl (Binds.all fun us h => match us, h with | [_, _], _ => rfl) fun A outer s H E B => b_require_word F cl B
theorem sc_require_system_and_word : FnScope ["system", "word"] ["system", "word"] (defScope (top 47)) := ⟨rfl, rfl, rfl, by decide +kernel, rfl, by decide +kernel, by decide +kernel⟩
theorem b_require_system_and_word {M : Mo} {mg : Str → Option Value} {base : Heap} (F : Fc M mg base) (cl : Cl) {A : Around} {outer : List Env} {s : Shared} {H : Hp} {E : XK} {f : Addr} {cd : Value} (B : Body (cxOf (L2.CX M.P M.w) M.P M.w M.K mg base ["system", "word"] "require_system_and_word" (defScope (top 47)) f cd A outer s H E) M E 5) : PSs (cxOf (L2.CX M.P M.w) M.P M.w M.K mg base ["system", "word"] "require_system_and_word" (defScope (top 47)) f cd A outer s H E) (defBody (top 47)) (tSt M cl E (S_require_system_and_word)) := by
  have hN : (["system", "word"] : List Str).Nodup := by decide
  have o_require_system := (o_require_system F cl).mono (show 2 ≤ 5 by decide)
  have o_require_word := (o_require_word F cl).mono (show 5 ≤ 5 by decide)
  exact (psc_cons (psc_expr (pec_call (n := i_require_system) o_require_system B.room rfl F.a12.g_require_system F.a18.k_require_system B.pass (pac_cons (pec_var (i := 0) rfl (.inl rfl) rfl rfl) pac_nil))) (psc_one (psc_expr (pec_call (n := i_require_word) o_require_word B.room rfl F.a12.g_require_word F.a18.k_require_word B.pass (pac_cons (pec_var (i := 0) rfl (.inl rfl) rfl rfl) (pac_cons (pec_var (i := 1) rfl (.inl rfl) rfl rfl) pac_nil))))))
theorem o_require_system_and_word {M : Mo} {mg : Str → Option Value} {base : Heap} (F : Fc M mg base) (cl : Cl) : FnR M.P M.w M.K mg base (L2.CX M.P M.w) (5 + 1) (M.g i_require_system_and_word) (spF M (C_require_system_and_word cl)) := by
  obtain ⟨fd, D⟩ := F.a5.d_require_system_and_word
  obtain ⟨oc, od, dV, kV, doc, pm, an, cdv, ct, osl, rfl, lk, hcd, hdv, _⟩ := D.ex
  have e0 : dV = Value.none := hdv.elim (fun h => h.2) fun h => absurd rfl h.1
  subst e0
  exact fn_code ⟨rfl, rfl, rfl⟩ lk hcd sc_require_system_and_word rfl (Binds.all fun us h => match us, h with | [_, _], _ => rfl) fun A outer s H E B => b_require_system_and_word F cl B
theorem sc_letter_row : FnScope ["system", "letter", "width", "at"] ["system", "letter"] (defScope (top 15)) := ⟨rfl, rfl, rfl, by decide +kernel, rfl, by decide +kernel, by decide +kernel⟩
theorem b_letter_row {M : Mo} {mg : Str → Option Value} {base : Heap} (F : Fc M mg base) (cl : Cl) {A : Around} {outer : List Env} {s : Shared} {H : Hp} {E : XK} {f : Addr} {cd : Value} (B : Body (cxOf (L2.CX M.P M.w) M.P M.w M.K mg base ["system", "letter", "width", "at"] "letter_row" (defScope (top 15)) f cd A outer s H E) M E 1) : PSs (cxOf (L2.CX M.P M.w) M.P M.w M.K mg base ["system", "letter", "width", "at"] "letter_row" (defScope (top 15)) f cd A outer s H E) (defBody (top 15)) (tSt M cl E (S_letter_row)) := by
  have hN : (["system", "letter", "width", "at"] : List Str).Nodup := by decide
  exact (psc_cons (psc_set (i := 2) hN rfl (.inl rfl) (pec_bin (opb_mulS B.good.K) (pec_attr (pec_var (i := 0) rfl (.inl rfl) rfl rfl) F.a21.sc_System F.a21.sl_own_letters) (pec_ite (ptc_val (pec_attr (pec_var (i := 0) rfl (.inl rfl) rfl rfl) F.a21.sc_System F.a21.sl_own_golden)) (pec_con pe_int fun _ _ => rfl) (pec_con pe_int fun _ _ => rfl)))) (psc_one (psc_ret (pec_ty (cf_tuple B.good.toFits) rfl F.a21.n_tuple bo_tuple (pac_cons (pec_lc (own := [("at", 3)]) B.good hN (pic_r1 rfl F.a20.n_range (pac_cons (pec_var (i := 2) rfl (.inl rfl) rfl rfl) pac_nil)) (blkOk_by rfl) (fun _ _ _ _ _ => (pgw_name (i := 3) hN rfl (.inl rfl) (by decide))) (fun _ _ _ _ _ => ptsc_nil) (fun _ _ _ _ _ => (pec_ty cf_int rfl F.a20.n_int bo_int (pac_cons (pec_cmp (ot_eqG B.good.blk) (pec_var (i := 3) rfl (.inl rfl) rfl rfl) (pec_var (i := 1) rfl (.inr (.inl rfl)) rfl rfl) (nomark _)) pac_nil)))) pac_nil)))))
theorem o_letter_row {M : Mo} {mg : Str → Option Value} {base : Heap} (F : Fc M mg base) (cl : Cl) : FnR M.P M.w M.K mg base (L2.CX M.P M.w) (1 + 1) (M.g i_letter_row) (spF M (C_letter_row cl)) := by
  obtain ⟨fd, D⟩ := F.a4.d_letter_row
  obtain ⟨oc, od, dV, kV, doc, pm, an, cdv, ct, osl, rfl, lk, hcd, hdv, _⟩ := D.ex
  have e0 : dV = Value.none := hdv.elim (fun h => h.2) fun h => absurd rfl h.1
  subst e0
  exact fn_code ⟨rfl, rfl, rfl⟩ lk hcd sc_letter_row rfl (Binds.all fun us h => match us, h with | [_, _], _ => rfl) fun A outer s H E B => b_letter_row F cl B
theorem sc_first_frame : FnScope ["system", "letter"] ["system"] (defScope (top 19)) := ⟨rfl, rfl, rfl, by decide +kernel, rfl, by decide +kernel, by decide +kernel⟩
theorem b_first_frame {M : Mo} {mg : Str → Option Value} {base : Heap} (F : Fc M mg base) (cl : Cl) {A : Around} {outer : List Env} {s : Shared} {H : Hp} {E : XK} {f : Addr} {cd : Value} (B : Body (cxOf (L2.CX M.P M.w) M.P M.w M.K mg base ["system", "letter"] "first_frame" (defScope (top 19)) f cd A outer s H E) M E 2) : PSs (cxOf (L2.CX M.P M.w) M.P M.w M.K mg base ["system", "letter"] "first_frame" (defScope (top 19)) f cd A outer s H E) (defBody (top 19)) (tSt M cl E (S_first_frame)) := by
  have hN : (["system", "letter"] : List Str).Nodup := by decide
  have o_letter_row := (o_letter_row F cl).mono (show 2 ≤ 2 by decide)
  exact (psc_one (psc_ret (pec_ty (cf_tuple B.good.toFits) rfl F.a21.n_tuple bo_tuple (pac_cons (pec_lc (own := [("letter", 1)]) B.good hN (pic_r1 rfl F.a20.n_range (pac_cons (pec_attr (pec_var (i := 0) rfl (.inr (.inl rfl)) rfl rfl) F.a21.sc_System F.a21.sl_own_letters) pac_nil)) (blkOk_by rfl) (fun _ _ _ _ _ => (pgw_name (i := 1) hN rfl (.inl rfl) (by decide))) (fun _ _ _ _ _ => ptsc_nil) (fun _ _ _ _ _ => (pec_call (n := i_letter_row) o_letter_row B.room rfl F.a11.g_letter_row F.a17.k_letter_row noPass (pac_cons (pec_var (i := 0) rfl (.inr (.inl rfl)) rfl rfl) (pac_cons (pec_var (i := 1) rfl (.inl rfl) rfl rfl) pac_nil))))) pac_nil))))
theorem o_first_frame {M : Mo} {mg : Str → Option Value} {base : Heap} (F : Fc M mg base) (cl : Cl) : FnR M.P M.w M.K mg base (L2.CX M.P M.w) (2 + 1) (M.g i_first_frame) (spF M (C_first_frame cl)) := by
  obtain ⟨fd, D⟩ := F.a2.d_first_frame
  obtain ⟨oc, od, dV, kV, doc, pm, an, cdv, ct, osl, rfl, lk, hcd, hdv, _⟩ := D.ex
  have e0 : dV = Value.none := hdv.elim (fun h => h.2) fun h => absurd rfl h.1
  subst e0
  exact fn_code ⟨rfl, rfl, rfl⟩ lk hcd sc_first_frame rfl (Binds.all fun us h => match us, h with | [_], _ => rfl) fun A outer s H E B => b_first_frame F cl B
theorem sc_led_row : FnScope ["system", "letter", "row", "whole", "high", "part", "factors", "size", "at", "factor"] ["system", "letter", "row"] (defScope (top 16)) := ⟨rfl, rfl, rfl, by decide +kernel, rfl, by decide +kernel, by decide +kernel⟩
theorem b_led_row {M : Mo} {mg : Str → Option Value} {base : Heap} (F : Fc M mg base) (cl : Cl) {A : Around} {outer : List Env} {s : Shared} {H : Hp} {E : XK} {f : Addr} {cd : Value} (B : Body (cxOf (L2.CX M.P M.w) M.P M.w M.K mg base ["system", "letter", "row", "whole", "high", "part", "factors", "size", "at", "factor"] "led_row" (defScope (top 16)) f cd A outer s H E) M E 1) : PSs (cxOf (L2.CX M.P M.w) M.P M.w M.K mg base ["system", "letter", "row", "whole", "high", "part", "factors", "size", "at", "factor"] "led_row" (defScope (top 16)) f cd A outer s H E) (defBody (top 16)) (tSt M cl E (S_led_row)) := by
  have hN : (["system", "letter", "row", "whole", "high", "part", "factors", "size", "at", "factor"] : List Str).Nodup := by decide
  exact (psc_cons (psc_asg (pec_tup (pac_cons (pec_ix B.good (pec_attr (pec_var (i := 0) rfl (.inl rfl) rfl rfl) F.a21.sc_System F.a21.sl_own_factors) (pec_var (i := 1) rfl (.inl rfl) rfl rfl) (fun _ _ => rfl)) (pac_cons (pec_attr (pec_var (i := 0) rfl (.inl rfl) rfl rfl) F.a21.sc_System F.a21.sl_own_letters) pac_nil))) (pgc_tup B.good (pgsc_cons (pgc_name (i := 6) hN rfl (.inl rfl)) (pgsc_cons (pgc_name (i := 7) hN rfl (.inr rfl)) pgsc_nil)))) (psc_cons (psc_set (i := 3) hN rfl (.inl rfl) (pec_bin (opb_addS B.good) (pec_neg (pec_ix B.good (pec_var (i := 2) rfl (.inr (.inl rfl)) rfl rfl) (pec_var (i := 1) rfl (.inl rfl) rfl rfl) (fun _ _ => rfl))) (pec_fn (cf_sum B.good.calm) rfl F.a21.n_sum bo_sum (pac_cons (pec_lc (own := [("at", 8), ("factor", 9)]) B.good hN (pic_enum B.good rfl F.a20.n_enumerate (pac_cons (pec_var (i := 6) rfl (.inl rfl) rfl rfl) pac_nil)) (blkOk_by rfl) (fun _ _ _ _ _ => (pgw_tup B.good.blk.calm B.good.blk.toFits (pgsw_cons (pgw_name (i := 8) hN rfl (.inl rfl) (by decide)) (pgsw_cons (pgw_name (i := 9) hN rfl (.inl rfl) (by decide)) pgsw_nil)))) (fun _ _ _ _ _ => ptsc_nil) (fun _ _ _ _ _ => (pec_bin (opb_mulS B.good.blk.K) (pec_ix B.good.blk (pec_var (i := 9) rfl (.inl rfl) rfl rfl) (pec_con pe_int fun _ _ => rfl) (fun _ _ => rfl)) (pec_ix B.good.blk (pec_var (i := 2) rfl (.inr (.inl rfl)) rfl rfl) (pec_var (i := 8) rfl (.inl rfl) rfl rfl) (fun _ _ => rfl))))) pac_nil)))) (psc_cons (psc_if (ptc_not (ptc_val (pec_attr (pec_var (i := 0) rfl (.inl rfl) rfl rfl) F.a21.sc_System F.a21.sl_own_golden))) (psc_one (psc_ret (pec_tup (pac_star B.good.toFits (pec_sl B.good (pec_var (i := 2) rfl (.inr (.inl rfl)) rfl rfl) poc_none (poc_some (pec_var (i := 1) rfl (.inl rfl) rfl rfl))) (pac_cons (pec_var (i := 3) rfl (.inl rfl) rfl rfl) (pac_star B.good.toFits (pec_sl B.good (pec_var (i := 2) rfl (.inr (.inl rfl)) rfl rfl) (poc_some (pec_bin (opb_addS B.good) (pec_var (i := 1) rfl (.inl rfl) rfl rfl) (pec_con pe_int fun _ _ => rfl))) poc_none) pac_nil)))))) psc_nil) (psc_cons (psc_set (i := 4) hN rfl (.inl rfl) (pec_bin (opb_addS B.good) (pec_var (i := 1) rfl (.inl rfl) rfl rfl) (pec_var (i := 7) rfl (.inr (.inl rfl)) rfl rfl))) (psc_cons (psc_aug (i := 3) hN rfl (.inl rfl) (pec_fn (cf_sum B.good.calm) rfl F.a21.n_sum bo_sum (pac_cons (pec_lc (own := [("at", 8), ("factor", 9)]) B.good hN (pic_enum B.good rfl F.a20.n_enumerate (pac_cons (pec_var (i := 6) rfl (.inl rfl) rfl rfl) pac_nil)) (blkOk_by rfl) (fun _ _ _ _ _ => (pgw_tup B.good.blk.calm B.good.blk.toFits (pgsw_cons (pgw_name (i := 8) hN rfl (.inl rfl) (by decide)) (pgsw_cons (pgw_name (i := 9) hN rfl (.inl rfl) (by decide)) pgsw_nil)))) (fun _ _ _ _ _ => ptsc_nil) (fun _ _ _ _ _ => (pec_bin (opb_mulS B.good.blk.K) (pec_ix B.good.blk (pec_var (i := 9) rfl (.inl rfl) rfl rfl) (pec_con pe_int fun _ _ => rfl) (fun _ _ => rfl)) (pec_ix B.good.blk (pec_var (i := 2) rfl (.inr (.inl rfl)) rfl rfl) (pec_bin (opb_addS B.good.blk) (pec_var (i := 8) rfl (.inl rfl) rfl rfl) (pec_var (i := 7) rfl (.inr (.inl rfl)) rfl rfl)) (fun _ _ => rfl))))) pac_nil)) iob_add) (psc_cons (psc_set (i := 5) hN rfl (.inl rfl) (pec_bin (opb_addS B.good) (pec_neg (pec_ix B.good (pec_var (i := 2) rfl (.inr (.inl rfl)) rfl rfl) (pec_var (i := 4) rfl (.inl rfl) rfl rfl) (fun _ _ => rfl))) (pec_fn (cf_sum B.good.calm) rfl F.a21.n_sum bo_sum (pac_cons (pec_lc (own := [("at", 8), ("factor", 9)]) B.good hN (pic_enum B.good rfl F.a20.n_enumerate (pac_cons (pec_var (i := 6) rfl (.inl rfl) rfl rfl) pac_nil)) (blkOk_by rfl) (fun _ _ _ _ _ => (pgw_tup B.good.blk.calm B.good.blk.toFits (pgsw_cons (pgw_name (i := 8) hN rfl (.inl rfl) (by decide)) (pgsw_cons (pgw_name (i := 9) hN rfl (.inl rfl) (by decide)) pgsw_nil)))) (fun _ _ _ _ _ => ptsc_nil) (fun _ _ _ _ _ => (pec_bin (opb_mulS B.good.blk.K) (pec_ix B.good.blk (pec_var (i := 9) rfl (.inl rfl) rfl rfl) (pec_con pe_int fun _ _ => rfl) (fun _ _ => rfl)) (pec_ix B.good.blk (pec_var (i := 2) rfl (.inr (.inl rfl)) rfl rfl) (pec_bin (opb_addS B.good.blk) (pec_var (i := 8) rfl (.inl rfl) rfl rfl) (pec_var (i := 7) rfl (.inr (.inl rfl)) rfl rfl)) (fun _ _ => rfl))))) pac_nil)))) (psc_cons (psc_aug (i := 5) hN rfl (.inl rfl) (pec_fn (cf_sum B.good.calm) rfl F.a21.n_sum bo_sum (pac_cons (pec_lc (own := [("at", 8), ("factor", 9)]) B.good hN (pic_enum B.good rfl F.a20.n_enumerate (pac_cons (pec_var (i := 6) rfl (.inl rfl) rfl rfl) pac_nil)) (blkOk_by rfl) (fun _ _ _ _ _ => (pgw_tup B.good.blk.calm B.good.blk.toFits (pgsw_cons (pgw_name (i := 8) hN rfl (.inl rfl) (by decide)) (pgsw_cons (pgw_name (i := 9) hN rfl (.inl rfl) (by decide)) pgsw_nil)))) (fun _ _ _ _ _ => ptsc_nil) (fun _ _ _ _ _ => (pec_bin (opb_mulS B.good.blk.K) (pec_ix B.good.blk (pec_var (i := 9) rfl (.inl rfl) rfl rfl) (pec_con pe_int fun _ _ => rfl) (fun _ _ => rfl)) (pec_bin (opb_addS B.good.blk) (pec_ix B.good.blk (pec_var (i := 2) rfl (.inr (.inl rfl)) rfl rfl) (pec_var (i := 8) rfl (.inl rfl) rfl rfl) (fun _ _ => rfl)) (pec_ix B.good.blk (pec_var (i := 2) rfl (.inr (.inl rfl)) rfl rfl) (pec_bin (opb_addS B.good.blk) (pec_var (i := 8) rfl (.inl rfl) rfl rfl) (pec_var (i := 7) rfl (.inr (.inl rfl)) rfl rfl)) (fun _ _ => rfl)))))) pac_nil)) iob_add) (psc_one (psc_ret (pec_tup (pac_star B.good.toFits (pec_sl B.good (pec_var (i := 2) rfl (.inr (.inl rfl)) rfl rfl) poc_none (poc_some (pec_var (i := 1) rfl (.inl rfl) rfl rfl))) (pac_cons (pec_var (i := 3) rfl (.inl rfl) rfl rfl) (pac_star B.good.toFits (pec_sl B.good (pec_var (i := 2) rfl (.inr (.inl rfl)) rfl rfl) (poc_some (pec_bin (opb_addS B.good) (pec_var (i := 1) rfl (.inl rfl) rfl rfl) (pec_con pe_int fun _ _ => rfl))) (poc_some (pec_var (i := 4) rfl (.inl rfl) rfl rfl))) (pac_cons (pec_var (i := 5) rfl (.inl rfl) rfl rfl) (pac_star B.good.toFits (pec_sl B.good (pec_var (i := 2) rfl (.inr (.inl rfl)) rfl rfl) (poc_some (pec_bin (opb_addS B.good) (pec_var (i := 4) rfl (.inl rfl) rfl rfl) (pec_con pe_int fun _ _ => rfl))) poc_none) pac_nil)))))))))))))))
theorem o_led_row {M : Mo} {mg : Str → Option Value} {base : Heap} (F : Fc M mg base) (cl : Cl) : FnR M.P M.w M.K mg base (L2.CX M.P M.w) (1 + 1) (M.g i_led_row) (spF M (C_led_row cl)) := by
  obtain ⟨fd, D⟩ := F.a4.d_led_row
  obtain ⟨oc, od, dV, kV, doc, pm, an, cdv, ct, osl, rfl, lk, hcd, hdv, _⟩ := D.ex
  have e0 : dV = Value.none := hdv.elim (fun h => h.2) fun h => absurd rfl h.1
  subst e0
  exact fn_code ⟨rfl, rfl, rfl⟩ lk hcd sc_led_row rfl (Binds.all fun us h => match us, h with | [_, _, _], _ => rfl) fun A outer s H E B => b_led_row F cl B
theorem sc_frame_behind : FnScope ["system", "frame", "letter", "row"] ["system", "frame", "letter"] (defScope (top 20)) := ⟨rfl, rfl, rfl, by decide +kernel, rfl, by decide +kernel, by decide +kernel⟩
theorem b_frame_behind {M : Mo} {mg : Str → Option Value} {base : Heap} (F : Fc M mg base) (cl : Cl) {A : Around} {outer : List Env} {s : Shared} {H : Hp} {E : XK} {f : Addr} {cd : Value} (B : Body (cxOf (L2.CX M.P M.w) M.P M.w M.K mg base ["system", "frame", "letter", "row"] "frame_behind" (defScope (top 20)) f cd A outer s H E) M E 2) : PSs (cxOf (L2.CX M.P M.w) M.P M.w M.K mg base ["system", "frame", "letter", "row"] "frame_behind" (defScope (top 20)) f cd A outer s H E) (defBody (top 20)) (tSt M cl E (S_frame_behind)) := by
  have hN : (["system", "frame", "letter", "row"] : List Str).Nodup := by decide
  have o_led_row := (o_led_row F cl).mono (show 2 ≤ 2 by decide)
  exact (psc_one (psc_ret (pec_ty (cf_tuple B.good.toFits) rfl F.a21.n_tuple bo_tuple (pac_cons (pec_lc (own := [("row", 3)]) B.good hN (pic_seq B.good (pec_var (i := 1) rfl (.inl rfl) rfl rfl)) (blkOk_by rfl) (fun _ _ _ _ _ => (pgw_name (i := 3) hN rfl (.inl rfl) (by decide))) (fun _ _ _ _ _ => ptsc_nil) (fun _ _ _ _ _ => (pec_call (n := i_led_row) o_led_row B.room rfl F.a11.g_led_row F.a16.k_led_row noPass (pac_cons (pec_var (i := 0) rfl (.inr (.inl rfl)) rfl rfl) (pac_cons (pec_var (i := 2) rfl (.inr (.inl rfl)) rfl rfl) (pac_cons (pec_var (i := 3) rfl (.inl rfl) rfl rfl) pac_nil)))))) pac_nil))))
theorem o_frame_behind {M : Mo} {mg : Str → Option Value} {base : Heap} (F : Fc M mg base) (cl : Cl) : FnR M.P M.w M.K mg base (L2.CX M.P M.w) (2 + 1) (M.g i_frame_behind) (spF M (C_frame_behind cl)) := by
  obtain ⟨fd, D⟩ := F.a3.d_frame_behind
  obtain ⟨oc, od, dV, kV, doc, pm, an, cdv, ct, osl, rfl, lk, hcd, hdv, _⟩ := D.ex
  have e0 : dV = Value.none := hdv.elim (fun h => h.2) fun h => absurd rfl h.1
  subst e0
  exact fn_code ⟨rfl, rfl, rfl⟩ lk hcd sc_frame_behind rfl (Binds.all fun us h => match us, h with | [_, _, _], _ => rfl) fun A outer s H E B => b_frame_behind F cl B
end K73
end
end

section
set_option maxRecDepth 100000
set_option maxHeartbeats 4000000
noncomputable section
namespace K73
open PySem PySem.Spec L2 Eng
open PyProof.Rows hiding St

theorem sc_frame_of : FnScope ["system", "word", "frame", "letter"] ["system", "word"] (defScope (top 22)) := ⟨rfl, rfl, rfl, by decide +kernel, rfl, by decide +kernel, by decide +kernel⟩
theorem b_frame_of {M : Mo} {mg : Str → Option Value} {base : Heap} (F : Fc M mg base) (cl : Cl) {A : Around} {outer : List Env} {s : Shared} {H : Hp} {E : XK} {f : Addr} {cd : Value} (B : Body (cxOf (L2.CX M.P M.w) M.P M.w M.K mg base ["system", "word", "frame", "letter"] "frame_of" (defScope (top 22)) f cd A outer s H E) M E 3) : PSs (cxOf (L2.CX M.P M.w) M.P M.w M.K mg base ["system", "word", "frame", "letter"] "frame_of" (defScope (top 22)) f cd A outer s H E) (defBody (top 22)) (tSt M cl E (S_frame_of)) := by
  have hN : (["system", "word", "frame", "letter"] : List Str).Nodup := by decide
  have o_first_frame := (o_first_frame F cl).mono (show 3 ≤ 3 by decide)
  have o_frame_behind := (o_frame_behind F cl).mono (show 3 ≤ 3 by decide)
  exact (psc_cons (psc_set (i := 2) hN rfl (.inl rfl) (pec_call (n := i_first_frame) o_first_frame B.room rfl F.a9.g_first_frame F.a15.k_first_frame B.pass (pac_cons (pec_var (i := 0) rfl (.inl rfl) rfl rfl) pac_nil))) (psc_cons (psc_for B.good B.own (pic_seq B.good (pec_var (i := 1) rfl (.inl rfl) rfl rfl)) (pgc_name (i := 3) hN rfl (.inl rfl)) (psc_one (psc_set (i := 2) hN rfl (.inl rfl) (pec_call (n := i_frame_behind) o_frame_behind B.room rfl F.a10.g_frame_behind F.a15.k_frame_behind B.pass (pac_cons (pec_var (i := 0) rfl (.inl rfl) rfl rfl) (pac_cons (pec_var (i := 2) rfl (.inl rfl) rfl rfl) (pac_cons (pec_var (i := 3) rfl (.inl rfl) rfl rfl) pac_nil))))))) (psc_one (psc_ret (pec_var (i := 2) rfl (.inl rfl) rfl rfl)))))
theorem o_frame_of {M : Mo} {mg : Str → Option Value} {base : Heap} (F : Fc M mg base) (cl : Cl) : FnR M.P M.w M.K mg base (L2.CX M.P M.w) (3 + 1) (M.g i_frame_of) (spF M (C_frame_of cl)) := by
  obtain ⟨fd, D⟩ := F.a3.d_frame_of
  obtain ⟨oc, od, dV, kV, doc, pm, an, cdv, ct, osl, rfl, lk, hcd, hdv, _⟩ := D.ex
  have e0 : dV = Value.none := hdv.elim (fun h => h.2) fun h => absurd rfl h.1
  subst e0
  exact fn_code ⟨rfl, rfl, rfl⟩ lk hcd sc_frame_of rfl (Binds.all fun us h => match us, h with | [_, _], _ => rfl) fun A outer s H E B => b_frame_of F cl B
theorem sc_is_row_below : FnScope ["system", "row", "size", "at"] ["system", "row"] (defScope (top 14)) := ⟨rfl, rfl, rfl, by decide +kernel, rfl, by decide +kernel, by decide +kernel⟩
theorem b_is_row_below {M : Mo} {mg : Str → Option Value} {base : Heap} (F : Fc M mg base) (cl : Cl) {A : Around} {outer : List Env} {s : Shared} {H : Hp} {E : XK} {f : Addr} {cd : Value} (B : Body (cxOf (L2.CX M.P M.w) M.P M.w M.K mg base ["system", "row", "size", "at"] "is_row_below" (defScope (top 14)) f cd A outer s H E) M E 1) : PSs (cxOf (L2.CX M.P M.w) M.P M.w M.K mg base ["system", "row", "size", "at"] "is_row_below" (defScope (top 14)) f cd A outer s H E) (defBody (top 14)) (tSt M cl E (S_is_row_below)) := by
  have hN : (["system", "row", "size", "at"] : List Str).Nodup := by decide
  exact (psc_cons (psc_if (ptc_not (ptc_val (pec_attr (pec_var (i := 0) rfl (.inl rfl) rfl rfl) F.a21.sc_System F.a21.sl_own_golden))) (psc_one (psc_ret (pec_cmp (ots_lt B.good) (pec_fn (cf_minT B.good) rfl F.a20.n_min bo_min (pac_cons (pec_var (i := 1) rfl (.inr (.inl rfl)) rfl rfl) pac_nil)) (pec_con pe_int fun _ _ => rfl) (nomark _)))) psc_nil) (psc_cons (psc_set (i := 2) hN rfl (.inr rfl) (pec_attr (pec_var (i := 0) rfl (.inl rfl) rfl rfl) F.a21.sc_System F.a21.sl_own_letters)) (psc_one (psc_ret (pec_fn (cf_any B.good.calm) rfl F.a19.n_any bo_any (pac_cons (pec_lc (own := [("at", 3)]) B.good hN (pic_r1 rfl F.a20.n_range (pac_cons (pec_var (i := 2) rfl (.inr (.inl rfl)) rfl rfl) pac_nil)) (blkOk_by rfl) (fun _ _ _ _ _ => (pgw_name (i := 3) hN rfl (.inl rfl) (by decide))) (fun _ _ _ _ _ => ptsc_nil) (fun _ _ _ _ _ => (pec_call (n := i_is_below) fnr_cut B.room rfl F.a10.g_is_below F.a15.k_is_below noPass (pac_cons (pec_ix B.good.blk (pec_var (i := 1) rfl (.inr (.inl rfl)) rfl rfl) (pec_var (i := 3) rfl (.inl rfl) rfl rfl) (fun _ _ => rfl)) (pac_cons (pec_ix B.good.blk (pec_var (i := 1) rfl (.inr (.inl rfl)) rfl rfl) (pec_bin (opb_addS B.good.blk) (pec_var (i := 3) rfl (.inl rfl) rfl rfl) (pec_var (i := 2) rfl (.inr (.inl rfl)) rfl rfl)) (fun _ _ => rfl)) pac_nil))))) pac_nil))))))
theorem o_is_row_below {M : Mo} {mg : Str → Option Value} {base : Heap} (F : Fc M mg base) (cl : Cl) : FnR M.P M.w M.K mg base (L2.CX M.P M.w) (1 + 1) (M.g i_is_row_below) (spF M (C_is_row_below cl)) := by
  obtain ⟨fd, D⟩ := F.a3.d_is_row_below
  obtain ⟨oc, od, dV, kV, doc, pm, an, cdv, ct, osl, rfl, lk, hcd, hdv, _⟩ := D.ex
  have e0 : dV = Value.none := hdv.elim (fun h => h.2) fun h => absurd rfl h.1
  subst e0
  exact fn_code ⟨rfl, rfl, rfl⟩ lk hcd sc_is_row_below rfl (Binds.all fun us h => match us, h with | [_, _], _ => rfl) fun A outer s H E B => b_is_row_below F cl B
theorem sc_is_left : FnScope ["system", "frame", "letter"] ["system", "frame", "letter"] (defScope (top 23)) := ⟨rfl, rfl, rfl, by decide +kernel, rfl, by decide +kernel, by decide +kernel⟩
theorem b_is_left {M : Mo} {mg : Str → Option Value} {base : Heap} (F : Fc M mg base) (cl : Cl) {A : Around} {outer : List Env} {s : Shared} {H : Hp} {E : XK} {f : Addr} {cd : Value} (B : Body (cxOf (L2.CX M.P M.w) M.P M.w M.K mg base ["system", "frame", "letter"] "is_left" (defScope (top 23)) f cd A outer s H E) M E 2) : PSs (cxOf (L2.CX M.P M.w) M.P M.w M.K mg base ["system", "frame", "letter"] "is_left" (defScope (top 23)) f cd A outer s H E) (defBody (top 23)) (tSt M cl E (S_is_left)) := by
  have hN : (["system", "frame", "letter"] : List Str).Nodup := by decide
  have o_is_row_below := (o_is_row_below F cl).mono (show 2 ≤ 2 by decide)
  exact (psc_one (psc_ret (pec_call (n := i_is_row_below) o_is_row_below B.room rfl F.a10.g_is_row_below F.a16.k_is_row_below B.pass (pac_cons (pec_var (i := 0) rfl (.inl rfl) rfl rfl) (pac_cons (pec_ix B.good (pec_var (i := 1) rfl (.inl rfl) rfl rfl) (pec_var (i := 2) rfl (.inl rfl) rfl rfl) (fun _ _ => rfl)) pac_nil)))))
theorem o_is_left {M : Mo} {mg : Str → Option Value} {base : Heap} (F : Fc M mg base) (cl : Cl) : FnR M.P M.w M.K mg base (L2.CX M.P M.w) (2 + 1) (M.g i_is_left) (spF M (C_is_left cl)) := by
  obtain ⟨fd, D⟩ := F.a3.d_is_left
  obtain ⟨oc, od, dV, kV, doc, pm, an, cdv, ct, osl, rfl, lk, hcd, hdv, _⟩ := D.ex
  have e0 : dV = Value.none := hdv.elim (fun h => h.2) fun h => absurd rfl h.1
  subst e0
  exact fn_code ⟨rfl, rfl, rfl⟩ lk hcd sc_is_left rfl (Binds.all fun us h => match us, h with | [_, _, _], _ => rfl) fun A outer s H E B => b_is_left F cl B
theorem sc_first_left : FnScope ["system", "frame", "letter"] ["system", "frame"] (defScope (top 25)) := ⟨rfl, rfl, rfl, by decide +kernel, rfl, by decide +kernel, by decide +kernel⟩
theorem b_first_left {M : Mo} {mg : Str → Option Value} {base : Heap} (F : Fc M mg base) (cl : Cl) {A : Around} {outer : List Env} {s : Shared} {H : Hp} {E : XK} {f : Addr} {cd : Value} {c P : Addr} (TB : LamX.TabB base mg c P) (hcode : cd = .ref c) (hmT : (P, ("first_left.<locals>.<genexpr>" : Str)) ∈ M.tabs) (hu : ∀ p ∈ M.tabs, p.1 = P → p.2 = ("first_left.<locals>.<genexpr>" : Str)) (B : Body (cxOf (L2.CX M.P M.w) M.P M.w M.K mg base ["system", "frame", "letter"] "first_left" (defScope (top 25)) f cd A outer s H E) M E 6) : PSs (cxOf (L2.CX M.P M.w) M.P M.w M.K mg base ["system", "frame", "letter"] "first_left" (defScope (top 25)) f cd A outer s H E) (defBody (top 25)) (tSt M cl E (S_first_left)) := by
  have hN : (["system", "frame", "letter"] : List Str).Nodup := by decide
  have ol_is_left := (o_is_left F cl).mono (show 3 ≤ 5 by decide)
  have o_is_left := (o_is_left F cl).mono (show 3 ≤ 6 by decide)
  exact (psc_one (psc_ret (pec_nextG (vs := [2]) hmT hu B.room rfl F.a20.n_next TB hcode (genS_by rfl) (pic_r1 rfl F.a20.n_range (pac_cons (pec_attr (pec_var (i := 0) rfl (.inr (.inl rfl)) rfl rfl) F.a21.sc_System F.a21.sl_own_letters) pac_nil)) (fun _ _ _ _ _ hr => (pgw_name (i := 2) hN rfl (.inl rfl) (by decide))) (fun _ _ _ _ _ hr => (ptsc_one (ptc_val (pec_call (n := i_is_left) ol_is_left hr rfl F.a10.g_is_left_frames F.a15.k_is_left noPassG (pac_cons (pec_var (i := 0) rfl (.inr (.inr rfl)) rfl rfl) (pac_cons (pec_var (i := 1) rfl (.inr (.inr rfl)) rfl rfl) (pac_cons (pec_var (i := 2) rfl (.inl rfl) rfl rfl) pac_nil))))))) (fun _ _ _ _ _ hr => (pec_var (i := 2) rfl (.inl rfl) rfl rfl)))))
theorem o_first_left {M : Mo} {mg : Str → Option Value} {base : Heap} (F : Fc M mg base) (cl : Cl) : FnR M.P M.w M.K mg base (L2.CX M.P M.w) (6 + 1) (M.g i_first_left) (spF M (C_first_left cl)) := by
  obtain ⟨fd, D⟩ := F.a2.d_first_left
  obtain ⟨c, P, hcode, TB, hmT, hu⟩ := F.a22.tb_first_left fd D
  obtain ⟨oc, od, dV, kV, doc, pm, an, cdv, ct, osl, rfl, lk, hcd, hdv, _⟩ := D.ex
  have e0 : dV = Value.none := hdv.elim (fun h => h.2) fun h => absurd rfl h.1
  subst e0
  exact fn_code ⟨rfl, rfl, rfl⟩ lk hcd sc_first_left rfl (Binds.all fun us h => match us, h with | [_, _], _ => rfl) fun A outer s H E B => b_first_left F cl TB hcode hmT hu B
theorem sc_added_row : FnScope ["system", "row", "factor", "other", "whole", "part", "left", "right"] ["system", "row", "factor", "other"] (defScope (top 18)) := ⟨rfl, rfl, rfl, by decide +kernel, rfl, by decide +kernel, by decide +kernel⟩
theorem b_added_row {M : Mo} {mg : Str → Option Value} {base : Heap} (F : Fc M mg base) (cl : Cl) {A : Around} {outer : List Env} {s : Shared} {H : Hp} {E : XK} {f : Addr} {cd : Value} (B : Body (cxOf (L2.CX M.P M.w) M.P M.w M.K mg base ["system", "row", "factor", "other", "whole", "part", "left", "right"] "added_row" (defScope (top 18)) f cd A outer s H E) M E 1) : PSs (cxOf (L2.CX M.P M.w) M.P M.w M.K mg base ["system", "row", "factor", "other", "whole", "part", "left", "right"] "added_row" (defScope (top 18)) f cd A outer s H E) (defBody (top 18)) (tSt M cl E (S_added_row)) := by
  have hN : (["system", "row", "factor", "other", "whole", "part", "left", "right"] : List Str).Nodup := by decide
  exact (psc_cons (psc_asg (pec_var (i := 2) rfl (.inl rfl) rfl rfl) (pgc_tup B.good (pgsc_cons (pgc_name (i := 4) hN rfl (.inr rfl)) (pgsc_cons (pgc_name (i := 5) hN rfl (.inl rfl)) pgsc_nil)))) (psc_cons (psc_if (ptc_cmp (ot_neG B.good) (pec_var (i := 5) rfl (.inl rfl) rfl rfl) (pec_con pe_int fun _ _ => rfl) (nomark _)) (psc_cons (psc_set (i := 3) hN rfl (.inl rfl) (pec_call (n := i_times_s) fnr_cut B.room rfl F.a13.g_times_s F.a18.k_times_s B.pass (pac_cons (pec_attr (pec_var (i := 0) rfl (.inl rfl) rfl rfl) F.a21.sc_System F.a21.sl_own_letters) (pac_cons (pec_var (i := 3) rfl (.inl rfl) rfl rfl) pac_nil)))) (psc_one (psc_set (i := 4) hN rfl (.inr rfl) (pec_var (i := 5) rfl (.inl rfl) rfl rfl)))) psc_nil) (psc_one (psc_ret (pec_ite (ptc_cmp (ot_eqG B.good) (pec_var (i := 4) rfl (.inr (.inl rfl)) rfl rfl) (pec_con pe_int fun _ _ => rfl) (nomark _)) (pec_var (i := 1) rfl (.inl rfl) rfl rfl) (pec_ty (cf_tuple B.good.toFits) rfl F.a21.n_tuple bo_tuple (pac_cons (pec_lc (own := [("left", 6), ("right", 7)]) B.good hN (pic_zip B.good rfl F.a21.n_zip (pac_cons (pec_var (i := 1) rfl (.inl rfl) rfl rfl) (pac_cons (pec_var (i := 3) rfl (.inl rfl) rfl rfl) pac_nil))) (blkOk_by rfl) (fun _ _ _ _ _ => (pgw_tup B.good.blk.calm B.good.blk.toFits (pgsw_cons (pgw_name (i := 6) hN rfl (.inl rfl) (by decide)) (pgsw_cons (pgw_name (i := 7) hN rfl (.inl rfl) (by decide)) pgsw_nil)))) (fun _ _ _ _ _ => ptsc_nil) (fun _ _ _ _ _ => (pec_bin (opb_addS B.good.blk) (pec_var (i := 6) rfl (.inl rfl) rfl rfl) (pec_bin (opb_mulS B.good.blk.K) (pec_var (i := 4) rfl (.inr (.inl rfl)) rfl rfl) (pec_var (i := 7) rfl (.inl rfl) rfl rfl))))) pac_nil)))))))
theorem o_added_row {M : Mo} {mg : Str → Option Value} {base : Heap} (F : Fc M mg base) (cl : Cl) : FnR M.P M.w M.K mg base (L2.CX M.P M.w) (1 + 1) (M.g i_added_row) (spF M (C_added_row cl)) := by
  obtain ⟨fd, D⟩ := F.a2.d_added_row
  obtain ⟨oc, od, dV, kV, doc, pm, an, cdv, ct, osl, rfl, lk, hcd, hdv, _⟩ := D.ex
  have e0 : dV = Value.none := hdv.elim (fun h => h.2) fun h => absurd rfl h.1
  subst e0
  exact fn_code ⟨rfl, rfl, rfl⟩ lk hcd sc_added_row rfl (Binds.all fun us h => match us, h with | [_, _, _, _], _ => rfl) fun A outer s H E B => b_added_row F cl B
theorem sc_frame_ahead : FnScope ["system", "frame", "letter", "found", "head", "factors", "row", "factor", "number"] ["system", "frame", "letter"] (defScope (top 21)) := ⟨rfl, rfl, rfl, by decide +kernel, rfl, by decide +kernel, by decide +kernel⟩
theorem b_frame_ahead {M : Mo} {mg : Str → Option Value} {base : Heap} (F : Fc M mg base) (cl : Cl) {A : Around} {outer : List Env} {s : Shared} {H : Hp} {E : XK} {f : Addr} {cd : Value} (B : Body (cxOf (L2.CX M.P M.w) M.P M.w M.K mg base ["system", "frame", "letter", "found", "head", "factors", "row", "factor", "number"] "frame_ahead" (defScope (top 21)) f cd A outer s H E) M E 2) : PSs (cxOf (L2.CX M.P M.w) M.P M.w M.K mg base ["system", "frame", "letter", "found", "head", "factors", "row", "factor", "number"] "frame_ahead" (defScope (top 21)) f cd A outer s H E) (defBody (top 21)) (tSt M cl E (S_frame_ahead)) := by
  have hN : (["system", "frame", "letter", "found", "head", "factors", "row", "factor", "number"] : List Str).Nodup := by decide
  have o_added_row := (o_added_row F cl).mono (show 2 ≤ 2 by decide)
  exact (psc_cons (psc_asg (pec_tup (pac_cons (pec_ix B.good (pec_var (i := 1) rfl (.inl rfl) rfl rfl) (pec_var (i := 2) rfl (.inl rfl) rfl rfl) (fun _ _ => rfl)) (pac_cons (pec_ix B.good (pec_attr (pec_var (i := 0) rfl (.inr (.inl rfl)) rfl rfl) F.a21.sc_System F.a21.sl_own_factors) (pec_var (i := 2) rfl (.inl rfl) rfl rfl) (fun _ _ => rfl)) pac_nil))) (pgc_tup B.good (pgsc_cons (pgc_name (i := 4) hN rfl (.inr rfl)) (pgsc_cons (pgc_name (i := 5) hN rfl (.inl rfl)) pgsc_nil)))) (psc_cons (psc_setLc (own := [("row", 6), ("factor", 7)]) B.good hN (i := 3) rfl rfl rfl (pic_zip B.good rfl F.a21.n_zip (pac_cons (pec_var (i := 1) rfl (.inl rfl) rfl rfl) (pac_cons (pec_var (i := 5) rfl (.inl rfl) rfl rfl) pac_nil))) (blkOk_by rfl) (fun _ _ _ _ _ => (pgw_tup B.good.blk.calm B.good.blk.toFits (pgsw_cons (pgw_name (i := 6) hN rfl (.inl rfl) (by decide)) (pgsw_cons (pgw_name (i := 7) hN rfl (.inl rfl) (by decide)) pgsw_nil)))) (fun _ _ _ _ _ => ptsc_nil) (fun _ _ _ _ _ => (pec_call (n := i_added_row) o_added_row B.room rfl F.a9.g_added_row F.a14.k_added_row noPass (pac_cons (pec_var (i := 0) rfl (.inr (.inl rfl)) rfl rfl) (pac_cons (pec_var (i := 6) rfl (.inl rfl) rfl rfl) (pac_cons (pec_var (i := 7) rfl (.inl rfl) rfl rfl) (pac_cons (pec_var (i := 4) rfl (.inr (.inl rfl)) rfl rfl) pac_nil))))))) (psc_cons (psc_asg (pec_ty (cf_tuple B.good.toFits) rfl F.a21.n_tuple bo_tuple (pac_cons (pec_lc (own := [("number", 8)]) B.good hN (pic_seq B.good (pec_var (i := 4) rfl (.inr (.inl rfl)) rfl rfl)) (blkOk_by rfl) (fun _ _ _ _ _ => (pgw_name (i := 8) hN rfl (.inl rfl) (by decide))) (fun _ _ _ _ _ => ptsc_nil) (fun _ _ _ _ _ => (pec_neg (pec_var (i := 8) rfl (.inl rfl) rfl rfl)))) pac_nil)) (pgc_sub B.good (pec_var (i := 3) rfl (.inl rfl) rfl rfl) (pec_var (i := 2) rfl (.inl rfl) rfl rfl))) (psc_one (psc_ret (pec_ty (cf_tuple B.good.toFits) rfl F.a21.n_tuple bo_tuple (pac_cons (pec_var (i := 3) rfl (.inl rfl) rfl rfl) pac_nil)))))))
theorem o_frame_ahead {M : Mo} {mg : Str → Option Value} {base : Heap} (F : Fc M mg base) (cl : Cl) : FnR M.P M.w M.K mg base (L2.CX M.P M.w) (2 + 1) (M.g i_frame_ahead) (spF M (C_frame_ahead cl)) := by
  obtain ⟨fd, D⟩ := F.a2.d_frame_ahead
  obtain ⟨oc, od, dV, kV, doc, pm, an, cdv, ct, osl, rfl, lk, hcd, hdv, _⟩ := D.ex
  have e0 : dV = Value.none := hdv.elim (fun h => h.2) fun h => absurd rfl h.1
  subst e0
  exact fn_code ⟨rfl, rfl, rfl⟩ lk hcd sc_frame_ahead rfl (Binds.all fun us h => match us, h with | [_, _, _], _ => rfl) fun A outer s H E B => b_frame_ahead F cl B
end K73
end
end

section
set_option maxRecDepth 100000
set_option maxHeartbeats 4000000
noncomputable section
namespace K73
open PySem PySem.Spec L2 Eng
open PyProof.Rows hiding St

theorem sc_word_of_frame : FnScope ["system", "frame", "found", "letter"] ["system", "frame"] (defScope (top 26)) := ⟨rfl, rfl, rfl, by decide +kernel, rfl, by decide +kernel, by decide +kernel⟩
theorem b_word_of_frame {M : Mo} {mg : Str → Option Value} {base : Heap} (F : Fc M mg base) (cl : Cl) {A : Around} {outer : List Env} {s : Shared} {H : Hp} {E : XK} {f : Addr} {cd : Value} (B : Body (cxOf (L2.CX M.P M.w) M.P M.w M.K mg base ["system", "frame", "found", "letter"] "word_of_frame" (defScope (top 26)) f cd A outer s H E) M E 7) : PSs (cxOf (L2.CX M.P M.w) M.P M.w M.K mg base ["system", "frame", "found", "letter"] "word_of_frame" (defScope (top 26)) f cd A outer s H E) (defBody (top 26)) (tSt M cl E (S_word_of_frame)) := by
  have hN : (["system", "frame", "found", "letter"] : List Str).Nodup := by decide
  have o_first_left := (o_first_left F cl).mono (show 7 ≤ 7 by decide)
  have o_frame_ahead := (o_frame_ahead F cl).mono (show 3 ≤ 7 by decide)
  exact (psc_cons (psc_set (i := 2) hN rfl (.inl rfl) (pec_lstO pac_nil)) (psc_cons (psc_set (i := 3) hN rfl (.inl rfl) (pec_call (n := i_first_left) o_first_left B.room rfl F.a9.g_first_left F.a15.k_first_left B.pass (pac_cons (pec_var (i := 0) rfl (.inl rfl) rfl rfl) (pac_cons (pec_var (i := 1) rfl (.inl rfl) rfl rfl) pac_nil)))) (psc_cons (psc_while (fuel := 100000) B.own (ptc_notN (pec_var (i := 3) rfl (.inl rfl) rfl rfl)) (psc_cons (psc_expr (pec_mtL PySem.F.plainAttrs_list PySem.F.slot_list_append PySem.F.type_list_append mtm_append (pec_var (i := 2) rfl (.inl rfl) rfl rfl) (pac_cons (pec_var (i := 3) rfl (.inl rfl) rfl rfl) pac_nil))) (psc_cons (psc_set (i := 1) hN rfl (.inl rfl) (pec_call (n := i_frame_ahead) o_frame_ahead B.room rfl F.a10.g_frame_ahead F.a15.k_frame_ahead B.pass (pac_cons (pec_var (i := 0) rfl (.inl rfl) rfl rfl) (pac_cons (pec_var (i := 1) rfl (.inl rfl) rfl rfl) (pac_cons (pec_var (i := 3) rfl (.inl rfl) rfl rfl) pac_nil))))) (psc_one (psc_set (i := 3) hN rfl (.inl rfl) (pec_call (n := i_first_left) o_first_left B.room rfl F.a9.g_first_left F.a15.k_first_left B.pass (pac_cons (pec_var (i := 0) rfl (.inl rfl) rfl rfl) (pac_cons (pec_var (i := 1) rfl (.inl rfl) rfl rfl) pac_nil)))))))) (psc_one (psc_ret (pec_ty (cf_tuple B.good.toFits) rfl F.a21.n_tuple bo_tuple (pac_cons (pec_var (i := 2) rfl (.inl rfl) rfl rfl) pac_nil)))))))
theorem o_word_of_frame {M : Mo} {mg : Str → Option Value} {base : Heap} (F : Fc M mg base) (cl : Cl) : FnR M.P M.w M.K mg base (L2.CX M.P M.w) (7 + 1) (M.g i_word_of_frame) (spF M (C_word_of_frame cl)) := by
  obtain ⟨fd, D⟩ := F.a5.d_word_of_frame
  obtain ⟨oc, od, dV, kV, doc, pm, an, cdv, ct, osl, rfl, lk, hcd, hdv, _⟩ := D.ex
  have e0 : dV = Value.none := hdv.elim (fun h => h.2) fun h => absurd rfl h.1
  subst e0
  exact fn_code ⟨rfl, rfl, rfl⟩ lk hcd sc_word_of_frame rfl (Binds.all fun us h => match us, h with | [_, _], _ => rfl) fun A outer s H E B => b_word_of_frame F cl B
theorem sc_normal_in : FnScope ["system", "word"] ["system", "word"] (defScope (top 45)) := ⟨rfl, rfl, rfl, by decide +kernel, rfl, by decide +kernel, by decide +kernel⟩
theorem b_normal_in {M : Mo} {mg : Str → Option Value} {base : Heap} (F : Fc M mg base) (cl : Cl) {A : Around} {outer : List Env} {s : Shared} {H : Hp} {E : XK} {f : Addr} {cd : Value} (B : Body (cxOf (L2.CX M.P M.w) M.P M.w M.K mg base ["system", "word"] "normal_in" (defScope (top 45)) f cd A outer s H E) M E 8) : PSs (cxOf (L2.CX M.P M.w) M.P M.w M.K mg base ["system", "word"] "normal_in" (defScope (top 45)) f cd A outer s H E) (defBody (top 45)) (tSt M cl E (S_normal_in)) := by
  have hN : (["system", "word"] : List Str).Nodup := by decide
  have o_frame_of := (o_frame_of F cl).mono (show 4 ≤ 8 by decide)
  have o_word_of_frame := (o_word_of_frame F cl).mono (show 8 ≤ 8 by decide)
  exact (psc_one (psc_ret (pec_call (n := i_word_of_frame) o_word_of_frame B.room rfl F.a13.g_word_of_frame F.a18.k_word_of_frame B.pass (pac_cons (pec_var (i := 0) rfl (.inl rfl) rfl rfl) (pac_cons (pec_call (n := i_frame_of) o_frame_of B.room rfl F.a10.g_frame_of F.a15.k_frame_of B.pass (pac_cons (pec_var (i := 0) rfl (.inl rfl) rfl rfl) (pac_cons (pec_var (i := 1) rfl (.inl rfl) rfl rfl) pac_nil))) pac_nil)))))
theorem o_normal_in {M : Mo} {mg : Str → Option Value} {base : Heap} (F : Fc M mg base) (cl : Cl) : FnR M.P M.w M.K mg base (L2.CX M.P M.w) (8 + 1) (M.g i_normal_in) (spF M (C_normal_in cl)) := by
  obtain ⟨fd, D⟩ := F.a4.d_normal_in
  obtain ⟨oc, od, dV, kV, doc, pm, an, cdv, ct, osl, rfl, lk, hcd, hdv, _⟩ := D.ex
  have e0 : dV = Value.none := hdv.elim (fun h => h.2) fun h => absurd rfl h.1
  subst e0
  exact fn_code ⟨rfl, rfl, rfl⟩ lk hcd sc_normal_in rfl (Binds.all fun us h => match us, h with | [_, _], _ => rfl) fun A outer s H E B => b_normal_in F cl B
theorem sc_Roll___init__ : FnScope ["self", "system"] ["self", "system"] (defScope (mem 28 1)) := ⟨rfl, rfl, rfl, by decide +kernel, rfl, by decide +kernel, by decide +kernel⟩
theorem b_Roll___init__ {M : Mo} {mg : Str → Option Value} {base : Heap} (F : Fc M mg base) (cl : Cl) {A : Around} {outer : List Env} {s : Shared} {H : Hp} {E : XK} {f : Addr} {cd : Value} (B : Body (cxOf (L2.CX M.P M.w) M.P M.w M.K mg base ["self", "system"] "Roll.__init__" (defScope (mem 28 1)) f cd A outer s H E) M E 1) : PSs (cxOf (L2.CX M.P M.w) M.P M.w M.K mg base ["self", "system"] "Roll.__init__" (defScope (mem 28 1)) f cd A outer s H E) (defBody (mem 28 1)) (tSt M cl E (S_Roll___init__)) := by
  have hN : (["self", "system"] : List Str).Nodup := by decide
  exact (psc_cons (psc_attr (pec_var (i := 0) rfl (.inl rfl) rfl rfl) (pec_var (i := 1) rfl (.inl rfl) rfl rfl) F.a21.sc_Roll F.a22.sl_own_system) (psc_cons (psc_attr (pec_var (i := 0) rfl (.inl rfl) rfl rfl) (pec_dict0 B.good.toFits) F.a21.sc_Roll F.a21.sl_own_frames) (psc_one (psc_attr (pec_var (i := 0) rfl (.inl rfl) rfl rfl) (pec_dict0 B.good.toFits) F.a21.sc_Roll F.a22.sl_own_words))))
theorem o_Roll___init__ {M : Mo} {mg : Str → Option Value} {base : Heap} (F : Fc M mg base) (cl : Cl) : FnR M.P M.w M.K mg base (L2.CX M.P M.w) (1 + 1) (M.g i_Roll___init__) (spI M (C_Roll___init__ cl) i_Roll und_Roll) := by
  obtain ⟨fd, D⟩ := F.a1.d_Roll___init__
  obtain ⟨oc, od, dV, kV, doc, pm, an, cdv, ct, osl, rfl, lk, hcd, hdv, _⟩ := D.ex
  have e0 : dV = Value.none := hdv.elim (fun h => h.2) fun h => absurd rfl h.1
  subst e0
  exact fn_init ⟨rfl, rfl, rfl⟩ lk hcd sc_Roll___init__ rfl (Binds.all fun us h => match us, h with | [_, _], _ => rfl) fun A outer s H E B => b_Roll___init__ F cl B
theorem sc_Roll_put : FnScope ["self", "frame", "word"] ["self", "frame", "word"] (defScope (mem 28 3)) := ⟨rfl, rfl, rfl, by decide +kernel, rfl, by decide +kernel, by decide +kernel⟩
theorem b_Roll_put {M : Mo} {mg : Str → Option Value} {base : Heap} (F : Fc M mg base) (cl : Cl) {A : Around} {outer : List Env} {s : Shared} {H : Hp} {E : XK} {f : Addr} {cd : Value} (B : Body (cxOf (L2.CX M.P M.w) M.P M.w M.K mg base ["self", "frame", "word"] "Roll.put" (defScope (mem 28 3)) f cd A outer s H E) M E 1) : PSs (cxOf (L2.CX M.P M.w) M.P M.w M.K mg base ["self", "frame", "word"] "Roll.put" (defScope (mem 28 3)) f cd A outer s H E) (defBody (mem 28 3)) (tSt M cl E (S_Roll_put)) := by
  have hN : (["self", "frame", "word"] : List Str).Nodup := by decide
  exact (psc_cons (psc_asg (pec_var (i := 1) rfl (.inl rfl) rfl rfl) (pgc_sub B.good (pec_attr (pec_var (i := 0) rfl (.inl rfl) rfl rfl) F.a21.sc_Roll F.a21.sl_own_frames) (pec_var (i := 2) rfl (.inl rfl) rfl rfl))) (psc_one (psc_asg (pec_var (i := 2) rfl (.inl rfl) rfl rfl) (pgc_sub B.good (pec_attr (pec_var (i := 0) rfl (.inl rfl) rfl rfl) F.a21.sc_Roll F.a22.sl_own_words) (pec_var (i := 1) rfl (.inl rfl) rfl rfl)))))
theorem o_Roll_put {M : Mo} {mg : Str → Option Value} {base : Heap} (F : Fc M mg base) (cl : Cl) : FnR M.P M.w M.K mg base (L2.CX M.P M.w) (1 + 1) (M.g i_Roll_put) (spF M (C_Roll_put cl)) := by
  obtain ⟨fd, D⟩ := F.a1.d_Roll_put
  obtain ⟨oc, od, dV, kV, doc, pm, an, cdv, ct, osl, rfl, lk, hcd, hdv, _⟩ := D.ex
  have e0 : dV = Value.none := hdv.elim (fun h => h.2) fun h => absurd rfl h.1
  subst e0
  exact fn_code ⟨rfl, rfl, rfl⟩ lk hcd sc_Roll_put rfl (Binds.all fun us h => match us, h with | [_, _, _], _ => rfl) fun A outer s H E B => b_Roll_put F cl B
theorem sc_Roll_frame : FnScope ["self", "word"] ["self", "word"] (defScope (mem 28 2)) := ⟨rfl, rfl, rfl, by decide +kernel, rfl, by decide +kernel, by decide +kernel⟩
theorem b_Roll_frame {M : Mo} {mg : Str → Option Value} {base : Heap} (F : Fc M mg base) (cl : Cl) {A : Around} {outer : List Env} {s : Shared} {H : Hp} {E : XK} {f : Addr} {cd : Value} (B : Body (cxOf (L2.CX M.P M.w) M.P M.w M.K mg base ["self", "word"] "Roll.frame" (defScope (mem 28 2)) f cd A outer s H E) M E 4) : PSs (cxOf (L2.CX M.P M.w) M.P M.w M.K mg base ["self", "word"] "Roll.frame" (defScope (mem 28 2)) f cd A outer s H E) (defBody (mem 28 2)) (tSt M cl E (S_Roll_frame)) := by
  have hN : (["self", "word"] : List Str).Nodup := by decide
  have o_frame_of := (o_frame_of F cl).mono (show 4 ≤ 4 by decide)
  have o_Roll_put := (o_Roll_put F cl).mono (show 2 ≤ 4 by decide)
  exact (psc_cons (psc_if (ptc_cmp (ots_nin B.good) (pec_var (i := 1) rfl (.inl rfl) rfl rfl) (pec_attr (pec_var (i := 0) rfl (.inl rfl) rfl rfl) F.a21.sc_Roll F.a21.sl_own_frames) rfl) (psc_one (psc_expr (pec_meth (n := i_Roll_put) (pec_var (i := 0) rfl (.inl rfl) rfl rfl) F.a21.sc_Roll F.a19.m_Roll_put o_Roll_put B.room B.pass (pac_cons (pec_call (n := i_frame_of) o_frame_of B.room rfl F.a10.g_frame_of F.a15.k_frame_of B.pass (pac_cons (pec_attr (pec_var (i := 0) rfl (.inl rfl) rfl rfl) F.a21.sc_Roll F.a22.sl_own_system) (pac_cons (pec_var (i := 1) rfl (.inl rfl) rfl rfl) pac_nil))) (pac_cons (pec_var (i := 1) rfl (.inl rfl) rfl rfl) pac_nil))))) psc_nil) (psc_one (psc_ret (pec_ix B.good (pec_attr (pec_var (i := 0) rfl (.inl rfl) rfl rfl) F.a21.sc_Roll F.a21.sl_own_frames) (pec_var (i := 1) rfl (.inl rfl) rfl rfl) (fun _ _ => rfl)))))
theorem o_Roll_frame {M : Mo} {mg : Str → Option Value} {base : Heap} (F : Fc M mg base) (cl : Cl) : FnR M.P M.w M.K mg base (L2.CX M.P M.w) (4 + 1) (M.g i_Roll_frame) (spF M (C_Roll_frame cl)) := by
  obtain ⟨fd, D⟩ := F.a1.d_Roll_frame
  obtain ⟨oc, od, dV, kV, doc, pm, an, cdv, ct, osl, rfl, lk, hcd, hdv, _⟩ := D.ex
  have e0 : dV = Value.none := hdv.elim (fun h => h.2) fun h => absurd rfl h.1
  subst e0
  exact fn_code ⟨rfl, rfl, rfl⟩ lk hcd sc_Roll_frame rfl (Binds.all fun us h => match us, h with | [_, _], _ => rfl) fun A outer s H E B => b_Roll_frame F cl B
theorem sc_Roll_word : FnScope ["self", "frame"] ["self", "frame"] (defScope (mem 28 4)) := ⟨rfl, rfl, rfl, by decide +kernel, rfl, by decide +kernel, by decide +kernel⟩
theorem b_Roll_word {M : Mo} {mg : Str → Option Value} {base : Heap} (F : Fc M mg base) (cl : Cl) {A : Around} {outer : List Env} {s : Shared} {H : Hp} {E : XK} {f : Addr} {cd : Value} (B : Body (cxOf (L2.CX M.P M.w) M.P M.w M.K mg base ["self", "frame"] "Roll.word" (defScope (mem 28 4)) f cd A outer s H E) M E 8) : PSs (cxOf (L2.CX M.P M.w) M.P M.w M.K mg base ["self", "frame"] "Roll.word" (defScope (mem 28 4)) f cd A outer s H E) (defBody (mem 28 4)) (tSt M cl E (S_Roll_word)) := by
  have hN : (["self", "frame"] : List Str).Nodup := by decide
  have o_word_of_frame := (o_word_of_frame F cl).mono (show 8 ≤ 8 by decide)
  have o_Roll_put := (o_Roll_put F cl).mono (show 2 ≤ 8 by decide)
  exact (psc_cons (psc_if (ptc_cmp (ots_nin B.good) (pec_var (i := 1) rfl (.inl rfl) rfl rfl) (pec_attr (pec_var (i := 0) rfl (.inl rfl) rfl rfl) F.a21.sc_Roll F.a22.sl_own_words) rfl) (psc_one (psc_expr (pec_meth (n := i_Roll_put) (pec_var (i := 0) rfl (.inl rfl) rfl rfl) F.a21.sc_Roll F.a19.m_Roll_put o_Roll_put B.room B.pass (pac_cons (pec_var (i := 1) rfl (.inl rfl) rfl rfl) (pac_cons (pec_call (n := i_word_of_frame) o_word_of_frame B.room rfl F.a13.g_word_of_frame F.a18.k_word_of_frame B.pass (pac_cons (pec_attr (pec_var (i := 0) rfl (.inl rfl) rfl rfl) F.a21.sc_Roll F.a22.sl_own_system) (pac_cons (pec_var (i := 1) rfl (.inl rfl) rfl rfl) pac_nil))) pac_nil))))) psc_nil) (psc_one (psc_ret (pec_ix B.good (pec_attr (pec_var (i := 0) rfl (.inl rfl) rfl rfl) F.a21.sc_Roll F.a22.sl_own_words) (pec_var (i := 1) rfl (.inl rfl) rfl rfl) (fun _ _ => rfl)))))
theorem o_Roll_word {M : Mo} {mg : Str → Option Value} {base : Heap} (F : Fc M mg base) (cl : Cl) : FnR M.P M.w M.K mg base (L2.CX M.P M.w) (8 + 1) (M.g i_Roll_word) (spF M (C_Roll_word cl)) := by
  obtain ⟨fd, D⟩ := F.a1.d_Roll_word
  obtain ⟨oc, od, dV, kV, doc, pm, an, cdv, ct, osl, rfl, lk, hcd, hdv, _⟩ := D.ex
  have e0 : dV = Value.none := hdv.elim (fun h => h.2) fun h => absurd rfl h.1
  subst e0
  exact fn_code ⟨rfl, rfl, rfl⟩ lk hcd sc_Roll_word rfl (Binds.all fun us h => match us, h with | [_, _], _ => rfl) fun A outer s H E B => b_Roll_word F cl B
end K73
end
end

section
set_option maxRecDepth 100000
set_option maxHeartbeats 4000000
noncomputable section
namespace K73
open PySem PySem.Spec L2 Eng
open PyProof.Rows hiding St

theorem sc_Roll_behind : FnScope ["self", "word", "letter"] ["self", "word", "letter"] (defScope (mem 28 6)) := ⟨rfl, rfl, rfl, by decide +kernel, rfl, by decide +kernel, by decide +kernel⟩
theorem b_Roll_behind {M : Mo} {mg : Str → Option Value} {base : Heap} (F : Fc M mg base) (cl : Cl) {A : Around} {outer : List Env} {s : Shared} {H : Hp} {E : XK} {f : Addr} {cd : Value} (B : Body (cxOf (L2.CX M.P M.w) M.P M.w M.K mg base ["self", "word", "letter"] "Roll.behind" (defScope (mem 28 6)) f cd A outer s H E) M E 9) : PSs (cxOf (L2.CX M.P M.w) M.P M.w M.K mg base ["self", "word", "letter"] "Roll.behind" (defScope (mem 28 6)) f cd A outer s H E) (defBody (mem 28 6)) (tSt M cl E (S_Roll_behind)) := by
  have hN : (["self", "word", "letter"] : List Str).Nodup := by decide
  have o_Roll_frame := (o_Roll_frame F cl).mono (show 5 ≤ 9 by decide)
  have o_frame_behind := (o_frame_behind F cl).mono (show 3 ≤ 9 by decide)
  have o_Roll_word := (o_Roll_word F cl).mono (show 9 ≤ 9 by decide)
  exact (psc_one (psc_ret (pec_meth (n := i_Roll_word) (pec_var (i := 0) rfl (.inl rfl) rfl rfl) F.a21.sc_Roll F.a19.m_Roll_word o_Roll_word B.room B.pass (pac_cons (pec_call (n := i_frame_behind) o_frame_behind B.room rfl F.a10.g_frame_behind F.a15.k_frame_behind B.pass (pac_cons (pec_attr (pec_var (i := 0) rfl (.inl rfl) rfl rfl) F.a21.sc_Roll F.a22.sl_own_system) (pac_cons (pec_meth (n := i_Roll_frame) (pec_var (i := 0) rfl (.inl rfl) rfl rfl) F.a21.sc_Roll F.a19.m_Roll_frame o_Roll_frame B.room B.pass (pac_cons (pec_var (i := 1) rfl (.inl rfl) rfl rfl) pac_nil)) (pac_cons (pec_var (i := 2) rfl (.inl rfl) rfl rfl) pac_nil)))) pac_nil))))
theorem o_Roll_behind {M : Mo} {mg : Str → Option Value} {base : Heap} (F : Fc M mg base) (cl : Cl) : FnR M.P M.w M.K mg base (L2.CX M.P M.w) (9 + 1) (M.g i_Roll_behind) (spF M (C_Roll_behind cl)) := by
  obtain ⟨fd, D⟩ := F.a1.d_Roll_behind
  obtain ⟨oc, od, dV, kV, doc, pm, an, cdv, ct, osl, rfl, lk, hcd, hdv, _⟩ := D.ex
  have e0 : dV = Value.none := hdv.elim (fun h => h.2) fun h => absurd rfl h.1
  subst e0
  exact fn_code ⟨rfl, rfl, rfl⟩ lk hcd sc_Roll_behind rfl (Binds.all fun us h => match us, h with | [_, _, _], _ => rfl) fun A outer s H E B => b_Roll_behind F cl B
theorem sc_under_in : FnScope ["roll", "word", "found", "letter", "size", "one"] ["roll", "word"] (defScope (top 52)) := ⟨rfl, rfl, rfl, by decide +kernel, rfl, by decide +kernel, by decide +kernel⟩
theorem b_under_in {M : Mo} {mg : Str → Option Value} {base : Heap} (F : Fc M mg base) (cl : Cl) {A : Around} {outer : List Env} {s : Shared} {H : Hp} {E : XK} {f : Addr} {cd : Value} (B : Body (cxOf (L2.CX M.P M.w) M.P M.w M.K mg base ["roll", "word", "found", "letter", "size", "one"] "under_in" (defScope (top 52)) f cd A outer s H E) M E 10) : PSs (cxOf (L2.CX M.P M.w) M.P M.w M.K mg base ["roll", "word", "found", "letter", "size", "one"] "under_in" (defScope (top 52)) f cd A outer s H E) (defBody (top 52)) (tSt M cl E (S_under_in)) := by
  have hN : (["roll", "word", "found", "letter", "size", "one"] : List Str).Nodup := by decide
  have o_Roll_behind := (o_Roll_behind F cl).mono (show 10 ≤ 10 by decide)
  exact (psc_cons (psc_set (i := 2) hN rfl (.inl rfl) (pec_dict1 B.good (pec_tup pac_nil) (pec_con pe_bl fun _ _ => rfl))) (psc_cons (psc_for B.good B.own (pic_seq B.good (pec_var (i := 1) rfl (.inl rfl) rfl rfl)) (pgc_name (i := 3) hN rfl (.inr rfl)) (psc_cons (psc_expr (pec_mtD B.good.toFits PySem.F.slot_dict_update PySem.F.type_dict_update (mtd_update B.good) (pec_var (i := 2) rfl (.inl rfl) rfl rfl) (pac_cons (pec_dc (own := [("one", 5)]) B.good hN (pic_seq B.good (pec_ty (cf_listD B.good) rfl F.a20.n_list bo_list (pac_cons (pec_var (i := 2) rfl (.inl rfl) rfl rfl) pac_nil))) (blkOk_by rfl) (fun _ _ _ _ _ => (pgw_name (i := 5) hN rfl (.inl rfl) (by decide))) (fun _ _ _ _ _ => ptsc_nil) (fun _ _ _ _ _ => (pec_meth (n := i_Roll_behind) (pec_var (i := 0) rfl (.inr (.inl rfl)) rfl rfl) F.a21.sc_Roll F.a19.m_Roll_behind o_Roll_behind B.room noPass (pac_cons (pec_var (i := 5) rfl (.inl rfl) rfl rfl) (pac_cons (pec_var (i := 3) rfl (.inr (.inl rfl)) rfl rfl) pac_nil)))) (fun _ _ _ _ _ => (pec_con pe_bl fun _ _ => rfl))) pac_nil))) (psc_one (psc_if (ptc_cmp ot_gt (pec_fn (cf_lenD B.good) rfl F.a20.n_len bo_len (pac_cons (pec_var (i := 2) rfl (.inl rfl) rfl rfl) pac_nil)) (pec_gint rfl F.a0.c_MAX_UNDER) (nomark _)) (psc_one (psc_raiseV B.good B.takes F.a7.fl_TooMany PySem.F.store_OverflowError PySem.F.excBase_OverflowError PySem.W.kxs_OverflowError F.a22.su_TooMany F.a21.n_super F.a8.g_TooMany F.a14.k_TooMany F.a22.ti_TooMany (raises_own F.a6.es_TooMany F.a7.et_TooMany) rfl B.room (pec_gint rfl F.a0.c_MAX_UNDER))) psc_nil)))) (psc_one (psc_ret (pec_lc (own := [("size", 4), ("one", 5)]) B.good hN (pic_seq B.good (pec_fn (cf_srtP B.good) rfl F.a20.n_sorted bo_sorted (pac_cons (pec_lc (own := [("one", 5)]) B.good hN (pic_keys B.good.toFits (pec_var (i := 2) rfl (.inl rfl) rfl rfl)) (blkOk_by rfl) (fun _ _ _ _ _ => (pgw_name (i := 5) hN rfl (.inl rfl) (by decide))) (fun _ _ _ _ _ => ptsc_nil) (fun _ _ _ _ _ => (pec_tup (pac_cons (pec_fn (cf_len B.good.blk.toFits) rfl F.a20.n_len bo_len (pac_cons (pec_var (i := 5) rfl (.inl rfl) rfl rfl) pac_nil)) (pac_cons (pec_var (i := 5) rfl (.inl rfl) rfl rfl) pac_nil))))) pac_nil))) (blkOk_by rfl) (fun _ _ _ _ _ => (pgw_tup B.good.blk.calm B.good.blk.toFits (pgsw_cons (pgw_name (i := 4) hN rfl (.inl rfl) (by decide)) (pgsw_cons (pgw_name (i := 5) hN rfl (.inl rfl) (by decide)) pgsw_nil)))) (fun _ _ _ _ _ => ptsc_nil) (fun _ _ _ _ _ => (pec_var (i := 5) rfl (.inl rfl) rfl rfl)))))))
theorem o_under_in {M : Mo} {mg : Str → Option Value} {base : Heap} (F : Fc M mg base) (cl : Cl) : FnR M.P M.w M.K mg base (L2.CX M.P M.w) (10 + 1) (M.g i_under_in) (spF M (C_under_in cl)) := by
  obtain ⟨fd, D⟩ := F.a5.d_under_in
  obtain ⟨oc, od, dV, kV, doc, pm, an, cdv, ct, osl, rfl, lk, hcd, hdv, _⟩ := D.ex
  have e0 : dV = Value.none := hdv.elim (fun h => h.2) fun h => absurd rfl h.1
  subst e0
  exact fn_code ⟨rfl, rfl, rfl⟩ lk hcd sc_under_in rfl (Binds.all fun us h => match us, h with | [_, _], _ => rfl) fun A outer s H E B => b_under_in F cl B
theorem sc_members_under_in : FnScope ["system", "word"] ["system", "word"] (defScope (top 53)) := ⟨rfl, rfl, rfl, by decide +kernel, rfl, by decide +kernel, by decide +kernel⟩
theorem b_members_under_in {M : Mo} {mg : Str → Option Value} {base : Heap} (F : Fc M mg base) (cl : Cl) {A : Around} {outer : List Env} {s : Shared} {H : Hp} {E : XK} {f : Addr} {cd : Value} (B : Body (cxOf (L2.CX M.P M.w) M.P M.w M.K mg base ["system", "word"] "members_under_in" (defScope (top 53)) f cd A outer s H E) M E 11) : PSs (cxOf (L2.CX M.P M.w) M.P M.w M.K mg base ["system", "word"] "members_under_in" (defScope (top 53)) f cd A outer s H E) (defBody (top 53)) (tSt M cl E (S_members_under_in)) := by
  have hN : (["system", "word"] : List Str).Nodup := by decide
  have o_normal_in := (o_normal_in F cl).mono (show 9 ≤ 11 by decide)
  have o_Roll___init__ := (o_Roll___init__ F cl).mono (show 2 ≤ 10 by decide)
  have o_under_in := (o_under_in F cl).mono (show 11 ≤ 11 by decide)
  exact (psc_one (psc_ret (pec_call (n := i_under_in) o_under_in B.room rfl F.a13.g_under_in F.a18.k_under_in B.pass (pac_cons (pec_make (nf := i_Roll___init__) F.a19.mk_Roll und_Roll_ok o_Roll___init__ B.room rfl F.a8.g_Roll B.pass (pac_cons (pec_var (i := 0) rfl (.inl rfl) rfl rfl) pac_nil)) (pac_cons (pec_call (n := i_normal_in) o_normal_in B.room rfl F.a12.g_normal_in F.a17.k_normal_in B.pass (pac_cons (pec_var (i := 0) rfl (.inl rfl) rfl rfl) (pac_cons (pec_var (i := 1) rfl (.inl rfl) rfl rfl) pac_nil))) pac_nil)))))
theorem o_members_under_in {M : Mo} {mg : Str → Option Value} {base : Heap} (F : Fc M mg base) (cl : Cl) : FnR M.P M.w M.K mg base (L2.CX M.P M.w) (11 + 1) (M.g i_members_under_in) (spF M (C_members_under_in cl)) := by
  obtain ⟨fd, D⟩ := F.a4.d_members_under_in
  obtain ⟨oc, od, dV, kV, doc, pm, an, cdv, ct, osl, rfl, lk, hcd, hdv, _⟩ := D.ex
  have e0 : dV = Value.none := hdv.elim (fun h => h.2) fun h => absurd rfl h.1
  subst e0
  exact fn_code ⟨rfl, rfl, rfl⟩ lk hcd sc_members_under_in rfl (Binds.all fun us h => match us, h with | [_, _], _ => rfl) fun A outer s H E B => b_members_under_in F cl B
theorem sc_numbers_of : FnScope ["lot", "found", "member"] ["lot"] (defScope (top 74)) := ⟨rfl, rfl, rfl, by decide +kernel, rfl, by decide +kernel, by decide +kernel⟩
theorem b_numbers_of {M : Mo} {mg : Str → Option Value} {base : Heap} (F : Fc M mg base) (cl : Cl) {A : Around} {outer : List Env} {s : Shared} {H : Hp} {E : XK} {f : Addr} {cd : Value} (B : Body (cxOf (L2.CX M.P M.w) M.P M.w M.K mg base ["lot", "found", "member"] "numbers_of" (defScope (top 74)) f cd A outer s H E) M E 1) : PSs (cxOf (L2.CX M.P M.w) M.P M.w M.K mg base ["lot", "found", "member"] "numbers_of" (defScope (top 74)) f cd A outer s H E) (defBody (top 74)) (tSt M cl E (S_numbers_of)) := by
  have hN : (["lot", "found", "member"] : List Str).Nodup := by decide
  exact (psc_cons (psc_set (i := 1) hN rfl (.inl rfl) (pec_bin (opb_mulS B.good.K) (pec_lst (pac_cons (pec_con pe_int fun _ _ => rfl) pac_nil)) (pec_bin (opb_addS B.good) (pec_fn (cf_len B.good.toFits) rfl F.a20.n_len bo_len (pac_cons (pec_ix B.good (pec_var (i := 0) rfl (.inl rfl) rfl rfl) (pec_neg (pec_con pe_int fun _ _ => rfl)) (fun _ _ => rfl)) pac_nil)) (pec_con pe_int fun _ _ => rfl)))) (psc_cons (psc_for B.good B.own (pic_seq B.good (pec_var (i := 0) rfl (.inl rfl) rfl rfl)) (pgc_name (i := 2) hN rfl (.inl rfl)) (psc_one (psc_augS B.good (pec_var (i := 1) rfl (.inl rfl) rfl rfl) (pec_fn (cf_len B.good.toFits) rfl F.a20.n_len bo_len (pac_cons (pec_var (i := 2) rfl (.inl rfl) rfl rfl) pac_nil)) (pec_con pe_int fun _ _ => rfl) iob_add))) (psc_one (psc_ret (pec_var (i := 1) rfl (.inl rfl) rfl rfl)))))
theorem o_numbers_of {M : Mo} {mg : Str → Option Value} {base : Heap} (F : Fc M mg base) (cl : Cl) : FnR M.P M.w M.K mg base (L2.CX M.P M.w) (1 + 1) (M.g i_numbers_of) (spF M (C_numbers_of cl)) := by
  obtain ⟨fd, D⟩ := F.a5.d_numbers_of
  obtain ⟨oc, od, dV, kV, doc, pm, an, cdv, ct, osl, rfl, lk, hcd, hdv, _⟩ := D.ex
  have e0 : dV = Value.none := hdv.elim (fun h => h.2) fun h => absurd rfl h.1
  subst e0
  exact fn_code ⟨rfl, rfl, rfl⟩ lk hcd sc_numbers_of rfl (Binds.all fun us h => match us, h with | [_], _ => rfl) fun A outer s H E B => b_numbers_of F cl B
theorem sc_is_smooth_lot : FnScope ["lot", "numbers"] ["lot"] (defScope (top 75)) := ⟨rfl, rfl, rfl, by decide +kernel, rfl, by decide +kernel, by decide +kernel⟩
theorem b_is_smooth_lot {M : Mo} {mg : Str → Option Value} {base : Heap} (F : Fc M mg base) (cl : Cl) {A : Around} {outer : List Env} {s : Shared} {H : Hp} {E : XK} {f : Addr} {cd : Value} (B : Body (cxOf (L2.CX M.P M.w) M.P M.w M.K mg base ["lot", "numbers"] "is_smooth_lot" (defScope (top 75)) f cd A outer s H E) M E 2) : PSs (cxOf (L2.CX M.P M.w) M.P M.w M.K mg base ["lot", "numbers"] "is_smooth_lot" (defScope (top 75)) f cd A outer s H E) (defBody (top 75)) (tSt M cl E (S_is_smooth_lot)) := by
  have hN : (["lot", "numbers"] : List Str).Nodup := by decide
  have o_numbers_of := (o_numbers_of F cl).mono (show 2 ≤ 2 by decide)
  exact (psc_cons (psc_set (i := 1) hN rfl (.inl rfl) (pec_call (n := i_numbers_of) o_numbers_of B.room rfl F.a12.g_numbers_of F.a17.k_numbers_of B.pass (pac_cons (pec_var (i := 0) rfl (.inl rfl) rfl rfl) pac_nil))) (psc_one (psc_ret (pec_cmp (ot_eqG B.good) (pec_var (i := 1) rfl (.inl rfl) rfl rfl) (pec_rev B.good (pec_var (i := 1) rfl (.inl rfl) rfl rfl)) (nomark _)))))
theorem o_is_smooth_lot {M : Mo} {mg : Str → Option Value} {base : Heap} (F : Fc M mg base) (cl : Cl) : FnR M.P M.w M.K mg base (L2.CX M.P M.w) (2 + 1) (M.g i_is_smooth_lot) (spF M (C_is_smooth_lot cl)) := by
  obtain ⟨fd, D⟩ := F.a3.d_is_smooth_lot
  obtain ⟨oc, od, dV, kV, doc, pm, an, cdv, ct, osl, rfl, lk, hcd, hdv, _⟩ := D.ex
  have e0 : dV = Value.none := hdv.elim (fun h => h.2) fun h => absurd rfl h.1
  subst e0
  exact fn_code ⟨rfl, rfl, rfl⟩ lk hcd sc_is_smooth_lot rfl (Binds.all fun us h => match us, h with | [_], _ => rfl) fun A outer s H E B => b_is_smooth_lot F cl B
theorem sc_smooth_paper : FnScope ["system", "word", "lot", "found", "member", "one"] ["system", "word"] (defScope (top 85)) := ⟨rfl, rfl, rfl, by decide +kernel, rfl, by decide +kernel, by decide +kernel⟩
theorem b_smooth_paper {M : Mo} {mg : Str → Option Value} {base : Heap} (F : Fc M mg base) (cl : Cl) {A : Around} {outer : List Env} {s : Shared} {H : Hp} {E : XK} {f : Addr} {cd : Value} {c P : Addr} (TB : LamX.TabB base mg c P) (hcode : cd = .ref c) (hmT : (P, ("smooth_paper.<locals>.<genexpr>" : Str)) ∈ M.tabs) (hu : ∀ p ∈ M.tabs, p.1 = P → p.2 = ("smooth_paper.<locals>.<genexpr>" : Str)) (B : Body (cxOf (L2.CX M.P M.w) M.P M.w M.K mg base ["system", "word", "lot", "found", "member", "one"] "smooth_paper" (defScope (top 85)) f cd A outer s H E) M E 15) : PSs (cxOf (L2.CX M.P M.w) M.P M.w M.K mg base ["system", "word", "lot", "found", "member", "one"] "smooth_paper" (defScope (top 85)) f cd A outer s H E) (defBody (top 85)) (tSt M cl E (S_smooth_paper)) := by
  have hN : (["system", "word", "lot", "found", "member", "one"] : List Str).Nodup := by decide
  have ol_require_system_and_word := (o_require_system_and_word F cl).mono (show 6 ≤ 14 by decide)
  have o_require_system_and_word := (o_require_system_and_word F cl).mono (show 6 ≤ 15 by decide)
  have ol_members_under_in := (o_members_under_in F cl).mono (show 12 ≤ 14 by decide)
  have o_members_under_in := (o_members_under_in F cl).mono (show 12 ≤ 15 by decide)
  have ol_is_smooth_lot := (o_is_smooth_lot F cl).mono (show 3 ≤ 14 by decide)
  have o_is_smooth_lot := (o_is_smooth_lot F cl).mono (show 3 ≤ 15 by decide)
  have ol_numbers_of := (o_numbers_of F cl).mono (show 2 ≤ 14 by decide)
  have o_numbers_of := (o_numbers_of F cl).mono (show 2 ≤ 15 by decide)
  exact (psc_cons (psc_expr (pec_call (n := i_require_system_and_word) o_require_system_and_word B.room rfl F.a12.g_require_system_and_word F.a18.k_require_system_and_word B.pass (pac_cons (pec_var (i := 0) rfl (.inl rfl) rfl rfl) (pac_cons (pec_var (i := 1) rfl (.inl rfl) rfl rfl) pac_nil)))) (psc_cons (psc_set (i := 2) hN rfl (.inr rfl) (pec_call (n := i_members_under_in) o_members_under_in B.room rfl F.a11.g_members_under_in F.a17.k_members_under_in B.pass (pac_cons (pec_var (i := 0) rfl (.inl rfl) rfl rfl) (pac_cons (pec_var (i := 1) rfl (.inl rfl) rfl rfl) pac_nil)))) (psc_cons (psc_if (ptc_val (pec_call (n := i_is_smooth_lot) o_is_smooth_lot B.room rfl F.a10.g_is_smooth_lot F.a16.k_is_smooth_lot B.pass (pac_cons (pec_var (i := 2) rfl (.inr (.inl rfl)) rfl rfl) pac_nil))) (psc_one (psc_ret (pec_tup (pac_cons (pec_gstr rfl F.a0.c_SMOOTH) (pac_cons (pec_ty (cf_tuple B.good.toFits) rfl F.a21.n_tuple bo_tuple (pac_cons (pec_call (n := i_numbers_of) o_numbers_of B.room rfl F.a12.g_numbers_of F.a17.k_numbers_of B.pass (pac_cons (pec_var (i := 2) rfl (.inr (.inl rfl)) rfl rfl) pac_nil)) pac_nil)) pac_nil))))) psc_nil) (psc_cons (psc_set (i := 3) hN rfl (.inr rfl) (pec_call (n := i_mirror_numbers) fnr_cut B.room rfl F.a12.g_mirror_numbers F.a17.k_mirror_numbers B.pass (pac_cons (pec_var (i := 0) rfl (.inl rfl) rfl rfl) (pac_cons (pec_var (i := 2) rfl (.inr (.inl rfl)) rfl rfl) pac_nil)))) (psc_cons (psc_set (i := 4) hN rfl (.inl rfl) (pec_nextG (vs := [5]) hmT hu B.room rfl F.a20.n_next TB hcode (genS_by rfl) (pic_seq B.good (pec_var (i := 2) rfl (.inr (.inl rfl)) rfl rfl)) (fun _ _ _ _ _ hr => (pgw_name (i := 5) hN rfl (.inl rfl) (by decide))) (fun _ _ _ _ _ hr => (ptsc_one (ptc_cmp ot_gt (pec_ix (goodG B.good hr) (pec_var (i := 3) rfl (.inr (.inr rfl)) rfl rfl) (pec_var (i := 5) rfl (.inl rfl) rfl rfl) (fun _ _ => rfl)) (pec_fn (cf_len (goodG B.good hr).toFits) rfl F.a20.n_len bo_len (pac_cons (pec_ix (goodG B.good hr) (pec_var (i := 2) rfl (.inr (.inr rfl)) rfl rfl) (pec_neg (pec_con pe_int fun _ _ => rfl)) (fun _ _ => rfl)) pac_nil)) (nomark _)))) (fun _ _ _ _ _ hr => (pec_var (i := 5) rfl (.inl rfl) rfl rfl)))) (psc_one (psc_ret (pec_tup (pac_cons (pec_gstr rfl F.a0.c_MIRRORS) (pac_cons (pec_var (i := 4) rfl (.inl rfl) rfl rfl) (pac_cons (pec_ix B.good (pec_var (i := 3) rfl (.inr (.inl rfl)) rfl rfl) (pec_var (i := 4) rfl (.inl rfl) rfl rfl) (fun _ _ => rfl)) pac_nil)))))))))))
theorem o_smooth_paper {M : Mo} {mg : Str → Option Value} {base : Heap} (F : Fc M mg base) (cl : Cl) : FnR M.P M.w M.K mg base (L2.CX M.P M.w) (15 + 1) (M.g i_smooth_paper) (spF M (C_smooth_paper cl)) := by
  obtain ⟨fd, D⟩ := F.a5.d_smooth_paper
  obtain ⟨c, P, hcode, TB, hmT, hu⟩ := F.a22.tb_smooth_paper fd D
  obtain ⟨oc, od, dV, kV, doc, pm, an, cdv, ct, osl, rfl, lk, hcd, hdv, _⟩ := D.ex
  have e0 : dV = Value.none := hdv.elim (fun h => h.2) fun h => absurd rfl h.1
  subst e0
  exact fn_code ⟨rfl, rfl, rfl⟩ lk hcd sc_smooth_paper rfl (Binds.all fun us h => match us, h with | [_, _], _ => rfl) fun A outer s H E B => b_smooth_paper F cl TB hcode hmT hu B
end K73
end
end

section
set_option maxRecDepth 100000
set_option maxHeartbeats 4000000
noncomputable section
namespace K73
open PySem PySem.Spec L2 Eng
open PyProof.Rows hiding St

theorem sc_Roll_ahead : FnScope ["self", "letter", "word"] ["self", "letter", "word"] (defScope (mem 28 5)) := ⟨rfl, rfl, rfl, by decide +kernel, rfl, by decide +kernel, by decide +kernel⟩
theorem b_Roll_ahead {M : Mo} {mg : Str → Option Value} {base : Heap} (F : Fc M mg base) (cl : Cl) {A : Around} {outer : List Env} {s : Shared} {H : Hp} {E : XK} {f : Addr} {cd : Value} (B : Body (cxOf (L2.CX M.P M.w) M.P M.w M.K mg base ["self", "letter", "word"] "Roll.ahead" (defScope (mem 28 5)) f cd A outer s H E) M E 9) : PSs (cxOf (L2.CX M.P M.w) M.P M.w M.K mg base ["self", "letter", "word"] "Roll.ahead" (defScope (mem 28 5)) f cd A outer s H E) (defBody (mem 28 5)) (tSt M cl E (S_Roll_ahead)) := by
  have hN : (["self", "letter", "word"] : List Str).Nodup := by decide
  have o_Roll_frame := (o_Roll_frame F cl).mono (show 5 ≤ 9 by decide)
  have o_frame_ahead := (o_frame_ahead F cl).mono (show 3 ≤ 9 by decide)
  have o_Roll_word := (o_Roll_word F cl).mono (show 9 ≤ 9 by decide)
  exact (psc_one (psc_ret (pec_meth (n := i_Roll_word) (pec_var (i := 0) rfl (.inl rfl) rfl rfl) F.a21.sc_Roll F.a19.m_Roll_word o_Roll_word B.room B.pass (pac_cons (pec_call (n := i_frame_ahead) o_frame_ahead B.room rfl F.a10.g_frame_ahead F.a15.k_frame_ahead B.pass (pac_cons (pec_attr (pec_var (i := 0) rfl (.inl rfl) rfl rfl) F.a21.sc_Roll F.a22.sl_own_system) (pac_cons (pec_meth (n := i_Roll_frame) (pec_var (i := 0) rfl (.inl rfl) rfl rfl) F.a21.sc_Roll F.a19.m_Roll_frame o_Roll_frame B.room B.pass (pac_cons (pec_var (i := 2) rfl (.inl rfl) rfl rfl) pac_nil)) (pac_cons (pec_var (i := 1) rfl (.inl rfl) rfl rfl) pac_nil)))) pac_nil))))
theorem o_Roll_ahead {M : Mo} {mg : Str → Option Value} {base : Heap} (F : Fc M mg base) (cl : Cl) : FnR M.P M.w M.K mg base (L2.CX M.P M.w) (9 + 1) (M.g i_Roll_ahead) (spF M (C_Roll_ahead cl)) := by
  obtain ⟨fd, D⟩ := F.a1.d_Roll_ahead
  obtain ⟨oc, od, dV, kV, doc, pm, an, cdv, ct, osl, rfl, lk, hcd, hdv, _⟩ := D.ex
  have e0 : dV = Value.none := hdv.elim (fun h => h.2) fun h => absurd rfl h.1
  subst e0
  exact fn_code ⟨rfl, rfl, rfl⟩ lk hcd sc_Roll_ahead rfl (Binds.all fun us h => match us, h with | [_, _, _], _ => rfl) fun A outer s H E B => b_Roll_ahead F cl B
theorem sc_added_numbers : FnScope ["one", "other", "factor", "by", "moved", "size", "found", "left", "right", "first", "second"] ["one", "other", "factor", "by"] (defScope (top 55)) := ⟨rfl, rfl, rfl, by decide +kernel, rfl, by decide +kernel, by decide +kernel⟩
theorem b_added_numbers {M : Mo} {mg : Str → Option Value} {base : Heap} (F : Fc M mg base) (cl : Cl) {A : Around} {outer : List Env} {s : Shared} {H : Hp} {E : XK} {f : Addr} {cd : Value} (B : Body (cxOf (L2.CX M.P M.w) M.P M.w M.K mg base ["one", "other", "factor", "by", "moved", "size", "found", "left", "right", "first", "second"] "added_numbers" (defScope (top 55)) f cd A outer s H E) M E 1) : PSs (cxOf (L2.CX M.P M.w) M.P M.w M.K mg base ["one", "other", "factor", "by", "moved", "size", "found", "left", "right", "first", "second"] "added_numbers" (defScope (top 55)) f cd A outer s H E) (defBody (top 55)) (tSt M cl E (S_added_numbers)) := by
  have hN : (["one", "other", "factor", "by", "moved", "size", "found", "left", "right", "first", "second"] : List Str).Nodup := by decide
  exact (psc_cons (psc_set (i := 4) hN rfl (.inl rfl) (pec_lst (pac_star B.good.toFits (pec_bin (opb_mulS B.good.K) (pec_lst (pac_cons (pec_con pe_int fun _ _ => rfl) pac_nil)) (pec_var (i := 3) rfl (.inl rfl) rfl rfl)) (pac_star B.good.toFits (pec_var (i := 1) rfl (.inl rfl) rfl rfl) pac_nil)))) (psc_cons (psc_set (i := 5) hN rfl (.inl rfl) (pec_fn (cf_max2 B.good.calm) rfl F.a20.n_max bo_max (pac_cons (pec_fn (cf_len B.good.toFits) rfl F.a20.n_len bo_len (pac_cons (pec_var (i := 0) rfl (.inl rfl) rfl rfl) pac_nil)) (pac_cons (pec_fn (cf_len B.good.toFits) rfl F.a20.n_len bo_len (pac_cons (pec_var (i := 4) rfl (.inl rfl) rfl rfl) pac_nil)) pac_nil)))) (psc_cons (psc_par (i := 7) (j := 8) B.good hN rfl rfl (by decide) rfl rfl (pac_cons (pec_lst (pac_star B.good.toFits (pec_var (i := 0) rfl (.inl rfl) rfl rfl) (pac_star B.good.toFits (pec_bin (opb_mulS B.good.K) (pec_lst (pac_cons (pec_con pe_int fun _ _ => rfl) pac_nil)) (pec_bin ob_sub (pec_var (i := 5) rfl (.inl rfl) rfl rfl) (pec_fn (cf_len B.good.toFits) rfl F.a20.n_len bo_len (pac_cons (pec_var (i := 0) rfl (.inl rfl) rfl rfl) pac_nil)))) pac_nil))) (pac_cons (pec_lst (pac_star B.good.toFits (pec_var (i := 4) rfl (.inl rfl) rfl rfl) (pac_star B.good.toFits (pec_bin (opb_mulS B.good.K) (pec_lst (pac_cons (pec_con pe_int fun _ _ => rfl) pac_nil)) (pec_bin ob_sub (pec_var (i := 5) rfl (.inl rfl) rfl rfl) (pec_fn (cf_len B.good.toFits) rfl F.a20.n_len bo_len (pac_cons (pec_var (i := 4) rfl (.inl rfl) rfl rfl) pac_nil)))) pac_nil))) pac_nil)) rfl) (psc_cons (psc_setLc (own := [("first", 9), ("second", 10)]) B.good hN (i := 6) rfl rfl rfl (pic_zip B.good rfl F.a21.n_zip (pac_cons (pec_var (i := 7) rfl (.inl rfl) rfl rfl) (pac_cons (pec_var (i := 8) rfl (.inl rfl) rfl rfl) pac_nil))) (blkOk_by rfl) (fun _ _ _ _ _ => (pgw_tup B.good.blk.calm B.good.blk.toFits (pgsw_cons (pgw_name (i := 9) hN rfl (.inl rfl) (by decide)) (pgsw_cons (pgw_name (i := 10) hN rfl (.inl rfl) (by decide)) pgsw_nil)))) (fun _ _ _ _ _ => ptsc_nil) (fun _ _ _ _ _ => (pec_bin (opb_addS B.good.blk) (pec_var (i := 9) rfl (.inl rfl) rfl rfl) (pec_bin (opb_mulS B.good.blk.K) (pec_var (i := 2) rfl (.inr (.inl rfl)) rfl rfl) (pec_var (i := 10) rfl (.inl rfl) rfl rfl))))) (psc_cons (psc_while (fuel := 100000) B.own (ptc_of (pwc_and (ptc_cmp (ot_neG B.good) (pec_var (i := 6) rfl (.inl rfl) rfl rfl) (pec_lst pac_nil) (nomark _)) (pwc_one_and (ptc_cmp (ot_eqG B.good) (pec_ix B.good (pec_var (i := 6) rfl (.inl rfl) rfl rfl) (pec_neg (pec_con pe_int fun _ _ => rfl)) (fun _ _ => rfl)) (pec_con pe_int fun _ _ => rfl) (nomark _))))) (psc_one (psc_expr (pec_mtL0 PySem.F.plainAttrs_list PySem.F.slot_list_pop PySem.F.type_list_pop mtm_pop (pec_var (i := 6) rfl (.inl rfl) rfl rfl))))) (psc_one (psc_ret (pec_var (i := 6) rfl (.inl rfl) rfl rfl))))))))
theorem o_added_numbers {M : Mo} {mg : Str → Option Value} {base : Heap} (F : Fc M mg base) (cl : Cl) : FnR M.P M.w M.K mg base (L2.CX M.P M.w) (1 + 1) (M.g i_added_numbers) (spF M (C_added_numbers cl)) := by
  obtain ⟨fd, D⟩ := F.a2.d_added_numbers
  obtain ⟨oc, od, dV, kV, doc, pm, an, cdv, ct, osl, rfl, lk, hcd, hdv, _⟩ := D.ex
  have e0 : dV = Value.none := hdv.elim (fun h => h.2) fun h => absurd rfl h.1
  subst e0
  exact fn_code ⟨rfl, rfl, rfl⟩ lk hcd sc_added_numbers rfl (Binds.all fun us h => match us, h with | [_, _, _, _], _ => rfl) fun A outer s H E B => b_added_numbers F cl B
theorem sc_put_at : FnScope ["found", "word", "numbers", "factor", "by"] ["found", "word", "numbers", "factor", "by"] (defScope (top 56)) := ⟨rfl, rfl, rfl, by decide +kernel, rfl, by decide +kernel, by decide +kernel⟩
theorem b_put_at {M : Mo} {mg : Str → Option Value} {base : Heap} (F : Fc M mg base) (cl : Cl) {A : Around} {outer : List Env} {s : Shared} {H : Hp} {E : XK} {f : Addr} {cd : Value} (B : Body (cxOf (L2.CX M.P M.w) M.P M.w M.K mg base ["found", "word", "numbers", "factor", "by"] "put_at" (defScope (top 56)) f cd A outer s H E) M E 2) : PSs (cxOf (L2.CX M.P M.w) M.P M.w M.K mg base ["found", "word", "numbers", "factor", "by"] "put_at" (defScope (top 56)) f cd A outer s H E) (defBody (top 56)) (tSt M cl E (S_put_at)) := by
  have hN : (["found", "word", "numbers", "factor", "by"] : List Str).Nodup := by decide
  have o_added_numbers := (o_added_numbers F cl).mono (show 2 ≤ 2 by decide)
  exact (psc_one (psc_asg (pec_call (n := i_added_numbers) o_added_numbers B.room rfl F.a9.g_added_numbers F.a14.k_added_numbers B.pass (pac_cons (pec_mtD B.good.toFits PySem.F.slot_dict_get PySem.F.type_dict_get (mtd_get2 B.good) (pec_var (i := 0) rfl (.inl rfl) rfl rfl) (pac_cons (pec_var (i := 1) rfl (.inl rfl) rfl rfl) (pac_cons (pec_tup pac_nil) pac_nil))) (pac_cons (pec_var (i := 2) rfl (.inl rfl) rfl rfl) (pac_cons (pec_var (i := 3) rfl (.inl rfl) rfl rfl) (pac_cons (pec_var (i := 4) rfl (.inl rfl) rfl rfl) pac_nil))))) (pgc_sub B.good (pec_var (i := 0) rfl (.inl rfl) rfl rfl) (pec_var (i := 1) rfl (.inl rfl) rfl rfl))))
theorem o_put_at {M : Mo} {mg : Str → Option Value} {base : Heap} (F : Fc M mg base) (cl : Cl) : FnR M.P M.w M.K mg base (L2.CX M.P M.w) (2 + 1) (M.g i_put_at) (spF M (C_put_at cl)) := by
  obtain ⟨fd, D⟩ := F.a5.d_put_at
  obtain ⟨oc, od, dV, kV, doc, pm, an, cdv, ct, osl, rfl, lk, hcd, hdv, _⟩ := D.ex
  have e0 : dV = Value.none := hdv.elim (fun h => h.2) fun h => absurd rfl h.1
  subst e0
  exact fn_code ⟨rfl, rfl, rfl⟩ lk hcd sc_put_at rfl (Binds.all fun us h => match us, h with | [_, _, _, _, _], _ => rfl) fun A outer s H E B => b_put_at F cl B
theorem sc_letter_sum : FnScope ["roll", "letter", "row", "found", "low", "numbers", "other", "by"] ["roll", "letter", "row"] (defScope (top 57)) := ⟨rfl, rfl, rfl, by decide +kernel, rfl, by decide +kernel, by decide +kernel⟩
theorem b_letter_sum {M : Mo} {mg : Str → Option Value} {base : Heap} (F : Fc M mg base) (cl : Cl) {A : Around} {outer : List Env} {s : Shared} {H : Hp} {E : XK} {f : Addr} {cd : Value} (B : Body (cxOf (L2.CX M.P M.w) M.P M.w M.K mg base ["roll", "letter", "row", "found", "low", "numbers", "other", "by"] "letter_sum" (defScope (top 57)) f cd A outer s H E) M E 10) : PSs (cxOf (L2.CX M.P M.w) M.P M.w M.K mg base ["roll", "letter", "row", "found", "low", "numbers", "other", "by"] "letter_sum" (defScope (top 57)) f cd A outer s H E) (defBody (top 57)) (tSt M cl E (S_letter_sum)) := by
  have hN : (["roll", "letter", "row", "found", "low", "numbers", "other", "by"] : List Str).Nodup := by decide
  have o_Roll_ahead := (o_Roll_ahead F cl).mono (show 10 ≤ 10 by decide)
  have o_put_at := (o_put_at F cl).mono (show 3 ≤ 10 by decide)
  exact (psc_cons (psc_set (i := 3) hN rfl (.inl rfl) (pec_dict0 B.good.toFits)) (psc_cons (psc_for B.good B.own (pic_items B.good.toFits (pec_var (i := 2) rfl (.inl rfl) rfl rfl)) (pgc_tup B.good (pgsc_cons (pgc_name (i := 4) hN rfl (.inl rfl)) (pgsc_cons (pgc_name (i := 5) hN rfl (.inl rfl)) pgsc_nil))) (psc_cons (psc_set (i := 6) hN rfl (.inl rfl) (pec_meth (n := i_Roll_ahead) (pec_var (i := 0) rfl (.inl rfl) rfl rfl) F.a21.sc_Roll F.a19.m_Roll_ahead o_Roll_ahead B.room B.pass (pac_cons (pec_var (i := 1) rfl (.inl rfl) rfl rfl) (pac_cons (pec_var (i := 4) rfl (.inl rfl) rfl rfl) pac_nil)))) (psc_cons (psc_set (i := 7) hN rfl (.inl rfl) (pec_ite (ptc_cmp ot_gt (pec_fn (cf_len B.good.toFits) rfl F.a20.n_len bo_len (pac_cons (pec_var (i := 6) rfl (.inl rfl) rfl rfl) pac_nil)) (pec_fn (cf_len B.good.toFits) rfl F.a20.n_len bo_len (pac_cons (pec_var (i := 4) rfl (.inl rfl) rfl rfl) pac_nil)) (nomark _)) (pec_con pe_int fun _ _ => rfl) (pec_con pe_int fun _ _ => rfl))) (psc_cons (psc_expr (pec_call (n := i_put_at) o_put_at B.room rfl F.a12.g_put_at F.a17.k_put_at B.pass (pac_cons (pec_var (i := 3) rfl (.inl rfl) rfl rfl) (pac_cons (pec_var (i := 6) rfl (.inl rfl) rfl rfl) (pac_cons (pec_var (i := 5) rfl (.inl rfl) rfl rfl) (pac_cons (pec_con pe_int fun _ _ => rfl) (pac_cons (pec_var (i := 7) rfl (.inl rfl) rfl rfl) pac_nil))))))) (psc_one (psc_expr (pec_call (n := i_put_at) o_put_at B.room rfl F.a12.g_put_at F.a17.k_put_at B.pass (pac_cons (pec_var (i := 3) rfl (.inl rfl) rfl rfl) (pac_cons (pec_var (i := 4) rfl (.inl rfl) rfl rfl) (pac_cons (pec_var (i := 5) rfl (.inl rfl) rfl rfl) (pac_cons (pec_con pe_int fun _ _ => rfl) (pac_cons (pec_var (i := 7) rfl (.inl rfl) rfl rfl) pac_nil)))))))))))) (psc_one (psc_ret (pec_var (i := 3) rfl (.inl rfl) rfl rfl)))))
theorem o_letter_sum {M : Mo} {mg : Str → Option Value} {base : Heap} (F : Fc M mg base) (cl : Cl) : FnR M.P M.w M.K mg base (L2.CX M.P M.w) (10 + 1) (M.g i_letter_sum) (spF M (C_letter_sum cl)) := by
  obtain ⟨fd, D⟩ := F.a4.d_letter_sum
  obtain ⟨oc, od, dV, kV, doc, pm, an, cdv, ct, osl, rfl, lk, hcd, hdv, _⟩ := D.ex
  have e0 : dV = Value.none := hdv.elim (fun h => h.2) fun h => absurd rfl h.1
  subst e0
  exact fn_code ⟨rfl, rfl, rfl⟩ lk hcd sc_letter_sum rfl (Binds.all fun us h => match us, h with | [_, _, _], _ => rfl) fun A outer s H E B => b_letter_sum F cl B
theorem sc_Roll_is_left : FnScope ["self", "letter", "word"] ["self", "letter", "word"] (defScope (mem 28 7)) := ⟨rfl, rfl, rfl, by decide +kernel, rfl, by decide +kernel, by decide +kernel⟩
theorem b_Roll_is_left {M : Mo} {mg : Str → Option Value} {base : Heap} (F : Fc M mg base) (cl : Cl) {A : Around} {outer : List Env} {s : Shared} {H : Hp} {E : XK} {f : Addr} {cd : Value} (B : Body (cxOf (L2.CX M.P M.w) M.P M.w M.K mg base ["self", "letter", "word"] "Roll.is_left" (defScope (mem 28 7)) f cd A outer s H E) M E 5) : PSs (cxOf (L2.CX M.P M.w) M.P M.w M.K mg base ["self", "letter", "word"] "Roll.is_left" (defScope (mem 28 7)) f cd A outer s H E) (defBody (mem 28 7)) (tSt M cl E (S_Roll_is_left)) := by
  have hN : (["self", "letter", "word"] : List Str).Nodup := by decide
  have o_Roll_frame := (o_Roll_frame F cl).mono (show 5 ≤ 5 by decide)
  have o_is_left := (o_is_left F cl).mono (show 3 ≤ 5 by decide)
  exact (psc_one (psc_ret (pec_call (n := i_is_left) o_is_left B.room rfl F.a10.g_is_left_frames F.a15.k_is_left B.pass (pac_cons (pec_attr (pec_var (i := 0) rfl (.inl rfl) rfl rfl) F.a21.sc_Roll F.a22.sl_own_system) (pac_cons (pec_meth (n := i_Roll_frame) (pec_var (i := 0) rfl (.inl rfl) rfl rfl) F.a21.sc_Roll F.a19.m_Roll_frame o_Roll_frame B.room B.pass (pac_cons (pec_var (i := 2) rfl (.inl rfl) rfl rfl) pac_nil)) (pac_cons (pec_var (i := 1) rfl (.inl rfl) rfl rfl) pac_nil))))))
theorem o_Roll_is_left {M : Mo} {mg : Str → Option Value} {base : Heap} (F : Fc M mg base) (cl : Cl) : FnR M.P M.w M.K mg base (L2.CX M.P M.w) (5 + 1) (M.g i_Roll_is_left) (spF M (C_Roll_is_left cl)) := by
  obtain ⟨fd, D⟩ := F.a1.d_Roll_is_left
  obtain ⟨oc, od, dV, kV, doc, pm, an, cdv, ct, osl, rfl, lk, hcd, hdv, _⟩ := D.ex
  have e0 : dV = Value.none := hdv.elim (fun h => h.2) fun h => absurd rfl h.1
  subst e0
  exact fn_code ⟨rfl, rfl, rfl⟩ lk hcd sc_Roll_is_left rfl (Binds.all fun us h => match us, h with | [_, _, _], _ => rfl) fun A outer s H E B => b_Roll_is_left F cl B
theorem sc_mu_of : FnScope ["row", "low", "high", "apart", "numbers"] ["row", "low", "high"] (defScope (top 58)) := ⟨rfl, rfl, rfl, by decide +kernel, rfl, by decide +kernel, by decide +kernel⟩
theorem b_mu_of {M : Mo} {mg : Str → Option Value} {base : Heap} (F : Fc M mg base) (cl : Cl) {A : Around} {outer : List Env} {s : Shared} {H : Hp} {E : XK} {f : Addr} {cd : Value} (B : Body (cxOf (L2.CX M.P M.w) M.P M.w M.K mg base ["row", "low", "high", "apart", "numbers"] "mu_of" (defScope (top 58)) f cd A outer s H E) M E 1) : PSs (cxOf (L2.CX M.P M.w) M.P M.w M.K mg base ["row", "low", "high", "apart", "numbers"] "mu_of" (defScope (top 58)) f cd A outer s H E) (defBody (top 58)) (tSt M cl E (S_mu_of)) := by
  have hN : (["row", "low", "high", "apart", "numbers"] : List Str).Nodup := by decide
  exact (psc_cons (psc_set (i := 3) hN rfl (.inl rfl) (pec_bin ob_sub (pec_fn (cf_len B.good.toFits) rfl F.a20.n_len bo_len (pac_cons (pec_var (i := 2) rfl (.inl rfl) rfl rfl) pac_nil)) (pec_fn (cf_len B.good.toFits) rfl F.a20.n_len bo_len (pac_cons (pec_var (i := 1) rfl (.inl rfl) rfl rfl) pac_nil)))) (psc_cons (psc_set (i := 4) hN rfl (.inl rfl) (pec_mtD B.good.toFits PySem.F.slot_dict_get PySem.F.type_dict_get (mtd_get2 B.good) (pec_var (i := 0) rfl (.inl rfl) rfl rfl) (pac_cons (pec_var (i := 1) rfl (.inl rfl) rfl rfl) (pac_cons (pec_tup pac_nil) pac_nil)))) (psc_one (psc_ret (pec_ite (ptc_of (pwc_and (ptc_cmp ot_gt (pec_var (i := 3) rfl (.inl rfl) rfl rfl) (pec_con pe_int fun _ _ => rfl) (nomark _)) (pwc_and (ptc_cmp (ot_eqG B.good) (pec_bin ob_mod (pec_var (i := 3) rfl (.inl rfl) rfl rfl) (pec_con pe_int fun _ _ => rfl)) (pec_con pe_int fun _ _ => rfl) (nomark _)) (pwc_one_and (ptc_cmp ot_gt (pec_fn (cf_len B.good.toFits) rfl F.a20.n_len bo_len (pac_cons (pec_var (i := 4) rfl (.inl rfl) rfl rfl) pac_nil)) (pec_bin ob_div (pec_var (i := 3) rfl (.inl rfl) rfl rfl) (pec_con pe_int fun _ _ => rfl)) (nomark _)))))) (pec_ix B.good (pec_var (i := 4) rfl (.inl rfl) rfl rfl) (pec_bin ob_div (pec_var (i := 3) rfl (.inl rfl) rfl rfl) (pec_con pe_int fun _ _ => rfl)) (fun _ _ => rfl)) (pec_con pe_int fun _ _ => rfl))))))
theorem o_mu_of {M : Mo} {mg : Str → Option Value} {base : Heap} (F : Fc M mg base) (cl : Cl) : FnR M.P M.w M.K mg base (L2.CX M.P M.w) (1 + 1) (M.g i_mu_of) (spF M (C_mu_of cl)) := by
  obtain ⟨fd, D⟩ := F.a4.d_mu_of
  obtain ⟨oc, od, dV, kV, doc, pm, an, cdv, ct, osl, rfl, lk, hcd, hdv, _⟩ := D.ex
  have e0 : dV = Value.none := hdv.elim (fun h => h.2) fun h => absurd rfl h.1
  subst e0
  exact fn_code ⟨rfl, rfl, rfl⟩ lk hcd sc_mu_of rfl (Binds.all fun us h => match us, h with | [_, _, _], _ => rfl) fun A outer s H E B => b_mu_of F cl B
end K73
end
end

section
set_option maxRecDepth 100000
set_option maxHeartbeats 4000000
noncomputable section
namespace K73
open PySem PySem.Spec L2 Eng
open PyProof.Rows hiding St

theorem sc_later_row : FnScope ["roll", "letter", "word", "kept", "row", "found", "low", "many", "other", "numbers"] ["roll", "letter", "word", "kept"] (defScope (top 59)) := ⟨rfl, rfl, rfl, by decide +kernel, rfl, by decide +kernel, by decide +kernel⟩
theorem b_later_row {M : Mo} {mg : Str → Option Value} {base : Heap} (F : Fc M mg base) (cl : Cl) {k : Nat} (hk : 30 ≤ k) (o_rec : FnR M.P M.w M.K mg base (L2.CX M.P M.w) k (M.g i_p_row_kept) (spF M (cl 0))) {A : Around} {outer : List Env} {s : Shared} {H : Hp} {E : XK} {f : Addr} {cd : Value} (B : Body (cxOf (L2.CX M.P M.w) M.P M.w M.K mg base ["roll", "letter", "word", "kept", "row", "found", "low", "many", "other", "numbers"] "later_row" (defScope (top 59)) f cd A outer s H E) M E k) : PSs (cxOf (L2.CX M.P M.w) M.P M.w M.K mg base ["roll", "letter", "word", "kept", "row", "found", "low", "many", "other", "numbers"] "later_row" (defScope (top 59)) f cd A outer s H E) (defBody (top 59)) (tSt M cl E (S_later_row)) := by
  have hN : (["roll", "letter", "word", "kept", "row", "found", "low", "many", "other", "numbers"] : List Str).Nodup := by decide
  have o_letter_sum := (o_letter_sum F cl).mono (show 11 ≤ k by omega)
  have o_Roll_is_left := (o_Roll_is_left F cl).mono (show 6 ≤ k by omega)
  have o_mu_of := (o_mu_of F cl).mono (show 2 ≤ k by omega)
  have o_p_row_kept := o_rec.mono (show k ≤ k by omega)
  have o_put_at := (o_put_at F cl).mono (show 3 ≤ k by omega)
  exact (psc_cons (psc_set (i := 4) hN rfl (.inl rfl) (pec_ix B.good (pec_var (i := 3) rfl (.inl rfl) rfl rfl) (pec_var (i := 2) rfl (.inl rfl) rfl rfl) (fun _ _ => rfl))) (psc_cons (psc_set (i := 5) hN rfl (.inl rfl) (pec_call (n := i_letter_sum) o_letter_sum B.room rfl F.a11.g_letter_sum F.a17.k_letter_sum B.pass (pac_cons (pec_var (i := 0) rfl (.inl rfl) rfl rfl) (pac_cons (pec_var (i := 1) rfl (.inl rfl) rfl rfl) (pac_cons (pec_var (i := 4) rfl (.inl rfl) rfl rfl) pac_nil))))) (psc_cons (psc_for B.good B.own (pic_keys B.good.toFits (pec_var (i := 4) rfl (.inl rfl) rfl rfl)) (pgc_name (i := 6) hN rfl (.inl rfl)) (psc_cons (psc_set (i := 7) hN rfl (.inl rfl) (pec_ite (ptc_val (pec_meth (n := i_Roll_is_left) (pec_var (i := 0) rfl (.inl rfl) rfl rfl) F.a21.sc_Roll F.a19.m_Roll_is_left o_Roll_is_left B.room B.pass (pac_cons (pec_var (i := 1) rfl (.inl rfl) rfl rfl) (pac_cons (pec_var (i := 6) rfl (.inl rfl) rfl rfl) pac_nil)))) (pec_call (n := i_mu_of) o_mu_of B.room rfl F.a12.g_mu_of F.a17.k_mu_of B.pass (pac_cons (pec_var (i := 4) rfl (.inl rfl) rfl rfl) (pac_cons (pec_var (i := 6) rfl (.inl rfl) rfl rfl) (pac_cons (pec_var (i := 2) rfl (.inl rfl) rfl rfl) pac_nil)))) (pec_con pe_int fun _ _ => rfl))) (psc_one (psc_if (ptc_cmp (ot_neG B.good) (pec_var (i := 7) rfl (.inl rfl) rfl rfl) (pec_con pe_int fun _ _ => rfl) (nomark _)) (psc_one (psc_for B.good B.own (pic_items B.good.toFits (pec_call (n := i_p_row_kept) o_p_row_kept B.room rfl F.a12.g_p_row_kept F.a17.k_p_row_kept B.pass (pac_cons (pec_var (i := 0) rfl (.inl rfl) rfl rfl) (pac_cons (pec_var (i := 6) rfl (.inl rfl) rfl rfl) (pac_cons (pec_var (i := 3) rfl (.inl rfl) rfl rfl) pac_nil))))) (pgc_tup B.good (pgsc_cons (pgc_name (i := 8) hN rfl (.inl rfl)) (pgsc_cons (pgc_name (i := 9) hN rfl (.inl rfl)) pgsc_nil))) (psc_one (psc_expr (pec_call (n := i_put_at) o_put_at B.room rfl F.a12.g_put_at F.a17.k_put_at B.pass (pac_cons (pec_var (i := 5) rfl (.inl rfl) rfl rfl) (pac_cons (pec_var (i := 8) rfl (.inl rfl) rfl rfl) (pac_cons (pec_var (i := 9) rfl (.inl rfl) rfl rfl) (pac_cons (pec_neg (pec_var (i := 7) rfl (.inl rfl) rfl rfl)) (pac_cons (pec_bin ob_div (pec_bin (opb_addS B.good) (pec_bin ob_sub (pec_fn (cf_len B.good.toFits) rfl F.a20.n_len bo_len (pac_cons (pec_var (i := 2) rfl (.inl rfl) rfl rfl) pac_nil)) (pec_fn (cf_len B.good.toFits) rfl F.a20.n_len bo_len (pac_cons (pec_var (i := 6) rfl (.inl rfl) rfl rfl) pac_nil))) (pec_con pe_int fun _ _ => rfl)) (pec_con pe_int fun _ _ => rfl)) pac_nil)))))))))) psc_nil)))) (psc_one (psc_ret (pec_dc (own := [("other", 8), ("numbers", 9)]) B.good hN (pic_items B.good.toFits (pec_var (i := 5) rfl (.inl rfl) rfl rfl)) (blkOk_by rfl) (fun _ _ _ _ _ => (pgw_tup B.good.blk.calm B.good.blk.toFits (pgsw_cons (pgw_name (i := 8) hN rfl (.inl rfl) (by decide)) (pgsw_cons (pgw_name (i := 9) hN rfl (.inl rfl) (by decide)) pgsw_nil)))) (fun _ _ _ _ _ => ptsc_nil) (fun _ _ _ _ _ => (pec_var (i := 8) rfl (.inl rfl) rfl rfl)) (fun _ _ _ _ _ => (pec_ty (cf_tuple B.good.blk.toFits) rfl F.a21.n_tuple bo_tuple (pac_cons (pec_var (i := 9) rfl (.inl rfl) rfl rfl) pac_nil)))))))))
theorem o_later_row {M : Mo} {mg : Str → Option Value} {base : Heap} (F : Fc M mg base) (cl : Cl) {k : Nat} (hk : 30 ≤ k) (o_rec : FnR M.P M.w M.K mg base (L2.CX M.P M.w) k (M.g i_p_row_kept) (spF M (cl 0))) : FnR M.P M.w M.K mg base (L2.CX M.P M.w) (k + 1) (M.g i_later_row) (spF M (C_later_row cl)) := by
  obtain ⟨fd, D⟩ := F.a4.d_later_row
  obtain ⟨oc, od, dV, kV, doc, pm, an, cdv, ct, osl, rfl, lk, hcd, hdv, _⟩ := D.ex
  have e0 : dV = Value.none := hdv.elim (fun h => h.2) fun h => absurd rfl h.1
  subst e0
  exact fn_code ⟨rfl, rfl, rfl⟩ lk hcd sc_later_row rfl (Binds.all fun us h => match us, h with | [_, _, _, _], _ => rfl) fun A outer s H E B => b_later_row F cl hk o_rec B
theorem sc_p_row_kept : FnScope ["roll", "word", "kept", "at"] ["roll", "word", "kept"] (defScope (top 60)) := ⟨rfl, rfl, rfl, by decide +kernel, rfl, by decide +kernel, by decide +kernel⟩
theorem b_p_row_kept {M : Mo} {mg : Str → Option Value} {base : Heap} (F : Fc M mg base) (cl : Cl) {k : Nat} (hk : 30 ≤ k) (o_rec : FnR M.P M.w M.K mg base (L2.CX M.P M.w) k (M.g i_p_row_kept) (spF M (cl 0))) {A : Around} {outer : List Env} {s : Shared} {H : Hp} {E : XK} {f : Addr} {cd : Value} (B : Body (cxOf (L2.CX M.P M.w) M.P M.w M.K mg base ["roll", "word", "kept", "at"] "p_row_kept" (defScope (top 60)) f cd A outer s H E) M E (k + 1)) : PSs (cxOf (L2.CX M.P M.w) M.P M.w M.K mg base ["roll", "word", "kept", "at"] "p_row_kept" (defScope (top 60)) f cd A outer s H E) (defBody (top 60)) (tSt M cl E (S_p_row_kept)) := by
  have hN : (["roll", "word", "kept", "at"] : List Str).Nodup := by decide
  have o_later_row := (o_later_row F cl hk o_rec).mono (show _ ≤ (k + 1) by omega)
  exact (psc_cons (psc_for B.good B.own (pic_r3 rfl F.a20.n_range (pac_cons (pec_bin ob_sub (pec_fn (cf_len B.good.toFits) rfl F.a20.n_len bo_len (pac_cons (pec_var (i := 1) rfl (.inl rfl) rfl rfl) pac_nil)) (pec_con pe_int fun _ _ => rfl)) (pac_cons (pec_neg (pec_con pe_int fun _ _ => rfl)) (pac_cons (pec_neg (pec_con pe_int fun _ _ => rfl)) pac_nil)))) (pgc_name (i := 3) hN rfl (.inl rfl)) (psc_one (psc_if (ptc_cmp (ots_nin B.good) (pec_sl B.good (pec_var (i := 1) rfl (.inl rfl) rfl rfl) (poc_some (pec_var (i := 3) rfl (.inl rfl) rfl rfl)) poc_none) (pec_var (i := 2) rfl (.inl rfl) rfl rfl) rfl) (psc_one (psc_asg (pec_call (n := i_later_row) o_later_row B.room rfl F.a11.g_later_row F.a16.k_later_row B.pass (pac_cons (pec_var (i := 0) rfl (.inl rfl) rfl rfl) (pac_cons (pec_ix B.good (pec_var (i := 1) rfl (.inl rfl) rfl rfl) (pec_var (i := 3) rfl (.inl rfl) rfl rfl) (fun _ _ => rfl)) (pac_cons (pec_sl B.good (pec_var (i := 1) rfl (.inl rfl) rfl rfl) (poc_some (pec_bin (opb_addS B.good) (pec_var (i := 3) rfl (.inl rfl) rfl rfl) (pec_con pe_int fun _ _ => rfl))) poc_none) (pac_cons (pec_var (i := 2) rfl (.inl rfl) rfl rfl) pac_nil))))) (pgc_sub B.good (pec_var (i := 2) rfl (.inl rfl) rfl rfl) (pec_sl B.good (pec_var (i := 1) rfl (.inl rfl) rfl rfl) (poc_some (pec_var (i := 3) rfl (.inl rfl) rfl rfl)) poc_none)))) psc_nil))) (psc_one (psc_ret (pec_ix B.good (pec_var (i := 2) rfl (.inl rfl) rfl rfl) (pec_var (i := 1) rfl (.inl rfl) rfl rfl) (fun _ _ => rfl)))))
theorem o_p_row_kept {M : Mo} {mg : Str → Option Value} {base : Heap} (F : Fc M mg base) (cl : Cl) {k : Nat} (hk : 30 ≤ k) (o_rec : FnR M.P M.w M.K mg base (L2.CX M.P M.w) k (M.g i_p_row_kept) (spF M (cl 0))) : FnR M.P M.w M.K mg base (L2.CX M.P M.w) ((k + 1) + 1) (M.g i_p_row_kept) (spF M (C_p_row_kept cl)) := by
  obtain ⟨fd, D⟩ := F.a5.d_p_row_kept
  obtain ⟨oc, od, dV, kV, doc, pm, an, cdv, ct, osl, rfl, lk, hcd, hdv, _⟩ := D.ex
  have e0 : dV = Value.none := hdv.elim (fun h => h.2) fun h => absurd rfl h.1
  subst e0
  exact fn_code ⟨rfl, rfl, rfl⟩ lk hcd sc_p_row_kept rfl (Binds.all fun us h => match us, h with | [_, _, _], _ => rfl) fun A outer s H E B => b_p_row_kept F cl hk o_rec B
/-- the recursion's depth -/
theorem o_rec {M : Mo} {mg : Str → Option Value} {base : Heap} (F : Fc M mg base) : ∀ n : Nat, FnR M.P M.w M.K mg base (L2.CX M.P M.w) (30 + 2 * n) (M.g i_p_row_kept) (spF M (clF n 0))
  | 0 => fun _ _ _ _ _ _ _ _ _ _ _ h => by
    obtain ⟨a, ws, h, x, k, r, ha, eq, _⟩ := h
    exact absurd (show Ans.bad = a from eq).symm ha
  | n + 1 => (o_p_row_kept F (clF n) (by omega) (o_rec F n)).mono (by omega)

theorem sc_p_row_in : FnScope ["roll", "word", "lot", "row", "low"] ["roll", "word"] (defScope (top 61)) := ⟨rfl, rfl, rfl, by decide +kernel, rfl, by decide +kernel, by decide +kernel⟩
theorem b_p_row_in {M : Mo} {mg : Str → Option Value} {base : Heap} (F : Fc M mg base) (cl : Cl) {A : Around} {outer : List Env} {s : Shared} {H : Hp} {E : XK} {f : Addr} {cd : Value} (B : Body (cxOf (L2.CX M.P M.w) M.P M.w M.K mg base ["roll", "word", "lot", "row", "low"] "p_row_in" (defScope (top 61)) f cd A outer s H E) M E 112) : PSs (cxOf (L2.CX M.P M.w) M.P M.w M.K mg base ["roll", "word", "lot", "row", "low"] "p_row_in" (defScope (top 61)) f cd A outer s H E) (defBody (top 61)) (tSt M cl E (S_p_row_in)) := by
  have hN : (["roll", "word", "lot", "row", "low"] : List Str).Nodup := by decide
  have o_under_in := (o_under_in F cl).mono (show 11 ≤ 112 by decide)
  have o_p_row_kept := (o_p_row_kept F (clF 40) (k := 110) (by decide) (o_rec F 40)).mono (show _ ≤ 112 by decide)
  exact (psc_cons (psc_set (i := 2) hN rfl (.inl rfl) (pec_call (n := i_under_in) o_under_in B.room rfl F.a13.g_under_in F.a18.k_under_in B.pass (pac_cons (pec_var (i := 0) rfl (.inl rfl) rfl rfl) (pac_cons (pec_var (i := 1) rfl (.inl rfl) rfl rfl) pac_nil)))) (psc_cons (psc_set (i := 3) hN rfl (.inr rfl) (pec_call (n := i_p_row_kept) o_p_row_kept B.room rfl F.a12.g_p_row_kept F.a17.k_p_row_kept B.pass (pac_cons (pec_var (i := 0) rfl (.inl rfl) rfl rfl) (pac_cons (pec_var (i := 1) rfl (.inl rfl) rfl rfl) (pac_cons (pec_dict1 B.good (pec_tup pac_nil) (pec_dict1 B.good (pec_tup pac_nil) (pec_tup (pac_cons (pec_con pe_int fun _ _ => rfl) pac_nil)))) pac_nil))))) (psc_one (psc_ret (pec_dc (own := [("low", 4)]) B.good hN (pic_seq B.good (pec_var (i := 2) rfl (.inl rfl) rfl rfl)) (blkOk_by rfl) (fun _ _ _ _ _ => (pgw_name (i := 4) hN rfl (.inl rfl) (by decide))) (fun _ _ _ _ _ => ptsc_nil) (fun _ _ _ _ _ => (pec_var (i := 4) rfl (.inl rfl) rfl rfl)) (fun _ _ _ _ _ => (pec_ix B.good.blk (pec_var (i := 3) rfl (.inr (.inl rfl)) rfl rfl) (pec_var (i := 4) rfl (.inl rfl) rfl rfl) (fun _ _ => rfl))))))))
theorem o_p_row_in {M : Mo} {mg : Str → Option Value} {base : Heap} (F : Fc M mg base) (cl : Cl) : FnR M.P M.w M.K mg base (L2.CX M.P M.w) (112 + 1) (M.g i_p_row_in) (spF M (C_p_row_in cl)) := by
  obtain ⟨fd, D⟩ := F.a5.d_p_row_in
  obtain ⟨oc, od, dV, kV, doc, pm, an, cdv, ct, osl, rfl, lk, hcd, hdv, _⟩ := D.ex
  have e0 : dV = Value.none := hdv.elim (fun h => h.2) fun h => absurd rfl h.1
  subst e0
  exact fn_code ⟨rfl, rfl, rfl⟩ lk hcd sc_p_row_in rfl (Binds.all fun us h => match us, h with | [_, _], _ => rfl) fun A outer s H E B => b_p_row_in F cl B
theorem sc_led_down : FnScope ["roll", "member", "word", "here", "places", "place", "letter"] ["roll", "member", "word"] (defScope (top 50)) := ⟨rfl, rfl, rfl, by decide +kernel, rfl, by decide +kernel, by decide +kernel⟩
theorem b_led_down {M : Mo} {mg : Str → Option Value} {base : Heap} (F : Fc M mg base) (cl : Cl) {A : Around} {outer : List Env} {s : Shared} {H : Hp} {E : XK} {f : Addr} {cd : Value} (B : Body (cxOf (L2.CX M.P M.w) M.P M.w M.K mg base ["roll", "member", "word", "here", "places", "place", "letter"] "led_down" (defScope (top 50)) f cd A outer s H E) M E 10) : PSs (cxOf (L2.CX M.P M.w) M.P M.w M.K mg base ["roll", "member", "word", "here", "places", "place", "letter"] "led_down" (defScope (top 50)) f cd A outer s H E) (defBody (top 50)) (tSt M cl E (S_led_down)) := by
  have hN : (["roll", "member", "word", "here", "places", "place", "letter"] : List Str).Nodup := by decide
  have o_Roll_is_left := (o_Roll_is_left F cl).mono (show 6 ≤ 10 by decide)
  have o_Roll_ahead := (o_Roll_ahead F cl).mono (show 10 ≤ 10 by decide)
  exact (psc_cons (psc_par (i := 3) (j := 4) B.good hN rfl rfl (by decide) rfl rfl (pac_cons (pec_var (i := 1) rfl (.inl rfl) rfl rfl) (pac_cons (pec_lstO pac_nil) pac_nil)) rfl) (psc_cons (psc_for B.good B.own (pic_enum B.good rfl F.a20.n_enumerate (pac_cons (pec_var (i := 2) rfl (.inl rfl) rfl rfl) pac_nil)) (pgc_tup B.good (pgsc_cons (pgc_name (i := 5) hN rfl (.inl rfl)) (pgsc_cons (pgc_name (i := 6) hN rfl (.inl rfl)) pgsc_nil))) (psc_one (psc_if (ptc_val (pec_meth (n := i_Roll_is_left) (pec_var (i := 0) rfl (.inl rfl) rfl rfl) F.a21.sc_Roll F.a19.m_Roll_is_left o_Roll_is_left B.room B.pass (pac_cons (pec_var (i := 6) rfl (.inl rfl) rfl rfl) (pac_cons (pec_var (i := 3) rfl (.inl rfl) rfl rfl) pac_nil)))) (psc_cons (psc_set (i := 3) hN rfl (.inl rfl) (pec_meth (n := i_Roll_ahead) (pec_var (i := 0) rfl (.inl rfl) rfl rfl) F.a21.sc_Roll F.a19.m_Roll_ahead o_Roll_ahead B.room B.pass (pac_cons (pec_var (i := 6) rfl (.inl rfl) rfl rfl) (pac_cons (pec_var (i := 3) rfl (.inl rfl) rfl rfl) pac_nil)))) (psc_one (psc_expr (pec_mtL PySem.F.plainAttrs_list PySem.F.slot_list_append PySem.F.type_list_append mtm_append (pec_var (i := 4) rfl (.inl rfl) rfl rfl) (pac_cons (pec_var (i := 5) rfl (.inl rfl) rfl rfl) pac_nil))))) psc_nil))) (psc_one (psc_ret (pec_tup (pac_cons (pec_var (i := 3) rfl (.inl rfl) rfl rfl) (pac_cons (pec_var (i := 4) rfl (.inl rfl) rfl rfl) pac_nil)))))))
theorem o_led_down {M : Mo} {mg : Str → Option Value} {base : Heap} (F : Fc M mg base) (cl : Cl) : FnR M.P M.w M.K mg base (L2.CX M.P M.w) (10 + 1) (M.g i_led_down) (spF M (C_led_down cl)) := by
  obtain ⟨fd, D⟩ := F.a4.d_led_down
  obtain ⟨oc, od, dV, kV, doc, pm, an, cdv, ct, osl, rfl, lk, hcd, hdv, _⟩ := D.ex
  have e0 : dV = Value.none := hdv.elim (fun h => h.2) fun h => absurd rfl h.1
  subst e0
  exact fn_code ⟨rfl, rfl, rfl⟩ lk hcd sc_led_down rfl (Binds.all fun us h => match us, h with | [_, _, _], _ => rfl) fun A outer s H E B => b_led_down F cl B
theorem sc_is_under_in : FnScope ["roll", "one", "other"] ["roll", "one", "other"] (defScope (top 51)) := ⟨rfl, rfl, rfl, by decide +kernel, rfl, by decide +kernel, by decide +kernel⟩
theorem b_is_under_in {M : Mo} {mg : Str → Option Value} {base : Heap} (F : Fc M mg base) (cl : Cl) {A : Around} {outer : List Env} {s : Shared} {H : Hp} {E : XK} {f : Addr} {cd : Value} (B : Body (cxOf (L2.CX M.P M.w) M.P M.w M.K mg base ["roll", "one", "other"] "is_under_in" (defScope (top 51)) f cd A outer s H E) M E 11) : PSs (cxOf (L2.CX M.P M.w) M.P M.w M.K mg base ["roll", "one", "other"] "is_under_in" (defScope (top 51)) f cd A outer s H E) (defBody (top 51)) (tSt M cl E (S_is_under_in)) := by
  have hN : (["roll", "one", "other"] : List Str).Nodup := by decide
  have o_led_down := (o_led_down F cl).mono (show 11 ≤ 11 by decide)
  exact (psc_one (psc_ret (pec_and (pec_cmp ot_le (pec_fn (cf_len B.good.toFits) rfl F.a20.n_len bo_len (pac_cons (pec_var (i := 1) rfl (.inl rfl) rfl rfl) pac_nil)) (pec_fn (cf_len B.good.toFits) rfl F.a20.n_len bo_len (pac_cons (pec_var (i := 2) rfl (.inl rfl) rfl rfl) pac_nil)) (nomark _)) (pec_one (pec_cmp (ot_eqG B.good) (pec_ix B.good (pec_call (n := i_led_down) o_led_down B.room rfl F.a11.g_led_down F.a16.k_led_down B.pass (pac_cons (pec_var (i := 0) rfl (.inl rfl) rfl rfl) (pac_cons (pec_var (i := 1) rfl (.inl rfl) rfl rfl) (pac_cons (pec_var (i := 2) rfl (.inl rfl) rfl rfl) pac_nil)))) (pec_con pe_int fun _ _ => rfl) (fun _ _ => rfl)) (pec_tup pac_nil) (nomark _))))))
theorem o_is_under_in {M : Mo} {mg : Str → Option Value} {base : Heap} (F : Fc M mg base) (cl : Cl) : FnR M.P M.w M.K mg base (L2.CX M.P M.w) (11 + 1) (M.g i_is_under_in) (spF M (C_is_under_in cl)) := by
  obtain ⟨fd, D⟩ := F.a3.d_is_under_in
  obtain ⟨oc, od, dV, kV, doc, pm, an, cdv, ct, osl, rfl, lk, hcd, hdv, _⟩ := D.ex
  have e0 : dV = Value.none := hdv.elim (fun h => h.2) fun h => absurd rfl h.1
  subst e0
  exact fn_code ⟨rfl, rfl, rfl⟩ lk hcd sc_is_under_in rfl (Binds.all fun us h => match us, h with | [_, _, _], _ => rfl) fun A outer s H E B => b_is_under_in F cl B
theorem sc_worst_in : FnScope ["system", "word", "unlike", "member", "roll", "found", "poly", "size", "other"] ["system", "word"] (defScope (top 76)) := ⟨rfl, rfl, rfl, by decide +kernel, rfl, by decide +kernel, by decide +kernel⟩
theorem b_worst_in {M : Mo} {mg : Str → Option Value} {base : Heap} (F : Fc M mg base) (cl : Cl) {A : Around} {outer : List Env} {s : Shared} {H : Hp} {E : XK} {f : Addr} {cd : Value} (B : Body (cxOf (L2.CX M.P M.w) M.P M.w M.K mg base ["system", "word", "unlike", "member", "roll", "found", "poly", "size", "other"] "worst_in" (defScope (top 76)) f cd A outer s H E) M E 113) : PSs (cxOf (L2.CX M.P M.w) M.P M.w M.K mg base ["system", "word", "unlike", "member", "roll", "found", "poly", "size", "other"] "worst_in" (defScope (top 76)) f cd A outer s H E) (defBody (top 76)) (tSt M cl E (S_worst_in)) := by
  have hN : (["system", "word", "unlike", "member", "roll", "found", "poly", "size", "other"] : List Str).Nodup := by decide
  have o_Roll___init__ := (o_Roll___init__ F cl).mono (show 2 ≤ 112 by decide)
  have o_normal_in := (o_normal_in F cl).mono (show 9 ≤ 113 by decide)
  have o_p_row_in := (o_p_row_in F cl).mono (show 113 ≤ 113 by decide)
  have o_is_under_in := (o_is_under_in F cl).mono (show 12 ≤ 113 by decide)
  exact (psc_cons (psc_asg (pec_tup (pac_cons (pec_make (nf := i_Roll___init__) F.a19.mk_Roll und_Roll_ok o_Roll___init__ B.room rfl F.a8.g_Roll B.pass (pac_cons (pec_var (i := 0) rfl (.inl rfl) rfl rfl) pac_nil)) (pac_cons (pec_lstO pac_nil) pac_nil))) (pgc_tup B.good (pgsc_cons (pgc_name (i := 4) hN rfl (.inr rfl)) (pgsc_cons (pgc_name (i := 5) hN rfl (.inl rfl)) pgsc_nil)))) (psc_cons (psc_setLc (own := [("member", 3), ("poly", 6)]) B.good hN (i := 2) rfl rfl rfl (pic_items B.good.toFits (pec_call (n := i_p_row_in) o_p_row_in B.room rfl F.a12.g_p_row_in F.a17.k_p_row_in B.pass (pac_cons (pec_var (i := 4) rfl (.inr (.inl rfl)) rfl rfl) (pac_cons (pec_call (n := i_normal_in) o_normal_in B.room rfl F.a12.g_normal_in F.a17.k_normal_in B.pass (pac_cons (pec_var (i := 0) rfl (.inl rfl) rfl rfl) (pac_cons (pec_var (i := 1) rfl (.inl rfl) rfl rfl) pac_nil))) pac_nil)))) (blkOk_by rfl) (fun _ _ _ _ _ => (pgw_tup B.good.blk.calm B.good.blk.toFits (pgsw_cons (pgw_name (i := 3) hN rfl (.inl rfl) (by decide)) (pgsw_cons (pgw_name (i := 6) hN rfl (.inl rfl) (by decide)) pgsw_nil)))) (fun _ _ _ _ _ => (ptsc_one (ptc_cmp (ot_neG B.good.blk) (pec_var (i := 6) rfl (.inl rfl) rfl rfl) (pec_tup (pac_cons (pec_con pe_int fun _ _ => rfl) pac_nil)) (nomark _)))) (fun _ _ _ _ _ => (pec_var (i := 3) rfl (.inl rfl) rfl rfl))) (psc_cons (psc_for B.good B.own (pic_seq B.good (pec_var (i := 2) rfl (.inl rfl) rfl rfl)) (pgc_name (i := 3) hN rfl (.inr rfl)) (psc_one (psc_if (ptc_not (ptc_val (pec_fn (cf_any B.good.calm) rfl F.a19.n_any bo_any (pac_cons (pec_lc (own := [("other", 8)]) B.good hN (pic_seq B.good (pec_var (i := 2) rfl (.inl rfl) rfl rfl)) (blkOk_by rfl) (fun _ _ _ _ _ => (pgw_name (i := 8) hN rfl (.inl rfl) (by decide))) (fun _ _ _ _ _ => ptsc_nil) (fun _ _ _ _ _ => (pec_and (pec_cmp (ot_neG B.good.blk) (pec_var (i := 8) rfl (.inl rfl) rfl rfl) (pec_var (i := 3) rfl (.inr (.inl rfl)) rfl rfl) (nomark _)) (pec_one (pec_call (n := i_is_under_in) o_is_under_in B.room rfl F.a11.g_is_under_in F.a16.k_is_under_in noPass (pac_cons (pec_var (i := 4) rfl (.inr (.inl rfl)) rfl rfl) (pac_cons (pec_var (i := 3) rfl (.inr (.inl rfl)) rfl rfl) (pac_cons (pec_var (i := 8) rfl (.inl rfl) rfl rfl) pac_nil)))))))) pac_nil)))) (psc_one (psc_expr (pec_mtL PySem.F.plainAttrs_list PySem.F.slot_list_append PySem.F.type_list_append mtm_append (pec_var (i := 5) rfl (.inl rfl) rfl rfl) (pac_cons (pec_var (i := 3) rfl (.inr (.inl rfl)) rfl rfl) pac_nil)))) psc_nil))) (psc_one (psc_ret (pec_lc (own := [("size", 7), ("member", 3)]) B.good hN (pic_seq B.good (pec_fn (cf_srtP B.good) rfl F.a20.n_sorted bo_sorted (pac_cons (pec_lc (own := [("member", 3)]) B.good hN (pic_seqO B.good (pec_var (i := 5) rfl (.inl rfl) rfl rfl)) (blkOk_by rfl) (fun _ _ _ _ _ => (pgw_name (i := 3) hN rfl (.inl rfl) (by decide))) (fun _ _ _ _ _ => ptsc_nil) (fun _ _ _ _ _ => (pec_tup (pac_cons (pec_fn (cf_len B.good.blk.toFits) rfl F.a20.n_len bo_len (pac_cons (pec_var (i := 3) rfl (.inl rfl) rfl rfl) pac_nil)) (pac_cons (pec_var (i := 3) rfl (.inl rfl) rfl rfl) pac_nil))))) pac_nil))) (blkOk_by rfl) (fun _ _ _ _ _ => (pgw_tup B.good.blk.calm B.good.blk.toFits (pgsw_cons (pgw_name (i := 7) hN rfl (.inl rfl) (by decide)) (pgsw_cons (pgw_name (i := 3) hN rfl (.inl rfl) (by decide)) pgsw_nil)))) (fun _ _ _ _ _ => ptsc_nil) (fun _ _ _ _ _ => (pec_var (i := 3) rfl (.inl rfl) rfl rfl))))))))
theorem o_worst_in {M : Mo} {mg : Str → Option Value} {base : Heap} (F : Fc M mg base) (cl : Cl) : FnR M.P M.w M.K mg base (L2.CX M.P M.w) (113 + 1) (M.g i_worst_in) (spF M (C_worst_in cl)) := by
  obtain ⟨fd, D⟩ := F.a6.d_worst_in
  obtain ⟨oc, od, dV, kV, doc, pm, an, cdv, ct, osl, rfl, lk, hcd, hdv, _⟩ := D.ex
  have e0 : dV = Value.none := hdv.elim (fun h => h.2) fun h => absurd rfl h.1
  subst e0
  exact fn_code ⟨rfl, rfl, rfl⟩ lk hcd sc_worst_in rfl (Binds.all fun us h => match us, h with | [_, _], _ => rfl) fun A outer s H E B => b_worst_in F cl B
end K73
end
end

section
set_option maxRecDepth 100000
set_option maxHeartbeats 4000000
noncomputable section
namespace K73
open PySem PySem.Spec L2 Eng
open PyProof.Rows hiding St

theorem sc_worst_members : FnScope ["system", "word"] ["system", "word"] (defScope (top 87)) := ⟨rfl, rfl, rfl, by decide +kernel, rfl, by decide +kernel, by decide +kernel⟩
theorem b_worst_members {M : Mo} {mg : Str → Option Value} {base : Heap} (F : Fc M mg base) (cl : Cl) {A : Around} {outer : List Env} {s : Shared} {H : Hp} {E : XK} {f : Addr} {cd : Value} (B : Body (cxOf (L2.CX M.P M.w) M.P M.w M.K mg base ["system", "word"] "worst_members" (defScope (top 87)) f cd A outer s H E) M E 114) : PSs (cxOf (L2.CX M.P M.w) M.P M.w M.K mg base ["system", "word"] "worst_members" (defScope (top 87)) f cd A outer s H E) (defBody (top 87)) (tSt M cl E (S_worst_members)) := by
  have hN : (["system", "word"] : List Str).Nodup := by decide
  have o_require_system_and_word := (o_require_system_and_word F cl).mono (show 6 ≤ 114 by decide)
  have o_worst_in := (o_worst_in F cl).mono (show 114 ≤ 114 by decide)
  exact (psc_cons (psc_expr (pec_call (n := i_require_system_and_word) o_require_system_and_word B.room rfl F.a12.g_require_system_and_word F.a18.k_require_system_and_word B.pass (pac_cons (pec_var (i := 0) rfl (.inl rfl) rfl rfl) (pac_cons (pec_var (i := 1) rfl (.inl rfl) rfl rfl) pac_nil)))) (psc_one (psc_ret (pec_ty (cf_tuple B.good.toFits) rfl F.a21.n_tuple bo_tuple (pac_cons (pec_call (n := i_worst_in) o_worst_in B.room rfl F.a13.g_worst_in F.a18.k_worst_in B.pass (pac_cons (pec_var (i := 0) rfl (.inl rfl) rfl rfl) (pac_cons (pec_var (i := 1) rfl (.inl rfl) rfl rfl) pac_nil))) pac_nil)))))
theorem o_worst_members {M : Mo} {mg : Str → Option Value} {base : Heap} (F : Fc M mg base) (cl : Cl) : FnR M.P M.w M.K mg base (L2.CX M.P M.w) (114 + 1) (M.g i_worst_members) (spF M (C_worst_members cl)) := by
  obtain ⟨fd, D⟩ := F.a6.d_worst_members
  obtain ⟨oc, od, dV, kV, doc, pm, an, cdv, ct, osl, rfl, lk, hcd, hdv, _⟩ := D.ex
  have e0 : dV = Value.none := hdv.elim (fun h => h.2) fun h => absurd rfl h.1
  subst e0
  exact fn_code ⟨rfl, rfl, rfl⟩ lk hcd sc_worst_members rfl (Binds.all fun us h => match us, h with | [_, _], _ => rfl) fun A outer s H E B => b_worst_members F cl B
theorem sc_is_smooth : FnScope ["system", "value"] ["system", "value"] (defScope (top 84)) := ⟨rfl, rfl, rfl, by decide +kernel, rfl, by decide +kernel, by decide +kernel⟩
theorem b_is_smooth {M : Mo} {mg : Str → Option Value} {base : Heap} (F : Fc M mg base) (cl : Cl) {A : Around} {outer : List Env} {s : Shared} {H : Hp} {E : XK} {f : Addr} {cd : Value} (B : Body (cxOf (L2.CX M.P M.w) M.P M.w M.K mg base ["system", "value"] "is_smooth" (defScope (top 84)) f cd A outer s H E) M E 12) : PSs (cxOf (L2.CX M.P M.w) M.P M.w M.K mg base ["system", "value"] "is_smooth" (defScope (top 84)) f cd A outer s H E) (defBody (top 84)) (tSt M cl E (S_is_smooth)) := by
  have hN : (["system", "value"] : List Str).Nodup := by decide
  have o_require_system := (o_require_system F cl).mono (show 2 ≤ 12 by decide)
  have o_is_word_in := (o_is_word_in F cl).mono (show 4 ≤ 12 by decide)
  have o_members_under_in := (o_members_under_in F cl).mono (show 12 ≤ 12 by decide)
  have o_is_smooth_lot := (o_is_smooth_lot F cl).mono (show 3 ≤ 12 by decide)
  exact (psc_cons (psc_expr (pec_call (n := i_require_system) o_require_system B.room rfl F.a12.g_require_system F.a18.k_require_system B.pass (pac_cons (pec_var (i := 0) rfl (.inl rfl) rfl rfl) pac_nil))) (psc_one (psc_ret (pec_and (pec_call (n := i_is_word_in) o_is_word_in B.room rfl F.a11.g_is_word_in F.a16.k_is_word_in B.pass (pac_cons (pec_var (i := 0) rfl (.inl rfl) rfl rfl) (pac_cons (pec_var (i := 1) rfl (.inl rfl) rfl rfl) pac_nil))) (pec_one (pec_call (n := i_is_smooth_lot) o_is_smooth_lot B.room rfl F.a10.g_is_smooth_lot F.a16.k_is_smooth_lot B.pass (pac_cons (pec_call (n := i_members_under_in) o_members_under_in B.room rfl F.a11.g_members_under_in F.a17.k_members_under_in B.pass (pac_cons (pec_var (i := 0) rfl (.inl rfl) rfl rfl) (pac_cons (pec_var (i := 1) rfl (.inl rfl) rfl rfl) pac_nil))) pac_nil)))))))
theorem o_is_smooth {M : Mo} {mg : Str → Option Value} {base : Heap} (F : Fc M mg base) (cl : Cl) : FnR M.P M.w M.K mg base (L2.CX M.P M.w) (12 + 1) (M.g i_is_smooth) (spF M (C_is_smooth cl)) := by
  obtain ⟨fd, D⟩ := F.a3.d_is_smooth
  obtain ⟨oc, od, dV, kV, doc, pm, an, cdv, ct, osl, rfl, lk, hcd, hdv, _⟩ := D.ex
  have e0 : dV = Value.none := hdv.elim (fun h => h.2) fun h => absurd rfl h.1
  subst e0
  exact fn_code ⟨rfl, rfl, rfl⟩ lk hcd sc_is_smooth rfl (Binds.all fun us h => match us, h with | [_, _], _ => rfl) fun A outer s H E B => b_is_smooth F cl B
theorem sc_mirrors_at : FnScope ["system", "word", "member", "here"] ["system", "word", "member"] (defScope (top 83)) := ⟨rfl, rfl, rfl, by decide +kernel, rfl, by decide +kernel, by decide +kernel⟩
theorem b_mirrors_at {M : Mo} {mg : Str → Option Value} {base : Heap} (F : Fc M mg base) (cl : Cl) {A : Around} {outer : List Env} {s : Shared} {H : Hp} {E : XK} {f : Addr} {cd : Value} (B : Body (cxOf (L2.CX M.P M.w) M.P M.w M.K mg base ["system", "word", "member", "here"] "mirrors_at" (defScope (top 83)) f cd A outer s H E) M E 12) : PSs (cxOf (L2.CX M.P M.w) M.P M.w M.K mg base ["system", "word", "member", "here"] "mirrors_at" (defScope (top 83)) f cd A outer s H E) (defBody (top 83)) (tSt M cl E (S_mirrors_at)) := by
  have hN : (["system", "word", "member", "here"] : List Str).Nodup := by decide
  have o_require_system_and_word := (o_require_system_and_word F cl).mono (show 6 ≤ 12 by decide)
  have o_require_word := (o_require_word F cl).mono (show 5 ≤ 12 by decide)
  have o_normal_in := (o_normal_in F cl).mono (show 9 ≤ 12 by decide)
  have o_Roll___init__ := (o_Roll___init__ F cl).mono (show 2 ≤ 11 by decide)
  have o_is_under_in := (o_is_under_in F cl).mono (show 12 ≤ 12 by decide)
  have o_members_under_in := (o_members_under_in F cl).mono (show 12 ≤ 12 by decide)
  exact (psc_cons (psc_expr (pec_call (n := i_require_system_and_word) o_require_system_and_word B.room rfl F.a12.g_require_system_and_word F.a18.k_require_system_and_word B.pass (pac_cons (pec_var (i := 0) rfl (.inl rfl) rfl rfl) (pac_cons (pec_var (i := 1) rfl (.inl rfl) rfl rfl) pac_nil)))) (psc_cons (psc_expr (pec_call (n := i_require_word) o_require_word B.room rfl F.a12.g_require_word F.a18.k_require_word B.pass (pac_cons (pec_var (i := 0) rfl (.inl rfl) rfl rfl) (pac_cons (pec_var (i := 2) rfl (.inl rfl) rfl rfl) pac_nil)))) (psc_cons (psc_set (i := 3) hN rfl (.inl rfl) (pec_call (n := i_normal_in) o_normal_in B.room rfl F.a12.g_normal_in F.a17.k_normal_in B.pass (pac_cons (pec_var (i := 0) rfl (.inl rfl) rfl rfl) (pac_cons (pec_var (i := 2) rfl (.inl rfl) rfl rfl) pac_nil)))) (psc_cons (psc_if (ptc_not (ptc_val (pec_call (n := i_is_under_in) o_is_under_in B.room rfl F.a11.g_is_under_in F.a16.k_is_under_in B.pass (pac_cons (pec_make (nf := i_Roll___init__) F.a19.mk_Roll und_Roll_ok o_Roll___init__ B.room rfl F.a8.g_Roll B.pass (pac_cons (pec_var (i := 0) rfl (.inl rfl) rfl rfl) pac_nil)) (pac_cons (pec_var (i := 3) rfl (.inl rfl) rfl rfl) (pac_cons (pec_call (n := i_normal_in) o_normal_in B.room rfl F.a12.g_normal_in F.a17.k_normal_in B.pass (pac_cons (pec_var (i := 0) rfl (.inl rfl) rfl rfl) (pac_cons (pec_var (i := 1) rfl (.inl rfl) rfl rfl) pac_nil))) pac_nil)))))) (psc_one (psc_raise (n := i_InvalidOperation) B.good B.takes F.a7.fl_InvalidOperation PySem.F.excBase_ValueError F.a7.ex_InvalidOperation F.a8.g_InvalidOperation F.a13.k_InvalidOperation (raises_own F.a6.es_InvalidOperation F.a6.et_InvalidOperation) rfl)) psc_nil) (psc_one (psc_ret (pec_ix B.good (pec_call (n := i_mirror_numbers) fnr_cut B.room rfl F.a12.g_mirror_numbers F.a17.k_mirror_numbers B.pass (pac_cons (pec_var (i := 0) rfl (.inl rfl) rfl rfl) (pac_cons (pec_call (n := i_members_under_in) o_members_under_in B.room rfl F.a11.g_members_under_in F.a17.k_members_under_in B.pass (pac_cons (pec_var (i := 0) rfl (.inl rfl) rfl rfl) (pac_cons (pec_var (i := 1) rfl (.inl rfl) rfl rfl) pac_nil))) pac_nil))) (pec_var (i := 3) rfl (.inl rfl) rfl rfl) (fun _ _ => rfl))))))))
theorem o_mirrors_at {M : Mo} {mg : Str → Option Value} {base : Heap} (F : Fc M mg base) (cl : Cl) : FnR M.P M.w M.K mg base (L2.CX M.P M.w) (12 + 1) (M.g i_mirrors_at) (spF M (C_mirrors_at cl)) := by
  obtain ⟨fd, D⟩ := F.a4.d_mirrors_at
  obtain ⟨oc, od, dV, kV, doc, pm, an, cdv, ct, osl, rfl, lk, hcd, hdv, _⟩ := D.ex
  have e0 : dV = Value.none := hdv.elim (fun h => h.2) fun h => absurd rfl h.1
  subst e0
  exact fn_code ⟨rfl, rfl, rfl⟩ lk hcd sc_mirrors_at rfl (Binds.all fun us h => match us, h with | [_, _, _], _ => rfl) fun A outer s H E B => b_mirrors_at F cl B
theorem sc_is_smooth_paper : FnScope ["system", "word", "value", "lot", "many"] ["system", "word", "value"] (defScope (top 86)) := ⟨rfl, rfl, rfl, by decide +kernel, rfl, by decide +kernel, by decide +kernel⟩
theorem b_is_smooth_paper {M : Mo} {mg : Str → Option Value} {base : Heap} (F : Fc M mg base) (cl : Cl) {A : Around} {outer : List Env} {s : Shared} {H : Hp} {E : XK} {f : Addr} {cd : Value} (B : Body (cxOf (L2.CX M.P M.w) M.P M.w M.K mg base ["system", "word", "value", "lot", "many"] "is_smooth_paper" (defScope (top 86)) f cd A outer s H E) M E 12) : PSs (cxOf (L2.CX M.P M.w) M.P M.w M.K mg base ["system", "word", "value", "lot", "many"] "is_smooth_paper" (defScope (top 86)) f cd A outer s H E) (defBody (top 86)) (tSt M cl E (S_is_smooth_paper)) := by
  have hN : (["system", "word", "value", "lot", "many"] : List Str).Nodup := by decide
  have o_require_system_and_word := (o_require_system_and_word F cl).mono (show 6 ≤ 12 by decide)
  have o_members_under_in := (o_members_under_in F cl).mono (show 12 ≤ 12 by decide)
  have o_is_smooth_lot := (o_is_smooth_lot F cl).mono (show 3 ≤ 12 by decide)
  have o_numbers_of := (o_numbers_of F cl).mono (show 2 ≤ 12 by decide)
  have o_is_word_in := (o_is_word_in F cl).mono (show 4 ≤ 12 by decide)
  have o_is_within := (o_is_within F cl).mono (show 3 ≤ 12 by decide)
  exact (psc_cons (psc_expr (pec_call (n := i_require_system_and_word) o_require_system_and_word B.room rfl F.a12.g_require_system_and_word F.a18.k_require_system_and_word B.pass (pac_cons (pec_var (i := 0) rfl (.inl rfl) rfl rfl) (pac_cons (pec_var (i := 1) rfl (.inl rfl) rfl rfl) pac_nil)))) (psc_cons (psc_set (i := 3) hN rfl (.inl rfl) (pec_call (n := i_members_under_in) o_members_under_in B.room rfl F.a11.g_members_under_in F.a17.k_members_under_in B.pass (pac_cons (pec_var (i := 0) rfl (.inl rfl) rfl rfl) (pac_cons (pec_var (i := 1) rfl (.inl rfl) rfl rfl) pac_nil)))) (psc_cons (psc_if (ptc_of (pwc_or (ptc_not (ptc_val (pec_isi (cv := .ty "tuple") B.good (fun _ h => h) isi_tuple (pec_var (i := 2) rfl (.inl rfl) rfl rfl) (pe_bltn rfl F.a21.n_tuple bo_tuple rfl) rfl F.a20.n_isinstance bo_isinstance))) (pwc_or (ptc_cmp (ots_nin B.good) (pec_fn (cf_len B.good.toFits) rfl F.a20.n_len bo_len (pac_cons (pec_var (i := 2) rfl (.inl rfl) rfl rfl) pac_nil)) (pec_tup (pac_cons (pec_con pe_int fun _ _ => rfl) (pac_cons (pec_con pe_int fun _ _ => rfl) pac_nil))) rfl) (pwc_one_or (ptc_not (ptc_val (pec_isi (cv := .ty "str") B.good (fun _ h => h) isi_str (pec_ix B.good (pec_var (i := 2) rfl (.inl rfl) rfl rfl) (pec_con pe_int fun _ _ => rfl) (fun _ _ => rfl)) (pe_bltn rfl F.a20.n_str bo_str rfl) rfl F.a20.n_isinstance bo_isinstance))))))) (psc_one (psc_ret (pec_con pe_bl fun _ _ => rfl))) psc_nil) (psc_cons (psc_if (ptc_cmp (ot_eqG B.good) (pec_fn (cf_len B.good.toFits) rfl F.a20.n_len bo_len (pac_cons (pec_var (i := 2) rfl (.inl rfl) rfl rfl) pac_nil)) (pec_con pe_int fun _ _ => rfl) (nomark _)) (psc_one (psc_ret (pec_and (pec_cmp (ot_eqG B.good) (pec_ix B.good (pec_var (i := 2) rfl (.inl rfl) rfl rfl) (pec_con pe_int fun _ _ => rfl) (fun _ _ => rfl)) (pec_gstr rfl F.a0.c_SMOOTH) (nomark _)) (pec_and (pec_call (n := i_is_smooth_lot) o_is_smooth_lot B.room rfl F.a10.g_is_smooth_lot F.a16.k_is_smooth_lot B.pass (pac_cons (pec_var (i := 3) rfl (.inl rfl) rfl rfl) pac_nil)) (pec_one (pec_call (n := i_is_numbers) fnr_cut B.room rfl F.a10.g_is_numbers F.a15.k_is_numbers B.pass (pac_cons (pec_ix B.good (pec_var (i := 2) rfl (.inl rfl) rfl rfl) (pec_con pe_int fun _ _ => rfl) (fun _ _ => rfl)) (pac_cons (pec_call (n := i_numbers_of) o_numbers_of B.room rfl F.a12.g_numbers_of F.a17.k_numbers_of B.pass (pac_cons (pec_var (i := 3) rfl (.inl rfl) rfl rfl) pac_nil)) pac_nil)))))))) psc_nil) (psc_cons (psc_if (ptc_of (pwc_or (ptc_cmp (ot_neG B.good) (pec_ix B.good (pec_var (i := 2) rfl (.inl rfl) rfl rfl) (pec_con pe_int fun _ _ => rfl) (fun _ _ => rfl)) (pec_gstr rfl F.a0.c_MIRRORS) (nomark _)) (pwc_or (ptc_not (ptc_val (pec_call (n := i_is_word_in) o_is_word_in B.room rfl F.a11.g_is_word_in F.a16.k_is_word_in B.pass (pac_cons (pec_var (i := 0) rfl (.inl rfl) rfl rfl) (pac_cons (pec_ix B.good (pec_var (i := 2) rfl (.inl rfl) rfl rfl) (pec_con pe_int fun _ _ => rfl) (fun _ _ => rfl)) pac_nil))))) (pwc_one_or (ptc_cmp (ots_nin B.good) (pec_ix B.good (pec_var (i := 2) rfl (.inl rfl) rfl rfl) (pec_con pe_int fun _ _ => rfl) (fun _ _ => rfl)) (pec_var (i := 3) rfl (.inl rfl) rfl rfl) rfl))))) (psc_one (psc_ret (pec_con pe_bl fun _ _ => rfl))) psc_nil) (psc_cons (psc_set (i := 4) hN rfl (.inl rfl) (pec_ix B.good (pec_call (n := i_mirror_numbers) fnr_cut B.room rfl F.a12.g_mirror_numbers F.a17.k_mirror_numbers B.pass (pac_cons (pec_var (i := 0) rfl (.inl rfl) rfl rfl) (pac_cons (pec_var (i := 3) rfl (.inl rfl) rfl rfl) pac_nil))) (pec_ix B.good (pec_var (i := 2) rfl (.inl rfl) rfl rfl) (pec_con pe_int fun _ _ => rfl) (fun _ _ => rfl)) (fun _ _ => rfl))) (psc_one (psc_ret (pec_and (pec_cmp ot_gt (pec_var (i := 4) rfl (.inl rfl) rfl rfl) (pec_fn (cf_len B.good.toFits) rfl F.a20.n_len bo_len (pac_cons (pec_ix B.good (pec_var (i := 3) rfl (.inl rfl) rfl rfl) (pec_neg (pec_con pe_int fun _ _ => rfl)) (fun _ _ => rfl)) pac_nil)) (nomark _)) (pec_one (pec_call (n := i_is_within) o_is_within B.room rfl F.a11.g_is_within F.a16.k_is_within B.pass (pac_cons (pec_ix B.good (pec_var (i := 2) rfl (.inl rfl) rfl rfl) (pec_con pe_int fun _ _ => rfl) (fun _ _ => rfl)) (pac_cons (pec_var (i := 4) rfl (.inl rfl) rfl rfl) (pac_cons (pec_var (i := 4) rfl (.inl rfl) rfl rfl) pac_nil))))))))))))))
theorem o_is_smooth_paper {M : Mo} {mg : Str → Option Value} {base : Heap} (F : Fc M mg base) (cl : Cl) : FnR M.P M.w M.K mg base (L2.CX M.P M.w) (12 + 1) (M.g i_is_smooth_paper) (spF M (C_is_smooth_paper cl)) := by
  obtain ⟨fd, D⟩ := F.a3.d_is_smooth_paper
  obtain ⟨oc, od, dV, kV, doc, pm, an, cdv, ct, osl, rfl, lk, hcd, hdv, _⟩ := D.ex
  have e0 : dV = Value.none := hdv.elim (fun h => h.2) fun h => absurd rfl h.1
  subst e0
  exact fn_code ⟨rfl, rfl, rfl⟩ lk hcd sc_is_smooth_paper rfl (Binds.all fun us h => match us, h with | [_, _, _], _ => rfl) fun A outer s H E B => b_is_smooth_paper F cl B
theorem sc_is_row : FnScope ["value", "entry"] ["value"] (defScope (top 65)) := ⟨rfl, rfl, rfl, by decide +kernel, rfl, by decide +kernel, by decide +kernel⟩
theorem b_is_row {M : Mo} {mg : Str → Option Value} {base : Heap} (F : Fc M mg base) (cl : Cl) {A : Around} {outer : List Env} {s : Shared} {H : Hp} {E : XK} {f : Addr} {cd : Value} (B : Body (cxOf (L2.CX M.P M.w) M.P M.w M.K mg base ["value", "entry"] "is_row" (defScope (top 65)) f cd A outer s H E) M E 3) : PSs (cxOf (L2.CX M.P M.w) M.P M.w M.K mg base ["value", "entry"] "is_row" (defScope (top 65)) f cd A outer s H E) (defBody (top 65)) (tSt M cl E (S_is_row)) := by
  have hN : (["value", "entry"] : List Str).Nodup := by decide
  have o_is_within := (o_is_within F cl).mono (show 3 ≤ 3 by decide)
  exact (psc_cons (psc_if (ptc_of (pwc_or (ptc_not (ptc_val (pec_isi (cv := .ty "tuple") B.good (fun _ h => h) isi_tuple (pec_var (i := 0) rfl (.inr (.inl rfl)) rfl rfl) (pe_bltn rfl F.a21.n_tuple bo_tuple rfl) rfl F.a20.n_isinstance bo_isinstance))) (pwc_one_or (ptc_not (ptc_chain ot_le ot_le (pec_gint rfl F.a0.c_LEAST_PLACES) (pec_fn (cf_len B.good.toFits) rfl F.a20.n_len bo_len (pac_cons (pec_var (i := 0) rfl (.inr (.inl rfl)) rfl rfl) pac_nil)) (pec_gint rfl F.a0.c_MOST_PLACES_rows) rfl))))) (psc_one (psc_ret (pec_con pe_bl fun _ _ => rfl))) psc_nil) (psc_cons (psc_if (ptc_not (ptc_val (pec_fn (cf_all B.good.calm) rfl F.a19.n_all bo_all (pac_cons (pec_lc (own := [("entry", 1)]) B.good hN (pic_seq B.good (pec_var (i := 0) rfl (.inr (.inl rfl)) rfl rfl)) (blkOk_by rfl) (fun _ _ _ _ _ => (pgw_name (i := 1) hN rfl (.inl rfl) (by decide))) (fun _ _ _ _ _ => ptsc_nil) (fun _ _ _ _ _ => (pec_call (n := i_is_within) o_is_within B.room rfl F.a11.g_is_within F.a16.k_is_within noPass (pac_cons (pec_var (i := 1) rfl (.inl rfl) rfl rfl) (pac_cons (pec_con pe_int fun _ _ => rfl) (pac_cons (pec_fn (cf_len B.good.blk.toFits) rfl F.a20.n_len bo_len (pac_cons (pec_var (i := 0) rfl (.inr (.inl rfl)) rfl rfl) pac_nil)) pac_nil)))))) pac_nil)))) (psc_one (psc_ret (pec_con pe_bl fun _ _ => rfl))) psc_nil) (psc_one (psc_ret (pec_cmp (ot_eqG B.good) (pec_lenK (own := [("entry", 1)]) B.good hN (pic_seq B.good (pec_var (i := 0) rfl (.inr (.inl rfl)) rfl rfl)) (blkOk_by rfl) (fun _ _ _ _ _ => (pgw_name (i := 1) hN rfl (.inl rfl) (by decide))) (fun _ _ _ _ _ => ptsc_nil) (fun _ _ _ _ _ => (pec_var (i := 1) rfl (.inl rfl) rfl rfl)) (fun _ _ _ _ _ => (pec_con pe_bl fun _ _ => rfl)) rfl F.a20.n_len) (pec_fn (cf_len B.good.toFits) rfl F.a20.n_len bo_len (pac_cons (pec_var (i := 0) rfl (.inr (.inl rfl)) rfl rfl) pac_nil)) (nomark _))))))
theorem o_is_row {M : Mo} {mg : Str → Option Value} {base : Heap} (F : Fc M mg base) (cl : Cl) : FnR M.P M.w M.K mg base (L2.CX M.P M.w) (3 + 1) (M.g i_is_row) (spF M (C_is_row cl)) := by
  obtain ⟨fd, D⟩ := F.a3.d_is_row
  obtain ⟨oc, od, dV, kV, doc, pm, an, cdv, ct, osl, rfl, lk, hcd, hdv, _⟩ := D.ex
  have e0 : dV = Value.none := hdv.elim (fun h => h.2) fun h => absurd rfl h.1
  subst e0
  exact fn_code ⟨rfl, rfl, rfl⟩ lk hcd sc_is_row rfl (Binds.all fun us h => match us, h with | [_], _ => rfl) fun A outer s H E B => b_is_row F cl B
theorem sc_require_row : FnScope ["value"] ["value"] (defScope (top 66)) := ⟨rfl, rfl, rfl, by decide +kernel, rfl, by decide +kernel, by decide +kernel⟩
theorem b_require_row {M : Mo} {mg : Str → Option Value} {base : Heap} (F : Fc M mg base) (cl : Cl) {A : Around} {outer : List Env} {s : Shared} {H : Hp} {E : XK} {f : Addr} {cd : Value} (B : Body (cxOf (L2.CX M.P M.w) M.P M.w M.K mg base ["value"] "require_row" (defScope (top 66)) f cd A outer s H E) M E 4) : PSs (cxOf (L2.CX M.P M.w) M.P M.w M.K mg base ["value"] "require_row" (defScope (top 66)) f cd A outer s H E) (defBody (top 66)) (tSt M cl E (S_require_row)) := by
  have hN : (["value"] : List Str).Nodup := by decide
  have o_is_row := (o_is_row F cl).mono (show 4 ≤ 4 by decide)
  exact (psc_one (psc_if (ptc_not (ptc_val (pec_call (n := i_is_row) o_is_row B.room rfl F.a10.g_is_row F.a15.k_is_row B.pass (pac_cons (pec_var (i := 0) rfl (.inl rfl) rfl rfl) pac_nil)))) (psc_one (psc_raise (n := i_InvalidRow) B.good B.takes F.a7.fl_InvalidRow PySem.F.excBase_ValueError F.a7.ex_InvalidRow F.a8.g_InvalidRow F.a13.k_InvalidRow (raises_own F.a6.es_InvalidRow F.a6.et_InvalidRow) rfl)) psc_nil))
theorem o_require_row {M : Mo} {mg : Str → Option Value} {base : Heap} (F : Fc M mg base) (cl : Cl) : FnR M.P M.w M.K mg base (L2.CX M.P M.w) (4 + 1) (M.g i_require_row) (spF M (C_require_row cl)) := by
  obtain ⟨fd, D⟩ := F.a5.d_require_row
  obtain ⟨oc, od, dV, kV, doc, pm, an, cdv, ct, osl, rfl, lk, hcd, hdv, _⟩ := D.ex
  have e0 : dV = Value.none := hdv.elim (fun h => h.2) fun h => absurd rfl h.1
  subst e0
  exact fn_code ⟨rfl, rfl, rfl⟩ lk hcd sc_require_row rfl (Binds.all fun us h => match us, h with | [_], _ => rfl) fun A outer s H E B => b_require_row F cl B
end K73
end
end

section
set_option maxRecDepth 100000
set_option maxHeartbeats 4000000
noncomputable section
namespace K73
open PySem PySem.Spec L2 Eng
open PyProof.Rows hiding St

theorem sc_row_paper : FnScope ["row", "places"] ["row"] (defScope (top 88)) := ⟨rfl, rfl, rfl, by decide +kernel, rfl, by decide +kernel, by decide +kernel⟩
theorem b_row_paper {M : Mo} {mg : Str → Option Value} {base : Heap} (F : Fc M mg base) (cl : Cl) {A : Around} {outer : List Env} {s : Shared} {H : Hp} {E : XK} {f : Addr} {cd : Value} (B : Body (cxOf (L2.CX M.P M.w) M.P M.w M.K mg base ["row", "places"] "row_paper" (defScope (top 88)) f cd A outer s H E) M E 5) : PSs (cxOf (L2.CX M.P M.w) M.P M.w M.K mg base ["row", "places"] "row_paper" (defScope (top 88)) f cd A outer s H E) (defBody (top 88)) (tSt M cl E (S_row_paper)) := by
  have hN : (["row", "places"] : List Str).Nodup := by decide
  have o_require_row := (o_require_row F cl).mono (show 5 ≤ 5 by decide)
  exact (psc_cons (psc_expr (pec_call (n := i_require_row) o_require_row B.room rfl F.a12.g_require_row F.a18.k_require_row B.pass (pac_cons (pec_var (i := 0) rfl (.inl rfl) rfl rfl) pac_nil))) (psc_cons (psc_set (i := 1) hN rfl (.inl rfl) (pec_call (n := i_barred_places) fnr_cut B.room rfl F.a9.g_barred_places F.a14.k_barred_places B.pass (pac_cons (pec_var (i := 0) rfl (.inl rfl) rfl rfl) pac_nil))) (psc_one (psc_ret (pec_ite (ptc_isN (pec_var (i := 1) rfl (.inl rfl) rfl rfl)) (pec_tup (pac_cons (pec_gstr rfl F.a0.c_SMOOTH) (pac_cons (pec_ty (cf_tuple B.good.toFits) rfl F.a21.n_tuple bo_tuple (pac_cons (pec_call (n := i_runs_of) fnr_cut B.room rfl F.a13.g_runs_of F.a18.k_runs_of B.pass (pac_cons (pec_var (i := 0) rfl (.inl rfl) rfl rfl) pac_nil)) pac_nil)) pac_nil))) (pec_tup (pac_cons (pec_gstr rfl F.a0.c_PATTERN) (pac_cons (pec_var (i := 1) rfl (.inl rfl) rfl rfl) pac_nil))))))))
theorem o_row_paper {M : Mo} {mg : Str → Option Value} {base : Heap} (F : Fc M mg base) (cl : Cl) : FnR M.P M.w M.K mg base (L2.CX M.P M.w) (5 + 1) (M.g i_row_paper) (spF M (C_row_paper cl)) := by
  obtain ⟨fd, D⟩ := F.a5.d_row_paper
  obtain ⟨oc, od, dV, kV, doc, pm, an, cdv, ct, osl, rfl, lk, hcd, hdv, _⟩ := D.ex
  have e0 : dV = Value.none := hdv.elim (fun h => h.2) fun h => absurd rfl h.1
  subst e0
  exact fn_code ⟨rfl, rfl, rfl⟩ lk hcd sc_row_paper rfl (Binds.all fun us h => match us, h with | [_], _ => rfl) fun A outer s H E B => b_row_paper F cl B
theorem sc_is_row_paper : FnScope ["row", "value", "is_plain", "place"] ["row", "value"] (defScope (top 89)) := ⟨rfl, rfl, rfl, by decide +kernel, rfl, by decide +kernel, by decide +kernel⟩
theorem b_is_row_paper {M : Mo} {mg : Str → Option Value} {base : Heap} (F : Fc M mg base) (cl : Cl) {A : Around} {outer : List Env} {s : Shared} {H : Hp} {E : XK} {f : Addr} {cd : Value} (B : Body (cxOf (L2.CX M.P M.w) M.P M.w M.K mg base ["row", "value", "is_plain", "place"] "is_row_paper" (defScope (top 89)) f cd A outer s H E) M E 5) : PSs (cxOf (L2.CX M.P M.w) M.P M.w M.K mg base ["row", "value", "is_plain", "place"] "is_row_paper" (defScope (top 89)) f cd A outer s H E) (defBody (top 89)) (tSt M cl E (S_is_row_paper)) := by
  have hN : (["row", "value", "is_plain", "place"] : List Str).Nodup := by decide
  have o_require_row := (o_require_row F cl).mono (show 5 ≤ 5 by decide)
  have o_is_within := (o_is_within F cl).mono (show 3 ≤ 5 by decide)
  exact (psc_cons (psc_expr (pec_call (n := i_require_row) o_require_row B.room rfl F.a12.g_require_row F.a18.k_require_row B.pass (pac_cons (pec_var (i := 0) rfl (.inr (.inl rfl)) rfl rfl) pac_nil))) (psc_cons (psc_if (ptc_of (pwc_or (ptc_not (ptc_val (pec_isi (cv := .ty "tuple") B.good (fun _ h => h) isi_tuple (pec_var (i := 1) rfl (.inl rfl) rfl rfl) (pe_bltn rfl F.a21.n_tuple bo_tuple rfl) rfl F.a20.n_isinstance bo_isinstance))) (pwc_or (ptc_cmp (ot_neG B.good) (pec_fn (cf_len B.good.toFits) rfl F.a20.n_len bo_len (pac_cons (pec_var (i := 1) rfl (.inl rfl) rfl rfl) pac_nil)) (pec_con pe_int fun _ _ => rfl) (nomark _)) (pwc_one_or (ptc_not (ptc_val (pec_isi (cv := .ty "str") B.good (fun _ h => h) isi_str (pec_ix B.good (pec_var (i := 1) rfl (.inl rfl) rfl rfl) (pec_con pe_int fun _ _ => rfl) (fun _ _ => rfl)) (pe_bltn rfl F.a20.n_str bo_str rfl) rfl F.a20.n_isinstance bo_isinstance))))))) (psc_one (psc_ret (pec_con pe_bl fun _ _ => rfl))) psc_nil) (psc_cons (psc_if (ptc_cmp (ot_eqG B.good) (pec_ix B.good (pec_var (i := 1) rfl (.inl rfl) rfl rfl) (pec_con pe_int fun _ _ => rfl) (fun _ _ => rfl)) (pec_gstr rfl F.a0.c_SMOOTH) (nomark _)) (psc_one (psc_ret (pec_and (pec_isN (pec_call (n := i_barred_places) fnr_cut B.room rfl F.a9.g_barred_places F.a14.k_barred_places B.pass (pac_cons (pec_var (i := 0) rfl (.inr (.inl rfl)) rfl rfl) pac_nil))) (pec_one (pec_call (n := i_is_numbers) fnr_cut B.room rfl F.a10.g_is_numbers F.a15.k_is_numbers B.pass (pac_cons (pec_ix B.good (pec_var (i := 1) rfl (.inl rfl) rfl rfl) (pec_con pe_int fun _ _ => rfl) (fun _ _ => rfl)) (pac_cons (pec_call (n := i_runs_of) fnr_cut B.room rfl F.a13.g_runs_of F.a18.k_runs_of B.pass (pac_cons (pec_var (i := 0) rfl (.inr (.inl rfl)) rfl rfl) pac_nil)) pac_nil))))))) psc_nil) (psc_cons (psc_if (ptc_of (pwc_or (ptc_cmp (ot_neG B.good) (pec_ix B.good (pec_var (i := 1) rfl (.inl rfl) rfl rfl) (pec_con pe_int fun _ _ => rfl) (fun _ _ => rfl)) (pec_gstr rfl F.a0.c_PATTERN) (nomark _)) (pwc_or (ptc_not (ptc_val (pec_isi (cv := .ty "tuple") B.good (fun _ h => h) isi_tuple (pec_ix B.good (pec_var (i := 1) rfl (.inl rfl) rfl rfl) (pec_con pe_int fun _ _ => rfl) (fun _ _ => rfl)) (pe_bltn rfl F.a21.n_tuple bo_tuple rfl) rfl F.a20.n_isinstance bo_isinstance))) (pwc_one_or (ptc_cmp (ots_nin B.good) (pec_ix B.good (pec_var (i := 1) rfl (.inl rfl) rfl rfl) (pec_con pe_int fun _ _ => rfl) (fun _ _ => rfl)) (pec_call (n := i_four_places) fnr_cut B.room rfl F.a9.g_four_places F.a15.k_four_places B.pass (pac_cons (pec_fn (cf_len B.good.toFits) rfl F.a20.n_len bo_len (pac_cons (pec_var (i := 0) rfl (.inr (.inl rfl)) rfl rfl) pac_nil)) pac_nil)) rfl))))) (psc_one (psc_ret (pec_con pe_bl fun _ _ => rfl))) psc_nil) (psc_cons (psc_set (i := 2) hN rfl (.inl rfl) (pec_fn (cf_all B.good.calm) rfl F.a19.n_all bo_all (pac_cons (pec_lc (own := [("place", 3)]) B.good hN (pic_seq B.good (pec_ix B.good (pec_var (i := 1) rfl (.inl rfl) rfl rfl) (pec_con pe_int fun _ _ => rfl) (fun _ _ => rfl))) (blkOk_by rfl) (fun _ _ _ _ _ => (pgw_name (i := 3) hN rfl (.inl rfl) (by decide))) (fun _ _ _ _ _ => ptsc_nil) (fun _ _ _ _ _ => (pec_call (n := i_is_within) o_is_within B.room rfl F.a11.g_is_within F.a16.k_is_within noPass (pac_cons (pec_var (i := 3) rfl (.inl rfl) rfl rfl) (pac_cons (pec_con pe_int fun _ _ => rfl) (pac_cons (pec_bin ob_sub (pec_fn (cf_len B.good.blk.toFits) rfl F.a20.n_len bo_len (pac_cons (pec_var (i := 0) rfl (.inr (.inl rfl)) rfl rfl) pac_nil)) (pec_con pe_int fun _ _ => rfl)) pac_nil)))))) pac_nil))) (psc_one (psc_ret (pec_and (pec_var (i := 2) rfl (.inl rfl) rfl rfl) (pec_one (pec_cmp (ots_in B.good) (pec_call (n := i_lies_as) fnr_cut B.room rfl F.a11.g_lies_as F.a17.k_lies_as B.pass (pac_cons (pec_lc (own := [("place", 3)]) B.good hN (pic_seq B.good (pec_ix B.good (pec_var (i := 1) rfl (.inl rfl) rfl rfl) (pec_con pe_int fun _ _ => rfl) (fun _ _ => rfl))) (blkOk_by rfl) (fun _ _ _ _ _ => (pgw_name (i := 3) hN rfl (.inl rfl) (by decide))) (fun _ _ _ _ _ => ptsc_nil) (fun _ _ _ _ _ => (pec_ix B.good.blk (pec_var (i := 0) rfl (.inr (.inl rfl)) rfl rfl) (pec_var (i := 3) rfl (.inl rfl) rfl rfl) (fun _ _ => rfl)))) pac_nil)) (pec_con (pe_glob (v := .ref (M.g i_BARRED)) rfl F.a8.g_BARRED rfl) F.a22.t_BARRED) rfl))))))))))
theorem o_is_row_paper {M : Mo} {mg : Str → Option Value} {base : Heap} (F : Fc M mg base) (cl : Cl) : FnR M.P M.w M.K mg base (L2.CX M.P M.w) (5 + 1) (M.g i_is_row_paper) (spF M (C_is_row_paper cl)) := by
  obtain ⟨fd, D⟩ := F.a3.d_is_row_paper
  obtain ⟨oc, od, dV, kV, doc, pm, an, cdv, ct, osl, rfl, lk, hcd, hdv, _⟩ := D.ex
  have e0 : dV = Value.none := hdv.elim (fun h => h.2) fun h => absurd rfl h.1
  subst e0
  exact fn_code ⟨rfl, rfl, rfl⟩ lk hcd sc_is_row_paper rfl (Binds.all fun us h => match us, h with | [_, _], _ => rfl) fun A outer s H E B => b_is_row_paper F cl B
theorem sc_System_ring : FnScope ["cls", "letters"] ["cls", "letters"] (defScope (mem 40 6)) := ⟨rfl, rfl, rfl, by decide +kernel, rfl, by decide +kernel, by decide +kernel⟩
theorem b_System_ring {M : Mo} {mg : Str → Option Value} {base : Heap} (F : Fc M mg base) (cl : Cl) {A : Around} {outer : List Env} {s : Shared} {H : Hp} {E : XK} {f : Addr} {cd : Value} (B : Body (cxOf (L2.CX M.P M.w) M.P M.w M.K mg base ["cls", "letters"] "System.ring" (defScope (mem 40 6)) f cd A outer s H E) M E 7) : PSs (cxOf (L2.CX M.P M.w) M.P M.w M.K mg base ["cls", "letters"] "System.ring" (defScope (mem 40 6)) f cd A outer s H E) (defBody (mem 40 6)) (tSt M cl E (S_System_ring)) := by
  have hN : (["cls", "letters"] : List Str).Nodup := by decide
  have o_is_within := (o_is_within F cl).mono (show 3 ≤ 7 by decide)
  have o_System___init__ := (o_System___init__ F cl).mono (show 6 ≤ 6 by decide)
  exact (psc_cons (psc_if (ptc_not (ptc_val (pec_call (n := i_is_within) o_is_within B.room rfl F.a11.g_is_within F.a16.k_is_within B.pass (pac_cons (pec_var (i := 1) rfl (.inl rfl) rfl rfl) (pac_cons (pec_con pe_int fun _ _ => rfl) (pac_cons (pec_gint rfl F.a0.c_MOST_RING) pac_nil)))))) (psc_one (psc_raiseV B.good B.takes F.a7.fl_InvalidNumber PySem.F.store_IndexError PySem.F.excBase_IndexError PySem.W.kxs_IndexError F.a22.su_InvalidNumber F.a21.n_super F.a8.g_InvalidNumber F.a13.k_InvalidNumber F.a22.ti_InvalidNumber (raises_own F.a6.es_InvalidNumber F.a6.et_InvalidNumber) rfl B.room (pec_var (i := 1) rfl (.inl rfl) rfl rfl))) psc_nil) (psc_one (psc_ret (pec_makeL (i := 0) (c0 := i_System) (nf := i_System___init__) F.a19.mk_System und_System_ok o_System___init__ B.room rfl (.inl rfl) B.pass (pac_cons (pec_var (i := 1) rfl (.inl rfl) rfl rfl) (pac_cons (pec_ite (ptc_cmp (ot_eqG B.good) (pec_var (i := 1) rfl (.inl rfl) rfl rfl) (pec_con pe_int fun _ _ => rfl) (nomark _)) (pec_tup (pac_cons (pec_tup (pac_cons (pec_con pe_int fun _ _ => rfl) (pac_cons (pec_con pe_int fun _ _ => rfl) (pac_cons (pec_con pe_int fun _ _ => rfl) pac_nil)))) pac_nil)) (pec_tup (pac_cons (pec_tup (pac_cons (pec_con pe_int fun _ _ => rfl) (pac_cons (pec_con pe_int fun _ _ => rfl) (pac_cons (pec_con pe_int fun _ _ => rfl) pac_nil)))) (pac_cons (pec_tup (pac_cons (pec_con pe_int fun _ _ => rfl) (pac_cons (pec_con pe_int fun _ _ => rfl) (pac_cons (pec_con pe_int fun _ _ => rfl) pac_nil)))) (pac_cons (pec_tup (pac_cons (pec_con pe_int fun _ _ => rfl) (pac_cons (pec_con pe_int fun _ _ => rfl) (pac_cons (pec_con pe_int fun _ _ => rfl) pac_nil)))) pac_nil))))) pac_nil))))))
theorem o_System_ring {M : Mo} {mg : Str → Option Value} {base : Heap} (F : Fc M mg base) (cl : Cl) : FnR M.P M.w M.K mg base (L2.CX M.P M.w) (7 + 1) (M.g i_System_ring) (spF M (C_System_ring cl)) := by
  obtain ⟨fd, D⟩ := F.a1.d_System_ring
  obtain ⟨oc, od, dV, kV, doc, pm, an, cdv, ct, osl, rfl, lk, hcd, hdv, _⟩ := D.ex
  have e0 : dV = Value.none := hdv.elim (fun h => h.2) fun h => absurd rfl h.1
  subst e0
  exact fn_code ⟨rfl, rfl, rfl⟩ lk hcd sc_System_ring rfl (Binds.all fun us h => match us, h with | [_, _], _ => rfl) fun A outer s H E B => b_System_ring F cl B
end K73
end
end

section
set_option maxRecDepth 100000
set_option maxHeartbeats 4000000
noncomputable section
namespace K73
open PySem PySem.Spec L2 Eng
open PyProof.Rows hiding St

theorem sc__law_met : FnScope ["_law_call", "error"] ["_law_call"] (defScope (top 94)) := ⟨rfl, rfl, rfl, by decide +kernel, rfl, by decide +kernel, by decide +kernel⟩
theorem met_ {M : Mo} {mg : Str → Option Value} {base : Heap} (F : Fc M mg base) {cl : Cl} {N : List Str} {qual : Str} {sc : Scope} {f : Addr} {cd : Value} {A : Around} {outer : List Env} {s : Shared} {H : Hp} {E : XK} {k : Nat} {c P : Addr} {C : Eng.Code} {params : Arguments} {body : Expr} {scope : Scope} {p lpos pos : Pos}
    (B : Body (cxOf (L2.CX M.P M.w) M.P M.w M.K mg base N qual sc f cd A outer s H E) M E (k + 2)) (hcode : cd = .ref c) (TB : LamX.TabB base mg c P) (hmT : (P, (cxOf (L2.CX M.P M.w) M.P M.w M.K mg base N qual sc f cd A outer s H E).env.qual ++ "<lambda>") ∈ M.tabs) (hu : ∀ p ∈ M.tabs, p.1 = P → p.2 = (cxOf (L2.CX M.P M.w) M.P M.w M.K mg base N qual sc f cd A outer s H E).env.qual ++ "<lambda>") (L : LamX.LamS (cxOf (L2.CX M.P M.w) M.P M.w M.K mg base N qual sc f cd A outer s H E).env.scope scope) (hdef : defaultsOf params (cxOf (L2.CX M.P M.w) M.P M.w M.K mg base N qual sc f cd A outer s H E).env = ([], []))
    (hbind : ∀ (q : Str) (cl : List (Str × Addr)) (pm cv ctv : Value), bindArgs (PySem.W.kla_fn "<lambda>" q params body scope cl pm cv ctv) ⟨[], []⟩ = pure [])
    (hbody : ∀ (A' : Around) (outer' : List Env) (s' : Shared) (H' : Hp) (E : XK) (f' c' : Addr), Room k (A'.deeper (LamX.lamEnv (cxOf (L2.CX M.P M.w) M.P M.w M.K mg base N qual sc f cd A outer s H E) scope s'.heap.objs.size f' c')) → PE (LamX.lamCx (cxOf (L2.CX M.P M.w) M.P M.w M.K mg base N qual sc f cd A outer s H E) A' outer' s' H' E scope f' c') body (tE M cl E C)) (hg : Gl (cxOf (L2.CX M.P M.w) M.P M.w M.K mg base N qual sc f cd A outer s H E) "_law_met" := by rfl) :
    PE (cxOf (L2.CX M.P M.w) M.P M.w M.K mg base N qual sc f cd A outer s H E) (.Call (.Name "_law_met" p) [.Lambda params body scope lpos] [] pos) (tE M cl E (cMet ctMet "told" C)) := by
  obtain ⟨fd, D⟩ := F.a2.d__law_met
  obtain ⟨oc, od, dV, kV, doc, pm, an, cdv, ct, osl, rfl, lk, hcdv, hdv, _⟩ := D.ex
  have e0 : dV = Value.none := hdv.elim (fun h => h.2) fun h => absurd rfl h.1
  subst e0
  subst hcode
  have hNm : (["_law_call", "error"] : List Str).Nodup := by decide
  exact pec_met (ct := ctMet) (i := 1) (Ng := ["_law_call", "error"]) rfl (by decide) F.a23.xm_met (all_cons (.inl rfl) (all_cons (.inl rfl) (all_cons (.inl rfl) (all_cons (.inl rfl) (all_cons (.inr F.a7.fl_TooMany) all_nil))))) (by decide) hg F.a9.g__law_met F.a14.k__law_met lk hcdv (Binds.all fun us h => match us, h with | [_], _ => rfl) sc__law_met rfl (.inl rfl) (fun _ => rfl) (fun s H => (.plain (x := "InvalidSystem") ⟨rfl, by decide, .inl F.a8.g_InvalidSystem⟩ (fun a oe cls d pn _ _ => pss_one (ps_ret (pe_tup (pa_cons pe_str (pa_cons pe_str pa_nil))))) (.plain (x := "InvalidWord") ⟨rfl, by decide, .inl F.a8.g_InvalidWord⟩ (fun a oe cls d pn _ _ => pss_one (ps_ret (pe_tup (pa_cons pe_str (pa_cons pe_str pa_nil))))) (.plain (x := "InvalidRow") ⟨rfl, by decide, .inl F.a8.g_InvalidRow⟩ (fun a oe cls d pn _ _ => pss_one (ps_ret (pe_tup (pa_cons pe_str (pa_cons pe_str pa_nil))))) (.plain (x := "InvalidOperation") ⟨rfl, by decide, .inl F.a8.g_InvalidOperation⟩ (fun a oe cls d pn _ _ => pss_one (ps_ret (pe_tup (pa_cons pe_str (pa_cons pe_str pa_nil))))) (.named (x := "TooMany") (n := "error") (i := 1) ⟨rfl, by decide, .inl F.a8.g_TooMany⟩ hNm rfl rfl (fun a oe cls d pn hz hf => pss_one (ps_ret (pe_tup (pa_cons pe_str (pa_cons pe_str (pa_cons (pe_xf F.a23.xf_TooMany F.a21.no_TooMany hz hf (pe_var (i := 1) rfl (.inl rfl) rfl rfl)) pa_nil)))))) .nil)))))) TB rfl hmT hu B.room L hdef hbind hbody
theorem sc__law_right : FnScope ["_law_crock_here", "_law_none", "_law_odd", "_law_row", "_law_call", "_law_due", "_law_told", "_law_bad", "_law_four"] ["_law_crock_here"] (defScope (top 95)) := ⟨rfl, rfl, rfl, by decide +kernel, rfl, by decide +kernel, by decide +kernel⟩
theorem b__law_right {M : Mo} {mg : Str → Option Value} {base : Heap} (F : Fc M mg base) (cl : Cl) {A : Around} {outer : List Env} {s : Shared} {H : Hp} {E : XK} {f : Addr} {cd : Value} {c P : Addr} (TB : LamX.TabB base mg c P) (hcode : cd = .ref c) (hmT : (P, ("_law_right.<locals>.<lambda>" : Str)) ∈ M.tabs) (hu : ∀ p ∈ M.tabs, p.1 = P → p.2 = ("_law_right.<locals>.<lambda>" : Str)) (B : Body (cxOf (L2.CX M.P M.w) M.P M.w M.K mg base ["_law_crock_here", "_law_none", "_law_odd", "_law_row", "_law_call", "_law_due", "_law_told", "_law_bad", "_law_four"] "_law_right" (defScope (top 95)) f cd A outer s H E) M E 118) : PSs (cxOf (L2.CX M.P M.w) M.P M.w M.K mg base ["_law_crock_here", "_law_none", "_law_odd", "_law_row", "_law_call", "_law_due", "_law_told", "_law_bad", "_law_four"] "_law_right" (defScope (top 95)) f cd A outer s H E) (defBody (top 95)) (tSt M cl E (S__law_right)) := by
  have hN : (["_law_crock_here", "_law_none", "_law_odd", "_law_row", "_law_call", "_law_due", "_law_told", "_law_bad", "_law_four"] : List Str).Nodup := by decide
  have ol__law_select := (o__law_select F cl).mono (show 3 ≤ 116 by decide)
  have o__law_select := (o__law_select F cl).mono (show 3 ≤ 118 by decide)
  have ol_System_rows := (o_System_rows F cl).mono (show 8 ≤ 116 by decide)
  have o_System_rows := (o_System_rows F cl).mono (show 8 ≤ 118 by decide)
  have ol_smooth_paper := (o_smooth_paper F cl).mono (show 16 ≤ 116 by decide)
  have o_smooth_paper := (o_smooth_paper F cl).mono (show 16 ≤ 118 by decide)
  have ol_worst_members := (o_worst_members F cl).mono (show 115 ≤ 116 by decide)
  have o_worst_members := (o_worst_members F cl).mono (show 115 ≤ 118 by decide)
  have ol_is_smooth := (o_is_smooth F cl).mono (show 13 ≤ 116 by decide)
  have o_is_smooth := (o_is_smooth F cl).mono (show 13 ≤ 118 by decide)
  have ol_mirrors_at := (o_mirrors_at F cl).mono (show 13 ≤ 116 by decide)
  have o_mirrors_at := (o_mirrors_at F cl).mono (show 13 ≤ 118 by decide)
  have ol_is_smooth_paper := (o_is_smooth_paper F cl).mono (show 13 ≤ 116 by decide)
  have o_is_smooth_paper := (o_is_smooth_paper F cl).mono (show 13 ≤ 118 by decide)
  have ol_row_paper := (o_row_paper F cl).mono (show 6 ≤ 116 by decide)
  have o_row_paper := (o_row_paper F cl).mono (show 6 ≤ 118 by decide)
  have ol_is_row_paper := (o_is_row_paper F cl).mono (show 6 ≤ 116 by decide)
  have o_is_row_paper := (o_is_row_paper F cl).mono (show 6 ≤ 118 by decide)
  exact (psc_cons (psc_set (i := 1) hN rfl (.inr rfl) (pec_call (n := i__law_select) o__law_select B.room rfl F.a9.g__law_select F.a14.k__law_select B.pass (pac_cons (pec_var (i := 0) rfl (.inl rfl) rfl rfl) (pac_cons (pec_lst (pac_cons (pec_con pe_non fun _ _ => rfl) (pac_cons (pec_con pe_int fun _ _ => rfl) (pac_cons (pec_tup (pac_cons (pec_con pe_int fun _ _ => rfl) (pac_cons (pec_tup pac_nil) pac_nil))) (pac_cons (pec_con pe_str fun _ _ => rfl) (pac_cons (pec_lst pac_nil) (pac_cons (pec_dict0 B.good.toFits) (pac_cons (pec_con pe_bl fun _ _ => rfl) pac_nil)))))))) pac_nil)))) (psc_cons (psc_set (i := 2) hN rfl (.inr rfl) (pec_lst (pac_cons (pec_con pe_non fun _ _ => rfl) (pac_cons (pec_con pe_int fun _ _ => rfl) (pac_cons (pec_con pe_str fun _ _ => rfl) (pac_cons (pec_lst (pac_cons (pec_con pe_int fun _ _ => rfl) (pac_cons (pec_con pe_int fun _ _ => rfl) pac_nil))) (pac_cons (pec_tup (pac_cons (pec_con pe_int fun _ _ => rfl) pac_nil)) (pac_cons (pec_tup (pac_cons (pec_con pe_int fun _ _ => rfl) (pac_cons (pec_neg (pec_con pe_int fun _ _ => rfl)) pac_nil))) (pac_cons (pec_tup (pac_cons (pec_con pe_bl fun _ _ => rfl) pac_nil)) (pac_cons (pec_tup (pac_cons (pec_con pe_non fun _ _ => rfl) pac_nil)) (pac_cons (pec_tup (pac_cons (pec_con pe_str fun _ _ => rfl) pac_nil)) (pac_cons (pec_bin (opb_mulS B.good.K) (pec_tup (pac_cons (pec_con pe_int fun _ _ => rfl) pac_nil)) (pec_con pe_int fun _ _ => rfl)) (pac_cons (pec_tup (pac_cons (pec_tup (pac_cons (pec_con pe_int fun _ _ => rfl) pac_nil)) pac_nil)) (pac_cons (pec_tup (pac_cons (pec_bin ob_pow (pec_con pe_int fun _ _ => rfl) (pec_con pe_int fun _ _ => rfl)) pac_nil)) (pac_cons (pec_dict0 B.good.toFits) pac_nil))))))))))))))) (psc_cons (psc_asg (pec_tup (pac_cons (pec_call (n := i__law_select) o__law_select B.room rfl F.a9.g__law_select F.a14.k__law_select B.pass (pac_cons (pec_var (i := 0) rfl (.inl rfl) rfl rfl) (pac_cons (pec_var (i := 2) rfl (.inr (.inl rfl)) rfl rfl) pac_nil))) (pac_cons (pec_call (n := i__law_select) o__law_select B.room rfl F.a9.g__law_select F.a14.k__law_select B.pass (pac_cons (pec_var (i := 0) rfl (.inl rfl) rfl rfl) (pac_cons (pec_lst (pac_cons (pec_con pe_non fun _ _ => rfl) (pac_cons (pec_con pe_int fun _ _ => rfl) (pac_cons (pec_lst (pac_cons (pec_con pe_int fun _ _ => rfl) pac_nil)) (pac_cons (pec_tup (pac_cons (pec_con pe_int fun _ _ => rfl) (pac_cons (pec_con pe_int fun _ _ => rfl) pac_nil))) (pac_cons (pec_tup (pac_cons (pec_con pe_bl fun _ _ => rfl) pac_nil)) (pac_cons (pec_tup (pac_cons (pec_con pe_int fun _ _ => rfl) (pac_cons (pec_con pe_non fun _ _ => rfl) pac_nil))) (pac_cons (pec_con pe_str fun _ _ => rfl) (pac_cons (pec_bin (opb_mulS B.good.K) (pec_tup (pac_cons (pec_con pe_int fun _ _ => rfl) pac_nil)) (pec_con pe_int fun _ _ => rfl)) pac_nil))))))))) pac_nil))) pac_nil))) (pgc_tup B.good (pgsc_cons (pgc_name (i := 2) hN rfl (.inr rfl)) (pgsc_cons (pgc_name (i := 7) hN rfl (.inr rfl)) pgsc_nil)))) (psc_cons (psc_set (i := 3) hN rfl (.inr rfl) (pec_lst (pac_cons (pec_con pe_non fun _ _ => rfl) (pac_cons (pec_con pe_int fun _ _ => rfl) (pac_cons (pec_con pe_str fun _ _ => rfl) (pac_cons (pec_lst (pac_cons (pec_con pe_int fun _ _ => rfl) (pac_cons (pec_con pe_int fun _ _ => rfl) pac_nil))) (pac_cons (pec_tup (pac_cons (pec_con pe_int fun _ _ => rfl) pac_nil)) (pac_cons (pec_tup pac_nil) (pac_cons (pec_tup (pac_cons (pec_con pe_int fun _ _ => rfl) (pac_cons (pec_con pe_int fun _ _ => rfl) pac_nil))) (pac_cons (pec_tup (pac_cons (pec_con pe_int fun _ _ => rfl) (pac_cons (pec_con pe_int fun _ _ => rfl) pac_nil))) (pac_cons (pec_tup (pac_cons (pec_con pe_int fun _ _ => rfl) (pac_cons (pec_con pe_int fun _ _ => rfl) pac_nil))) (pac_cons (pec_tup (pac_cons (pec_con pe_bl fun _ _ => rfl) (pac_cons (pec_con pe_int fun _ _ => rfl) pac_nil))) (pac_cons (pec_tup (pac_cons (pec_con pe_int fun _ _ => rfl) (pac_cons (pec_con pe_int fun _ _ => rfl) (pac_cons (pec_con pe_int fun _ _ => rfl) (pac_cons (pec_con pe_int fun _ _ => rfl) (pac_cons (pec_con pe_int fun _ _ => rfl) (pac_cons (pec_con pe_int fun _ _ => rfl) pac_nil))))))) (pac_cons (pec_tup (pac_cons (pec_neg (pec_con pe_int fun _ _ => rfl)) (pac_cons (pec_con pe_int fun _ _ => rfl) pac_nil))) (pac_cons (pec_tup (pac_cons (pec_con pe_int fun _ _ => rfl) (pac_cons (pec_con pe_str fun _ _ => rfl) pac_nil))) pac_nil))))))))))))))) (psc_cons (psc_set (i := 3) hN rfl (.inr rfl) (pec_call (n := i__law_select) o__law_select B.room rfl F.a9.g__law_select F.a14.k__law_select B.pass (pac_cons (pec_var (i := 0) rfl (.inl rfl) rfl rfl) (pac_cons (pec_var (i := 3) rfl (.inr (.inl rfl)) rfl rfl) pac_nil)))) (psc_cons (psc_asg (pec_tup (pac_cons (pec_cmeth (c0 := i_System) (n := i_System_rows) (pe_glob (v := .ref (M.g i_System)) rfl F.a8.g_System rfl) F.a1.cr_System F.a1.cm_System_rows o_System_rows B.room B.pass (pac_cons (pec_con pe_int fun _ _ => rfl) pac_nil)) (pac_cons (pec_lstO pac_nil) pac_nil))) (pgc_tup B.good (pgsc_cons (pgc_name (i := 8) hN rfl (.inr rfl)) (pgsc_cons (pgc_name (i := 6) hN rfl (.inl rfl)) pgsc_nil)))) (psc_cons (psc_for B.good B.own (pic_seq B.good (pec_tup (pac_cons (pec_con (pe_glob (v := .ref (M.g i_smooth_paper)) rfl F.a13.g_smooth_paper rfl) fun _ _ => rfl) (pac_cons (pec_con (pe_glob (v := .ref (M.g i_worst_members)) rfl F.a13.g_worst_members rfl) fun _ _ => rfl) pac_nil)))) (pgc_name (i := 4) hN rfl (.inr rfl)) (psc_cons (psc_expr (pec_mtL PySem.F.plainAttrs_list PySem.F.slot_list_append PySem.F.type_list_append mtm_append (pec_var (i := 6) rfl (.inl rfl) rfl rfl) (pac_cons (met_ F B hcode TB hmT hu (LamX.lamS_by rfl) rfl (fun _ _ _ _ _ => rfl) (fun _ _ _ _ _ _ _ hr => (pec_callL (i := 4) (all_cons ⟨ol_smooth_paper, F.a18.k_smooth_paper⟩ (all_cons ⟨ol_worst_members, F.a18.k_worst_members⟩ all_nil)) hr rfl (.inr (.inr rfl)) passL (pac_cons (pec_var (i := 1) rfl (.inr (.inr rfl)) rfl rfl) (pac_cons (pec_var (i := 2) rfl (.inr (.inr rfl)) rfl rfl) pac_nil))))) pac_nil))) (psc_one (psc_expr (pec_mtL PySem.F.plainAttrs_list PySem.F.slot_list_append PySem.F.type_list_append mtm_append (pec_var (i := 6) rfl (.inl rfl) rfl rfl) (pac_cons (met_ F B hcode TB hmT hu (LamX.lamS_by rfl) rfl (fun _ _ _ _ _ => rfl) (fun _ _ _ _ _ _ _ hr => (pec_callL (i := 4) (all_cons ⟨ol_smooth_paper, F.a18.k_smooth_paper⟩ (all_cons ⟨ol_worst_members, F.a18.k_worst_members⟩ all_nil)) hr rfl (.inr (.inr rfl)) passL (pac_cons (pec_var (i := 8) rfl (.inr (.inr rfl)) rfl rfl) (pac_cons (pec_var (i := 2) rfl (.inr (.inr rfl)) rfl rfl) pac_nil))))) pac_nil)))))) (psc_cons (psc_expr (pec_mtL PySem.F.plainAttrs_list PySem.F.slot_list_append PySem.F.type_list_append mtm_append (pec_var (i := 6) rfl (.inl rfl) rfl rfl) (pac_cons (met_ F B hcode TB hmT hu (LamX.lamS_by rfl) rfl (fun _ _ _ _ _ => rfl) (fun _ _ _ _ _ _ _ hr => (pec_call (n := i_is_smooth) ol_is_smooth hr rfl F.a10.g_is_smooth F.a16.k_is_smooth passL (pac_cons (pec_var (i := 1) rfl (.inr (.inr rfl)) rfl rfl) (pac_cons (pec_var (i := 2) rfl (.inr (.inr rfl)) rfl rfl) pac_nil))))) pac_nil))) (psc_cons (psc_expr (pec_mtL PySem.F.plainAttrs_list PySem.F.slot_list_append PySem.F.type_list_append mtm_append (pec_var (i := 6) rfl (.inl rfl) rfl rfl) (pac_cons (met_ F B hcode TB hmT hu (LamX.lamS_by rfl) rfl (fun _ _ _ _ _ => rfl) (fun _ _ _ _ _ _ _ hr => (pec_call (n := i_is_smooth) ol_is_smooth hr rfl F.a10.g_is_smooth F.a16.k_is_smooth passL (pac_cons (pec_var (i := 8) rfl (.inr (.inr rfl)) rfl rfl) (pac_cons (pec_var (i := 2) rfl (.inr (.inr rfl)) rfl rfl) pac_nil))))) pac_nil))) (psc_cons (psc_expr (pec_mtL PySem.F.plainAttrs_list PySem.F.slot_list_append PySem.F.type_list_append mtm_append (pec_var (i := 6) rfl (.inl rfl) rfl rfl) (pac_cons (met_ F B hcode TB hmT hu (LamX.lamS_by rfl) rfl (fun _ _ _ _ _ => rfl) (fun _ _ _ _ _ _ _ hr => (pec_call (n := i_mirrors_at) ol_mirrors_at hr rfl F.a12.g_mirrors_at F.a17.k_mirrors_at passL (pac_cons (pec_var (i := 1) rfl (.inr (.inr rfl)) rfl rfl) (pac_cons (pec_var (i := 2) rfl (.inr (.inr rfl)) rfl rfl) (pac_cons (pec_var (i := 7) rfl (.inr (.inr rfl)) rfl rfl) pac_nil)))))) pac_nil))) (psc_cons (psc_expr (pec_mtL PySem.F.plainAttrs_list PySem.F.slot_list_append PySem.F.type_list_append mtm_append (pec_var (i := 6) rfl (.inl rfl) rfl rfl) (pac_cons (met_ F B hcode TB hmT hu (LamX.lamS_by rfl) rfl (fun _ _ _ _ _ => rfl) (fun _ _ _ _ _ _ _ hr => (pec_call (n := i_mirrors_at) ol_mirrors_at hr rfl F.a12.g_mirrors_at F.a17.k_mirrors_at passL (pac_cons (pec_var (i := 8) rfl (.inr (.inr rfl)) rfl rfl) (pac_cons (pec_var (i := 2) rfl (.inr (.inr rfl)) rfl rfl) (pac_cons (pec_var (i := 7) rfl (.inr (.inr rfl)) rfl rfl) pac_nil)))))) pac_nil))) (psc_cons (psc_expr (pec_mtL PySem.F.plainAttrs_list PySem.F.slot_list_append PySem.F.type_list_append mtm_append (pec_var (i := 6) rfl (.inl rfl) rfl rfl) (pac_cons (met_ F B hcode TB hmT hu (LamX.lamS_by rfl) rfl (fun _ _ _ _ _ => rfl) (fun _ _ _ _ _ _ _ hr => (pec_call (n := i_mirrors_at) ol_mirrors_at hr rfl F.a12.g_mirrors_at F.a17.k_mirrors_at passL (pac_cons (pec_var (i := 8) rfl (.inr (.inr rfl)) rfl rfl) (pac_cons (pec_tup (pac_cons (pec_con pe_int fun _ _ => rfl) (pac_cons (pec_con pe_int fun _ _ => rfl) pac_nil))) (pac_cons (pec_var (i := 7) rfl (.inr (.inr rfl)) rfl rfl) pac_nil)))))) pac_nil))) (psc_cons (psc_expr (pec_mtL PySem.F.plainAttrs_list PySem.F.slot_list_append PySem.F.type_list_append mtm_append (pec_var (i := 6) rfl (.inl rfl) rfl rfl) (pac_cons (met_ F B hcode TB hmT hu (LamX.lamS_by rfl) rfl (fun _ _ _ _ _ => rfl) (fun _ _ _ _ _ _ _ hr => (pec_call (n := i_mirrors_at) ol_mirrors_at hr rfl F.a12.g_mirrors_at F.a17.k_mirrors_at passL (pac_cons (pec_var (i := 8) rfl (.inr (.inr rfl)) rfl rfl) (pac_cons (pec_tup (pac_cons (pec_con pe_int fun _ _ => rfl) (pac_cons (pec_con pe_int fun _ _ => rfl) pac_nil))) (pac_cons (pec_tup (pac_cons (pec_con pe_int fun _ _ => rfl) (pac_cons (pec_con pe_int fun _ _ => rfl) pac_nil))) pac_nil)))))) pac_nil))) (psc_cons (psc_set (i := 5) hN rfl (.inl rfl) (pec_bin (opb_addS B.good) (pec_bin (opb_mulS B.good.K) (pec_lst (pac_cons (pec_tup (pac_cons (pec_con pe_str fun _ _ => rfl) (pac_cons (pec_con pe_str fun _ _ => rfl) pac_nil))) (pac_cons (pec_tup (pac_cons (pec_con pe_str fun _ _ => rfl) (pac_cons (pec_con pe_str fun _ _ => rfl) pac_nil))) pac_nil))) (pec_con pe_int fun _ _ => rfl)) (pec_lst (pac_cons (pec_tup (pac_cons (pec_con pe_str fun _ _ => rfl) (pac_cons (pec_con pe_str fun _ _ => rfl) pac_nil))) (pac_cons (pec_tup (pac_cons (pec_con pe_str fun _ _ => rfl) (pac_cons (pec_con pe_bl fun _ _ => rfl) pac_nil))) pac_nil))))) (psc_cons (psc_if (ptc_cmp (ot_neG B.good) (pec_var (i := 6) rfl (.inl rfl) rfl rfl) (pec_bin (opb_addS B.good) (pec_var (i := 5) rfl (.inl rfl) rfl rfl) (pec_lst (pac_cons (pec_tup (pac_cons (pec_con pe_str fun _ _ => rfl) (pac_cons (pec_con pe_str fun _ _ => rfl) pac_nil))) (pac_cons (pec_tup (pac_cons (pec_con pe_str fun _ _ => rfl) (pac_cons (pec_con pe_str fun _ _ => rfl) pac_nil))) (pac_cons (pec_tup (pac_cons (pec_con pe_str fun _ _ => rfl) (pac_cons (pec_con pe_str fun _ _ => rfl) pac_nil))) (pac_cons (pec_tup (pac_cons (pec_con pe_str fun _ _ => rfl) (pac_cons (pec_con pe_str fun _ _ => rfl) pac_nil))) pac_nil)))))) (nomark _)) (psc_one (psc_ret (pec_con pe_bl fun _ _ => rfl))) psc_nil) (psc_cons (psc_set (i := 6) hN rfl (.inl rfl) (pec_lstO (pac_cons (met_ F B hcode TB hmT hu (LamX.lamS_by rfl) rfl (fun _ _ _ _ _ => rfl) (fun _ _ _ _ _ _ _ hr => (pec_call (n := i_is_smooth_paper) ol_is_smooth_paper hr rfl F.a11.g_is_smooth_paper F.a16.k_is_smooth_paper passL (pac_cons (pec_var (i := 1) rfl (.inr (.inr rfl)) rfl rfl) (pac_cons (pec_var (i := 2) rfl (.inr (.inr rfl)) rfl rfl) (pac_cons (pec_con pe_non fun _ _ => rfl) pac_nil)))))) pac_nil))) (psc_cons (psc_expr (pec_mtL PySem.F.plainAttrs_list PySem.F.slot_list_append PySem.F.type_list_append mtm_append (pec_var (i := 6) rfl (.inl rfl) rfl rfl) (pac_cons (met_ F B hcode TB hmT hu (LamX.lamS_by rfl) rfl (fun _ _ _ _ _ => rfl) (fun _ _ _ _ _ _ _ hr => (pec_call (n := i_is_smooth_paper) ol_is_smooth_paper hr rfl F.a11.g_is_smooth_paper F.a16.k_is_smooth_paper passL (pac_cons (pec_var (i := 8) rfl (.inr (.inr rfl)) rfl rfl) (pac_cons (pec_var (i := 2) rfl (.inr (.inr rfl)) rfl rfl) (pac_cons (pec_con pe_non fun _ _ => rfl) pac_nil)))))) pac_nil))) (psc_cons (psc_expr (pec_mtL PySem.F.plainAttrs_list PySem.F.slot_list_append PySem.F.type_list_append mtm_append (pec_var (i := 6) rfl (.inl rfl) rfl rfl) (pac_cons (met_ F B hcode TB hmT hu (LamX.lamS_by rfl) rfl (fun _ _ _ _ _ => rfl) (fun _ _ _ _ _ _ _ hr => (pec_call (n := i_is_smooth_paper) ol_is_smooth_paper hr rfl F.a11.g_is_smooth_paper F.a16.k_is_smooth_paper passL (pac_cons (pec_var (i := 8) rfl (.inr (.inr rfl)) rfl rfl) (pac_cons (pec_tup (pac_cons (pec_con pe_int fun _ _ => rfl) pac_nil)) (pac_cons (pec_var (i := 2) rfl (.inr (.inr rfl)) rfl rfl) pac_nil)))))) pac_nil))) (psc_cons (psc_expr (pec_mtL PySem.F.plainAttrs_list PySem.F.slot_list_append PySem.F.type_list_append mtm_append (pec_var (i := 6) rfl (.inl rfl) rfl rfl) (pac_cons (met_ F B hcode TB hmT hu (LamX.lamS_by rfl) rfl (fun _ _ _ _ _ => rfl) (fun _ _ _ _ _ _ _ hr => (pec_call (n := i_row_paper) ol_row_paper hr rfl F.a13.g_row_paper F.a18.k_row_paper passL (pac_cons (pec_var (i := 3) rfl (.inr (.inr rfl)) rfl rfl) pac_nil)))) pac_nil))) (psc_cons (psc_expr (pec_mtL PySem.F.plainAttrs_list PySem.F.slot_list_append PySem.F.type_list_append mtm_append (pec_var (i := 6) rfl (.inl rfl) rfl rfl) (pac_cons (met_ F B hcode TB hmT hu (LamX.lamS_by rfl) rfl (fun _ _ _ _ _ => rfl) (fun _ _ _ _ _ _ _ hr => (pec_call (n := i_is_row_paper) ol_is_row_paper hr rfl F.a10.g_is_row_paper F.a16.k_is_row_paper passL (pac_cons (pec_var (i := 3) rfl (.inr (.inr rfl)) rfl rfl) (pac_cons (pec_con pe_non fun _ _ => rfl) pac_nil))))) pac_nil))) (psc_cons (psc_expr (pec_mtL PySem.F.plainAttrs_list PySem.F.slot_list_append PySem.F.type_list_append mtm_append (pec_var (i := 6) rfl (.inl rfl) rfl rfl) (pac_cons (met_ F B hcode TB hmT hu (LamX.lamS_by rfl) rfl (fun _ _ _ _ _ => rfl) (fun _ _ _ _ _ _ _ hr => (pec_call (n := i_is_row_paper) ol_is_row_paper hr rfl F.a10.g_is_row_paper F.a16.k_is_row_paper passL (pac_cons (pec_tup (pac_cons (pec_con pe_int fun _ _ => rfl) (pac_cons (pec_con pe_int fun _ _ => rfl) pac_nil))) (pac_cons (pec_var (i := 2) rfl (.inr (.inr rfl)) rfl rfl) pac_nil))))) pac_nil))) (psc_cons (psc_set (i := 5) hN rfl (.inl rfl) (pec_lst (pac_cons (pec_tup (pac_cons (pec_con pe_str fun _ _ => rfl) (pac_cons (pec_con pe_str fun _ _ => rfl) pac_nil))) (pac_cons (pec_tup (pac_cons (pec_con pe_str fun _ _ => rfl) (pac_cons (pec_con pe_str fun _ _ => rfl) pac_nil))) (pac_cons (pec_tup (pac_cons (pec_con pe_str fun _ _ => rfl) (pac_cons (pec_con pe_bl fun _ _ => rfl) pac_nil))) pac_nil))))) (psc_one (psc_ret (pec_cmp (ot_eqG B.good) (pec_var (i := 6) rfl (.inl rfl) rfl rfl) (pec_bin (opb_addS B.good) (pec_var (i := 5) rfl (.inl rfl) rfl rfl) (pec_lst (pac_cons (pec_tup (pac_cons (pec_con pe_str fun _ _ => rfl) (pac_cons (pec_con pe_str fun _ _ => rfl) pac_nil))) (pac_cons (pec_tup (pac_cons (pec_con pe_str fun _ _ => rfl) (pac_cons (pec_con pe_str fun _ _ => rfl) pac_nil))) (pac_cons (pec_tup (pac_cons (pec_con pe_str fun _ _ => rfl) (pac_cons (pec_con pe_bl fun _ _ => rfl) pac_nil))) pac_nil))))) (nomark _))))))))))))))))))))))))))
theorem o__law_right {M : Mo} {mg : Str → Option Value} {base : Heap} (F : Fc M mg base) (cl : Cl) : FnR M.P M.w M.K mg base (L2.CX M.P M.w) (118 + 1) (M.g i__law_right) (spF M (C__law_right cl)) := by
  obtain ⟨fd, D⟩ := F.a2.d__law_right
  obtain ⟨c, P, hcode, TB, hmT, hu⟩ := F.a22.tb__law_right fd D
  obtain ⟨oc, od, dV, kV, doc, pm, an, cdv, ct, osl, rfl, lk, hcd, hdv, _⟩ := D.ex
  have e0 : dV = Value.none := hdv.elim (fun h => h.2) fun h => absurd rfl h.1
  subst e0
  exact fn_code ⟨rfl, rfl, rfl⟩ lk hcd sc__law_right rfl (Binds.all fun us h => match us, h with | [_], _ => rfl) fun A outer s H E B => b__law_right F cl TB hcode hmT hu B
end K73
end
end

section
set_option maxRecDepth 100000
set_option maxHeartbeats 4000000
noncomputable section
namespace K73
open PySem PySem.Spec L2 Eng
open PyProof.Rows hiding St

theorem sc_law : FnScope ["_law_script", "_law_spot", "_law_told", "_law_crock_here", "_law_ring", "_law_far"] ["_law_script"] (defScope (top 96)) := ⟨rfl, rfl, rfl, by decide +kernel, rfl, by decide +kernel, by decide +kernel⟩
theorem b_law {M : Mo} {mg : Str → Option Value} {base : Heap} (F : Fc M mg base) (cl : Cl) {zs : List Int} (hz : ((0 : Nat), zs) ∈ M.outs) (hzl : zs.length ≤ 16777216) {A : Around} {outer : List Env} {s : Shared} {H : Hp} {E : XK} {f : Addr} {cd : Value} {c P : Addr} (TB : LamX.TabB base mg c P) (hcode : cd = .ref c) (hmT : (P, ("law.<locals>.<lambda>" : Str)) ∈ M.tabs) (hu : ∀ p ∈ M.tabs, p.1 = P → p.2 = ("law.<locals>.<lambda>" : Str)) (B : Body (cxOf (L2.CX M.P M.w) M.P M.w M.K mg base ["_law_script", "_law_spot", "_law_told", "_law_crock_here", "_law_ring", "_law_far"] "law" (defScope (top 96)) f cd A outer s H E) M E 122) : PSs (cxOf (L2.CX M.P M.w) M.P M.w M.K mg base ["_law_script", "_law_spot", "_law_told", "_law_crock_here", "_law_ring", "_law_far"] "law" (defScope (top 96)) f cd A outer s H E) (defBody (top 96)) (tSt M cl E (S_law zs)) := by
  have hN : (["_law_script", "_law_spot", "_law_told", "_law_crock_here", "_law_ring", "_law_far"] : List Str).Nodup := by decide
  have ol__law_crock := (o__law_crock F cl hz hzl).mono (show 2 ≤ 120 by decide)
  have o__law_crock := (o__law_crock F cl hz hzl).mono (show 2 ≤ 122 by decide)
  have ol__law_right := (o__law_right F cl).mono (show 119 ≤ 120 by decide)
  have o__law_right := (o__law_right F cl).mono (show 119 ≤ 122 by decide)
  have ol_System_ring := (o_System_ring F cl).mono (show 8 ≤ 120 by decide)
  have o_System_ring := (o_System_ring F cl).mono (show 8 ≤ 122 by decide)
  have ol_is_smooth := (o_is_smooth F cl).mono (show 13 ≤ 120 by decide)
  have o_is_smooth := (o_is_smooth F cl).mono (show 13 ≤ 122 by decide)
  have ol_smooth_paper := (o_smooth_paper F cl).mono (show 16 ≤ 120 by decide)
  have o_smooth_paper := (o_smooth_paper F cl).mono (show 16 ≤ 122 by decide)
  have ol_is_smooth_paper := (o_is_smooth_paper F cl).mono (show 13 ≤ 120 by decide)
  have o_is_smooth_paper := (o_is_smooth_paper F cl).mono (show 13 ≤ 122 by decide)
  have ol_worst_members := (o_worst_members F cl).mono (show 115 ≤ 120 by decide)
  have o_worst_members := (o_worst_members F cl).mono (show 115 ≤ 122 by decide)
  have ol_mirrors_at := (o_mirrors_at F cl).mono (show 13 ≤ 120 by decide)
  have o_mirrors_at := (o_mirrors_at F cl).mono (show 13 ≤ 122 by decide)
  exact (psc_cons (psc_for B.good B.own (pic_r1 rfl F.a20.n_range (pac_cons (pec_fn (cf_max2 B.good.calm) rfl F.a20.n_max bo_max (pac_cons (pec_con pe_int fun _ _ => rfl) (pac_cons (pec_fn (cf_min2 B.good.calm) rfl F.a20.n_min bo_min (pac_cons (pec_con pe_int fun _ _ => rfl) (pac_cons (pec_fn (cf_lenO B.good.toFits hz) rfl F.a20.n_len bo_len (pac_cons (pec_var (i := 0) rfl (.inl rfl) rfl rfl) pac_nil)) pac_nil))) pac_nil))) pac_nil)) (pgc_name (i := 1) hN rfl (.inl rfl)) (psc_fr (psc_cons (psc_set (i := 3) hN rfl (.inl rfl) (pec_call (n := i__law_crock) o__law_crock B.room rfl F.a8.g__law_crock F.a14.k__law_crock B.pass (pac_cons (pec_var (i := 0) rfl (.inl rfl) rfl rfl) (pac_cons (pec_var (i := 1) rfl (.inl rfl) rfl rfl) pac_nil)))) (psc_one (psc_if (ptc_of (pwc_or (ptc_not (ptc_val (pec_gc (pec_call (n := i__law_right) o__law_right B.room rfl F.a9.g__law_right F.a14.k__law_right B.pass (pac_cons (pec_var (i := 3) rfl (.inl rfl) rfl rfl) pac_nil))))) (pwc_one_or (ptc_not (ptc_val (pec_gc (pec_call (n := i__law_right) o__law_right B.room rfl F.a9.g__law_right F.a14.k__law_right B.pass (pac_cons (pec_var (i := 3) rfl (.inl rfl) rfl rfl) pac_nil)))))))) (psc_one (psc_ret (pec_con pe_bl fun _ _ => rfl))) psc_nil))))) (psc_cons (psc_asg (pec_tup (pac_cons (pec_cmeth (c0 := i_System) (n := i_System_ring) (pe_glob (v := .ref (M.g i_System)) rfl F.a8.g_System rfl) F.a1.cr_System F.a0.cm_System_ring o_System_ring B.room B.pass (pac_cons (pec_con pe_int fun _ _ => rfl) pac_nil)) (pac_cons (pec_bin (opb_mulS B.good.K) (pec_tup (pac_cons (pec_con pe_int fun _ _ => rfl) (pac_cons (pec_con pe_int fun _ _ => rfl) (pac_cons (pec_con pe_int fun _ _ => rfl) pac_nil)))) (pec_con pe_int fun _ _ => rfl)) pac_nil))) (pgc_tup B.good (pgsc_cons (pgc_name (i := 4) hN rfl (.inr rfl)) (pgsc_cons (pgc_name (i := 5) hN rfl (.inr rfl)) pgsc_nil)))) (psc_cons (psc_set (i := 2) hN rfl (.inl rfl) (pec_lstO (pac_cons (pec_tr (met_ F B hcode TB hmT hu (LamX.lamS_by rfl) rfl (fun _ _ _ _ _ => rfl) (fun _ _ _ _ _ _ _ hr => (pec_call (n := i_is_smooth) ol_is_smooth hr rfl F.a10.g_is_smooth F.a16.k_is_smooth passL (pac_cons (pec_var (i := 4) rfl (.inr (.inr rfl)) rfl rfl) (pac_cons (pec_var (i := 5) rfl (.inr (.inr rfl)) rfl rfl) pac_nil)))))) pac_nil))) (psc_cons (psc_expr (pec_mtL PySem.F.plainAttrs_list PySem.F.slot_list_append PySem.F.type_list_append mtm_append (pec_var (i := 2) rfl (.inl rfl) rfl rfl) (pac_cons (pec_tr (met_ F B hcode TB hmT hu (LamX.lamS_by rfl) rfl (fun _ _ _ _ _ => rfl) (fun _ _ _ _ _ _ _ hr => (pec_call (n := i_smooth_paper) ol_smooth_paper hr rfl F.a13.g_smooth_paper F.a18.k_smooth_paper passL (pac_cons (pec_var (i := 4) rfl (.inr (.inr rfl)) rfl rfl) (pac_cons (pec_var (i := 5) rfl (.inr (.inr rfl)) rfl rfl) pac_nil)))))) pac_nil))) (psc_cons (psc_expr (pec_mtL PySem.F.plainAttrs_list PySem.F.slot_list_append PySem.F.type_list_append mtm_append (pec_var (i := 2) rfl (.inl rfl) rfl rfl) (pac_cons (pec_tr (met_ F B hcode TB hmT hu (LamX.lamS_by rfl) rfl (fun _ _ _ _ _ => rfl) (fun _ _ _ _ _ _ _ hr => (pec_call (n := i_is_smooth_paper) ol_is_smooth_paper hr rfl F.a11.g_is_smooth_paper F.a16.k_is_smooth_paper passL (pac_cons (pec_var (i := 4) rfl (.inr (.inr rfl)) rfl rfl) (pac_cons (pec_var (i := 5) rfl (.inr (.inr rfl)) rfl rfl) (pac_cons (pec_tup (pac_cons (pec_con pe_str fun _ _ => rfl) (pac_cons (pec_tup (pac_cons (pec_con pe_int fun _ _ => rfl) pac_nil)) pac_nil))) pac_nil))))))) pac_nil))) (psc_cons (psc_expr (pec_mtL PySem.F.plainAttrs_list PySem.F.slot_list_append PySem.F.type_list_append mtm_append (pec_var (i := 2) rfl (.inl rfl) rfl rfl) (pac_cons (pec_tr (met_ F B hcode TB hmT hu (LamX.lamS_by rfl) rfl (fun _ _ _ _ _ => rfl) (fun _ _ _ _ _ _ _ hr => (pec_call (n := i_worst_members) ol_worst_members hr rfl F.a13.g_worst_members F.a18.k_worst_members passL (pac_cons (pec_var (i := 4) rfl (.inr (.inr rfl)) rfl rfl) (pac_cons (pec_var (i := 5) rfl (.inr (.inr rfl)) rfl rfl) pac_nil)))))) pac_nil))) (psc_cons (psc_expr (pec_mtL PySem.F.plainAttrs_list PySem.F.slot_list_append PySem.F.type_list_append mtm_append (pec_var (i := 2) rfl (.inl rfl) rfl rfl) (pac_cons (pec_tr (met_ F B hcode TB hmT hu (LamX.lamS_by rfl) rfl (fun _ _ _ _ _ => rfl) (fun _ _ _ _ _ _ _ hr => (pec_call (n := i_mirrors_at) ol_mirrors_at hr rfl F.a12.g_mirrors_at F.a17.k_mirrors_at passL (pac_cons (pec_var (i := 4) rfl (.inr (.inr rfl)) rfl rfl) (pac_cons (pec_var (i := 5) rfl (.inr (.inr rfl)) rfl rfl) (pac_cons (pec_tup (pac_cons (pec_con pe_int fun _ _ => rfl) pac_nil)) pac_nil))))))) pac_nil))) (psc_cons (psc_expr (pec_mtL PySem.F.plainAttrs_list PySem.F.slot_list_append PySem.F.type_list_append mtm_append (pec_var (i := 2) rfl (.inl rfl) rfl rfl) (pac_cons (pec_tr (met_ F B hcode TB hmT hu (LamX.lamS_by rfl) rfl (fun _ _ _ _ _ => rfl) (fun _ _ _ _ _ _ _ hr => (pec_call (n := i_mirrors_at) ol_mirrors_at hr rfl F.a12.g_mirrors_at F.a17.k_mirrors_at passL (pac_cons (pec_var (i := 4) rfl (.inr (.inr rfl)) rfl rfl) (pac_cons (pec_var (i := 5) rfl (.inr (.inr rfl)) rfl rfl) (pac_cons (pec_con pe_str fun _ _ => rfl) pac_nil))))))) pac_nil))) (psc_cons (psc_expr (pec_mtL PySem.F.plainAttrs_list PySem.F.slot_list_append PySem.F.type_list_append mtm_append (pec_var (i := 2) rfl (.inl rfl) rfl rfl) (pac_cons (pec_tr (met_ F B hcode TB hmT hu (LamX.lamS_by rfl) rfl (fun _ _ _ _ _ => rfl) (fun _ _ _ _ _ _ _ hr => (pec_call (n := i_worst_members) ol_worst_members hr rfl F.a13.g_worst_members F.a18.k_worst_members passL (pac_cons (pec_cmeth (c0 := i_System) (n := i_System_ring) (pe_glob (v := .ref (M.g i_System)) rfl F.a8.g_System rfl) F.a1.cr_System F.a0.cm_System_ring ol_System_ring hr passL (pac_cons (pec_con pe_int fun _ _ => rfl) pac_nil)) (pac_cons (pec_bin (opb_mulS (goodL B.good hr).K) (pec_tup (pac_cons (pec_con pe_int fun _ _ => rfl) (pac_cons (pec_con pe_int fun _ _ => rfl) pac_nil))) (pec_con pe_int fun _ _ => rfl)) pac_nil)))))) pac_nil))) (psc_one (psc_ret (pec_cmp (ot_eqG B.good) (pec_var (i := 2) rfl (.inl rfl) rfl rfl) (pec_bin (opb_addS B.good) (pec_bin (opb_mulS B.good.K) (pec_lst (pac_cons (pec_tup (pac_cons (pec_con pe_str fun _ _ => rfl) (pac_cons (pec_con pe_str fun _ _ => rfl) (pac_cons (pec_con pe_int fun _ _ => rfl) pac_nil)))) pac_nil)) (pec_con pe_int fun _ _ => rfl)) (pec_lst (pac_cons (pec_tup (pac_cons (pec_con pe_str fun _ _ => rfl) (pac_cons (pec_con pe_str fun _ _ => rfl) pac_nil))) (pac_cons (pec_tup (pac_cons (pec_con pe_str fun _ _ => rfl) (pac_cons (pec_tup pac_nil) pac_nil))) pac_nil)))) (nomark _)))))))))))))
theorem o_law {M : Mo} {mg : Str → Option Value} {base : Heap} (F : Fc M mg base) (cl : Cl) {zs : List Int} (hz : ((0 : Nat), zs) ∈ M.outs) (hzl : zs.length ≤ 16777216) : FnR M.P M.w M.K mg base (L2.CX M.P M.w) (122 + 1) (M.g i_law) (spF M (C_law zs cl)) := by
  obtain ⟨fd, D⟩ := F.a4.d_law
  obtain ⟨c, P, hcode, TB, hmT, hu⟩ := F.a22.tb_law fd D
  obtain ⟨oc, od, dV, kV, doc, pm, an, cdv, ct, osl, rfl, lk, hcd, hdv, _⟩ := D.ex
  have e0 : dV = Value.none := hdv.elim (fun h => h.2) fun h => absurd rfl h.1
  subst e0
  exact fn_code ⟨rfl, rfl, rfl⟩ lk hcd sc_law rfl (Binds.all fun us h => match us, h with | [_], _ => rfl) fun A outer s H E B => b_law F cl hz hzl TB hcode hmT hu B
end K73
end
end

section
set_option maxRecDepth 100000
set_option maxHeartbeats 4000000
noncomputable section
namespace K73
open PySem PySem.Spec L2 Eng
open PyProof.Rows hiding St

def pths0 : List Pth := [⟨"_law_crock", "", 0⟩, ⟨"_law_scoop", "", 0⟩, ⟨"_law_select", "", 0⟩, ⟨"is_whole", "", 0⟩, ⟨"is_within", "", 0⟩, ⟨"is_bond_told", "", 0⟩, ⟨"are_bonds", "", 0⟩, ⟨"factors_by", "", 0⟩, ⟨"System", "__init__", 1⟩, ⟨"System", "rows", 2⟩, ⟨"require_system", "", 0⟩, ⟨"is_word_in", "", 0⟩, ⟨"require_word", "", 0⟩, ⟨"require_system_and_word", "", 0⟩, ⟨"letter_row", "", 0⟩, ⟨"first_frame", "", 0⟩, ⟨"led_row", "", 0⟩, ⟨"frame_behind", "", 0⟩, ⟨"frame_of", "", 0⟩, ⟨"is_row_below", "", 0⟩]
def pths1 : List Pth := [⟨"is_left", "", 0⟩, ⟨"first_left", "", 0⟩, ⟨"added_row", "", 0⟩, ⟨"frame_ahead", "", 0⟩, ⟨"word_of_frame", "", 0⟩, ⟨"normal_in", "", 0⟩, ⟨"Roll", "__init__", 1⟩, ⟨"Roll", "put", 1⟩, ⟨"Roll", "frame", 1⟩, ⟨"Roll", "word", 1⟩, ⟨"Roll", "behind", 1⟩, ⟨"under_in", "", 0⟩, ⟨"members_under_in", "", 0⟩, ⟨"numbers_of", "", 0⟩, ⟨"is_smooth_lot", "", 0⟩, ⟨"smooth_paper", "", 0⟩, ⟨"Roll", "ahead", 1⟩, ⟨"added_numbers", "", 0⟩, ⟨"put_at", "", 0⟩, ⟨"letter_sum", "", 0⟩]
def pths2 : List Pth := [⟨"Roll", "is_left", 1⟩, ⟨"mu_of", "", 0⟩, ⟨"later_row", "", 0⟩, ⟨"p_row_kept", "", 0⟩, ⟨"p_row_in", "", 0⟩, ⟨"led_down", "", 0⟩, ⟨"is_under_in", "", 0⟩, ⟨"worst_in", "", 0⟩, ⟨"worst_members", "", 0⟩, ⟨"is_smooth", "", 0⟩, ⟨"mirrors_at", "", 0⟩, ⟨"is_smooth_paper", "", 0⟩, ⟨"is_row", "", 0⟩, ⟨"require_row", "", 0⟩, ⟨"row_paper", "", 0⟩, ⟨"is_row_paper", "", 0⟩, ⟨"_law_right", "", 0⟩, ⟨"System", "ring", 2⟩, ⟨"law", "", 0⟩, ⟨"BARRED", "", 0⟩]
def pths3 : List Pth := [⟨"BONDS", "", 0⟩, ⟨"FACTORS", "", 0⟩, ⟨"InvalidNumber", "", 0⟩, ⟨"InvalidOperation", "", 0⟩, ⟨"InvalidRow", "", 0⟩, ⟨"InvalidSystem", "", 0⟩, ⟨"InvalidWord", "", 0⟩, ⟨"Roll", "", 0⟩, ⟨"System", "", 0⟩, ⟨"TooMany", "", 0⟩, ⟨"_law_met", "", 0⟩, ⟨"barred_places", "", 0⟩, ⟨"four_places", "", 0⟩, ⟨"is_below", "", 0⟩, ⟨"is_numbers", "", 0⟩, ⟨"lies_as", "", 0⟩, ⟨"mirror_numbers", "", 0⟩, ⟨"runs_of", "", 0⟩, ⟨"times_s", "", 0⟩, ⟨"InvalidNumber", "__init__", 1⟩]
def pths4 : List Pth := [⟨"TooMany", "__init__", 1⟩]
def pths : List Pth := pths0 ++ pths1 ++ pths2 ++ pths3 ++ pths4
def fldF : Nat → Option Str := fun n => if n = i_TooMany then some "most" else if n = i_InvalidNumber then some "given" else none
abbrev R : PySem.W.OpenRow := PySem.W.OpenLaw.row PySem.Challenge.rw_underwords_k73_errors_of_smooth_members
def tfs : List (PySem.W.Frag → Addr) := [fun K => (gzA K pths 21), fun K => (gzA K pths 35), fun K => (gzA K pths 56), fun K => (gzA K pths 58)]
def tabsF (K : PySem.W.Frag) : List (Addr × Str) := [(tabA K (gzA K pths 21), "first_left.<locals>.<genexpr>"), (tabA K (gzA K pths 35), "smooth_paper.<locals>.<genexpr>"), (tabA K (gzA K pths 56), "_law_right.<locals>.<lambda>"), (tabA K (gzA K pths 58), "law.<locals>.<lambda>")]
def csF (K : PySem.W.Frag) : List (Addr × Addr) := tfs.map fun p => (codA K (p K), tabA K (p K))
def mo (w : World) (K : PySem.W.Frag) (a : Addr) (ns : List Int) : Mo := ⟨R.prog, w, K, gZ K pths a, fldF, tabsF K, [(0, ns)]⟩
def ats0 : List (PySem.W.Frag → Addr) := [fun K => (gzA K pths 0), fun K => (gzA K pths 1), fun K => (gzA K pths 2), fun K => (gzA K pths 3), fun K => (gzA K pths 4), fun K => (gzA K pths 5), fun K => (gzA K pths 6), fun K => (gzA K pths 7), fun K => (gzA K pths 8), fun K => (gzA K pths 9), fun K => (gzA K pths 10), fun K => (gzA K pths 11), fun K => (gzA K pths 12), fun K => (gzA K pths 13), fun K => (gzA K pths 14), fun K => (gzA K pths 15), fun K => (gzA K pths 16), fun K => (gzA K pths 17), fun K => (gzA K pths 18), fun K => (gzA K pths 19)]
def vals0 : List FnZ := [some ("_law_crock", "_law_crock", defArgs (top 91), .stmts (defBody (top 91)), defScope (top 91)), some ("_law_scoop", "_law_scoop", defArgs (top 92), .stmts (defBody (top 92)), defScope (top 92)), some ("_law_select", "_law_select", defArgs (top 93), .stmts (defBody (top 93)), defScope (top 93)), some ("is_whole", "is_whole", defArgs (top 10), .stmts (defBody (top 10)), defScope (top 10)), some ("is_within", "is_within", defArgs (top 11), .stmts (defBody (top 11)), defScope (top 11)), some ("is_bond_told", "is_bond_told", defArgs (top 36), .stmts (defBody (top 36)), defScope (top 36)), some ("are_bonds", "are_bonds", defArgs (top 37), .stmts (defBody (top 37)), defScope (top 37)), some ("factors_by", "factors_by", defArgs (top 38), .stmts (defBody (top 38)), defScope (top 38)), some ("__init__", "System.__init__", defArgs (mem 40 1), .stmts (defBody (mem 40 1)), defScope (mem 40 1)), some ("rows", "System.rows", defArgs (mem 40 2), .stmts (defBody (mem 40 2)), defScope (mem 40 2)), some ("require_system", "require_system", defArgs (top 41), .stmts (defBody (top 41)), defScope (top 41)), some ("is_word_in", "is_word_in", defArgs (top 44), .stmts (defBody (top 44)), defScope (top 44)), some ("require_word", "require_word", defArgs (top 46), .stmts (defBody (top 46)), defScope (top 46)), some ("require_system_and_word", "require_system_and_word", defArgs (top 47), .stmts (defBody (top 47)), defScope (top 47)), some ("letter_row", "letter_row", defArgs (top 15), .stmts (defBody (top 15)), defScope (top 15)), some ("first_frame", "first_frame", defArgs (top 19), .stmts (defBody (top 19)), defScope (top 19)), some ("led_row", "led_row", defArgs (top 16), .stmts (defBody (top 16)), defScope (top 16)), some ("frame_behind", "frame_behind", defArgs (top 20), .stmts (defBody (top 20)), defScope (top 20)), some ("frame_of", "frame_of", defArgs (top 22), .stmts (defBody (top 22)), defScope (top 22)), some ("is_row_below", "is_row_below", defArgs (top 14), .stmts (defBody (top 14)), defScope (top 14))]
def ats1 : List (PySem.W.Frag → Addr) := [fun K => (gzA K pths 20), fun K => (gzA K pths 21), fun K => (gzA K pths 22), fun K => (gzA K pths 23), fun K => (gzA K pths 24), fun K => (gzA K pths 25), fun K => (gzA K pths 26), fun K => (gzA K pths 27), fun K => (gzA K pths 28), fun K => (gzA K pths 29), fun K => (gzA K pths 30), fun K => (gzA K pths 31), fun K => (gzA K pths 32), fun K => (gzA K pths 33), fun K => (gzA K pths 34), fun K => (gzA K pths 35), fun K => (gzA K pths 36), fun K => (gzA K pths 37), fun K => (gzA K pths 38), fun K => (gzA K pths 39)]
def vals1 : List FnZ := [some ("is_left", "is_left", defArgs (top 23), .stmts (defBody (top 23)), defScope (top 23)), some ("first_left", "first_left", defArgs (top 25), .stmts (defBody (top 25)), defScope (top 25)), some ("added_row", "added_row", defArgs (top 18), .stmts (defBody (top 18)), defScope (top 18)), some ("frame_ahead", "frame_ahead", defArgs (top 21), .stmts (defBody (top 21)), defScope (top 21)), some ("word_of_frame", "word_of_frame", defArgs (top 26), .stmts (defBody (top 26)), defScope (top 26)), some ("normal_in", "normal_in", defArgs (top 45), .stmts (defBody (top 45)), defScope (top 45)), some ("__init__", "Roll.__init__", defArgs (mem 28 1), .stmts (defBody (mem 28 1)), defScope (mem 28 1)), some ("put", "Roll.put", defArgs (mem 28 3), .stmts (defBody (mem 28 3)), defScope (mem 28 3)), some ("frame", "Roll.frame", defArgs (mem 28 2), .stmts (defBody (mem 28 2)), defScope (mem 28 2)), some ("word", "Roll.word", defArgs (mem 28 4), .stmts (defBody (mem 28 4)), defScope (mem 28 4)), some ("behind", "Roll.behind", defArgs (mem 28 6), .stmts (defBody (mem 28 6)), defScope (mem 28 6)), some ("under_in", "under_in", defArgs (top 52), .stmts (defBody (top 52)), defScope (top 52)), some ("members_under_in", "members_under_in", defArgs (top 53), .stmts (defBody (top 53)), defScope (top 53)), some ("numbers_of", "numbers_of", defArgs (top 74), .stmts (defBody (top 74)), defScope (top 74)), some ("is_smooth_lot", "is_smooth_lot", defArgs (top 75), .stmts (defBody (top 75)), defScope (top 75)), some ("smooth_paper", "smooth_paper", defArgs (top 85), .stmts (defBody (top 85)), defScope (top 85)), some ("ahead", "Roll.ahead", defArgs (mem 28 5), .stmts (defBody (mem 28 5)), defScope (mem 28 5)), some ("added_numbers", "added_numbers", defArgs (top 55), .stmts (defBody (top 55)), defScope (top 55)), some ("put_at", "put_at", defArgs (top 56), .stmts (defBody (top 56)), defScope (top 56)), some ("letter_sum", "letter_sum", defArgs (top 57), .stmts (defBody (top 57)), defScope (top 57))]
def ats2 : List (PySem.W.Frag → Addr) := [fun K => (gzA K pths 40), fun K => (gzA K pths 41), fun K => (gzA K pths 42), fun K => (gzA K pths 43), fun K => (gzA K pths 44), fun K => (gzA K pths 45), fun K => (gzA K pths 46), fun K => (gzA K pths 47), fun K => (gzA K pths 48), fun K => (gzA K pths 49), fun K => (gzA K pths 50), fun K => (gzA K pths 51), fun K => (gzA K pths 52), fun K => (gzA K pths 53), fun K => (gzA K pths 54), fun K => (gzA K pths 55), fun K => (gzA K pths 56), fun K => (gzA K pths 57), fun K => (gzA K pths 58), fun K => (gzA K pths 70)]
def vals2 : List FnZ := [some ("is_left", "Roll.is_left", defArgs (mem 28 7), .stmts (defBody (mem 28 7)), defScope (mem 28 7)), some ("mu_of", "mu_of", defArgs (top 58), .stmts (defBody (top 58)), defScope (top 58)), some ("later_row", "later_row", defArgs (top 59), .stmts (defBody (top 59)), defScope (top 59)), some ("p_row_kept", "p_row_kept", defArgs (top 60), .stmts (defBody (top 60)), defScope (top 60)), some ("p_row_in", "p_row_in", defArgs (top 61), .stmts (defBody (top 61)), defScope (top 61)), some ("led_down", "led_down", defArgs (top 50), .stmts (defBody (top 50)), defScope (top 50)), some ("is_under_in", "is_under_in", defArgs (top 51), .stmts (defBody (top 51)), defScope (top 51)), some ("worst_in", "worst_in", defArgs (top 76), .stmts (defBody (top 76)), defScope (top 76)), some ("worst_members", "worst_members", defArgs (top 87), .stmts (defBody (top 87)), defScope (top 87)), some ("is_smooth", "is_smooth", defArgs (top 84), .stmts (defBody (top 84)), defScope (top 84)), some ("mirrors_at", "mirrors_at", defArgs (top 83), .stmts (defBody (top 83)), defScope (top 83)), some ("is_smooth_paper", "is_smooth_paper", defArgs (top 86), .stmts (defBody (top 86)), defScope (top 86)), some ("is_row", "is_row", defArgs (top 65), .stmts (defBody (top 65)), defScope (top 65)), some ("require_row", "require_row", defArgs (top 66), .stmts (defBody (top 66)), defScope (top 66)), some ("row_paper", "row_paper", defArgs (top 88), .stmts (defBody (top 88)), defScope (top 88)), some ("is_row_paper", "is_row_paper", defArgs (top 89), .stmts (defBody (top 89)), defScope (top 89)), some ("_law_right", "_law_right", defArgs (top 95), .stmts (defBody (top 95)), defScope (top 95)), some ("ring", "System.ring", defArgs (mem 40 6), .stmts (defBody (mem 40 6)), defScope (mem 40 6)), some ("law", "law", defArgs (top 96), .stmts (defBody (top 96)), defScope (top 96)), some ("_law_met", "_law_met", defArgs (top 94), .stmts (defBody (top 94)), defScope (top 94))]
def ats3 : List (PySem.W.Frag → Addr) := [fun K => (gzA K pths 79), fun K => (gzA K pths 80)]
def vals3 : List FnZ := [some ("__init__", "InvalidNumber.__init__", defArgs (mem 7 0), .stmts (defBody (mem 7 0)), defScope (mem 7 0)), some ("__init__", "TooMany.__init__", defArgs (mem 8 0), .stmts (defBody (mem 8 0)), defScope (mem 8 0))]
def ats : List (PySem.W.Frag → Addr) := ats0 ++ ats1 ++ ats2 ++ ats3
def vals : List FnZ := vals0 ++ vals1 ++ vals2 ++ vals3
def xg0 (K : PySem.W.Frag) : Bool := (intB K "GOLDEN_BOND" (.ofNat 5)) && ((intB K "LEAST_PLACES" (.ofNat 2)) && ((intB K "MAX_LETTERS" (.ofNat 4)) && ((intB K "MAX_UNDER" (.ofNat 120)) && ((intB K "MAX_WORD" (.ofNat 40)) && ((tstB K "MIRRORS" "mirrors") && ((intB K "MOST_PLACES_rows" (.ofNat 5)) && ((intB K "MOST_PLACES_systems" (.ofNat 5)) && ((intB K "MOST_RING" (.ofNat 3)) && ((tstB K "PATTERN" "pattern") && ((tstB K "SMOOTH" "smooth") && ((cmB K (gzA K pths 68) "ring" (gzA K pths 57)) && (true))))))))))))
def xg1 (K : PySem.W.Frag) : Bool := (cmB K (gzA K pths 68) "rows" (gzA K pths 9)) && ((crB K (gzA K pths 68)) && ((fnB K (gzA K pths 26) "Roll.__init__" (dv_Roll___init__ K) []) && ((fnB K (gzA K pths 36) "Roll.ahead" (dv_Roll_ahead K) []) && ((fnB K (gzA K pths 30) "Roll.behind" (dv_Roll_behind K) []) && ((fnB K (gzA K pths 28) "Roll.frame" (dv_Roll_frame K) []) && ((fnB K (gzA K pths 40) "Roll.is_left" (dv_Roll_is_left K) []) && ((fnB K (gzA K pths 27) "Roll.put" (dv_Roll_put K) []) && ((fnB K (gzA K pths 29) "Roll.word" (dv_Roll_word K) []) && ((fnB K (gzA K pths 8) "System.__init__" (dv_System___init__ K) []) && ((fnB K (gzA K pths 57) "System.ring" (dv_System_ring K) []) && ((fnB K (gzA K pths 9) "System.rows" (dv_System_rows K) []) && (true))))))))))))
def xg2 (K : PySem.W.Frag) : Bool := (fnB K (gzA K pths 0) "_law_crock" (dv__law_crock K) []) && ((fnB K (gzA K pths 70) "_law_met" (dv__law_met K) []) && ((fnB K (gzA K pths 56) "_law_right" (dv__law_right K) []) && ((fnB K (gzA K pths 1) "_law_scoop" (dv__law_scoop K) []) && ((fnB K (gzA K pths 2) "_law_select" (dv__law_select K) []) && ((fnB K (gzA K pths 37) "added_numbers" (dv_added_numbers K) []) && ((fnB K (gzA K pths 22) "added_row" (dv_added_row K) []) && ((fnB K (gzA K pths 6) "are_bonds" (dv_are_bonds K) []) && ((fnB K (gzA K pths 7) "factors_by" (dv_factors_by K) []) && ((fnB K (gzA K pths 15) "first_frame" (dv_first_frame K) []) && ((fnB K (gzA K pths 21) "first_left" (dv_first_left K) []) && ((fnB K (gzA K pths 23) "frame_ahead" (dv_frame_ahead K) []) && (true))))))))))))
def xg3 (K : PySem.W.Frag) : Bool := (fnB K (gzA K pths 17) "frame_behind" (dv_frame_behind K) []) && ((fnB K (gzA K pths 18) "frame_of" (dv_frame_of K) []) && ((fnB K (gzA K pths 5) "is_bond_told" (dv_is_bond_told K) []) && ((fnB K (gzA K pths 20) "is_left" (dv_is_left K) []) && ((fnB K (gzA K pths 52) "is_row" (dv_is_row K) []) && ((fnB K (gzA K pths 19) "is_row_below" (dv_is_row_below K) []) && ((fnB K (gzA K pths 55) "is_row_paper" (dv_is_row_paper K) []) && ((fnB K (gzA K pths 49) "is_smooth" (dv_is_smooth K) []) && ((fnB K (gzA K pths 34) "is_smooth_lot" (dv_is_smooth_lot K) []) && ((fnB K (gzA K pths 51) "is_smooth_paper" (dv_is_smooth_paper K) []) && ((fnB K (gzA K pths 46) "is_under_in" (dv_is_under_in K) []) && ((fnB K (gzA K pths 3) "is_whole" (dv_is_whole K) []) && (true))))))))))))
def xg4 (K : PySem.W.Frag) : Bool := (fnB K (gzA K pths 4) "is_within" (dv_is_within K) []) && ((fnB K (gzA K pths 11) "is_word_in" (dv_is_word_in K) []) && ((fnB K (gzA K pths 42) "later_row" (dv_later_row K) []) && ((fnB K (gzA K pths 58) "law" (dv_law K) []) && ((fnB K (gzA K pths 45) "led_down" (dv_led_down K) []) && ((fnB K (gzA K pths 16) "led_row" (dv_led_row K) []) && ((fnB K (gzA K pths 14) "letter_row" (dv_letter_row K) []) && ((fnB K (gzA K pths 39) "letter_sum" (dv_letter_sum K) []) && ((fnB K (gzA K pths 32) "members_under_in" (dv_members_under_in K) []) && ((fnB K (gzA K pths 50) "mirrors_at" (dv_mirrors_at K) []) && ((fnB K (gzA K pths 41) "mu_of" (dv_mu_of K) []) && ((fnB K (gzA K pths 25) "normal_in" (dv_normal_in K) []) && (true))))))))))))
def xg5 (K : PySem.W.Frag) : Bool := (fnB K (gzA K pths 33) "numbers_of" (dv_numbers_of K) []) && ((fnB K (gzA K pths 44) "p_row_in" (dv_p_row_in K) []) && ((fnB K (gzA K pths 43) "p_row_kept" (dv_p_row_kept K) []) && ((fnB K (gzA K pths 38) "put_at" (dv_put_at K) []) && ((fnB K (gzA K pths 53) "require_row" (dv_require_row K) []) && ((fnB K (gzA K pths 10) "require_system" (dv_require_system K) []) && ((fnB K (gzA K pths 13) "require_system_and_word" (dv_require_system_and_word K) []) && ((fnB K (gzA K pths 12) "require_word" (dv_require_word K) []) && ((fnB K (gzA K pths 54) "row_paper" (dv_row_paper K) []) && ((fnB K (gzA K pths 35) "smooth_paper" (dv_smooth_paper K) []) && ((fnB K (gzA K pths 31) "under_in" (dv_under_in K) []) && ((fnB K (gzA K pths 24) "word_of_frame" (dv_word_of_frame K) []) && (true))))))))))))
def xg6 (K : PySem.W.Frag) : Bool := (fnB K (gzA K pths 47) "worst_in" (dv_worst_in K) []) && ((fnB K (gzA K pths 48) "worst_members" (dv_worst_members K) []) && ((subEB K (gzA K pths 62)) && ((subEB K (gzA K pths 63)) && ((subEB K (gzA K pths 64)) && ((subEB K (gzA K pths 65)) && ((subEB K (gzA K pths 66)) && ((subEB K (gzA K pths 69)) && ((tyB K (gzA K pths 62) "type") && ((tyB K (gzA K pths 63) "type") && ((tyB K (gzA K pths 64) "type") && ((tyB K (gzA K pths 65) "type") && (true))))))))))))
def xg7 (K : PySem.W.Frag) : Bool := (tyB K (gzA K pths 66) "type") && ((tyB K (gzA K pths 69) "type") && ((PySem.W.excIn K (gzA K pths 63) He.veBase "ValueError.__new__") && ((PySem.W.excIn K (gzA K pths 64) He.veBase "ValueError.__new__") && ((PySem.W.excIn K (gzA K pths 65) He.veBase "ValueError.__new__") && ((PySem.W.excIn K (gzA K pths 66) He.veBase "ValueError.__new__") && (true))))))
def xg8 (K : PySem.W.Frag) : Bool := (He.eqO (PySem.W.nsIn K mainGlobals "BARRED") (some (some (.ref (gzA K pths 59))))) && ((He.eqO (PySem.W.nsIn K mainGlobals "BONDS") (some (some (.ref (gzA K pths 60))))) && ((He.eqO (PySem.W.nsIn K mainGlobals "FACTORS") (some (some (.ref (gzA K pths 61))))) && ((He.eqO (PySem.W.nsIn K mainGlobals "InvalidNumber") (some (some (.ref (gzA K pths 62))))) && ((He.eqO (PySem.W.nsIn K mainGlobals "InvalidOperation") (some (some (.ref (gzA K pths 63))))) && ((He.eqO (PySem.W.nsIn K mainGlobals "InvalidRow") (some (some (.ref (gzA K pths 64))))) && ((He.eqO (PySem.W.nsIn K mainGlobals "InvalidSystem") (some (some (.ref (gzA K pths 65))))) && ((He.eqO (PySem.W.nsIn K mainGlobals "InvalidWord") (some (some (.ref (gzA K pths 66))))) && ((He.eqO (PySem.W.nsIn K mainGlobals "Roll") (some (some (.ref (gzA K pths 67))))) && ((He.eqO (PySem.W.nsIn K mainGlobals "System") (some (some (.ref (gzA K pths 68))))) && ((He.eqO (PySem.W.nsIn K mainGlobals "TooMany") (some (some (.ref (gzA K pths 69))))) && ((He.eqO (PySem.W.nsIn K mainGlobals "_law_crock") (some (some (.ref (gzA K pths 0))))) && (true))))))))))))
def xg9 (K : PySem.W.Frag) : Bool := (He.eqO (PySem.W.nsIn K mainGlobals "_law_met") (some (some (.ref (gzA K pths 70))))) && ((He.eqO (PySem.W.nsIn K mainGlobals "_law_right") (some (some (.ref (gzA K pths 56))))) && ((He.eqO (PySem.W.nsIn K mainGlobals "_law_scoop") (some (some (.ref (gzA K pths 1))))) && ((He.eqO (PySem.W.nsIn K mainGlobals "_law_select") (some (some (.ref (gzA K pths 2))))) && ((He.eqO (PySem.W.nsIn K mainGlobals "added_numbers") (some (some (.ref (gzA K pths 37))))) && ((He.eqO (PySem.W.nsIn K mainGlobals "added_row") (some (some (.ref (gzA K pths 22))))) && ((He.eqO (PySem.W.nsIn K mainGlobals "are_bonds") (some (some (.ref (gzA K pths 6))))) && ((He.eqO (PySem.W.nsIn K mainGlobals "barred_places") (some (some (.ref (gzA K pths 71))))) && ((He.eqO (PySem.W.nsIn K mainGlobals "factors_by") (some (some (.ref (gzA K pths 7))))) && ((He.eqO (PySem.W.nsIn K mainGlobals "first_frame") (some (some (.ref (gzA K pths 15))))) && ((He.eqO (PySem.W.nsIn K mainGlobals "first_left") (some (some (.ref (gzA K pths 21))))) && ((He.eqO (PySem.W.nsIn K mainGlobals "four_places") (some (some (.ref (gzA K pths 72))))) && (true))))))))))))
def xg10 (K : PySem.W.Frag) : Bool := (He.eqO (PySem.W.nsIn K mainGlobals "frame_ahead") (some (some (.ref (gzA K pths 23))))) && ((He.eqO (PySem.W.nsIn K mainGlobals "frame_behind") (some (some (.ref (gzA K pths 17))))) && ((He.eqO (PySem.W.nsIn K mainGlobals "frame_of") (some (some (.ref (gzA K pths 18))))) && ((He.eqO (PySem.W.nsIn K mainGlobals "is_below") (some (some (.ref (gzA K pths 73))))) && ((He.eqO (PySem.W.nsIn K mainGlobals "is_bond_told") (some (some (.ref (gzA K pths 5))))) && ((He.eqO (PySem.W.nsIn K mainGlobals "is_left_frames") (some (some (.ref (gzA K pths 20))))) && ((He.eqO (PySem.W.nsIn K mainGlobals "is_numbers") (some (some (.ref (gzA K pths 74))))) && ((He.eqO (PySem.W.nsIn K mainGlobals "is_row") (some (some (.ref (gzA K pths 52))))) && ((He.eqO (PySem.W.nsIn K mainGlobals "is_row_below") (some (some (.ref (gzA K pths 19))))) && ((He.eqO (PySem.W.nsIn K mainGlobals "is_row_paper") (some (some (.ref (gzA K pths 55))))) && ((He.eqO (PySem.W.nsIn K mainGlobals "is_smooth") (some (some (.ref (gzA K pths 49))))) && ((He.eqO (PySem.W.nsIn K mainGlobals "is_smooth_lot") (some (some (.ref (gzA K pths 34))))) && (true))))))))))))
def xg11 (K : PySem.W.Frag) : Bool := (He.eqO (PySem.W.nsIn K mainGlobals "is_smooth_paper") (some (some (.ref (gzA K pths 51))))) && ((He.eqO (PySem.W.nsIn K mainGlobals "is_under_in") (some (some (.ref (gzA K pths 46))))) && ((He.eqO (PySem.W.nsIn K mainGlobals "is_whole") (some (some (.ref (gzA K pths 3))))) && ((He.eqO (PySem.W.nsIn K mainGlobals "is_within") (some (some (.ref (gzA K pths 4))))) && ((He.eqO (PySem.W.nsIn K mainGlobals "is_word_in") (some (some (.ref (gzA K pths 11))))) && ((He.eqO (PySem.W.nsIn K mainGlobals "later_row") (some (some (.ref (gzA K pths 42))))) && ((He.eqO (PySem.W.nsIn K mainGlobals "led_down") (some (some (.ref (gzA K pths 45))))) && ((He.eqO (PySem.W.nsIn K mainGlobals "led_row") (some (some (.ref (gzA K pths 16))))) && ((He.eqO (PySem.W.nsIn K mainGlobals "letter_row") (some (some (.ref (gzA K pths 14))))) && ((He.eqO (PySem.W.nsIn K mainGlobals "letter_sum") (some (some (.ref (gzA K pths 39))))) && ((He.eqO (PySem.W.nsIn K mainGlobals "lies_as") (some (some (.ref (gzA K pths 75))))) && ((He.eqO (PySem.W.nsIn K mainGlobals "members_under_in") (some (some (.ref (gzA K pths 32))))) && (true))))))))))))
def xg12 (K : PySem.W.Frag) : Bool := (He.eqO (PySem.W.nsIn K mainGlobals "mirror_numbers") (some (some (.ref (gzA K pths 76))))) && ((He.eqO (PySem.W.nsIn K mainGlobals "mirrors_at") (some (some (.ref (gzA K pths 50))))) && ((He.eqO (PySem.W.nsIn K mainGlobals "mu_of") (some (some (.ref (gzA K pths 41))))) && ((He.eqO (PySem.W.nsIn K mainGlobals "normal_in") (some (some (.ref (gzA K pths 25))))) && ((He.eqO (PySem.W.nsIn K mainGlobals "numbers_of") (some (some (.ref (gzA K pths 33))))) && ((He.eqO (PySem.W.nsIn K mainGlobals "p_row_in") (some (some (.ref (gzA K pths 44))))) && ((He.eqO (PySem.W.nsIn K mainGlobals "p_row_kept") (some (some (.ref (gzA K pths 43))))) && ((He.eqO (PySem.W.nsIn K mainGlobals "put_at") (some (some (.ref (gzA K pths 38))))) && ((He.eqO (PySem.W.nsIn K mainGlobals "require_row") (some (some (.ref (gzA K pths 53))))) && ((He.eqO (PySem.W.nsIn K mainGlobals "require_system") (some (some (.ref (gzA K pths 10))))) && ((He.eqO (PySem.W.nsIn K mainGlobals "require_system_and_word") (some (some (.ref (gzA K pths 13))))) && ((He.eqO (PySem.W.nsIn K mainGlobals "require_word") (some (some (.ref (gzA K pths 12))))) && (true))))))))))))
def xg13 (K : PySem.W.Frag) : Bool := (He.eqO (PySem.W.nsIn K mainGlobals "row_paper") (some (some (.ref (gzA K pths 54))))) && ((He.eqO (PySem.W.nsIn K mainGlobals "runs_of") (some (some (.ref (gzA K pths 77))))) && ((He.eqO (PySem.W.nsIn K mainGlobals "smooth_paper") (some (some (.ref (gzA K pths 35))))) && ((He.eqO (PySem.W.nsIn K mainGlobals "times_s") (some (some (.ref (gzA K pths 78))))) && ((He.eqO (PySem.W.nsIn K mainGlobals "under_in") (some (some (.ref (gzA K pths 31))))) && ((He.eqO (PySem.W.nsIn K mainGlobals "word_of_frame") (some (some (.ref (gzA K pths 24))))) && ((He.eqO (PySem.W.nsIn K mainGlobals "worst_in") (some (some (.ref (gzA K pths 47))))) && ((He.eqO (PySem.W.nsIn K mainGlobals "worst_members") (some (some (.ref (gzA K pths 48))))) && ((isiB K (.ref (gzA K pths 68)) [((gzA K pths 68), true), ((gzA K pths 67), false)]) && ((PySem.W.keepIn K (.ref (gzA K pths 62))) && ((PySem.W.keepIn K (.ref (gzA K pths 63))) && ((PySem.W.keepIn K (.ref (gzA K pths 64))) && (true))))))))))))
def xg14 (K : PySem.W.Frag) : Bool := (PySem.W.keepIn K (.ref (gzA K pths 65))) && ((PySem.W.keepIn K (.ref (gzA K pths 66))) && ((PySem.W.keepIn K (.ref (gzA K pths 69))) && ((PySem.W.keepIn K (.ref (gzA K pths 0))) && ((PySem.W.keepIn K (.ref (gzA K pths 70))) && ((PySem.W.keepIn K (.ref (gzA K pths 56))) && ((PySem.W.keepIn K (.ref (gzA K pths 1))) && ((PySem.W.keepIn K (.ref (gzA K pths 2))) && ((PySem.W.keepIn K (.ref (gzA K pths 37))) && ((PySem.W.keepIn K (.ref (gzA K pths 22))) && ((PySem.W.keepIn K (.ref (gzA K pths 6))) && ((PySem.W.keepIn K (.ref (gzA K pths 71))) && (true))))))))))))
def xg15 (K : PySem.W.Frag) : Bool := (PySem.W.keepIn K (.ref (gzA K pths 7))) && ((PySem.W.keepIn K (.ref (gzA K pths 15))) && ((PySem.W.keepIn K (.ref (gzA K pths 21))) && ((PySem.W.keepIn K (.ref (gzA K pths 72))) && ((PySem.W.keepIn K (.ref (gzA K pths 23))) && ((PySem.W.keepIn K (.ref (gzA K pths 17))) && ((PySem.W.keepIn K (.ref (gzA K pths 18))) && ((PySem.W.keepIn K (.ref (gzA K pths 73))) && ((PySem.W.keepIn K (.ref (gzA K pths 5))) && ((PySem.W.keepIn K (.ref (gzA K pths 20))) && ((PySem.W.keepIn K (.ref (gzA K pths 74))) && ((PySem.W.keepIn K (.ref (gzA K pths 52))) && (true))))))))))))
def xg16 (K : PySem.W.Frag) : Bool := (PySem.W.keepIn K (.ref (gzA K pths 19))) && ((PySem.W.keepIn K (.ref (gzA K pths 55))) && ((PySem.W.keepIn K (.ref (gzA K pths 49))) && ((PySem.W.keepIn K (.ref (gzA K pths 34))) && ((PySem.W.keepIn K (.ref (gzA K pths 51))) && ((PySem.W.keepIn K (.ref (gzA K pths 46))) && ((PySem.W.keepIn K (.ref (gzA K pths 3))) && ((PySem.W.keepIn K (.ref (gzA K pths 4))) && ((PySem.W.keepIn K (.ref (gzA K pths 11))) && ((PySem.W.keepIn K (.ref (gzA K pths 42))) && ((PySem.W.keepIn K (.ref (gzA K pths 45))) && ((PySem.W.keepIn K (.ref (gzA K pths 16))) && (true))))))))))))
def xg17 (K : PySem.W.Frag) : Bool := (PySem.W.keepIn K (.ref (gzA K pths 14))) && ((PySem.W.keepIn K (.ref (gzA K pths 39))) && ((PySem.W.keepIn K (.ref (gzA K pths 75))) && ((PySem.W.keepIn K (.ref (gzA K pths 32))) && ((PySem.W.keepIn K (.ref (gzA K pths 76))) && ((PySem.W.keepIn K (.ref (gzA K pths 50))) && ((PySem.W.keepIn K (.ref (gzA K pths 41))) && ((PySem.W.keepIn K (.ref (gzA K pths 25))) && ((PySem.W.keepIn K (.ref (gzA K pths 33))) && ((PySem.W.keepIn K (.ref (gzA K pths 44))) && ((PySem.W.keepIn K (.ref (gzA K pths 43))) && ((PySem.W.keepIn K (.ref (gzA K pths 38))) && (true))))))))))))
def xg18 (K : PySem.W.Frag) : Bool := (PySem.W.keepIn K (.ref (gzA K pths 53))) && ((PySem.W.keepIn K (.ref (gzA K pths 10))) && ((PySem.W.keepIn K (.ref (gzA K pths 13))) && ((PySem.W.keepIn K (.ref (gzA K pths 12))) && ((PySem.W.keepIn K (.ref (gzA K pths 54))) && ((PySem.W.keepIn K (.ref (gzA K pths 77))) && ((PySem.W.keepIn K (.ref (gzA K pths 35))) && ((PySem.W.keepIn K (.ref (gzA K pths 78))) && ((PySem.W.keepIn K (.ref (gzA K pths 31))) && ((PySem.W.keepIn K (.ref (gzA K pths 24))) && ((PySem.W.keepIn K (.ref (gzA K pths 47))) && ((PySem.W.keepIn K (.ref (gzA K pths 48))) && (true))))))))))))
def xg19 (K : PySem.W.Frag) : Bool := (kdB K (gzA K pths 61) D_FACTORS) && ((methB K (gzA K pths 67) "ahead" (gzA K pths 36)) && ((methB K (gzA K pths 67) "behind" (gzA K pths 30)) && ((methB K (gzA K pths 67) "frame" (gzA K pths 28)) && ((methB K (gzA K pths 67) "is_left" (gzA K pths 40)) && ((methB K (gzA K pths 67) "put" (gzA K pths 27)) && ((methB K (gzA K pths 67) "word" (gzA K pths 29)) && ((mkB K (gzA K pths 67) (gzA K pths 26)) && ((mkB K (gzA K pths 68) (gzA K pths 8)) && ((He.eqO (PySem.W.nsIn K mainGlobals "abs") (some none)) && ((He.eqO (PySem.W.nsIn K mainGlobals "all") (some none)) && ((He.eqO (PySem.W.nsIn K mainGlobals "any") (some none)) && (true))))))))))))
def xg20 (K : PySem.W.Frag) : Bool := (He.eqO (PySem.W.nsIn K mainGlobals "bool") (some none)) && ((He.eqO (PySem.W.nsIn K mainGlobals "enumerate") (some none)) && ((He.eqO (PySem.W.nsIn K mainGlobals "int") (some none)) && ((He.eqO (PySem.W.nsIn K mainGlobals "isinstance") (some none)) && ((He.eqO (PySem.W.nsIn K mainGlobals "len") (some none)) && ((He.eqO (PySem.W.nsIn K mainGlobals "list") (some none)) && ((He.eqO (PySem.W.nsIn K mainGlobals "max") (some none)) && ((He.eqO (PySem.W.nsIn K mainGlobals "min") (some none)) && ((He.eqO (PySem.W.nsIn K mainGlobals "next") (some none)) && ((He.eqO (PySem.W.nsIn K mainGlobals "range") (some none)) && ((He.eqO (PySem.W.nsIn K mainGlobals "sorted") (some none)) && ((He.eqO (PySem.W.nsIn K mainGlobals "str") (some none)) && (true))))))))))))
def xg21 (K : PySem.W.Frag) : Bool := (He.eqO (PySem.W.nsIn K mainGlobals "sum") (some none)) && ((He.eqO (PySem.W.nsIn K mainGlobals "super") (some none)) && ((He.eqO (PySem.W.nsIn K mainGlobals "tuple") (some none)) && ((He.eqO (PySem.W.nsIn K mainGlobals "zip") (some none)) && ((He.eqO (PySem.W.findIn K (.ref (gzA K pths 69)) "most") (some none)) && ((sclB K (gzA K pths 67)) && ((sclB K (gzA K pths 68)) && ((slotB K (gzA K pths 68) "own_bonds" 0) && ((slotB K (gzA K pths 68) "own_factors" 1) && ((slotB K (gzA K pths 67) "own_frames" 0) && ((slotB K (gzA K pths 68) "own_golden" 2) && ((slotB K (gzA K pths 68) "own_letters" 3) && (true))))))))))))
def xg22 (K : PySem.W.Frag) : Bool := (slotB K (gzA K pths 67) "own_system" 1) && ((slotB K (gzA K pths 67) "own_words" 2) && ((supB R.prog K "IndexError" "IndexError.__new__" "IndexError.__init__" bm_IndexError (gzA K pths 62) (gzA K pths 79) "InvalidNumber.__init__" "given") && ((supB R.prog K "OverflowError" "OverflowError.__new__" "OverflowError.__init__" bm_OverflowError (gzA K pths 69) (gzA K pths 80) "TooMany.__init__" "most") && ((cnB K W_BARRED (.ref (gzA K pths 59))) && ((cnB K W_BONDS (.ref (gzA K pths 60))) && ((tyB K (gzA K pths 79) "function") && ((tyB K (gzA K pths 80) "function") && (true))))))))
def xg23 (K : PySem.W.Frag) : Bool := (xfB K (gzA K pths 69)) && ((xmB K pths [i_InvalidSystem, i_InvalidWord, i_InvalidRow, i_InvalidOperation, i_TooMany]) && (true))
def exl : List (PySem.W.Frag → Bool) := [xg0, xg1, xg2, xg3, xg4, xg5, xg6, xg7, xg8, xg9, xg10, xg11, xg12, xg13, xg14, xg15, xg16, xg17, xg18, xg19, xg20, xg21, xg22, xg23]
def ex (K : PySem.W.Frag) : Bool := tabU (tabsF K) && (He.eqO (PySem.W.nsIn K mainGlobals "law") (some (some (.ref (gzA K pths 58)))) && exl.all fun f => f K)
theorem cs_mem {K : PySem.W.Frag} {p : PySem.W.Frag → Addr} (i : Nat) (h : tfs[i]? = some p) : (codA K (p K), tabA K (p K)) ∈ csF K := List.mem_map.mpr ⟨p, List.mem_of_getElem? h, rfl⟩
section
variable {K : PySem.W.Frag} {h base : Heap} {mg : Str → Option Value} {w : World} {a : Addr} {ns : List Int}
theorem ex_tabs (S : SaysZ ats vals tfs ex h K) : tabU (tabsF K) = true := (He.ba S.more).1
theorem ex_law (S : SaysZ ats vals tfs ex h K) : He.eqO (PySem.W.nsIn K mainGlobals "law") (some (some (.ref (gzA K pths 58)))) = true := (He.ba (He.ba S.more).2).1
theorem ex_at (S : SaysZ ats vals tfs ex h K) (i : Nat) {f : PySem.W.Frag → Bool} (hi : exl[i]? = some f) : f K = true := List.all_eq_true.mp (He.ba (He.ba S.more).2).2 f (List.mem_of_getElem? hi)
theorem fc0 (X : K.In h) (G : h.Ns mainGlobals mg) (S : SaysZ ats vals tfs ex h K) (T : ∀ p ∈ csF K, LamX.TabB base mg p.1 p.2) : Fc0 (mo w K a ns) mg base := by
  have U := ex_tabs S
  have q0 := ex_at S 0 (f := xg0) rfl
  obtain ⟨h1, q1⟩ := He.ba q0
  obtain ⟨h2, q2⟩ := He.ba q1
  obtain ⟨h3, q3⟩ := He.ba q2
  obtain ⟨h4, q4⟩ := He.ba q3
  obtain ⟨h5, q5⟩ := He.ba q4
  obtain ⟨h6, q6⟩ := He.ba q5
  obtain ⟨h7, q7⟩ := He.ba q6
  obtain ⟨h8, q8⟩ := He.ba q7
  obtain ⟨h9, q9⟩ := He.ba q8
  obtain ⟨h10, q10⟩ := He.ba q9
  obtain ⟨h11, q11⟩ := He.ba q10
  obtain ⟨h12, q12⟩ := He.ba q11
  exact {
    c_GOLDEN_BOND := int_of X G h1
    c_LEAST_PLACES := int_of X G h2
    c_MAX_LETTERS := int_of X G h3
    c_MAX_UNDER := int_of X G h4
    c_MAX_WORD := int_of X G h5
    c_MIRRORS := str_of X G h6
    c_MOST_PLACES_rows := int_of X G h7
    c_MOST_PLACES_systems := int_of X G h8
    c_MOST_RING := int_of X G h9
    c_PATTERN := str_of X G h10
    c_SMOOTH := str_of X G h11
    cm_System_ring := cmB_ok h12 }
theorem fc1 (X : K.In h) (G : h.Ns mainGlobals mg) (S : SaysZ ats vals tfs ex h K) (T : ∀ p ∈ csF K, LamX.TabB base mg p.1 p.2) : Fc1 (mo w K a ns) mg base := by
  have U := ex_tabs S
  have q0 := ex_at S 1 (f := xg1) rfl
  obtain ⟨h1, q1⟩ := He.ba q0
  obtain ⟨h2, q2⟩ := He.ba q1
  obtain ⟨h3, q3⟩ := He.ba q2
  obtain ⟨h4, q4⟩ := He.ba q3
  obtain ⟨h5, q5⟩ := He.ba q4
  obtain ⟨h6, q6⟩ := He.ba q5
  obtain ⟨h7, q7⟩ := He.ba q6
  obtain ⟨h8, q8⟩ := He.ba q7
  obtain ⟨h9, q9⟩ := He.ba q8
  obtain ⟨h10, q10⟩ := He.ba q9
  obtain ⟨h11, q11⟩ := He.ba q10
  obtain ⟨h12, q12⟩ := He.ba q11
  exact {
    cm_System_rows := cmB_ok h1
    cr_System := crB_ok h2
    d_Roll___init__ := funD_of (S.at_ 26 rfl rfl) h3
    d_Roll_ahead := funD_of (S.at_ 36 rfl rfl) h4
    d_Roll_behind := funD_of (S.at_ 30 rfl rfl) h5
    d_Roll_frame := funD_of (S.at_ 28 rfl rfl) h6
    d_Roll_is_left := funD_of (S.at_ 40 rfl rfl) h7
    d_Roll_put := funD_of (S.at_ 27 rfl rfl) h8
    d_Roll_word := funD_of (S.at_ 29 rfl rfl) h9
    d_System___init__ := funD_of (S.at_ 8 rfl rfl) h10
    d_System_ring := funD_of (S.at_ 57 rfl rfl) h11
    d_System_rows := funD_of (S.at_ 9 rfl rfl) h12 }
theorem fc2 (X : K.In h) (G : h.Ns mainGlobals mg) (S : SaysZ ats vals tfs ex h K) (T : ∀ p ∈ csF K, LamX.TabB base mg p.1 p.2) : Fc2 (mo w K a ns) mg base := by
  have U := ex_tabs S
  have q0 := ex_at S 2 (f := xg2) rfl
  obtain ⟨h1, q1⟩ := He.ba q0
  obtain ⟨h2, q2⟩ := He.ba q1
  obtain ⟨h3, q3⟩ := He.ba q2
  obtain ⟨h4, q4⟩ := He.ba q3
  obtain ⟨h5, q5⟩ := He.ba q4
  obtain ⟨h6, q6⟩ := He.ba q5
  obtain ⟨h7, q7⟩ := He.ba q6
  obtain ⟨h8, q8⟩ := He.ba q7
  obtain ⟨h9, q9⟩ := He.ba q8
  obtain ⟨h10, q10⟩ := He.ba q9
  obtain ⟨h11, q11⟩ := He.ba q10
  obtain ⟨h12, q12⟩ := He.ba q11
  exact {
    d__law_crock := funD_of (S.at_ 0 rfl rfl) h1
    d__law_met := funD_of (S.at_ 59 rfl rfl) h2
    d__law_right := funD_of (S.at_ 56 rfl rfl) h3
    d__law_scoop := funD_of (S.at_ 1 rfl rfl) h4
    d__law_select := funD_of (S.at_ 2 rfl rfl) h5
    d_added_numbers := funD_of (S.at_ 37 rfl rfl) h6
    d_added_row := funD_of (S.at_ 22 rfl rfl) h7
    d_are_bonds := funD_of (S.at_ 6 rfl rfl) h8
    d_factors_by := funD_of (S.at_ 7 rfl rfl) h9
    d_first_frame := funD_of (S.at_ 15 rfl rfl) h10
    d_first_left := funD_of (S.at_ 21 rfl rfl) h11
    d_frame_ahead := funD_of (S.at_ 23 rfl rfl) h12 }
theorem fc3 (X : K.In h) (G : h.Ns mainGlobals mg) (S : SaysZ ats vals tfs ex h K) (T : ∀ p ∈ csF K, LamX.TabB base mg p.1 p.2) : Fc3 (mo w K a ns) mg base := by
  have U := ex_tabs S
  have q0 := ex_at S 3 (f := xg3) rfl
  obtain ⟨h1, q1⟩ := He.ba q0
  obtain ⟨h2, q2⟩ := He.ba q1
  obtain ⟨h3, q3⟩ := He.ba q2
  obtain ⟨h4, q4⟩ := He.ba q3
  obtain ⟨h5, q5⟩ := He.ba q4
  obtain ⟨h6, q6⟩ := He.ba q5
  obtain ⟨h7, q7⟩ := He.ba q6
  obtain ⟨h8, q8⟩ := He.ba q7
  obtain ⟨h9, q9⟩ := He.ba q8
  obtain ⟨h10, q10⟩ := He.ba q9
  obtain ⟨h11, q11⟩ := He.ba q10
  obtain ⟨h12, q12⟩ := He.ba q11
  exact {
    d_frame_behind := funD_of (S.at_ 17 rfl rfl) h1
    d_frame_of := funD_of (S.at_ 18 rfl rfl) h2
    d_is_bond_told := funD_of (S.at_ 5 rfl rfl) h3
    d_is_left := funD_of (S.at_ 20 rfl rfl) h4
    d_is_row := funD_of (S.at_ 52 rfl rfl) h5
    d_is_row_below := funD_of (S.at_ 19 rfl rfl) h6
    d_is_row_paper := funD_of (S.at_ 55 rfl rfl) h7
    d_is_smooth := funD_of (S.at_ 49 rfl rfl) h8
    d_is_smooth_lot := funD_of (S.at_ 34 rfl rfl) h9
    d_is_smooth_paper := funD_of (S.at_ 51 rfl rfl) h10
    d_is_under_in := funD_of (S.at_ 46 rfl rfl) h11
    d_is_whole := funD_of (S.at_ 3 rfl rfl) h12 }
theorem fc4 (X : K.In h) (G : h.Ns mainGlobals mg) (S : SaysZ ats vals tfs ex h K) (T : ∀ p ∈ csF K, LamX.TabB base mg p.1 p.2) : Fc4 (mo w K a ns) mg base := by
  have U := ex_tabs S
  have q0 := ex_at S 4 (f := xg4) rfl
  obtain ⟨h1, q1⟩ := He.ba q0
  obtain ⟨h2, q2⟩ := He.ba q1
  obtain ⟨h3, q3⟩ := He.ba q2
  obtain ⟨h4, q4⟩ := He.ba q3
  obtain ⟨h5, q5⟩ := He.ba q4
  obtain ⟨h6, q6⟩ := He.ba q5
  obtain ⟨h7, q7⟩ := He.ba q6
  obtain ⟨h8, q8⟩ := He.ba q7
  obtain ⟨h9, q9⟩ := He.ba q8
  obtain ⟨h10, q10⟩ := He.ba q9
  obtain ⟨h11, q11⟩ := He.ba q10
  obtain ⟨h12, q12⟩ := He.ba q11
  exact {
    d_is_within := funD_of (S.at_ 4 rfl rfl) h1
    d_is_word_in := funD_of (S.at_ 11 rfl rfl) h2
    d_later_row := funD_of (S.at_ 42 rfl rfl) h3
    d_law := funD_of (S.at_ 58 rfl rfl) h4
    d_led_down := funD_of (S.at_ 45 rfl rfl) h5
    d_led_row := funD_of (S.at_ 16 rfl rfl) h6
    d_letter_row := funD_of (S.at_ 14 rfl rfl) h7
    d_letter_sum := funD_of (S.at_ 39 rfl rfl) h8
    d_members_under_in := funD_of (S.at_ 32 rfl rfl) h9
    d_mirrors_at := funD_of (S.at_ 50 rfl rfl) h10
    d_mu_of := funD_of (S.at_ 41 rfl rfl) h11
    d_normal_in := funD_of (S.at_ 25 rfl rfl) h12 }
theorem fc5 (X : K.In h) (G : h.Ns mainGlobals mg) (S : SaysZ ats vals tfs ex h K) (T : ∀ p ∈ csF K, LamX.TabB base mg p.1 p.2) : Fc5 (mo w K a ns) mg base := by
  have U := ex_tabs S
  have q0 := ex_at S 5 (f := xg5) rfl
  obtain ⟨h1, q1⟩ := He.ba q0
  obtain ⟨h2, q2⟩ := He.ba q1
  obtain ⟨h3, q3⟩ := He.ba q2
  obtain ⟨h4, q4⟩ := He.ba q3
  obtain ⟨h5, q5⟩ := He.ba q4
  obtain ⟨h6, q6⟩ := He.ba q5
  obtain ⟨h7, q7⟩ := He.ba q6
  obtain ⟨h8, q8⟩ := He.ba q7
  obtain ⟨h9, q9⟩ := He.ba q8
  obtain ⟨h10, q10⟩ := He.ba q9
  obtain ⟨h11, q11⟩ := He.ba q10
  obtain ⟨h12, q12⟩ := He.ba q11
  exact {
    d_numbers_of := funD_of (S.at_ 33 rfl rfl) h1
    d_p_row_in := funD_of (S.at_ 44 rfl rfl) h2
    d_p_row_kept := funD_of (S.at_ 43 rfl rfl) h3
    d_put_at := funD_of (S.at_ 38 rfl rfl) h4
    d_require_row := funD_of (S.at_ 53 rfl rfl) h5
    d_require_system := funD_of (S.at_ 10 rfl rfl) h6
    d_require_system_and_word := funD_of (S.at_ 13 rfl rfl) h7
    d_require_word := funD_of (S.at_ 12 rfl rfl) h8
    d_row_paper := funD_of (S.at_ 54 rfl rfl) h9
    d_smooth_paper := funD_of (S.at_ 35 rfl rfl) h10
    d_under_in := funD_of (S.at_ 31 rfl rfl) h11
    d_word_of_frame := funD_of (S.at_ 24 rfl rfl) h12 }
theorem fc6 (X : K.In h) (G : h.Ns mainGlobals mg) (S : SaysZ ats vals tfs ex h K) (T : ∀ p ∈ csF K, LamX.TabB base mg p.1 p.2) : Fc6 (mo w K a ns) mg base := by
  have U := ex_tabs S
  have q0 := ex_at S 6 (f := xg6) rfl
  obtain ⟨h1, q1⟩ := He.ba q0
  obtain ⟨h2, q2⟩ := He.ba q1
  obtain ⟨h3, q3⟩ := He.ba q2
  obtain ⟨h4, q4⟩ := He.ba q3
  obtain ⟨h5, q5⟩ := He.ba q4
  obtain ⟨h6, q6⟩ := He.ba q5
  obtain ⟨h7, q7⟩ := He.ba q6
  obtain ⟨h8, q8⟩ := He.ba q7
  obtain ⟨h9, q9⟩ := He.ba q8
  obtain ⟨h10, q10⟩ := He.ba q9
  obtain ⟨h11, q11⟩ := He.ba q10
  obtain ⟨h12, q12⟩ := He.ba q11
  exact {
    d_worst_in := funD_of (S.at_ 47 rfl rfl) h1
    d_worst_members := funD_of (S.at_ 48 rfl rfl) h2
    es_InvalidNumber := subEB_ok h3
    es_InvalidOperation := subEB_ok h4
    es_InvalidRow := subEB_ok h5
    es_InvalidSystem := subEB_ok h6
    es_InvalidWord := subEB_ok h7
    es_TooMany := subEB_ok h8
    et_InvalidNumber := tyB_ok h9
    et_InvalidOperation := tyB_ok h10
    et_InvalidRow := tyB_ok h11
    et_InvalidSystem := tyB_ok h12 }
theorem fc7 (X : K.In h) (G : h.Ns mainGlobals mg) (S : SaysZ ats vals tfs ex h K) (T : ∀ p ∈ csF K, LamX.TabB base mg p.1 p.2) : Fc7 (mo w K a ns) mg base := by
  have U := ex_tabs S
  have q0 := ex_at S 7 (f := xg7) rfl
  obtain ⟨h1, q1⟩ := He.ba q0
  obtain ⟨h2, q2⟩ := He.ba q1
  obtain ⟨h3, q3⟩ := He.ba q2
  obtain ⟨h4, q4⟩ := He.ba q3
  obtain ⟨h5, q5⟩ := He.ba q4
  obtain ⟨h6, q6⟩ := He.ba q5
  exact {
    et_InvalidWord := tyB_ok h1
    et_TooMany := tyB_ok h2
    ex_InvalidOperation := h3
    ex_InvalidRow := h4
    ex_InvalidSystem := h5
    ex_InvalidWord := h6
    fl_InvalidNumber := rfl
    fl_InvalidOperation := rfl
    fl_InvalidRow := rfl
    fl_InvalidSystem := rfl
    fl_InvalidWord := rfl
    fl_TooMany := rfl }
theorem fc8 (X : K.In h) (G : h.Ns mainGlobals mg) (S : SaysZ ats vals tfs ex h K) (T : ∀ p ∈ csF K, LamX.TabB base mg p.1 p.2) : Fc8 (mo w K a ns) mg base := by
  have U := ex_tabs S
  have q0 := ex_at S 8 (f := xg8) rfl
  obtain ⟨h1, q1⟩ := He.ba q0
  obtain ⟨h2, q2⟩ := He.ba q1
  obtain ⟨h3, q3⟩ := He.ba q2
  obtain ⟨h4, q4⟩ := He.ba q3
  obtain ⟨h5, q5⟩ := He.ba q4
  obtain ⟨h6, q6⟩ := He.ba q5
  obtain ⟨h7, q7⟩ := He.ba q6
  obtain ⟨h8, q8⟩ := He.ba q7
  obtain ⟨h9, q9⟩ := He.ba q8
  obtain ⟨h10, q10⟩ := He.ba q9
  obtain ⟨h11, q11⟩ := He.ba q10
  obtain ⟨h12, q12⟩ := He.ba q11
  exact {
    g_BARRED := glo_of X G h1
    g_BONDS := glo_of X G h2
    g_FACTORS := glo_of X G h3
    g_InvalidNumber := glo_of X G h4
    g_InvalidOperation := glo_of X G h5
    g_InvalidRow := glo_of X G h6
    g_InvalidSystem := glo_of X G h7
    g_InvalidWord := glo_of X G h8
    g_Roll := glo_of X G h9
    g_System := glo_of X G h10
    g_TooMany := glo_of X G h11
    g__law_crock := glo_of X G h12 }
theorem fc9 (X : K.In h) (G : h.Ns mainGlobals mg) (S : SaysZ ats vals tfs ex h K) (T : ∀ p ∈ csF K, LamX.TabB base mg p.1 p.2) : Fc9 (mo w K a ns) mg base := by
  have U := ex_tabs S
  have q0 := ex_at S 9 (f := xg9) rfl
  obtain ⟨h1, q1⟩ := He.ba q0
  obtain ⟨h2, q2⟩ := He.ba q1
  obtain ⟨h3, q3⟩ := He.ba q2
  obtain ⟨h4, q4⟩ := He.ba q3
  obtain ⟨h5, q5⟩ := He.ba q4
  obtain ⟨h6, q6⟩ := He.ba q5
  obtain ⟨h7, q7⟩ := He.ba q6
  obtain ⟨h8, q8⟩ := He.ba q7
  obtain ⟨h9, q9⟩ := He.ba q8
  obtain ⟨h10, q10⟩ := He.ba q9
  obtain ⟨h11, q11⟩ := He.ba q10
  obtain ⟨h12, q12⟩ := He.ba q11
  exact {
    g__law_met := glo_of X G h1
    g__law_right := glo_of X G h2
    g__law_scoop := glo_of X G h3
    g__law_select := glo_of X G h4
    g_added_numbers := glo_of X G h5
    g_added_row := glo_of X G h6
    g_are_bonds := glo_of X G h7
    g_barred_places := glo_of X G h8
    g_factors_by := glo_of X G h9
    g_first_frame := glo_of X G h10
    g_first_left := glo_of X G h11
    g_four_places := glo_of X G h12 }
theorem fc10 (X : K.In h) (G : h.Ns mainGlobals mg) (S : SaysZ ats vals tfs ex h K) (T : ∀ p ∈ csF K, LamX.TabB base mg p.1 p.2) : Fc10 (mo w K a ns) mg base := by
  have U := ex_tabs S
  have q0 := ex_at S 10 (f := xg10) rfl
  obtain ⟨h1, q1⟩ := He.ba q0
  obtain ⟨h2, q2⟩ := He.ba q1
  obtain ⟨h3, q3⟩ := He.ba q2
  obtain ⟨h4, q4⟩ := He.ba q3
  obtain ⟨h5, q5⟩ := He.ba q4
  obtain ⟨h6, q6⟩ := He.ba q5
  obtain ⟨h7, q7⟩ := He.ba q6
  obtain ⟨h8, q8⟩ := He.ba q7
  obtain ⟨h9, q9⟩ := He.ba q8
  obtain ⟨h10, q10⟩ := He.ba q9
  obtain ⟨h11, q11⟩ := He.ba q10
  obtain ⟨h12, q12⟩ := He.ba q11
  exact {
    g_frame_ahead := glo_of X G h1
    g_frame_behind := glo_of X G h2
    g_frame_of := glo_of X G h3
    g_is_below := glo_of X G h4
    g_is_bond_told := glo_of X G h5
    g_is_left_frames := glo_of X G h6
    g_is_numbers := glo_of X G h7
    g_is_row := glo_of X G h8
    g_is_row_below := glo_of X G h9
    g_is_row_paper := glo_of X G h10
    g_is_smooth := glo_of X G h11
    g_is_smooth_lot := glo_of X G h12 }
theorem fc11 (X : K.In h) (G : h.Ns mainGlobals mg) (S : SaysZ ats vals tfs ex h K) (T : ∀ p ∈ csF K, LamX.TabB base mg p.1 p.2) : Fc11 (mo w K a ns) mg base := by
  have U := ex_tabs S
  have q0 := ex_at S 11 (f := xg11) rfl
  obtain ⟨h1, q1⟩ := He.ba q0
  obtain ⟨h2, q2⟩ := He.ba q1
  obtain ⟨h3, q3⟩ := He.ba q2
  obtain ⟨h4, q4⟩ := He.ba q3
  obtain ⟨h5, q5⟩ := He.ba q4
  obtain ⟨h6, q6⟩ := He.ba q5
  obtain ⟨h7, q7⟩ := He.ba q6
  obtain ⟨h8, q8⟩ := He.ba q7
  obtain ⟨h9, q9⟩ := He.ba q8
  obtain ⟨h10, q10⟩ := He.ba q9
  obtain ⟨h11, q11⟩ := He.ba q10
  obtain ⟨h12, q12⟩ := He.ba q11
  exact {
    g_is_smooth_paper := glo_of X G h1
    g_is_under_in := glo_of X G h2
    g_is_whole := glo_of X G h3
    g_is_within := glo_of X G h4
    g_is_word_in := glo_of X G h5
    g_later_row := glo_of X G h6
    g_led_down := glo_of X G h7
    g_led_row := glo_of X G h8
    g_letter_row := glo_of X G h9
    g_letter_sum := glo_of X G h10
    g_lies_as := glo_of X G h11
    g_members_under_in := glo_of X G h12 }
theorem fc12 (X : K.In h) (G : h.Ns mainGlobals mg) (S : SaysZ ats vals tfs ex h K) (T : ∀ p ∈ csF K, LamX.TabB base mg p.1 p.2) : Fc12 (mo w K a ns) mg base := by
  have U := ex_tabs S
  have q0 := ex_at S 12 (f := xg12) rfl
  obtain ⟨h1, q1⟩ := He.ba q0
  obtain ⟨h2, q2⟩ := He.ba q1
  obtain ⟨h3, q3⟩ := He.ba q2
  obtain ⟨h4, q4⟩ := He.ba q3
  obtain ⟨h5, q5⟩ := He.ba q4
  obtain ⟨h6, q6⟩ := He.ba q5
  obtain ⟨h7, q7⟩ := He.ba q6
  obtain ⟨h8, q8⟩ := He.ba q7
  obtain ⟨h9, q9⟩ := He.ba q8
  obtain ⟨h10, q10⟩ := He.ba q9
  obtain ⟨h11, q11⟩ := He.ba q10
  obtain ⟨h12, q12⟩ := He.ba q11
  exact {
    g_mirror_numbers := glo_of X G h1
    g_mirrors_at := glo_of X G h2
    g_mu_of := glo_of X G h3
    g_normal_in := glo_of X G h4
    g_numbers_of := glo_of X G h5
    g_p_row_in := glo_of X G h6
    g_p_row_kept := glo_of X G h7
    g_put_at := glo_of X G h8
    g_require_row := glo_of X G h9
    g_require_system := glo_of X G h10
    g_require_system_and_word := glo_of X G h11
    g_require_word := glo_of X G h12 }
theorem fc13 (X : K.In h) (G : h.Ns mainGlobals mg) (S : SaysZ ats vals tfs ex h K) (T : ∀ p ∈ csF K, LamX.TabB base mg p.1 p.2) : Fc13 (mo w K a ns) mg base := by
  have U := ex_tabs S
  have q0 := ex_at S 13 (f := xg13) rfl
  obtain ⟨h1, q1⟩ := He.ba q0
  obtain ⟨h2, q2⟩ := He.ba q1
  obtain ⟨h3, q3⟩ := He.ba q2
  obtain ⟨h4, q4⟩ := He.ba q3
  obtain ⟨h5, q5⟩ := He.ba q4
  obtain ⟨h6, q6⟩ := He.ba q5
  obtain ⟨h7, q7⟩ := He.ba q6
  obtain ⟨h8, q8⟩ := He.ba q7
  obtain ⟨h9, q9⟩ := He.ba q8
  obtain ⟨h10, q10⟩ := He.ba q9
  obtain ⟨h11, q11⟩ := He.ba q10
  obtain ⟨h12, q12⟩ := He.ba q11
  exact {
    g_row_paper := glo_of X G h1
    g_runs_of := glo_of X G h2
    g_smooth_paper := glo_of X G h3
    g_times_s := glo_of X G h4
    g_under_in := glo_of X G h5
    g_word_of_frame := glo_of X G h6
    g_worst_in := glo_of X G h7
    g_worst_members := glo_of X G h8
    isi_System := isiB_ok h9 (isi_cons (.head _) (isi_cons (.tail _ (.head _)) isi_nil))
    k_InvalidNumber := h10
    k_InvalidOperation := h11
    k_InvalidRow := h12 }
theorem fc14 (X : K.In h) (G : h.Ns mainGlobals mg) (S : SaysZ ats vals tfs ex h K) (T : ∀ p ∈ csF K, LamX.TabB base mg p.1 p.2) : Fc14 (mo w K a ns) mg base := by
  have U := ex_tabs S
  have q0 := ex_at S 14 (f := xg14) rfl
  obtain ⟨h1, q1⟩ := He.ba q0
  obtain ⟨h2, q2⟩ := He.ba q1
  obtain ⟨h3, q3⟩ := He.ba q2
  obtain ⟨h4, q4⟩ := He.ba q3
  obtain ⟨h5, q5⟩ := He.ba q4
  obtain ⟨h6, q6⟩ := He.ba q5
  obtain ⟨h7, q7⟩ := He.ba q6
  obtain ⟨h8, q8⟩ := He.ba q7
  obtain ⟨h9, q9⟩ := He.ba q8
  obtain ⟨h10, q10⟩ := He.ba q9
  obtain ⟨h11, q11⟩ := He.ba q10
  obtain ⟨h12, q12⟩ := He.ba q11
  exact {
    k_InvalidSystem := h1
    k_InvalidWord := h2
    k_TooMany := h3
    k__law_crock := h4
    k__law_met := h5
    k__law_right := h6
    k__law_scoop := h7
    k__law_select := h8
    k_added_numbers := h9
    k_added_row := h10
    k_are_bonds := h11
    k_barred_places := h12 }
theorem fc15 (X : K.In h) (G : h.Ns mainGlobals mg) (S : SaysZ ats vals tfs ex h K) (T : ∀ p ∈ csF K, LamX.TabB base mg p.1 p.2) : Fc15 (mo w K a ns) mg base := by
  have U := ex_tabs S
  have q0 := ex_at S 15 (f := xg15) rfl
  obtain ⟨h1, q1⟩ := He.ba q0
  obtain ⟨h2, q2⟩ := He.ba q1
  obtain ⟨h3, q3⟩ := He.ba q2
  obtain ⟨h4, q4⟩ := He.ba q3
  obtain ⟨h5, q5⟩ := He.ba q4
  obtain ⟨h6, q6⟩ := He.ba q5
  obtain ⟨h7, q7⟩ := He.ba q6
  obtain ⟨h8, q8⟩ := He.ba q7
  obtain ⟨h9, q9⟩ := He.ba q8
  obtain ⟨h10, q10⟩ := He.ba q9
  obtain ⟨h11, q11⟩ := He.ba q10
  obtain ⟨h12, q12⟩ := He.ba q11
  exact {
    k_factors_by := h1
    k_first_frame := h2
    k_first_left := h3
    k_four_places := h4
    k_frame_ahead := h5
    k_frame_behind := h6
    k_frame_of := h7
    k_is_below := h8
    k_is_bond_told := h9
    k_is_left := h10
    k_is_numbers := h11
    k_is_row := h12 }
theorem fc16 (X : K.In h) (G : h.Ns mainGlobals mg) (S : SaysZ ats vals tfs ex h K) (T : ∀ p ∈ csF K, LamX.TabB base mg p.1 p.2) : Fc16 (mo w K a ns) mg base := by
  have U := ex_tabs S
  have q0 := ex_at S 16 (f := xg16) rfl
  obtain ⟨h1, q1⟩ := He.ba q0
  obtain ⟨h2, q2⟩ := He.ba q1
  obtain ⟨h3, q3⟩ := He.ba q2
  obtain ⟨h4, q4⟩ := He.ba q3
  obtain ⟨h5, q5⟩ := He.ba q4
  obtain ⟨h6, q6⟩ := He.ba q5
  obtain ⟨h7, q7⟩ := He.ba q6
  obtain ⟨h8, q8⟩ := He.ba q7
  obtain ⟨h9, q9⟩ := He.ba q8
  obtain ⟨h10, q10⟩ := He.ba q9
  obtain ⟨h11, q11⟩ := He.ba q10
  obtain ⟨h12, q12⟩ := He.ba q11
  exact {
    k_is_row_below := h1
    k_is_row_paper := h2
    k_is_smooth := h3
    k_is_smooth_lot := h4
    k_is_smooth_paper := h5
    k_is_under_in := h6
    k_is_whole := h7
    k_is_within := h8
    k_is_word_in := h9
    k_later_row := h10
    k_led_down := h11
    k_led_row := h12 }
theorem fc17 (X : K.In h) (G : h.Ns mainGlobals mg) (S : SaysZ ats vals tfs ex h K) (T : ∀ p ∈ csF K, LamX.TabB base mg p.1 p.2) : Fc17 (mo w K a ns) mg base := by
  have U := ex_tabs S
  have q0 := ex_at S 17 (f := xg17) rfl
  obtain ⟨h1, q1⟩ := He.ba q0
  obtain ⟨h2, q2⟩ := He.ba q1
  obtain ⟨h3, q3⟩ := He.ba q2
  obtain ⟨h4, q4⟩ := He.ba q3
  obtain ⟨h5, q5⟩ := He.ba q4
  obtain ⟨h6, q6⟩ := He.ba q5
  obtain ⟨h7, q7⟩ := He.ba q6
  obtain ⟨h8, q8⟩ := He.ba q7
  obtain ⟨h9, q9⟩ := He.ba q8
  obtain ⟨h10, q10⟩ := He.ba q9
  obtain ⟨h11, q11⟩ := He.ba q10
  obtain ⟨h12, q12⟩ := He.ba q11
  exact {
    k_letter_row := h1
    k_letter_sum := h2
    k_lies_as := h3
    k_members_under_in := h4
    k_mirror_numbers := h5
    k_mirrors_at := h6
    k_mu_of := h7
    k_normal_in := h8
    k_numbers_of := h9
    k_p_row_in := h10
    k_p_row_kept := h11
    k_put_at := h12 }
theorem fc18 (X : K.In h) (G : h.Ns mainGlobals mg) (S : SaysZ ats vals tfs ex h K) (T : ∀ p ∈ csF K, LamX.TabB base mg p.1 p.2) : Fc18 (mo w K a ns) mg base := by
  have U := ex_tabs S
  have q0 := ex_at S 18 (f := xg18) rfl
  obtain ⟨h1, q1⟩ := He.ba q0
  obtain ⟨h2, q2⟩ := He.ba q1
  obtain ⟨h3, q3⟩ := He.ba q2
  obtain ⟨h4, q4⟩ := He.ba q3
  obtain ⟨h5, q5⟩ := He.ba q4
  obtain ⟨h6, q6⟩ := He.ba q5
  obtain ⟨h7, q7⟩ := He.ba q6
  obtain ⟨h8, q8⟩ := He.ba q7
  obtain ⟨h9, q9⟩ := He.ba q8
  obtain ⟨h10, q10⟩ := He.ba q9
  obtain ⟨h11, q11⟩ := He.ba q10
  obtain ⟨h12, q12⟩ := He.ba q11
  exact {
    k_require_row := h1
    k_require_system := h2
    k_require_system_and_word := h3
    k_require_word := h4
    k_row_paper := h5
    k_runs_of := h6
    k_smooth_paper := h7
    k_times_s := h8
    k_under_in := h9
    k_word_of_frame := h10
    k_worst_in := h11
    k_worst_members := h12 }
theorem fc19 (X : K.In h) (G : h.Ns mainGlobals mg) (S : SaysZ ats vals tfs ex h K) (T : ∀ p ∈ csF K, LamX.TabB base mg p.1 p.2) : Fc19 (mo w K a ns) mg base := by
  have U := ex_tabs S
  have q0 := ex_at S 19 (f := xg19) rfl
  obtain ⟨h1, q1⟩ := He.ba q0
  obtain ⟨h2, q2⟩ := He.ba q1
  obtain ⟨h3, q3⟩ := He.ba q2
  obtain ⟨h4, q4⟩ := He.ba q3
  obtain ⟨h5, q5⟩ := He.ba q4
  obtain ⟨h6, q6⟩ := He.ba q5
  obtain ⟨h7, q7⟩ := He.ba q6
  obtain ⟨h8, q8⟩ := He.ba q7
  obtain ⟨h9, q9⟩ := He.ba q8
  obtain ⟨h10, q10⟩ := He.ba q9
  obtain ⟨h11, q11⟩ := He.ba q10
  obtain ⟨h12, q12⟩ := He.ba q11
  exact {
    kd_FACTORS := kdB_ok rfl h1
    m_Roll_ahead := methB_ok h2
    m_Roll_behind := methB_ok h3
    m_Roll_frame := methB_ok h4
    m_Roll_is_left := methB_ok h5
    m_Roll_put := methB_ok h6
    m_Roll_word := methB_ok h7
    mk_Roll := mkB_ok h8
    mk_System := mkB_ok h9
    n_abs := PySem.W.mg_none_of X G (He.eqO_ok h10)
    n_all := PySem.W.mg_none_of X G (He.eqO_ok h11)
    n_any := PySem.W.mg_none_of X G (He.eqO_ok h12) }
theorem fc20 (X : K.In h) (G : h.Ns mainGlobals mg) (S : SaysZ ats vals tfs ex h K) (T : ∀ p ∈ csF K, LamX.TabB base mg p.1 p.2) : Fc20 (mo w K a ns) mg base := by
  have U := ex_tabs S
  have q0 := ex_at S 20 (f := xg20) rfl
  obtain ⟨h1, q1⟩ := He.ba q0
  obtain ⟨h2, q2⟩ := He.ba q1
  obtain ⟨h3, q3⟩ := He.ba q2
  obtain ⟨h4, q4⟩ := He.ba q3
  obtain ⟨h5, q5⟩ := He.ba q4
  obtain ⟨h6, q6⟩ := He.ba q5
  obtain ⟨h7, q7⟩ := He.ba q6
  obtain ⟨h8, q8⟩ := He.ba q7
  obtain ⟨h9, q9⟩ := He.ba q8
  obtain ⟨h10, q10⟩ := He.ba q9
  obtain ⟨h11, q11⟩ := He.ba q10
  obtain ⟨h12, q12⟩ := He.ba q11
  exact {
    n_bool := PySem.W.mg_none_of X G (He.eqO_ok h1)
    n_enumerate := PySem.W.mg_none_of X G (He.eqO_ok h2)
    n_int := PySem.W.mg_none_of X G (He.eqO_ok h3)
    n_isinstance := PySem.W.mg_none_of X G (He.eqO_ok h4)
    n_len := PySem.W.mg_none_of X G (He.eqO_ok h5)
    n_list := PySem.W.mg_none_of X G (He.eqO_ok h6)
    n_max := PySem.W.mg_none_of X G (He.eqO_ok h7)
    n_min := PySem.W.mg_none_of X G (He.eqO_ok h8)
    n_next := PySem.W.mg_none_of X G (He.eqO_ok h9)
    n_range := PySem.W.mg_none_of X G (He.eqO_ok h10)
    n_sorted := PySem.W.mg_none_of X G (He.eqO_ok h11)
    n_str := PySem.W.mg_none_of X G (He.eqO_ok h12) }
theorem fc21 (X : K.In h) (G : h.Ns mainGlobals mg) (S : SaysZ ats vals tfs ex h K) (T : ∀ p ∈ csF K, LamX.TabB base mg p.1 p.2) : Fc21 (mo w K a ns) mg base := by
  have U := ex_tabs S
  have q0 := ex_at S 21 (f := xg21) rfl
  obtain ⟨h1, q1⟩ := He.ba q0
  obtain ⟨h2, q2⟩ := He.ba q1
  obtain ⟨h3, q3⟩ := He.ba q2
  obtain ⟨h4, q4⟩ := He.ba q3
  obtain ⟨h5, q5⟩ := He.ba q4
  obtain ⟨h6, q6⟩ := He.ba q5
  obtain ⟨h7, q7⟩ := He.ba q6
  obtain ⟨h8, q8⟩ := He.ba q7
  obtain ⟨h9, q9⟩ := He.ba q8
  obtain ⟨h10, q10⟩ := He.ba q9
  obtain ⟨h11, q11⟩ := He.ba q10
  obtain ⟨h12, q12⟩ := He.ba q11
  exact {
    n_sum := PySem.W.mg_none_of X G (He.eqO_ok h1)
    n_super := PySem.W.mg_none_of X G (He.eqO_ok h2)
    n_tuple := PySem.W.mg_none_of X G (He.eqO_ok h3)
    n_zip := PySem.W.mg_none_of X G (He.eqO_ok h4)
    no_TooMany := He.eqO_ok h5
    sc_Roll := sclB_ok h6
    sc_System := sclB_ok h7
    sl_own_bonds := slotB_ok h8
    sl_own_factors := slotB_ok h9
    sl_own_frames := slotB_ok h10
    sl_own_golden := slotB_ok h11
    sl_own_letters := slotB_ok h12 }
theorem fc22 (X : K.In h) (G : h.Ns mainGlobals mg) (S : SaysZ ats vals tfs ex h K) (T : ∀ p ∈ csF K, LamX.TabB base mg p.1 p.2) : Fc22 (mo w K a ns) mg base := by
  have U := ex_tabs S
  have q0 := ex_at S 22 (f := xg22) rfl
  obtain ⟨h1, q1⟩ := He.ba q0
  obtain ⟨h2, q2⟩ := He.ba q1
  obtain ⟨h3, q3⟩ := He.ba q2
  obtain ⟨h4, q4⟩ := He.ba q3
  obtain ⟨h5, q5⟩ := He.ba q4
  obtain ⟨h6, q6⟩ := He.ba q5
  obtain ⟨h7, q7⟩ := He.ba q6
  obtain ⟨h8, q8⟩ := He.ba q7
  exact {
    sl_own_system := slotB_ok h1
    sl_own_words := slotB_ok h2
    su_InvalidNumber := supB_ok (S.at_ 60 rfl rfl) h3 rfl rfl rfl rfl rfl rfl (by decide) rfl rfl rfl rfl rfl ⟨_, rfl, rfl⟩ (fun _ => ⟨_, rfl⟩) (fun _ _ _ _ _ _ _ _ _ _ _ _ => rfl)
    su_TooMany := supB_ok (S.at_ 61 rfl rfl) h4 rfl rfl rfl rfl rfl rfl (by decide) rfl rfl rfl rfl rfl ⟨_, rfl, rfl⟩ (fun _ => ⟨_, rfl⟩) (fun _ _ _ _ _ _ _ _ _ _ _ _ => rfl)
    t_BARRED := cnB_ref h5 _
    t_BONDS := cnB_ref h6 _
    tb__law_right := tb_of T (cs_mem (p := fun K => (gzA K pths 56)) 2 rfl) (List.mem_of_getElem? (l := tabsF K) (i := 2) rfl) U
    tb_first_left := tb_of T (cs_mem (p := fun K => (gzA K pths 21)) 0 rfl) (List.mem_of_getElem? (l := tabsF K) (i := 0) rfl) U
    tb_law := tb_of T (cs_mem (p := fun K => (gzA K pths 58)) 3 rfl) (List.mem_of_getElem? (l := tabsF K) (i := 3) rfl) U
    tb_smooth_paper := tb_of T (cs_mem (p := fun K => (gzA K pths 35)) 1 rfl) (List.mem_of_getElem? (l := tabsF K) (i := 1) rfl) U
    ti_InvalidNumber := tyB_ok h7
    ti_TooMany := tyB_ok h8 }
theorem fc23 (X : K.In h) (G : h.Ns mainGlobals mg) (S : SaysZ ats vals tfs ex h K) (T : ∀ p ∈ csF K, LamX.TabB base mg p.1 p.2) : Fc23 (mo w K a ns) mg base := by
  have U := ex_tabs S
  have q0 := ex_at S 23 (f := xg23) rfl
  obtain ⟨h1, q1⟩ := He.ba q0
  obtain ⟨h2, q2⟩ := He.ba q1
  exact {
    xf_TooMany := xfB_ok h1
    xm_met := xm_of h2 }
theorem fc (X : K.In h) (G : h.Ns mainGlobals mg) (S : SaysZ ats vals tfs ex h K) (T : ∀ p ∈ csF K, LamX.TabB base mg p.1 p.2) : Fc (mo w K a ns) mg base := ⟨fc0 X G S T, fc1 X G S T, fc2 X G S T, fc3 X G S T, fc4 X G S T, fc5 X G S T, fc6 X G S T, fc7 X G S T, fc8 X G S T, fc9 X G S T, fc10 X G S T, fc11 X G S T, fc12 X G S T, fc13 X G S T, fc14 X G S T, fc15 X G S T, fc16 X G S T, fc17 X G S T, fc18 X G S T, fc19 X G S T, fc20 X G S T, fc21 X G S T, fc22 X G S T, fc23 X G S T⟩
end
end K73
end
end

section
set_option maxRecDepth 100000
set_option maxHeartbeats 0
noncomputable section
namespace K73
open PySem PySem.Spec L2 Eng
open PyProof.Rows hiding St

def names0 : List Str := [("_wall" : Str), ("WordError" : Str), ("InvalidSystem" : Str), ("InvalidWord" : Str), ("InvalidRow" : Str), ("InvalidOperation" : Str), ("InvalidNumber" : Str), ("TooMany" : Str), ("is_whole" : Str), ("is_within" : Str), ("is_below" : Str), ("is_row_below" : Str), ("letter_row" : Str), ("led_row" : Str), ("times_s" : Str), ("added_row" : Str), ("first_frame" : Str), ("frame_behind" : Str), ("frame_ahead" : Str), ("frame_of" : Str), ("is_left" : Str), ("is_left_frames" : Str), ("first_left" : Str), ("word_of_frame" : Str), ("Roll" : Str), ("MAX_LETTERS" : Str), ("BONDS" : Str), ("GOLDEN_BOND" : Str), ("MOST_PLACES_systems" : Str), ("MOST_RING" : Str), ("FACTORS" : Str), ("is_bond_told" : Str), ("are_bonds" : Str), ("factors_by" : Str), ("system_text" : Str)]
def names1 : List Str := [("System" : Str), ("require_system" : Str), ("MAX_WORD" : Str), ("is_word_in" : Str), ("normal_in" : Str), ("require_word" : Str), ("require_system_and_word" : Str), ("MAX_UNDER" : Str), ("led_down" : Str), ("is_under_in" : Str), ("under_in" : Str), ("members_under_in" : Str), ("added_numbers" : Str), ("put_at" : Str), ("letter_sum" : Str), ("mu_of" : Str), ("later_row" : Str), ("p_row_kept" : Str), ("p_row_in" : Str), ("MOST_PLACES_rows" : Str), ("LEAST_PLACES" : Str), ("is_row" : Str), ("require_row" : Str), ("SMOOTH" : Str), ("MIRRORS" : Str), ("PATTERN" : Str), ("BARRED" : Str), ("PATTERN_SIZE" : Str), ("mirror_numbers" : Str), ("numbers_of" : Str), ("is_smooth_lot" : Str), ("worst_in" : Str), ("is_numbers" : Str), ("lies_as" : Str), ("four_places" : Str)]
def names2 : List Str := [("barred_places" : Str), ("turned_ties" : Str), ("runs_of" : Str), ("mirrors_at" : Str), ("is_smooth" : Str), ("smooth_paper" : Str), ("is_smooth_paper" : Str), ("worst_members" : Str), ("row_paper" : Str), ("is_row_paper" : Str), ("_law_crock" : Str), ("_law_scoop" : Str), ("_law_select" : Str), ("_law_met" : Str), ("_law_right" : Str)]
def names : List Str := names0 ++ names1 ++ names2
abbrev qv : Program := PySem.W.view R.prog [96]
abbrev hk : PySem.W.Hook := hookZ 6 ats vals tfs ex
def ob (s : PySem.W.SharedT) : AlZ := obsZ 6 ats tfs ex (HandSHeadRun.getT s)
theorem ob_eq (s : PySem.W.SharedT) : ob s = hk.obs s.abs := obsZ_eq (HandSHeadRun.getT_eq s)
theorem run_f (w : World) : HandSHeadRun.RunEq R qv hk ob 8000 names (w.withFollow "special-get-raises" false) := by
  intro os
  kernel_rfl
theorem run_t (w : World) : HandSHeadRun.RunEq R qv hk ob 8000 names (w.withFollow "special-get-raises" true) := by
  intro os
  kernel_rfl
theorem run (w : World) : HandSHeadRun.RunEq R qv hk ob 8000 names w := PySem.W.byRow2 "special-get-raises" run_f run_t w
end K73
end
end

section
set_option maxRecDepth 1000000
set_option maxHeartbeats 0
noncomputable section
namespace K73
open PySem PySem.Spec L2 Eng
open PyProof.Rows hiding St
theorem fmod_small {M : Nat} (h : 0 < M) (h2 : M ≤ 18446744073709551616) (z : Int) : (z.fmod (.ofNat M)).natAbs < 18446744073709551616 := by
  have e : Int.ofNat M = (M : Int) := rfl
  rw [e]
  have h3 := Int.fmod_nonneg_of_pos z (show (0 : Int) < M by omega)
  have h4 := Int.fmod_lt_of_pos z (show (0 : Int) < M by omega)
  omega
theorem fn22 {S : SCode} {cl : Cl} {u v : W} {h : EH} {x : KX} {k : K1} : fnC 2 2 S cl [u, v] h x k = S cl (.mk u v .und .und (.mk .und .und .und .und .nil)) h x (fun _ h => k .non h) k (fun _ _ => .bad) (fun _ _ => .bad) := rfl
theorem fn21 {S : SCode} {cl : Cl} {u v : W} {h : EH} {x : KX} {k : K1} : fnC 2 1 S cl [u, v] h x k = S cl (.mk u v .und .und .nil) h x (fun _ h => k .non h) k (fun _ _ => .bad) (fun _ _ => .bad) := rfl
theorem scoop_pos {cl : Cl} {m : Nat} (hm : 0 < m) (hm2 : m < 1000) {n : Nat} {a b c : Int} {l r : BT} {x : KX} {k : K1} (ha : Int.ofNat 0 < a) : C__law_scoop cl [.ref 0, .int m] (crk n a b c l r) x k = k (.int (a.fmod m)) (crk n (a.fdiv m) b c l r) := by
  have m1 : (0 : Int) < m := by omega
  have m2 : (m : Int).natAbs < 1073741824 := by omega
  unfold C__law_scoop
  rw [fn22]
  unfold S__law_scoop
  simp -implicitDefEqProofs only [ev_seq, ev_if, ev_cmp, ev_bin, ev_cvar, ev_g0, ev_g1, ev_g2, ev_g3, ev_up, ev_ur, ev_ui, ev_con, ev_ix0, ev_ix1, ev_ix2, ev_gt, ev_nop, if_pos ha]
  simp -implicitDefEqProofs only [ev_asg, ev_fn, ev_cons, ev_nil, ev_bin, ev_cvar, ev_g0, ev_g1, ev_g2, ev_g3, ev_up, ev_ur, ev_ui, ev_con, ev_ix0, ev_int, ev_mod m1, ev_name, ev_sup, ev_s0, ev_div m1 m2, ev_sub, ev_st0, ev_ret]
theorem scoop_neg {cl : Cl} {m : Nat} (hm : 0 < m) (hm2 : m < 1000) {n : Nat} {a b c : Int} {l r : BT} (ha : ¬ Int.ofNat 0 < a) : ∃ X : Int, ∀ (x : KX) (k : K1), C__law_scoop cl [.ref 0, .int m] (crk n a b c l r) x k = k (.int (X.fmod m)) (crk n a b (c + Int.ofNat 1) l r) := by
  have m1 : (0 : Int) < m := by omega
  have q1 : ∀ z : Int, (z.fmod (.ofNat 2305843009213693907)).natAbs < 18446744073709551616 := fmod_small (by decide) (by decide)
  have q2 : ∀ z : Int, (z.fmod (.ofNat 2305843009213693951)).natAbs < 18446744073709551616 := fmod_small (by decide) (by decide)
  refine ⟨(((((b + Int.ofNat 32452867 * (c + Int.ofNat 1)).fmod (Int.ofNat 2305843009213693907)) * ((b + Int.ofNat 32452867 * (c + Int.ofNat 1)).fmod (Int.ofNat 2305843009213693907))).fmod (Int.ofNat 2305843009213693951) * Int.ofNat 86028157 + ((b + Int.ofNat 32452867 * (c + Int.ofNat 1)).fmod (Int.ofNat 2305843009213693907)) + Int.ofNat 7 * (c + Int.ofNat 1)).fdiv (Int.ofNat 131072)), fun x k => ?_⟩
  unfold C__law_scoop
  rw [fn22]
  unfold S__law_scoop
  simp -implicitDefEqProofs only [ev_seq, ev_if, ev_cmp, ev_bin, ev_cvar, ev_g0, ev_g1, ev_g2, ev_g3, ev_up, ev_ur, ev_ui, ev_con, ev_ix0, ev_ix1, ev_ix2, ev_gt, ev_nop, if_neg ha]
  simp -implicitDefEqProofs only [ev_asg, ev_fn, ev_cons, ev_nil, ev_bin, ev_cvar, ev_g0, ev_g1, ev_g2, ev_g3, ev_up, ev_ur, ev_ui, ev_con, ev_ix0, ev_ix1, ev_ix2, ev_int, ev_mod m1, ev_name, ev_sup, ev_s0, ev_s2, ev_s3, ev_sub, ev_st2, ev_ret, ev_add, ev_div (show (0 : Int) < .ofNat 131072 by decide) (by decide), ev_mod (show (0 : Int) < .ofNat 2305843009213693907 by decide), ev_mod (show (0 : Int) < .ofNat 2305843009213693951 by decide),
      ev_mul (.inl (show (Int.ofNat 32452867).natAbs < 18446744073709551616 by decide)), ev_mul (.inl (show (Int.ofNat 7).natAbs < 18446744073709551616 by decide)), ev_mul (.inl (q1 _)), ev_mul (.inl (q2 _)), ev_mul (.inr (show (Int.ofNat 86028157).natAbs < 18446744073709551616 by decide))]
theorem scoop_ok {cl : Cl} {m : Nat} (hm : 0 < m) (hm2 : m < 1000) {n : Nat} {a b c : Int} {l r : BT} : ∃ (v : Nat) (a' c' : Int), v < m ∧ ∀ (x : KX) (k : K1), C__law_scoop cl [.ref 0, .int m] (crk n a b c l r) x k = k (.int (.ofNat v)) (crk n a' b c' l r) := by
  have m1 : (0 : Int) < m := by omega
  have key : ∀ X : Int, ∃ v : Nat, v < m ∧ X.fmod m = .ofNat v := fun X => by
    obtain ⟨v, e⟩ := Int.eq_ofNat_of_zero_le (Int.fmod_nonneg_of_pos X m1)
    have := Int.fmod_lt_of_pos X m1
    exact ⟨v, by omega, e⟩
  by_cases ha : Int.ofNat 0 < a
  · obtain ⟨v, h1, h2⟩ := key a
    exact ⟨v, _, _, h1, fun x k => by rw [scoop_pos hm hm2 ha, h2]⟩
  · obtain ⟨X, e⟩ := scoop_neg hm hm2 ha (cl := cl) (n := n) (b := b) (c := c) (l := l) (r := r)
    obtain ⟨v, h1, h2⟩ := key X
    exact ⟨v, _, _, h1, fun x k => by rw [e, h2]⟩
theorem nth_ok {f : W → Ans} : ∀ (ws : List W) (i : Nat) (h : i < ws.length), nthC ws i f = f ws[i] := by
  intro ws
  induction ws with
  | nil => intro i h; exact absurd h (Nat.not_lt_zero _)
  | cons w t ih =>
    intro i h
    cases i with
    | zero => rfl
    | succ i => exact ih i (Nat.lt_of_succ_lt_succ h)
theorem ev_len {ws : List W} {h : EH} {k : K1} : fLen [.lst ws] h k = k (.int (.ofNat ws.length)) h := by
  have q : fLen [.lst ws] h k = frN (lenN ws) fun n => k (.int (.ofNat n)) h := rfl
  rw [q, frN_eq, lenN_eq]
theorem ev_ixl {ws : List W} {i : Nat} {h : EH} {k : K1} : fIx (.lst ws) (.int (.ofNat i)) h k = nthC ws i fun w => k w h := rfl
theorem select_ok {cl : Cl} {items : List W} (hm : 0 < items.length) (hm2 : items.length < 1000) {n : Nat} {a b c : Int} {l r : BT} : ∃ w ∈ items, ∃ a' c' : Int, ∀ (x : KX) (k : K1), C__law_select cl [.ref 0, .lst items] (crk n a b c l r) x k = k w (crk n a' b c' l r) := by
  obtain ⟨v, a', c', h1, h3⟩ := scoop_ok (cl := cl) hm hm2 (n := n) (a := a) (b := b) (c := c) (l := l) (r := r)
  refine ⟨items[v], List.getElem_mem h1, a', c', fun x k => ?_⟩
  unfold C__law_select
  rw [fn21]
  unfold S__law_select
  simp -implicitDefEqProofs only [ev_ret, ev_bin, ev_cvar, ev_g0, ev_g1, ev_ul, ev_ur, ev_call, ev_cons, ev_nil, ev_fn, ev_len]
  rw [show (Int.ofNat items.length) = ((items.length : Nat) : Int) from rfl, h3, ev_ixl, nth_ok]
end K73
end
end

section
set_option maxRecDepth 1000000
set_option maxHeartbeats 0
noncomputable section
namespace K73
open PySem PySem.Spec L2 Eng
open PyProof.Rows hiding St
/-! ### the law's def, statement by statement -/
def st (none odd row bad call due told four : W) : S4 := .mk (.ref 0) none odd row (.mk call due told bad (.mk four .und .und .und .nil))
def z41 : W := .tup [.int 0, .int 0, .int 0, .int 0, .int 0, .int 0, .int 0, .int 0, .int 0, .int 0, .int 0, .int 0, .int 0, .int 0, .int 0, .int 0, .int 0, .int 0, .int 0, .int 0, .int 0, .int 0, .int 0, .int 0, .int 0, .int 0, .int 0, .int 0, .int 0, .int 0, .int 0, .int 0, .int 0, .int 0, .int 0, .int 0, .int 0, .int 0, .int 0, .int 0, .int 0]
def m1 : List W := [.non, .int 3, .tup [.int 3, .tup []], .str "3 letters", .lst [], .ref 1, .bl true]
def m2 : List W := [.non, .int 0, .str "01", .lst [.int 0, .int 1], .tup [.int 3], .tup [.int 0, .int (-1)], .tup [.bl true], .tup [.non], .tup [.str "0"], z41, .tup [.tup [.int 0]], .tup [.int 1000000000000000000000000000000000000000000000000000000000000], .ref 2]
def m3 : List W := [.non, .int 1, .lst [.int 1], .tup [.int 1, .int 3], .tup [.bl false], .tup [.int 0, .non], .str "1", z41]
def m4 : List W := [.non, .int 3, .str "12", .lst [.int 1, .int 2], .tup [.int 1], .tup [], .tup [.int 1, .int 1], .tup [.int 0, .int 1], .tup [.int 1, .int 3], .tup [.bl true, .int 2], .tup [.int 1, .int 2, .int 3, .int 4, .int 5, .int 6], .tup [.int (-1), .int 2], .tup [.int 1, .str "2"]]
def D0 : BT := .node (.dct []) .nil .nil
def c0 : Cl := clF 0
section
variable {a b c : Int} {x : KX} {n : KN} {k : K1} {br ct : KN}
theorem r0 {w1 w2 w3 w4 w5 w6 w7 w8 : W} : ∃ L, R__law_right_0 = scAsg (cCall (fun c => C__law_select c) L) (gcName Eng.s1) ∧ ∀ kl, L c0 (st w1 w2 w3 w4 w5 w6 w7 w8) (crk 1 a b c .nil .nil) x kl = kl [.ref 0, .lst m1] (crk 2 a b c D0 .nil) := ⟨_, rfl, fun _ => by kernel_rfl⟩
theorem r1 {w1 w2 w3 w4 w5 w6 w7 w8 : W} : R__law_right_1 c0 (st w1 w2 w3 w4 w5 w6 w7 w8) (crk 2 a b c D0 .nil) x n k br ct = n (st w1 (.lst m2) w3 w4 w5 w6 w7 w8) (crk 3 a b c D0 D0) := by kernel_rfl
theorem r2 {w1 w3 w4 w5 w6 w7 w8 : W} : ∃ L1 L2 G, R__law_right_2 = scAsg (cTupD (aCons (cCall (fun c => C__law_select c) L1) (aCons (cCall (fun c => C__law_select c) L2) aNil))) G ∧ (∀ a b c kl, L1 c0 (st w1 (.lst m2) w3 w4 w5 w6 w7 w8) (crk 3 a b c D0 D0) x kl = kl [.ref 0, .lst m2] (crk 3 a b c D0 D0)) ∧
  (∀ a b c kl, L2 c0 (st w1 (.lst m2) w3 w4 w5 w6 w7 w8) (crk 3 a b c D0 D0) x kl = kl [.ref 0, .lst m3] (crk 3 a b c D0 D0)) ∧ ∀ u v h n, G (.tup [u, v]) c0 (st w1 (.lst m2) w3 w4 w5 w6 w7 w8) h x n = n (st w1 u w3 v w5 w6 w7 w8) h := ⟨_, _, _, rfl, fun _ _ _ _ => by kernel_rfl, fun _ _ _ _ => by kernel_rfl, fun _ _ _ _ => by kernel_rfl⟩
theorem r3 {w1 w2 w3 w4 w5 w6 w7 w8 : W} : R__law_right_3 c0 (st w1 w2 w3 w4 w5 w6 w7 w8) (crk 3 a b c D0 D0) x n k br ct = n (st w1 w2 (.lst m4) w4 w5 w6 w7 w8) (crk 3 a b c D0 D0) := by kernel_rfl
theorem r4 {w1 w2 w4 w5 w6 w7 w8 : W} : ∃ L, R__law_right_4 = scAsg (cCall (fun c => C__law_select c) L) (gcName s3) ∧ ∀ kl, L c0 (st w1 w2 (.lst m4) w4 w5 w6 w7 w8) (crk 3 a b c D0 D0) x kl = kl [.ref 0, .lst m4] (crk 3 a b c D0 D0) := ⟨_, rfl, fun _ => by kernel_rfl⟩
end
end K73
end
end

section
set_option maxRecDepth 1000000
set_option maxHeartbeats 0
noncomputable section
namespace K73
open PySem PySem.Spec L2 Eng
open PyProof.Rows hiding St
def hO (a : Ans) : EH := Ans.rec ⟨0, .nil⟩ (fun _ h => h) (fun _ _ h => h) a
def nk : KN := fun _ h => .ok .non h
def kb : K1 := fun _ _ => .bad
def nb : KN := fun _ _ => .bad
def xb : KX := fun _ _ _ => .bad
def wS : W := .tup [.str "refused", .str "system"]
def wW : W := .tup [.str "refused", .str "word"]
def wF : W := .tup [.str "told", .bl false]
def due1 : W := .lst [wS, wW, wS, wW, wS, wF]
def due2 : W := .lst [wS, wW, wF]
def h5 (a b c : Int) : EH := crk 3 a b c D0 D0
def h6 (a b c : Int) : EH := hO (R__law_right_5 c0 (st .non .non .non .non .und .und .und .und) (h5 a b c) xb nk kb nb nb)
def h7 (a b c : Int) : EH := hO (R__law_right_6 c0 (st .non .non .non .non .und .und (.ref 8) (.ref 3)) (h6 a b c) xb nk kb nb nb)
def h8 (a b c : Int) : EH := hO (R__law_right_7 c0 (st .non .non .non .non (.sta i_worst_members) .und (.ref 8) (.ref 3)) (h7 a b c) xb nk kb nb nb)
def h9 (a b c : Int) : EH := hO (R__law_right_8 c0 (st .non .non .non .non (.sta i_worst_members) .und (.ref 8) (.ref 3)) (h8 a b c) xb nk kb nb nb)
def h10 (a b c : Int) : EH := hO (R__law_right_9 c0 (st .non .non .non .non (.sta i_worst_members) .und (.ref 8) (.ref 3)) (h9 a b c) xb nk kb nb nb)
def h11 (a b c : Int) : EH := hO (R__law_right_10 c0 (st .non .non .non .non (.sta i_worst_members) .und (.ref 8) (.ref 3)) (h10 a b c) xb nk kb nb nb)
def h12 (a b c : Int) : EH := hO (R__law_right_11 c0 (st .non .non .non .non (.sta i_worst_members) .und (.ref 8) (.ref 3)) (h11 a b c) xb nk kb nb nb)
def h13 (a b c : Int) : EH := hO (R__law_right_12 c0 (st .non .non .non .non (.sta i_worst_members) .und (.ref 8) (.ref 3)) (h12 a b c) xb nk kb nb nb)
def h14 (a b c : Int) : EH := hO (R__law_right_13 c0 (st .non .non .non .non (.sta i_worst_members) .und (.ref 8) (.ref 3)) (h13 a b c) xb nk kb nb nb)
def h15 (a b c : Int) : EH := hO (R__law_right_14 c0 (st .non .non .non .non (.sta i_worst_members) due1 (.ref 8) (.ref 3)) (h14 a b c) xb nk kb nb nb)
def h16 (a b c : Int) : EH := hO (R__law_right_15 c0 (st .non .non .non .non (.sta i_worst_members) due1 (.ref 8) (.ref 3)) (h15 a b c) xb nk kb nb nb)
def h17 (a b c : Int) : EH := hO (R__law_right_16 c0 (st .non .non .non .non (.sta i_worst_members) due1 (.ref 22) (.ref 3)) (h16 a b c) xb nk kb nb nb)
def h18 (a b c : Int) : EH := hO (R__law_right_17 c0 (st .non .non .non .non (.sta i_worst_members) due1 (.ref 22) (.ref 3)) (h17 a b c) xb nk kb nb nb)
def h19 (a b c : Int) : EH := hO (R__law_right_18 c0 (st .non .non .non .non (.sta i_worst_members) due1 (.ref 22) (.ref 3)) (h18 a b c) xb nk kb nb nb)
def h20 (a b c : Int) : EH := hO (R__law_right_19 c0 (st .non .non .non .non (.sta i_worst_members) due1 (.ref 22) (.ref 3)) (h19 a b c) xb nk kb nb nb)
def h21 (a b c : Int) : EH := hO (R__law_right_20 c0 (st .non .non .non .non (.sta i_worst_members) due1 (.ref 22) (.ref 3)) (h20 a b c) xb nk kb nb nb)
def h22 (a b c : Int) : EH := hO (R__law_right_21 c0 (st .non .non .non .non (.sta i_worst_members) due1 (.ref 22) (.ref 3)) (h21 a b c) xb nk kb nb nb)
section
variable {a b c : Int} {x : KX} {n : KN} {k : K1} {br ct : KN} {none odd row bad : W}
theorem r5 : R__law_right_5 c0 (st none odd row bad .und .und .und .und) (h5 a b c) x n k br ct = n (st none odd row bad .und .und (.ref 8) (.ref 3)) (h6 a b c) := by kernel_rfl
theorem r6 (hnone : none ∈ m1) (hodd : odd ∈ m2) : R__law_right_6 c0 (st none odd row bad .und .und (.ref 8) (.ref 3)) (h6 a b c) x n k br ct = n (st none odd row bad (.sta i_worst_members) .und (.ref 8) (.ref 3)) (h7 a b c) := by
  simp only [m1, List.mem_cons, List.not_mem_nil, or_false] at hnone
  simp only [m2, List.mem_cons, List.not_mem_nil, or_false] at hodd
  rcases hnone with rfl | rfl | rfl | rfl | rfl | rfl | rfl <;>
  rcases hodd with rfl | rfl | rfl | rfl | rfl | rfl | rfl | rfl | rfl | rfl | rfl | rfl | rfl <;>
  kernel_rfl
theorem r7 (hnone : none ∈ m1) (hodd : odd ∈ m2) : R__law_right_7 c0 (st none odd row bad (.sta i_worst_members) .und (.ref 8) (.ref 3)) (h7 a b c) x n k br ct = n (st none odd row bad (.sta i_worst_members) .und (.ref 8) (.ref 3)) (h8 a b c) := by
  simp only [m1, List.mem_cons, List.not_mem_nil, or_false] at hnone
  simp only [m2, List.mem_cons, List.not_mem_nil, or_false] at hodd
  rcases hnone with rfl | rfl | rfl | rfl | rfl | rfl | rfl <;>
  rcases hodd with rfl | rfl | rfl | rfl | rfl | rfl | rfl | rfl | rfl | rfl | rfl | rfl | rfl <;>
  kernel_rfl
theorem r8 (hodd : odd ∈ m2) : R__law_right_8 c0 (st none odd row bad (.sta i_worst_members) .und (.ref 8) (.ref 3)) (h8 a b c) x n k br ct = n (st none odd row bad (.sta i_worst_members) .und (.ref 8) (.ref 3)) (h9 a b c) := by
  simp only [m2, List.mem_cons, List.not_mem_nil, or_false] at hodd
  rcases hodd with rfl | rfl | rfl | rfl | rfl | rfl | rfl | rfl | rfl | rfl | rfl | rfl | rfl <;>
  kernel_rfl
theorem r9 (hnone : none ∈ m1) (hodd : odd ∈ m2) (hbad : bad ∈ m3) : R__law_right_9 c0 (st none odd row bad (.sta i_worst_members) .und (.ref 8) (.ref 3)) (h9 a b c) x n k br ct = n (st none odd row bad (.sta i_worst_members) .und (.ref 8) (.ref 3)) (h10 a b c) := by
  simp only [m1, List.mem_cons, List.not_mem_nil, or_false] at hnone
  simp only [m2, List.mem_cons, List.not_mem_nil, or_false] at hodd
  simp only [m3, List.mem_cons, List.not_mem_nil, or_false] at hbad
  rcases hnone with rfl | rfl | rfl | rfl | rfl | rfl | rfl <;>
  rcases hodd with rfl | rfl | rfl | rfl | rfl | rfl | rfl | rfl | rfl | rfl | rfl | rfl | rfl <;>
  rcases hbad with rfl | rfl | rfl | rfl | rfl | rfl | rfl | rfl <;>
  kernel_rfl
theorem r10 (hodd : odd ∈ m2) (hbad : bad ∈ m3) : R__law_right_10 c0 (st none odd row bad (.sta i_worst_members) .und (.ref 8) (.ref 3)) (h10 a b c) x n k br ct = n (st none odd row bad (.sta i_worst_members) .und (.ref 8) (.ref 3)) (h11 a b c) := by
  simp only [m2, List.mem_cons, List.not_mem_nil, or_false] at hodd
  simp only [m3, List.mem_cons, List.not_mem_nil, or_false] at hbad
  rcases hodd with rfl | rfl | rfl | rfl | rfl | rfl | rfl | rfl | rfl | rfl | rfl | rfl | rfl <;>
  rcases hbad with rfl | rfl | rfl | rfl | rfl | rfl | rfl | rfl <;>
  kernel_rfl
theorem r11 (hbad : bad ∈ m3) : R__law_right_11 c0 (st none odd row bad (.sta i_worst_members) .und (.ref 8) (.ref 3)) (h11 a b c) x n k br ct = n (st none odd row bad (.sta i_worst_members) .und (.ref 8) (.ref 3)) (h12 a b c) := by
  simp only [m3, List.mem_cons, List.not_mem_nil, or_false] at hbad
  rcases hbad with rfl | rfl | rfl | rfl | rfl | rfl | rfl | rfl <;>
  kernel_rfl
theorem r12 : R__law_right_12 c0 (st none odd row bad (.sta i_worst_members) .und (.ref 8) (.ref 3)) (h12 a b c) x n k br ct = n (st none odd row bad (.sta i_worst_members) .und (.ref 8) (.ref 3)) (h13 a b c) := by
  kernel_rfl
theorem r13 : R__law_right_13 c0 (st none odd row bad (.sta i_worst_members) .und (.ref 8) (.ref 3)) (h13 a b c) x n k br ct = n (st none odd row bad (.sta i_worst_members) due1 (.ref 8) (.ref 3)) (h14 a b c) := by
  kernel_rfl
theorem r14 : R__law_right_14 c0 (st none odd row bad (.sta i_worst_members) due1 (.ref 8) (.ref 3)) (h14 a b c) x n k br ct = n (st none odd row bad (.sta i_worst_members) due1 (.ref 8) (.ref 3)) (h15 a b c) := by
  kernel_rfl
theorem r15 (hnone : none ∈ m1) (hodd : odd ∈ m2) : R__law_right_15 c0 (st none odd row bad (.sta i_worst_members) due1 (.ref 8) (.ref 3)) (h15 a b c) x n k br ct = n (st none odd row bad (.sta i_worst_members) due1 (.ref 22) (.ref 3)) (h16 a b c) := by
  simp only [m1, List.mem_cons, List.not_mem_nil, or_false] at hnone
  simp only [m2, List.mem_cons, List.not_mem_nil, or_false] at hodd
  rcases hnone with rfl | rfl | rfl | rfl | rfl | rfl | rfl <;>
  rcases hodd with rfl | rfl | rfl | rfl | rfl | rfl | rfl | rfl | rfl | rfl | rfl | rfl | rfl <;>
  kernel_rfl
theorem r16 (hodd : odd ∈ m2) : R__law_right_16 c0 (st none odd row bad (.sta i_worst_members) due1 (.ref 22) (.ref 3)) (h16 a b c) x n k br ct = n (st none odd row bad (.sta i_worst_members) due1 (.ref 22) (.ref 3)) (h17 a b c) := by
  simp only [m2, List.mem_cons, List.not_mem_nil, or_false] at hodd
  rcases hodd with rfl | rfl | rfl | rfl | rfl | rfl | rfl | rfl | rfl | rfl | rfl | rfl | rfl <;>
  kernel_rfl
theorem r17 (hodd : odd ∈ m2) : R__law_right_17 c0 (st none odd row bad (.sta i_worst_members) due1 (.ref 22) (.ref 3)) (h17 a b c) x n k br ct = n (st none odd row bad (.sta i_worst_members) due1 (.ref 22) (.ref 3)) (h18 a b c) := by
  simp only [m2, List.mem_cons, List.not_mem_nil, or_false] at hodd
  rcases hodd with rfl | rfl | rfl | rfl | rfl | rfl | rfl | rfl | rfl | rfl | rfl | rfl | rfl <;>
  kernel_rfl
theorem r18 (hrow : row ∈ m4) : R__law_right_18 c0 (st none odd row bad (.sta i_worst_members) due1 (.ref 22) (.ref 3)) (h18 a b c) x n k br ct = n (st none odd row bad (.sta i_worst_members) due1 (.ref 22) (.ref 3)) (h19 a b c) := by
  simp only [m4, List.mem_cons, List.not_mem_nil, or_false] at hrow
  rcases hrow with rfl | rfl | rfl | rfl | rfl | rfl | rfl | rfl | rfl | rfl | rfl | rfl | rfl <;>
  kernel_rfl
theorem r19 (hrow : row ∈ m4) : R__law_right_19 c0 (st none odd row bad (.sta i_worst_members) due1 (.ref 22) (.ref 3)) (h19 a b c) x n k br ct = n (st none odd row bad (.sta i_worst_members) due1 (.ref 22) (.ref 3)) (h20 a b c) := by
  simp only [m4, List.mem_cons, List.not_mem_nil, or_false] at hrow
  rcases hrow with rfl | rfl | rfl | rfl | rfl | rfl | rfl | rfl | rfl | rfl | rfl | rfl | rfl <;>
  kernel_rfl
theorem r20 (hodd : odd ∈ m2) : R__law_right_20 c0 (st none odd row bad (.sta i_worst_members) due1 (.ref 22) (.ref 3)) (h20 a b c) x n k br ct = n (st none odd row bad (.sta i_worst_members) due1 (.ref 22) (.ref 3)) (h21 a b c) := by
  simp only [m2, List.mem_cons, List.not_mem_nil, or_false] at hodd
  rcases hodd with rfl | rfl | rfl | rfl | rfl | rfl | rfl | rfl | rfl | rfl | rfl | rfl | rfl <;>
  kernel_rfl
theorem r21 : R__law_right_21 c0 (st none odd row bad (.sta i_worst_members) due1 (.ref 22) (.ref 3)) (h21 a b c) x n k br ct = n (st none odd row bad (.sta i_worst_members) due2 (.ref 22) (.ref 3)) (h22 a b c) := by
  kernel_rfl
theorem r22 : R__law_right_22 c0 (st none odd row bad (.sta i_worst_members) due2 (.ref 22) (.ref 3)) (h22 a b c) x n k br ct = k (.bl true) (h22 a b c) := by kernel_rfl
theorem h22_0 : (h22 a b c).t.get 0 = some (.lst [.int a, .int b, .int c]) := by kernel_rfl
end
end K73
end
end

section
set_option maxRecDepth 1000000
set_option maxHeartbeats 0
noncomputable section
namespace K73
open PySem PySem.Spec L2 Eng
open PyProof.Rows hiding St
theorem fn13 {S : SCode} {cl : Cl} {u : W} {h : EH} {x : KX} {k : K1} : fnC 1 3 S cl [u] h x k = S cl (.mk u .und .und .und (.mk .und .und .und .und (.mk .und .und .und .und .nil))) h x (fun _ h => k .non h) k (fun _ _ => .bad) (fun _ _ => .bad) := rfl
theorem st0 : (S4.mk (.ref 0) .und .und .und (.mk .und .und .und .und (.mk .und .und .und .und .nil))) = st .und .und .und .und .und .und .und .und := rfl
theorem nm1 {w w1 w2 w3 w4 w5 w6 w7 w8 : W} {h : EH} {x : KX} {k : KN} : gcName Eng.s1 w c0 (st w1 w2 w3 w4 w5 w6 w7 w8) h x k = k (st w w2 w3 w4 w5 w6 w7 w8) h := rfl
theorem nm3 {w w1 w2 w3 w4 w5 w6 w7 w8 : W} {h : EH} {x : KX} {k : KN} : gcName Eng.s3 w c0 (st w1 w2 w3 w4 w5 w6 w7 w8) h x k = k (st w1 w2 w w4 w5 w6 w7 w8) h := rfl
theorem ev_tupD (L : LCode) (c : Cl) (s : S4) (h : EH) (x : KX) (k : K1) : cTupD L c s h x k = L c s h x fun ws h => lenC ws (k (.tup ws) h) := rfl
theorem len2 {u v : W} {z : Ans} : lenC [u, v] z = z := rfl
theorem right_ok {a b c : Int} {x : KX} {k : K1} : ∃ (a' b' c' : Int) (h : EH), C__law_right c0 [.ref 0] (crk 1 a b c .nil .nil) x k = k (.bl true) h ∧ h.t.get 0 = some (.lst [.int a', .int b', .int c']) := by
  unfold C__law_right
  rw [fn13, st0]
  unfold S__law_right
  simp -implicitDefEqProofs only [ev_seq]
  obtain ⟨L, e, hL⟩ := r0 (a := a) (b := b) (c := c) (x := x) (w1 := .und) (w2 := .und) (w3 := .und) (w4 := .und) (w5 := .und) (w6 := .und) (w7 := .und) (w8 := .und)
  obtain ⟨none, hnone, a1, c1, es⟩ := select_ok (cl := c0) (items := m1) (by decide) (by decide) (n := 2) (a := a) (b := b) (c := c) (l := D0) (r := .nil)
  rw [e]
  simp -implicitDefEqProofs only [ev_asg, ev_call, hL]
  rw [es, nm1, r1]
  obtain ⟨L1, L2, G, e, hL1, hL2, hG⟩ := r2 (x := x) (w1 := none) (w3 := .und) (w4 := .und) (w5 := .und) (w6 := .und) (w7 := .und) (w8 := .und)
  obtain ⟨odd, hodd, a2, c2, es1⟩ := select_ok (cl := c0) (items := m2) (by decide) (by decide) (n := 3) (a := a1) (b := b) (c := c1) (l := D0) (r := D0)
  obtain ⟨bad, hbad, a3, c3, es2⟩ := select_ok (cl := c0) (items := m3) (by decide) (by decide) (n := 3) (a := a2) (b := b) (c := c2) (l := D0) (r := D0)
  rw [e]
  simp -implicitDefEqProofs only [ev_asg, ev_tupD, ev_cons, ev_call, hL1]
  rw [es1]
  simp -implicitDefEqProofs only [hL2]
  rw [es2]
  simp -implicitDefEqProofs only [ev_nil, len2, hG]
  rw [r3]
  obtain ⟨L, e, hL⟩ := r4 (a := a3) (b := b) (c := c3) (x := x) (w1 := none) (w2 := odd) (w4 := bad) (w5 := .und) (w6 := .und) (w7 := .und) (w8 := .und)
  obtain ⟨row, hrow, a4, c4, es⟩ := select_ok (cl := c0) (items := m4) (by decide) (by decide) (n := 3) (a := a3) (b := b) (c := c3) (l := D0) (r := D0)
  rw [e]
  simp -implicitDefEqProofs only [ev_asg, ev_call, hL]
  rw [es, nm3]
  rw [show crk 3 a4 b c4 D0 D0 = h5 a4 b c4 from rfl, r5, r6 hnone hodd, r7 hnone hodd, r8 hodd, r9 hnone hodd hbad, r10 hodd hbad, r11 hbad, r12, r13, r14, r15 hnone hodd, r16 hodd, r17 hodd, r18 hrow, r19 hrow, r20 hodd, r21, r22]
  exact ⟨a4, b, c4, _, rfl, h22_0⟩
end K73
end
end

section
set_option maxRecDepth 1000000
set_option maxHeartbeats 0
noncomputable section
namespace K73
open PySem PySem.Spec L2 Eng
open PyProof.Rows hiding St
section
variable {zs : List Int} {h : EH} {k : K1} {i j : Int} {c : Cl} {s : S4} {x : KX}
theorem ev_lenO : fLenO 0 zs [.sta 0] h k = k (.int (.ofNat zs.length)) h := rfl
theorem ev_ixO {n : Nat} (hn : n < zs.length) : fIxO 0 zs (.sta 0) (.int (.ofNat n)) h k = k (.int zs[n]) h := by
  have q : fIxO 0 zs (.sta 0) (.int (.ofNat n)) h k = Option.rec (motive := fun _ => Ans) .bad (fun z => k (.int z) h) (atI zs (.ofNat n)) := rfl
  have e : atI zs (.ofNat n) = some zs[n] := by
    have e1 : ixN zs.length (.ofNat n) = some n := by
      unfold ixN
      simp
      omega
    show ((ixN zs.length (.ofNat n)).bind fun j => zs[j]?) = _
    rw [e1]
    show zs[n]? = _
    rw [List.getElem?_eq_getElem hn]
  rw [q, e]
theorem ev_abs : fAbs [.int i] h k = if i < 0 then k (.int (-i)) h else k (.int i) h := by
  have q : fAbs [.int i] h k = cB (ltI i 0) (frI (Int.neg i) fun n => k (.int n) h) (k (.int i) h) := rfl
  rw [q, ltI_eq, cB_eq, frI_eq]
  simp
  rfl
theorem ev_max : fMax2 [.int i, .int j] h k = if i < j then k (.int j) h else k (.int i) h := by
  have q : fMax2 [.int i, .int j] h k = cB (ltI i j) (k (.int j) h) (k (.int i) h) := rfl
  rw [q, ltI_eq, cB_eq]
  simp
theorem ev_pw1 : cBin fPow (cBin fPow (cCon (.int (.ofNat 10))) (cCon (.int (.ofNat 54)))) (cCon (.int (.ofNat 8))) c s h x k = k (.int (.ofNat (Nat.pow 10 432))) h := by kernel_rfl
theorem ev_pw2 : cBin fPow (cCon (.int (.ofNat 10))) (cCon (.int (.ofNat 16))) c s h x k = k (.int (.ofNat (Nat.pow 10 16))) h := by kernel_rfl
theorem pw_pos : (0 : Int) < .ofNat (Nat.pow 10 432) := by decide +kernel
/-- int(sum(script[:1])) -/
theorem ev_sum1 {A : Eng.Code} (hA : ∀ k : K1, A c s h x k = k (.sta 0) h) : ∃ v : Int, ∀ k : K1, cFn fSum (aCons (cSlO 0 zs A oN (oS (cCon (.int (.ofNat 1))))) aNil) c s h x k = k (.int v) h := by
  cases zs with
  | nil =>
    refine ⟨0, fun k => ?_⟩
    simp -implicitDefEqProofs only [ev_fn, ev_cons, cSlO, hA]
    kernel_rfl
  | cons z t =>
    refine ⟨0 + z, fun k => ?_⟩
    simp -implicitDefEqProofs only [ev_fn, ev_cons, cSlO, hA]
    have q : ∀ l : List W, l = [.int z] → fSum [.lst l] h k = k (.int (0 + z)) h := fun l e => by
      subst e
      show addC 0 z (fun s => k (.int s) h) = _
      rw [addC_eq]
    refine Eq.trans (b := fSum [.lst ((cutV ((z :: t).map V.int) none (some (.ofNat 1))).map fun v => match v with | .int i => W.int i | _ => .und)] h k) ?_ (q _ ?_)
    · rfl
    · have e : cutV ((z :: t).map V.int) none (some (.ofNat 1)) = [V.int z] := by
        unfold cutV
        rw [show HT.sIx ((z :: t).map V.int).length 0 none = 0 from rfl, show HT.sIx ((z :: t).map V.int).length ((z :: t).map V.int).length (some (.ofNat 1)) = min 1 ((z :: t).map V.int).length from HT.sIx_nat _ _ _]
        simp
      rw [e]
      rfl
end
section
variable {h : EH} {k : K1} {i j : Int} {x : KX}
theorem ev_abs1 : fAbs [.int i] h k = k (.int (if i < 0 then -i else i)) h := by rw [ev_abs]; split <;> rfl
theorem ev_max1 : fMax2 [.int i, .int j] h k = k (.int (if i < j then j else i)) h := by rw [ev_max]; split <;> rfl
theorem ev_lstO (L : LCode) (c : Cl) (s : S4) : cLstO L c s h x k = L c s h x fun ws h => lenC ws (ownC h (.lst ws) k) := rfl
theorem own3 {u v w : W} : lenC [u, v, w] (ownC ⟨0, .nil⟩ (.lst [u, v, w]) k) = k (.ref 0) ⟨1, .node (.lst [u, v, w]) .nil .nil⟩ := rfl
end
def sC (i : Nat) (u v w : W) : S4 := .mk (.sta 0) (.int (.ofNat i)) u v (.mk w .und .und .und .nil)
def hC : EH := ⟨0, .nil⟩
theorem cr0 {zs : List Int} {i : Nat} : ∃ z : Int, ∀ (x : KX) (n : KN) (k : K1) (br ct : KN), R__law_crock_0 zs c0 (sC i .und .und .und) hC x n k br ct = n (sC i (.int z) .und .und) hC := by
  by_cases hi : Int.ofNat i < Int.ofNat zs.length
  · have hi' : i < zs.length := Int.ofNat_lt.mp hi
    refine ⟨zs[i], fun x n k br ct => ?_⟩
    unfold R__law_crock_0 sC
    simp -implicitDefEqProofs only [ev_asg, ev_ite, ev_cmp, ev_cvar, ev_g0, ev_g1, ev_us, ev_ui, ev_fn, ev_cons, ev_nil, ev_lenO, ev_lt, if_pos hi, ev_bin, ev_ixO hi', ev_int, ev_name, ev_s2]
  · obtain ⟨SM, eSM⟩ : ∃ SM : Eng.Code, cFn fSum (aCons (cSlO 0 zs (cVar g0) oN (oS (cCon (.int (.ofNat 1))))) aNil) = SM := ⟨_, rfl⟩
    have key : ∃ v : Int, ∀ (x : KX) (k : K1), SM c0 (sC i .und .und .und) hC x k = k (.int v) hC := by
      cases zs with
      | nil => exact ⟨0, fun x k => by rw [← eSM]; kernel_rfl⟩
      | cons z t =>
        refine ⟨0 + z, fun x k => ?_⟩
        have q : ∀ l : List W, l = [.int z] → fSum [.lst l] hC k = k (.int (0 + z)) hC := fun l e => by
          subst e
          show addC 0 z (fun s => k (.int s) hC) = _
          rw [addC_eq]
        rw [← eSM]
        refine Eq.trans (b := fSum [.lst ((cutV ((z :: t).map V.int) none (some (.ofNat 1))).map fun v => match v with | .int i => W.int i | _ => .und)] hC k) ?_ (q _ ?_)
        · rfl
        · have e : cutV ((z :: t).map V.int) none (some (.ofNat 1)) = [V.int z] := by
            unfold cutV
            rw [show HT.sIx ((z :: t).map V.int).length 0 none = 0 from rfl, show HT.sIx ((z :: t).map V.int).length ((z :: t).map V.int).length (some (.ofNat 1)) = min 1 ((z :: t).map V.int).length from HT.sIx_nat _ _ _]
            simp
          rw [e]
          rfl
    obtain ⟨sm, hsm⟩ := key
    refine ⟨Int.ofNat 2399 * Int.ofNat i + Int.ofNat 61 + sm.fmod (Int.ofNat 1000199), fun x n k br ct => ?_⟩
    have hsm' : ∀ k : K1, SM c0 (.mk (.sta 0) (.int (.ofNat i)) .und .und (.mk .und .und .und .und .nil)) hC x k = k (.int sm) hC := fun k => hsm x k
    unfold R__law_crock_0 sC
    rw [eSM]
    simp -implicitDefEqProofs only [ev_asg, ev_ite, ev_cmp, ev_cvar, ev_g0, ev_g1, ev_us, ev_ui, ev_fn, ev_cons, ev_nil, ev_lenO, ev_lt, if_neg hi, ev_bin, ev_int, ev_con, ev_add, ev_mul (.inl (show (Int.ofNat 2399).natAbs < 18446744073709551616 by decide)), hsm', ev_mod (show (0 : Int) < .ofNat 1000199 by decide), ev_name, ev_s2]
theorem cr1 {zs : List Int} {i : Nat} {z : Int} : ∃ g : Int, ∀ (x : KX) (n : KN) (k : K1) (br ct : KN), R__law_crock_1 zs c0 (sC i (.int z) .und .und) hC x n k br ct = n (sC i (.int z) (.int g) .und) hC := by
  obtain ⟨PW, ePW⟩ : ∃ PW : Eng.Code, cBin fPow (cBin fPow (cCon (.int (.ofNat 10))) (cCon (.int (.ofNat 54)))) (cCon (.int (.ofNat 8))) = PW := ⟨_, rfl⟩
  have hPW : ∀ c s h x k, PW c s h x k = k (.int (.ofNat (Nat.pow 10 432))) h := fun c s h x k => by rw [← ePW]; exact ev_pw1
  refine ⟨(if z < 0 then -z else z).fmod (.ofNat (Nat.pow 10 432)), fun x n k br ct => ?_⟩
  unfold R__law_crock_1 sC
  rw [ePW]
  simp -implicitDefEqProofs only [ev_asg, ev_bin, ev_fn, ev_cons, ev_nil, ev_cvar, ev_g2, ev_ui, ev_abs1, ev_int, hPW, ev_mod pw_pos, ev_name, ev_s3]
theorem cr3 {zs : List Int} {i : Nat} {z g m : Int} : ∃ a : Int, ∀ (x : KX) (n : KN) (k : K1) (br ct : KN), R__law_crock_3 zs c0 (sC i (.int z) (.int g) (.int m)) hC x n k br ct = k (.ref 0) (crk 1 a m (.ofNat 0) .nil .nil) := by
  obtain ⟨PV, ePV⟩ : ∃ PV : Eng.Code, cBin fPow (cCon (.int (.ofNat 10))) (cCon (.int (.ofNat 16))) = PV := ⟨_, rfl⟩
  have hPV : ∀ c s h x k, PV c s h x k = k (.int (.ofNat (Nat.pow 10 16))) h := fun c s h x k => by rw [← ePV]; exact ev_pw2
  refine ⟨if Int.ofNat 0 < g - .ofNat (Nat.pow 10 16) then g - .ofNat (Nat.pow 10 16) else .ofNat 0, fun x n k br ct => ?_⟩
  unfold R__law_crock_3 sC
  rw [ePV]
  simp -implicitDefEqProofs only [ev_ret, ev_lstO, ev_fn, ev_cons, ev_nil, ev_con, ev_bin, ev_cvar, ev_g3, ev_up, ev_g0, ev_ui, hPV, ev_sb, ev_max1, hC, own3, crk]
theorem cr2 {zs : List Int} {i : Nat} {z g : Int} : ∃ m : Int, ∀ (x : KX) (n : KN) (k : K1) (br ct : KN), R__law_crock_2 zs c0 (sC i (.int z) (.int g) .und) hC x n k br ct = n (sC i (.int z) (.int g) (.int m)) hC := by
  have q1 : ∀ z : Int, (z.fmod (.ofNat 2305843009213693921)).natAbs < 18446744073709551616 := fmod_small (by decide) (by decide)
  by_cases hz : z < Int.ofNat 0
  · refine ⟨(g.fmod (Int.ofNat 2305843009213693921) * Int.ofNat 70001 + Int.ofNat 6301 * Int.ofNat i + Int.ofNat 23 * (if true = true then 1 else 0) + Int.ofNat 59).fmod (Int.ofNat 2305843009213693951), fun x n k br ct => ?_⟩
    unfold R__law_crock_2 sC
    simp -implicitDefEqProofs only [ev_asg, ev_bin, ev_fn, ev_cons, ev_nil, ev_cvar, ev_g1, ev_g2, ev_g3, ev_ui, ev_con, ev_int, ev_val, ev_cmp, ev_lt, if_pos hz, ev_intb, ev_add, ev_mod (show (0 : Int) < .ofNat 2305843009213693921 by decide), ev_mod (show (0 : Int) < .ofNat 2305843009213693951 by decide), ev_mul (.inl (q1 _)), ev_mul (.inl (show (Int.ofNat 6301).natAbs < 18446744073709551616 by decide)), ev_mul (.inl (show (Int.ofNat 23).natAbs < 18446744073709551616 by decide)), ev_name, ev_sup, ev_s0]
  · refine ⟨(g.fmod (Int.ofNat 2305843009213693921) * Int.ofNat 70001 + Int.ofNat 6301 * Int.ofNat i + Int.ofNat 23 * (if false = true then 1 else 0) + Int.ofNat 59).fmod (Int.ofNat 2305843009213693951), fun x n k br ct => ?_⟩
    unfold R__law_crock_2 sC
    simp -implicitDefEqProofs only [ev_asg, ev_bin, ev_fn, ev_cons, ev_nil, ev_cvar, ev_g1, ev_g2, ev_g3, ev_ui, ev_con, ev_int, ev_val, ev_cmp, ev_lt, if_neg hz, ev_intb, ev_add, ev_mod (show (0 : Int) < .ofNat 2305843009213693921 by decide), ev_mod (show (0 : Int) < .ofNat 2305843009213693951 by decide), ev_mul (.inl (q1 _)), ev_mul (.inl (show (Int.ofNat 6301).natAbs < 18446744073709551616 by decide)), ev_mul (.inl (show (Int.ofNat 23).natAbs < 18446744073709551616 by decide)), ev_name, ev_sup, ev_s0]
theorem crock_ok {zs : List Int} {i : Nat} : ∃ a b : Int, ∀ (x : KX) (k : K1), C__law_crock zs c0 [.sta 0, .int (.ofNat i)] hC x k = k (.ref 0) (crk 1 a b (.ofNat 0) .nil .nil) := by
  obtain ⟨z, e0⟩ := cr0 (zs := zs) (i := i)
  obtain ⟨g, e1⟩ := cr1 (zs := zs) (i := i) (z := z)
  obtain ⟨m, e2⟩ := cr2 (zs := zs) (i := i) (z := z) (g := g)
  obtain ⟨a, e3⟩ := cr3 (zs := zs) (i := i) (z := z) (g := g) (m := m)
  refine ⟨a, m, fun x k => ?_⟩
  unfold C__law_crock
  rw [fn22, show (S4.mk (.sta 0) (.int (.ofNat i)) .und .und (.mk .und .und .und .und .nil)) = sC i .und .und .und from rfl]
  unfold S__law_crock
  simp -implicitDefEqProofs only [ev_seq, e0, e1, e2, e3]
end K73
end
end

section
set_option maxRecDepth 1000000
set_option maxHeartbeats 1000000
noncomputable section
namespace K73
open PySem PySem.Spec L2 Eng
open PyProof.Rows hiding St
/-! ### the law's loop -/
theorem getC_some {t : BT} {o : MO} {f : MO → Ans} (h : t.get 0 = some o) : BT.getC t 0 f = f o := by
  cases t with
  | nil => cases h
  | node v l r =>
    have h : some v = some o := h
    cases h
    rfl
def sB (i : Nat) (u : W) : S4 := .mk (.sta 0) (.int (.ofNat i)) .und u (.mk .und .und .und .und .nil)
def kGc (a b c : Int) (k : K1) : K1 := fun w h' => BT.getC h'.t 0 fun o' => cB (intsO o') (BT.insC (.node (.lst [.int a, .int b, .int c]) .nil .nil) 0 o' fun t' => cB (kpB false w) (k w ⟨1, t'⟩) .bad) .bad
section
variable {a b c a' b' c' : Int} {cl : Cl} {s : S4} {x : KX} {k : K1} {n br ct : KN} {kt kf : EH → Ans} {h : EH}
theorem ev_gc (C : Eng.Code) : cGc C cl s (crk 1 a b c .nil .nil) x k = C cl (kpS true s) (crk 1 a b c .nil .nil) xB (kGc a b c k) := rfl
theorem kGc_ok (hg : h.t.get 0 = some (.lst [.int a', .int b', .int c'])) {z : Bool} : kGc a b c k (.bl z) h = k (.bl z) (crk 1 a' b' c' .nil .nil) := by
  unfold kGc
  rw [getC_some hg]
  rfl
theorem ev_or (A B : TCode) : cOr A B cl s h x kt kf = A cl s h x kt (fun h => B cl s h x kt kf) := rfl
theorem ev_not (A : TCode) : cNot A cl s h x kt kf = A cl s h x kf kt := rfl
theorem ev_tst (A : Eng.Code) : cTst A cl s h x kt kf = A cl s h x fun u h => cBl u (kt h) (kf h) := rfl
theorem ev_fr (S : SCode) : scFr S cl s h x n k br ct = S cl (kpS false s) hE xB (fun s2 _ => n (kpS false s2) h) (fun w _ => cB (kpB false w) (k w h) .bad) (fun _ _ => .bad) (fun _ _ => .bad) := rfl
theorem ev_for (IC : ICode) (G : GCode) (S : SCode) : scFor IC G S cl s h x n k br ct = IC cl s h x fun ws h => loopC (fun w s h nx => G w cl s h x fun s h => S cl s h x nx k n nx) n ws s h := rfl
theorem ev_lp1 {body : W → S4 → EH → KN → Ans} {w : W} {ws : List W} : loopC body n (w :: ws) s h = body w s h (fun s h => loopC body n ws s h) := rfl
theorem ev_lp0 {body : W → S4 → EH → KN → Ans} : loopC body n [] s h = n s h := rfl
theorem ev_r1 {L : LCode} {kl : KL} (hL : ∀ kl : KL, L cl s h x kl = kl [.int (.ofNat 1)] h) : icR1 L cl s h x kl = kl [.int (.ofNat 0)] h := by
  show L cl s h x _ = _
  rw [hL]
  rfl
theorem ev_r2 {L : LCode} {kl : KL} (hL : ∀ kl : KL, L cl s h x kl = kl [.int (.ofNat 2)] h) : icR1 L cl s h x kl = kl [.int (.ofNat 0), .int (.ofNat 1)] h := by
  show L cl s h x _ = _
  rw [hL]
  rfl
theorem ev_r3 {L : LCode} {kl : KL} (hL : ∀ kl : KL, L cl s h x kl = kl [.int (.ofNat 3)] h) : icR1 L cl s h x kl = kl [.int (.ofNat 0), .int (.ofNat 1), .int (.ofNat 2)] h := by
  show L cl s h x _ = _
  rw [hL]
  rfl
theorem kp_sB {z : Bool} {i : Nat} : kpS z (sB i .und) = sB i .und := by cases z <;> rfl
theorem kp_sB1 {i : Nat} : kpS true (sB i (.ref 0)) = sB i (.ref 0) := rfl
theorem kp_sB2 {i : Nat} : kpS false (sB i (.ref 0)) = sB i .und := rfl
theorem cBl_t {u v : Ans} : cBl (.bl true) u v = u := rfl
end
section
variable {a b c : Int} {i : Nat} {x : KX} {k : K1} {kt kf : EH → Ans}
abbrev CR : Eng.Code := cGc (cCall (fun c => C__law_right c) (aCons (cVar g3) aNil))
theorem gc_right : ∃ a' b' c' : Int, CR c0 (sB i (.ref 0)) (crk 1 a b c .nil .nil) x k = k (.bl true) (crk 1 a' b' c' .nil .nil) := by
  obtain ⟨a', b', c', h, e, hg⟩ := right_ok (a := a) (b := b) (c := c) (x := xB) (k := kGc a b c k)
  refine ⟨a', b', c', ?_⟩
  unfold CR
  rw [ev_gc, kp_sB1]
  unfold sB
  simp -implicitDefEqProofs only [ev_call, ev_cons, ev_nil, ev_cvar, ev_g3, ev_ur]
  rw [e, kGc_ok hg]
theorem or_ok : ∃ a' b' c' : Int, cOr (cNot (cTst CR)) (cNot (cTst CR)) c0 (sB i (.ref 0)) (crk 1 a b c .nil .nil) x kt kf = kf (crk 1 a' b' c' .nil .nil) := by
  rw [ev_or, ev_not, ev_tst]
  obtain ⟨a1, b1, c1, e⟩ := gc_right (a := a) (b := b) (c := c) (i := i) (x := x) (k := fun u h => cBl u (cNot (cTst CR) c0 (sB i (.ref 0)) h x kt kf) (kt h))
  rw [e, cBl_t, ev_not, ev_tst]
  obtain ⟨a2, b2, c2, e⟩ := gc_right (a := a1) (b := b1) (c := c1) (i := i) (x := x) (k := fun u h => cBl u (kf h) (kt h))
  rw [e, cBl_t]
  exact ⟨a2, b2, c2, rfl⟩
end
theorem body_ok {zs : List Int} {i : Nat} {h : EH} {x : KX} {nx n : KN} {k : K1} {ct : KN} : scFr (scSeq (scAsg (cCall (fun c => C__law_crock zs c) (aCons (cVar g0) (aCons (cVar g1) aNil))) (gcName s3)) (scIf (cOr (cNot (cTst CR)) (cNot (cTst CR))) (scRet (cCon (.bl false))) scNil)) c0 (sB i .und) h x nx k n ct = nx (sB i .und) h := by
  rw [ev_fr, kp_sB]
  obtain ⟨a, b, hc⟩ := crock_ok (zs := zs) (i := i)
  have e0 : ∀ (kk : KN), (scAsg (cCall (fun c => C__law_crock zs c) (aCons (cVar g0) (aCons (cVar g1) aNil))) (gcName s3)) c0 (sB i .und) hE xB kk (fun w _ => cB (kpB false w) (k w h) .bad) (fun _ _ => .bad) (fun _ _ => .bad) = kk (sB i (.ref 0)) (crk 1 a b (.ofNat 0) .nil .nil) := fun kk => by
    rw [show hE = hC from rfl]
    unfold sB
    simp -implicitDefEqProofs only [ev_asg, ev_call, ev_cons, ev_nil, ev_cvar, ev_g0, ev_g1, ev_us, ev_ui]
    rw [hc]
    simp -implicitDefEqProofs only [ev_name, ev_s3]
  rw [ev_seq, e0, ev_if]
  obtain ⟨a1, b1, c1, e⟩ := or_ok (a := a) (b := b) (c := .ofNat 0) (i := i) (x := xB) (kt := fun h' => scRet (cCon (.bl false)) c0 (sB i (.ref 0)) h' xB (fun s2 _ => nx (kpS false s2) h) (fun w _ => cB (kpB false w) (k w h) .bad) (fun _ _ => .bad) (fun _ _ => .bad)) (kf := fun h' => scNil c0 (sB i (.ref 0)) h' xB (fun s2 _ => nx (kpS false s2) h) (fun w _ => cB (kpB false w) (k w h) .bad) (fun _ _ => .bad) (fun _ _ => .bad))
  rw [e, ev_nop, kp_sB2]
theorem ev_min1 {h : EH} {k : K1} {i j : Int} : fMin2 [.int i, .int j] h k = k (.int (if j < i then j else i)) h := by
  have q : fMin2 [.int i, .int j] h k = cB (ltI j i) (k (.int j) h) (k (.int i) h) := rfl
  rw [q, ltI_eq, cB_eq]
  simp
  split <;> rfl
def s00 (u : W) : S4 := .mk (.sta 0) u .und .und (.mk .und .und .und .und .nil)
theorem args_ok {zs : List Int} : ∃ m : Nat, (m = 1 ∨ m = 2 ∨ m = 3) ∧ ∀ (x : KX) (kl : KL), (aCons (cFn fMax2 (aCons (cCon (.int (.ofNat 1))) (aCons (cFn fMin2 (aCons (cCon (.int (.ofNat 3))) (aCons (cFn (fLenO 0 zs) (aCons (cVar g0) aNil)) aNil))) aNil))) aNil) c0 (s00 .und) hE x kl = kl [.int (.ofNat m)] hE := by
  have key : ∃ m : Nat, (m = 1 ∨ m = 2 ∨ m = 3) ∧ (if Int.ofNat 1 < (if Int.ofNat zs.length < Int.ofNat 3 then Int.ofNat zs.length else Int.ofNat 3) then (if Int.ofNat zs.length < Int.ofNat 3 then Int.ofNat zs.length else Int.ofNat 3) else Int.ofNat 1) = Int.ofNat m := by
    rcases Nat.lt_or_ge zs.length 3 with h | h
    · rw [if_pos (show Int.ofNat zs.length < Int.ofNat 3 from Int.ofNat_lt.mpr h)]
      rcases Nat.lt_or_ge 1 zs.length with h1 | h1
      · rw [if_pos (show Int.ofNat 1 < Int.ofNat zs.length from Int.ofNat_lt.mpr h1)]
        exact ⟨zs.length, by omega, rfl⟩
      · rw [if_neg (show ¬ Int.ofNat 1 < Int.ofNat zs.length from fun z => by have := Int.ofNat_lt.mp z; omega)]
        exact ⟨1, .inl rfl, rfl⟩
    · rw [if_neg (show ¬ Int.ofNat zs.length < Int.ofNat 3 from fun z => by have := Int.ofNat_lt.mp z; omega)]
      exact ⟨3, .inr (.inr rfl), rfl⟩
  obtain ⟨m, hm, e⟩ := key
  refine ⟨m, hm, fun x kl => ?_⟩
  unfold s00
  simp -implicitDefEqProofs only [ev_cons, ev_nil, ev_fn, ev_con, ev_cvar, ev_g0, ev_us, ev_lenO, ev_min1, ev_max1]
  rw [e]
theorem nm1' {w u : W} {h : EH} {x : KX} {k : KN} : gcName Eng.s1 w c0 (s00 u) h x k = k (s00 w) h := rfl
theorem s00B {i : Nat} : s00 (.int (.ofNat i)) = sB i .und := rfl
theorem nmB {i j : Nat} {h : EH} {x : KX} {k : KN} : gcName Eng.s1 (.int (.ofNat i)) c0 (sB j .und) h x k = k (sB i .und) h := rfl
theorem loop_ok {zs : List Int} : ∃ i : Nat, ∀ (x : KX) (n : KN) (k : K1) (br ct : KN), R_law_0 zs c0 (s00 .und) hE x n k br ct = n (sB i .und) hE := by
  obtain ⟨m, hm, hL⟩ := args_ok (zs := zs)
  unfold R_law_0
  rcases hm with rfl | rfl | rfl
  · exact ⟨0, fun x n k br ct => by rw [ev_for, ev_r1 (hL x), ev_lp1, nm1', s00B, body_ok, ev_lp0]⟩
  · exact ⟨1, fun x n k br ct => by rw [ev_for, ev_r2 (hL x), ev_lp1, nm1', s00B, body_ok, ev_lp1, nmB, body_ok, ev_lp0]⟩
  · exact ⟨2, fun x n k br ct => by rw [ev_for, ev_r3 (hL x), ev_lp1, nm1', s00B, body_ok, ev_lp1, nmB, body_ok, ev_lp1, nmB, body_ok, ev_lp0]⟩
end K73
end
end

section
set_option maxRecDepth 1000000
set_option maxHeartbeats 0
noncomputable section
namespace K73
open PySem PySem.Spec L2 Eng
open PyProof.Rows hiding St
/-! ### the law's end, statement by statement -/
def sL (w1 told ring far : W) : S4 := .mk (.sta 0) w1 told .und (.mk ring far .und .und .nil)
def far27 : W := .tup ((List.replicate 9 [W.int 0, .int 1, .int 2]).flatten)
def resW (a : Ans) : W := Ans.rec (motive := fun _ => W) .und (fun w _ => w) (fun _ _ _ => .und) a
def resH (a : Ans) : EH := Ans.rec (motive := fun _ => EH) hE (fun _ h => h) (fun _ _ _ => hE) a
def run1 : Ans := R_law_1 [] c0 (sL .und .und .und .und) hE xB (fun s h => (gUp g0) s fun w => .ok w h) (fun w h => .ok w h) (fun _ _ => .bad) (fun _ _ => .bad)
def ringW : W := resW run1
def hA : EH := resH run1
def toldW : W := .ref hA.n
def hT (l : List W) : EH := resH (BT.insC hA.t hA.n (.lst l) fun t => .ok .non ⟨Nat.succ hA.n, t⟩)
def tM : W := .tup [.str "refused", .str "many", .int 120]
def tW : W := .tup [.str "refused", .str "word"]
def tT0 : W := .tup [.str "told", .tup []]
section
variable {zs : List Int} {w1 : W} {x : KX} {n : KN} {k : K1} {br ct : KN}
theorem j1 : R_law_1 zs c0 (sL w1 .und .und .und) hE x n k br ct = n (sL w1 .und ringW far27) hA := by kernel_rfl
theorem j2 : R_law_2 zs c0 (sL w1 .und ringW far27) hA x n k br ct = n (sL w1 toldW ringW far27) (hT [tM]) := by kernel_rfl
theorem j3 : R_law_3 zs c0 (sL w1 toldW ringW far27) (hT [tM]) x n k br ct = n (sL w1 toldW ringW far27) (hT [tM, tM]) := by kernel_rfl
theorem j4 : R_law_4 zs c0 (sL w1 toldW ringW far27) (hT [tM, tM]) x n k br ct = n (sL w1 toldW ringW far27) (hT [tM, tM, tM]) := by kernel_rfl
theorem j5 : R_law_5 zs c0 (sL w1 toldW ringW far27) (hT [tM, tM, tM]) x n k br ct = n (sL w1 toldW ringW far27) (hT [tM, tM, tM, tM]) := by kernel_rfl
theorem j6 : R_law_6 zs c0 (sL w1 toldW ringW far27) (hT [tM, tM, tM, tM]) x n k br ct = n (sL w1 toldW ringW far27) (hT [tM, tM, tM, tM, tM]) := by kernel_rfl
theorem j7 : R_law_7 zs c0 (sL w1 toldW ringW far27) (hT [tM, tM, tM, tM, tM]) x n k br ct = n (sL w1 toldW ringW far27) (hT [tM, tM, tM, tM, tM, tW]) := by kernel_rfl
theorem j8 : R_law_8 zs c0 (sL w1 toldW ringW far27) (hT [tM, tM, tM, tM, tM, tW]) x n k br ct = n (sL w1 toldW ringW far27) (hT [tM, tM, tM, tM, tM, tW, tT0]) := by kernel_rfl
theorem j9 : R_law_9 zs c0 (sL w1 toldW ringW far27) (hT [tM, tM, tM, tM, tM, tW, tT0]) x n k br ct = k (.bl true) (hT [tM, tM, tM, tM, tM, tW, tT0]) := by kernel_rfl
end
end K73
end
end

section
set_option maxRecDepth 1000000
set_option maxHeartbeats 1000000
noncomputable section
namespace K73
open PySem PySem.Spec L2 Eng
open PyProof.Rows hiding St
theorem fn12 {S : SCode} {cl : Cl} {u : W} {h : EH} {x : KX} {k : K1} : fnC 1 2 S cl [u] h x k = S cl (.mk u .und .und .und (.mk .und .und .und .und .nil)) h x (fun _ h => k .non h) k (fun _ _ => .bad) (fun _ _ => .bad) := rfl
theorem law_ok {zs : List Int} : ∃ h', C_law zs c0 [.sta 0] hE xB (fun w h => .ok w h) = .ok (.bl true) h' := by
  obtain ⟨i, e⟩ := loop_ok (zs := zs)
  refine ⟨hT [tM, tM, tM, tM, tM, tW, tT0], ?_⟩
  unfold C_law
  rw [fn12, show (S4.mk (.sta 0) .und .und .und (.mk .und .und .und .und .nil)) = s00 .und from rfl]
  unfold S_law
  simp -implicitDefEqProofs only [ev_seq, e]
  rw [show sB i .und = sL (.int (.ofNat i)) .und .und .und from rfl, j1, j2, j3, j4, j5, j6, j7, j8, j9]
end K73
end
end

section
set_option maxRecDepth 100000
set_option maxHeartbeats 0
noncomputable section
namespace K73
open PySem PySem.Spec L2 Eng
open PyProof.Rows hiding St

theorem law_fnB {K : PySem.W.Frag} {h : Heap} (S : SaysZ ats vals tfs ex h K) : fnB K (gzA K pths 58) "law" (dv_law K) [] = true := by
  have q0 := ex_at S 4 (f := xg4) rfl
  obtain ⟨h1, q1⟩ := He.ba q0
  obtain ⟨h2, q2⟩ := He.ba q1
  obtain ⟨h3, q3⟩ := He.ba q2
  obtain ⟨h4, q4⟩ := He.ba q3
  obtain ⟨h5, q5⟩ := He.ba q4
  obtain ⟨h6, q6⟩ := He.ba q5
  obtain ⟨h7, q7⟩ := He.ba q6
  obtain ⟨h8, q8⟩ := He.ba q7
  obtain ⟨h9, q9⟩ := He.ba q8
  obtain ⟨h10, q10⟩ := He.ba q9
  obtain ⟨h11, q11⟩ := He.ba q10
  obtain ⟨h12, q12⟩ := He.ba q11
  exact h4
theorem tabs_start {K : PySem.W.Frag} {w : World} {a : Addr} {ns : List Int} {H : Hp} (hT : ∀ p ∈ csF K, H p.2 = some (.tbl #[])) : ∀ p ∈ (mo w K a ns).tabs, H p.1 = some (.tbl #[]) := all_cons (hT (codA K (gzA K pths 21), tabA K (gzA K pths 21)) (cs_mem (p := fun K => (gzA K pths 21)) 0 rfl)) (all_cons (hT (codA K (gzA K pths 35), tabA K (gzA K pths 35)) (cs_mem (p := fun K => (gzA K pths 35)) 1 rfl)) (all_cons (hT (codA K (gzA K pths 56), tabA K (gzA K pths 56)) (cs_mem (p := fun K => (gzA K pths 56)) 2 rfl)) (all_cons (hT (codA K (gzA K pths 58), tabA K (gzA K pths 58)) (cs_mem (p := fun K => (gzA K pths 58)) 3 rfl)) (all_nil))))
theorem law_at {K : PySem.W.Frag} {h : Heap} {mg : Str → Option Value} {w : World} {fa : Addr} (X : K.In h) (G : h.Ns mainGlobals mg) (S : SaysZ ats vals tfs ex h K) (hmg : mg "law" = some (.ref fa)) : LamX.LawAtS PySem.Challenge.rw_underwords_k73_errors_of_smooth_members w K (L2.CX R.prog w) 123 63 "_law_script" mg fa h := by
  have e0 : fa = (gzA K pths 58) := by
    have e1 := hmg.symm.trans (glo_of X G (ex_law S))
    exact Value.ref.inj (Option.some.inj e1)
  subst e0
  have hd := ex_at S 4 (f := xg4) rfl
  obtain ⟨fd, D⟩ : ∃ fd, FunD K "law" "law" (defArgs (top 96)) (defBody (top 96)) (defScope (top 96)) (dv_law K) [] (gzA K pths 58) fd := funD_of (S.at_ 58 rfl rfl) (law_fnB S)
  have b := FunD.bindsA (ps := ["_law_script"]) D fun _ _ _ _ _ _ us hl => match us, hl with | [_], _ => rfl
  refine ⟨fd, csF K, fun vs H Q E => ∃ a ns, ns.length ≤ 63 ∧ spF (mo w K a ns) (C_law ns c0) vs H Q E, ?_, ?_, ?_, fun s u => b s [u] rfl, ?_, fun base XB GB T => ?_⟩
  · intro p hp
    obtain ⟨r, hr, rfl⟩ := List.mem_map.mp hp
    exact S.empty r hr
  · intro p hp
    obtain ⟨r, hr, rfl⟩ := List.mem_map.mp hp
    exact S.out r hr
  · intro p hp
    obtain ⟨r, hr, rfl⟩ := List.mem_map.mp hp
    exact PySem.W.codeHd_of_K X (S.hd r hr)
  · intro H a ns hl _ hT hS
    obtain ⟨h', e⟩ := law_ok (zs := ns)
    have ne : Ans.ok (.bl true) h' ≠ .bad := fun z => nomatch z
    refine ⟨a, ns, hl, .ok (.bl true) h', [.sta 0], hE, xB, fun w h => .ok w h, ⟨[], []⟩, ne, e, ⟨.ref a, [], rfl, rfl, rfl⟩, hsim_start rfl hS (tabs_start hT), px_xB ne, ?_⟩
    intro w' h2 r' v H' _ q _ e2
    cases e2
    exact q
  · obtain ⟨c, P, hcode, TB1, hmT, hu⟩ := (fc (w := w) (a := 0) (ns := []) X G S T).a22.tb_law fd D
    obtain ⟨oc, od, dV, kV, doc, pm, an, cdv, ct, osl, rfl, lk, hcd, hdv, _⟩ := D.ex
    exact fn_of lk hcd sc_law (fun vs H Q E ⟨a, ns, _, z⟩ => spF_len z) fun A outer s H vs Q E hr ⟨a, ns, hl, z⟩ => ⟨_, b_law (M := mo w K a ns) (fc X G S T) c0 (zs := ns) (List.mem_singleton.mpr rfl) (by omega) TB1 hcode hmT hu (body_of ⟨rfl, rfl, rfl⟩ hr), fn_start z⟩
end K73
end
end

set_option maxRecDepth 100000
set_option maxHeartbeats 0
open PySem PySem.W PySem.Calls PyProof.Rows
theorem PySem.Challenge.cw_underwords_k73_errors_of_smooth_members_holds : PySem.Challenge.rw_underwords_k73_errors_of_smooth_members.Holds := by
  w_on; o_law
  refine HandSHeadRun.head_any (r := OpenLaw.row PySem.Challenge.rw_underwords_k73_errors_of_smooth_members) (q := K73.qv) (H := K73.hk) (ob := K73.ob) (M := 8000) (loose := K73.names) (d := HandSHeadRun.topDef (OpenLaw.row PySem.Challenge.rw_underwords_k73_errors_of_smooth_members).prog 96) (kwd := []) K73.ob_eq (by kernel_rfl) (fun s => by kernel_rfl) K73.run (by kernel_rfl) (by kernel_rfl) (by kernel_rfl) (by rfl) (by first | assumption | decide +kernel) (by decide +kernel) ⟨rfl, rfl, rfl, rfl, rfl, by decide +kernel⟩ ?hw ?hc
  case hw => w_witness2
  case hc =>
    refine LamX.walk_ofTsE (l := PySem.Challenge.rw_underwords_k73_errors_of_smooth_members) (n := 63) (k := 123) (x := "_law_script") (CX := fun w => L2.CX K73.R.prog w) rfl (by decide) (by kernel_rfl) ⟨rfl, by decide, by decide⟩ ?F (fun _ _ _ _ _ ⟨_, _, _, _, _, _, _, _, _, _, _, _, z⟩ => z)
    intro w mg fa h Y G hmg0
    obtain ⟨K, KX, c⟩ := Y
    have hmg : mg ("law" : PySem.Str) = some (.ref fa) := by
      have e : (HandSHeadRun.topDef (OpenLaw.row PySem.Challenge.rw_underwords_k73_errors_of_smooth_members).prog 96).name = ("law" : PySem.Str) := by kernel_rfl
      rw [← e]
      exact hmg0
    exact ⟨K, KX, K73.law_at KX G c hmg⟩
