/- The engine, part 1 of 3: abstract runs tell what the machine does. Without conditions. -/
import Derived.AtR
import Derived.Laws.StructEq
import Derived.Room.AppendAsks
import Derived.Room.Make
import Derived.Maps.Keyed
import Derived.DeepKeys4
import Derived.Laws.Tables
import Derived.Laws.Slices
import Derived.Laws.Build
import Derived.Laws.Externs
import Derived.KernelRfl
/- Engine 1: tries, abstract values, the embedding of abstract values into the model's, abstract heaps. -/
namespace Go.Eng
set_option linter.unusedVariables false
set_option linter.unusedSimpArgs false

inductive Tr (α : Type) where
  | nil
  | node (v : Option α) (l r : Tr α)

namespace Tr
variable {α : Type}
def get : Tr α → Nat → Option α
  | .nil, _ => none
  | .node v l r, n => bif Nat.beq n 0 then v else bif Nat.beq (n % 2) 1 then l.get (n / 2) else r.get (n / 2 - 1)
def setF : Nat → Tr α → Nat → α → Tr α
  | 0, t, _, _ => t
  | f + 1, .nil, n, x => bif Nat.beq n 0 then .node (some x) .nil .nil else bif Nat.beq (n % 2) 1 then .node none (setF f .nil (n / 2) x) .nil else .node none .nil (setF f .nil (n / 2 - 1) x)
  | f + 1, .node v l r, n, x => bif Nat.beq n 0 then .node (some x) l r else bif Nat.beq (n % 2) 1 then .node v (setF f l (n / 2) x) r else .node v l (setF f r (n / 2 - 1) x)
def set (t : Tr α) (n : Nat) (x : α) : Tr α := setF (n + 1) t n x

theorem get_nil (n : Nat) : (nil : Tr α).get n = none := rfl
theorem get_setF (f : Nat) : ∀ (t : Tr α) (n m : Nat) (x : α), n < f → (setF f t n x).get m = if m = n then some x else t.get m := by
  induction f with
  | zero => intro t n m x h; omega
  | succ f ih =>
    intro t n m x h
    have key : ∀ (v : Option α) (l r : Tr α), (bif Nat.beq n 0 then Tr.node (some x) l r else bif Nat.beq (n % 2) 1 then .node v (setF f l (n / 2) x) r else .node v l (setF f r (n / 2 - 1) x)).get m
        = if m = n then some x else (Tr.node v l r).get m := by
      intro v l r
      by_cases h0 : n = 0
      · subst h0
        by_cases hm : m = 0
        · subst hm; simp [get]
        · have e : Nat.beq m 0 = false := by simpa [Nat.beq_eq_true_eq] using (Bool.eq_false_iff.2 (fun h => hm (Nat.eq_of_beq_eq_true h)))
          simp [get, e, hm]
      · have e0 : Nat.beq n 0 = false := Bool.eq_false_iff.2 (fun h => h0 (Nat.eq_of_beq_eq_true h))
        by_cases h1 : n % 2 = 1
        · have e1 : Nat.beq (n % 2) 1 = true := by rw [h1]; rfl
          simp only [e0, e1, cond_false, cond_true, get]
          by_cases hm : m = 0
          · subst hm; simp [Ne.symm h0]
          · have em : Nat.beq m 0 = false := Bool.eq_false_iff.2 (fun h => hm (Nat.eq_of_beq_eq_true h))
            simp only [em, cond_false]
            by_cases hm1 : m % 2 = 1
            · have em1 : Nat.beq (m % 2) 1 = true := by rw [hm1]; rfl
              simp only [em1, cond_true]
              rw [ih _ _ _ _ (by omega)]
              by_cases hmn : m = n
              · subst hmn; simp
              · rw [if_neg hmn, if_neg (by omega)]
            · have em1 : Nat.beq (m % 2) 1 = false := Bool.eq_false_iff.2 (fun h => hm1 (Nat.eq_of_beq_eq_true h))
              simp only [em1, cond_false]
              rw [if_neg (by rintro rfl; exact hm1 h1)]
        · have e1 : Nat.beq (n % 2) 1 = false := Bool.eq_false_iff.2 (fun h => h1 (Nat.eq_of_beq_eq_true h))
          simp only [e0, e1, cond_false, get]
          by_cases hm : m = 0
          · subst hm; simp [Ne.symm h0]
          · have em : Nat.beq m 0 = false := Bool.eq_false_iff.2 (fun h => hm (Nat.eq_of_beq_eq_true h))
            simp only [em, cond_false]
            by_cases hm1 : m % 2 = 1
            · have em1 : Nat.beq (m % 2) 1 = true := by rw [hm1]; rfl
              simp only [em1, cond_true]
              rw [if_neg (by rintro rfl; exact h1 hm1)]
            · have em1 : Nat.beq (m % 2) 1 = false := Bool.eq_false_iff.2 (fun h => hm1 (Nat.eq_of_beq_eq_true h))
              simp only [em1, cond_false]
              rw [ih _ _ _ _ (by omega)]
              by_cases hmn : m = n
              · subst hmn; simp
              · rw [if_neg hmn, if_neg (by omega)]
    cases t with
    | nil =>
      have := key none .nil .nil
      simp only [setF]
      rw [this]
      by_cases hmn : m = n
      · simp [hmn]
      · simp only [if_neg hmn, get]
        cases Nat.beq m 0 <;> cases Nat.beq (m % 2) 1 <;> rfl
    | node v l r => exact key v l r
theorem get_set (t : Tr α) (n m : Nat) (x : α) : (t.set n x).get m = if m = n then some x else t.get m := get_setF _ _ _ _ _ (Nat.lt_succ_self n)
theorem get_set_same (t : Tr α) (n : Nat) (x : α) : (t.set n x).get n = some x := by simp [get_set]
theorem get_set_ne (t : Tr α) {n m : Nat} (x : α) (h : m ≠ n) : (t.set n x).get m = t.get m := by simp [get_set, h]
end Tr

/-! abstract values -/
inductive AVal where
  | bool (b : Bool)
  | int (k : IntKind) (n : Int)
  | str (s : ByteArray)
  | ptr0
  | ptr (b o : Nat)
  | sl0
  | sl (b o len cap : Nat) (op : Bool)
  /-- the empty rest behind an open slice's told end -/
  | slT (b o d : Nat)
  | map0
  | map (r : Nat)
  | fn (f : Nat) (first captured : List AVal)
  | yield (l : Nat)
  | fn0
  | iface (t : Nat) (v : AVal)
  | if0
  | agg (cs : List AVal)
  | tup (vs : List AVal)
  deriving Inhabited

/-- Where an abstract block lies, and how much more a slice that is open there can take than is told. -/
abbrev Rho := Nat → Option (Nat × Nat)
def Rho.blk (ρ : Rho) (g : Nat) : Nat := ((ρ g).getD (0, 0)).1
def Rho.slack (ρ : Rho) (g : Nat) : Nat := ((ρ g).getD (0, 0)).2

mutual
def cv (ρ : Rho) : AVal → Value
  | .bool b => .bool b
  | .int k n => .int k n
  | .str s => .string s
  | .ptr0 => .pointer none
  | .ptr b o => .pointer (some ⟨ρ.blk b, o, none⟩)
  | .sl0 => .slice none 0 0
  | .sl b o len cap op => .slice (some ⟨ρ.blk b, o, none⟩) len (cap + bif op then ρ.slack b else 0)
  | .slT b o d => .slice (some ⟨ρ.blk b, if ρ.slack b = 0 then o else o + d, none⟩) 0 (ρ.slack b)
  | .map0 => .map none
  | .map r => .map (some (ρ.blk r))
  | .fn f first captured => .func (.func f) (cvs ρ first).toArray (cvs ρ captured).toArray
  | .yield l => .func (.yield (ρ.blk l)) #[] #[]
  | .fn0 => .nilFunc
  | .iface t v => .iface t (cv ρ v)
  | .if0 => .nilIface
  | .agg cs => .agg (cvs ρ cs).toArray
  | .tup vs => .tuple (cvs ρ vs).toArray
def cvs (ρ : Rho) : List AVal → List Value
  | [] => []
  | v :: vs => cv ρ v :: cvs ρ vs
end
mutual
def okv (ρ : Rho) : AVal → Prop
  | .ptr b _ => (ρ b).isSome = true
  | .sl b _ _ _ _ => (ρ b).isSome = true
  | .slT b _ _ => (ρ b).isSome = true
  | .map r => (ρ r).isSome = true
  | .fn _ first captured => okvs ρ first ∧ okvs ρ captured
  | .yield l => (ρ l).isSome = true
  | .iface _ v => okv ρ v
  | .agg cs => okvs ρ cs
  | .tup vs => okvs ρ vs
  | _ => True
def okvs (ρ : Rho) : List AVal → Prop
  | [] => True
  | v :: vs => okv ρ v ∧ okvs ρ vs
end
theorem cvs_map (ρ : Rho) : ∀ l, cvs ρ l = l.map (cv ρ)
  | [] => rfl
  | v :: vs => by simp [cvs, cvs_map ρ vs]
theorem okvs_all (ρ : Rho) : ∀ l, okvs ρ l ↔ ∀ v ∈ l, okv ρ v
  | [] => by simp [okvs]
  | v :: vs => by simp [okvs, okvs_all ρ vs]
@[simp] theorem cvs_length (ρ : Rho) (l : List AVal) : (cvs ρ l).length = l.length := by simp [cvs_map]

/-- ρ' says of each block what ρ says, and maybe of more. -/
def Rho.le (ρ ρ' : Rho) : Prop := ∀ g x, ρ g = some x → ρ' g = some x
theorem Rho.le_refl (ρ : Rho) : ρ.le ρ := fun _ _ h => h
theorem Rho.le_trans {a b c : Rho} (h : a.le b) (h' : b.le c) : a.le c := fun g x e => h' g x (h g x e)
theorem Rho.le.blk {ρ ρ' : Rho} (h : ρ.le ρ') {g : Nat} (hg : (ρ g).isSome = true) : ρ'.blk g = ρ.blk g := by
  obtain ⟨x, hx⟩ := Option.isSome_iff_exists.1 hg
  simp [Rho.blk, hx, h g x hx]
theorem Rho.le.slack {ρ ρ' : Rho} (h : ρ.le ρ') {g : Nat} (hg : (ρ g).isSome = true) : ρ'.slack g = ρ.slack g := by
  obtain ⟨x, hx⟩ := Option.isSome_iff_exists.1 hg
  simp [Rho.slack, hx, h g x hx]
theorem Rho.le.some {ρ ρ' : Rho} (h : ρ.le ρ') {g : Nat} (hg : (ρ g).isSome = true) : (ρ' g).isSome = true := by
  obtain ⟨x, hx⟩ := Option.isSome_iff_exists.1 hg
  simp [h g x hx]

mutual
theorem okv_le {ρ ρ' : Rho} (h : ρ.le ρ') : ∀ v, okv ρ v → okv ρ' v
  | .ptr _ _, hv | .sl _ _ _ _ _, hv | .slT _ _ _, hv | .map _, hv | .yield _, hv => h.some hv
  | .fn _ a b, hv => ⟨okvs_le h a hv.1, okvs_le h b hv.2⟩
  | .iface _ v, hv => okv_le h v hv
  | .agg cs, hv => okvs_le h cs hv
  | .tup cs, hv => okvs_le h cs hv
  | .bool _, _ | .int _ _, _ | .str _, _ | .ptr0, _ | .sl0, _ | .map0, _ | .fn0, _ | .if0, _ => trivial
theorem okvs_le {ρ ρ' : Rho} (h : ρ.le ρ') : ∀ l, okvs ρ l → okvs ρ' l
  | [], _ => trivial
  | v :: vs, hl => ⟨okv_le h v hl.1, okvs_le h vs hl.2⟩
end
mutual
theorem cv_le {ρ ρ' : Rho} (h : ρ.le ρ') : ∀ v, okv ρ v → cv ρ' v = cv ρ v
  | .ptr b o, hv => by simp [cv, h.blk (show (ρ b).isSome = true from hv)]
  | .sl b o len cap op, hv => by simp [cv, h.blk (show (ρ b).isSome = true from hv), h.slack (show (ρ b).isSome = true from hv)]
  | .slT b o d, hv => by simp [cv, h.blk (show (ρ b).isSome = true from hv), h.slack (show (ρ b).isSome = true from hv)]
  | .map r, hv => by simp [cv, h.blk (show (ρ r).isSome = true from hv)]
  | .yield r, hv => by simp [cv, h.blk (show (ρ r).isSome = true from hv)]
  | .fn _ a b, hv => by simp [cv, cvs_le h a hv.1, cvs_le h b hv.2]
  | .iface _ v, hv => by simp [cv, cv_le h v hv]
  | .agg cs, hv => by simp [cv, cvs_le h cs hv]
  | .tup cs, hv => by simp [cv, cvs_le h cs hv]
  | .bool _, _ | .int _ _, _ | .str _, _ | .ptr0, _ | .sl0, _ | .map0, _ | .fn0, _ | .if0, _ => by simp [cv]
theorem cvs_le {ρ ρ' : Rho} (h : ρ.le ρ') : ∀ l, okvs ρ l → cvs ρ' l = cvs ρ l
  | [], _ => rfl
  | v :: vs, hl => by simp [cvs, cv_le h v hl.1, cvs_le h vs hl.2]
end
end Go.Eng

/- Engine 2: abstract code, abstract heaps, and what it is that a world of the model is as an abstract heap says. -/
namespace Go.Eng
set_option linter.unusedVariables false
set_option linter.unusedSimpArgs false

inductive AO where
  | t (n : Nat)
  | c (v : AVal)

/-- kinds of plain data that '==' takes -/
inductive SK where
  | b | i | s
  deriving DecidableEq

/-- kinds of what may be nil -/
inductive NK where
  | p | s | m | f | i

/-- kinds of what has a length -/
inductive LK where
  | sl | str | mp

/-- kinds of a key's cells -/
inductive KC where
  | b | i (q : IntKind) | s

inductive AOp where
  | move (x : AO)
  | pick (c a b : AO)
  | alloc (e : Nat) (z : List AVal)
  | box (e : Nat) (x : AO)
  | build (z : List AVal) (ps : List (Nat × Nat × AO))
  | buildSlice (e len esz : Nat) (z : List AVal) (ps : List (Nat × Nat × AO))
  | load1 (a : AO)
  | loadN (n : Nat) (a : AO)
  | store (n : Nat) (a x : AO)
  | nilCheck (x : AO)
  | bin (op : BinOp) (x y : AO)
  | eqs (ks : List SK) (neg : Bool) (x y : AO)
  | eqb (neg : Bool) (x y : AO)
  | isNil (nk : NK) (neg : Bool) (x y : AO)
  | un (op : UnOp) (x : AO)
  | conv (k : IntKind) (x : AO)
  | mkIface (t : Nat) (x : AO)
  | mkFunc (f : Nat) (first captured : List AO)
  | mkMap (r : Option AO)
  | mkSlice (e esz bytes : Nat) (z : List AVal) (l c : AO)
  | slice (sz : Nat) (x : AO) (lo hi mx : Option AO)
  | sliceStr (x : AO) (lo hi : Option AO)
  | sliceArr (n sz : Nat) (x : AO) (lo hi mx : Option AO)
  | fieldAddr (off : Nat) (x : AO)
  | field (off n : Nat) (agg : Bool) (x : AO)
  | indexAddrA (len sz : Nat) (x i : AO)
  | indexAddrS (sz : Nat) (x i : AO)
  | index (len n : Nat) (agg : Bool) (x i : AO)
  | indexStr (x i : AO)
  | lookup (ks : List KC) (agg : Bool) (zero : AVal) (m k : AO) (ok : Bool)
  | mapUpdate (ks : List KC) (agg : Bool) (m k v : AO)
  | mapEntry (ks : List KC) (agg : Bool) (zero : AVal) (m k : AO)
  | entryStore (m s v : AO)
  | range (m : AO)
  | next (it : AO)
  | entry (it : AO)
  | assert (t : Nat) (zero : AVal) (ok : Bool) (x : AO)
  | extract (x : AO) (i : Nat)
  | callF (f : Nat) (args : List AO)
  | callV (f : AO) (args : List AO)
  | add64 (x y c : AO)
  | len (k : LK) (x : AO)
  | lenC (n : Nat) (x : AO)
  | append (e sz bytes : Nat) (z : List AVal) (s x : AO)
  | copy (sz : Nat) (d s : AO)
  | clear (z : List AVal) (x : AO)
  | delete (ks : List KC) (agg : Bool) (m k : AO)
  | maxmin (isMax : Bool) (xs : List AO)
  | recover
  | defer (f : AO) (args : List AO)
  | panic (x : AO)

structure AOper where
  dst : Option Nat
  op : AOp
  guard : Option (Nat × Bool)
  /-- at which other places of the region the operation may come to be carried out (in a region that draws its order): before which of its operations that turn the world -/
  alts : List Nat

/-- a region's operations are carried out in order · in any order that its edges let · so, but for the last one, which waits for all others -/
inductive DM where
  | seq | draw | sink

inductive ACode where
  | skip
  | region (ops : List AOper) (dm : DM)
  | seq (a b : ACode)
  | cond (c : AO) (a b : ACode)
  | block (id : Nat) (b : ACode)
  | loop (b : ACode)
  | rangeFunc (f : AO) (params : List Nat) (assign body : ACode)
  | exit (id : Nat)
  | ret

inductive AJump where
  | exit (id : Nat)
  | ret

structure ALoop where
  st : LoopState
  pending : Option AJump
  tm : Tr AVal
  size : Nat
  params : List Nat
  assign : ACode
  body : ACode
  defers : Nat

inductive ABlk where
  | cells (cs : List AVal) (e esz own : Nat) (tip : Bool) (anc : List Nat)
  | map (es : List (AVal × AVal × Nat)) (clock : Nat)
  | iter (m : Option Nat) (since : Nat) (seen : List Nat) (stepped : Nat)
  | loop (l : ALoop)
  | deferred (live : Bool)
  | dead

structure AW where
  h : Tr ABlk
  n : Nat

def AW.get (W : AW) (g : Nat) : ABlk := (W.h.get g).getD .dead
def AW.set (W : AW) (g : Nat) (b : ABlk) : AW := { W with h := W.h.set g b }
def AW.push (W : AW) (b : ABlk) : AW := { h := W.h.set W.n b, n := W.n + 1 }
def AW.kill (W : AW) : List Nat → AW
  | [] => W
  | g :: gs => (W.set g .dead).kill gs

@[simp] theorem AW.set_n (W : AW) (g : Nat) (b : ABlk) : (W.set g b).n = W.n := rfl
@[simp] theorem AW.push_n (W : AW) (b : ABlk) : (W.push b).n = W.n + 1 := rfl
theorem AW.get_set (W : AW) (g k : Nat) (b : ABlk) : (W.set g b).get k = if k = g then b else W.get k := by
  unfold AW.get AW.set; rw [Tr.get_set]; split <;> rfl
theorem AW.get_set_same (W : AW) (g : Nat) (b : ABlk) : (W.set g b).get g = b := by simp [AW.get_set]
theorem AW.get_set_ne (W : AW) {g k : Nat} (b : ABlk) (h : k ≠ g) : (W.set g b).get k = W.get k := by simp [AW.get_set, h]
theorem AW.get_push (W : AW) (k : Nat) (b : ABlk) : (W.push b).get k = if k = W.n then b else W.get k := by
  unfold AW.get AW.push; rw [Tr.get_set]; split <;> rfl
theorem AW.get_push_same (W : AW) (b : ABlk) : (W.push b).get W.n = b := by simp [AW.get_push]
theorem AW.get_push_ne (W : AW) {k : Nat} (b : ABlk) (h : k ≠ W.n) : (W.push b).get k = W.get k := by simp [AW.get_push, h]
@[simp] theorem AW.kill_n (W : AW) : ∀ gs, (W.kill gs).n = W.n
  | [] => rfl
  | g :: gs => by simp [AW.kill, AW.kill_n (W.set g .dead) gs]
theorem AW.get_kill (k : Nat) : ∀ (gs : List Nat) (W : AW), (W.kill gs).get k = if k ∈ gs then .dead else W.get k
  | [], W => by simp [AW.kill]
  | g :: gs, W => by
    rw [AW.kill, AW.get_kill k gs, AW.get_set]
    by_cases h : k ∈ gs
    · simp [h]
    · by_cases e : k = g
      · simp [e]
      · simp [h, e]

/-! what a cell, a value are -/
def acells : AVal → List AVal
  | .agg cs => cs
  | v => [v]
def AVal.one : AVal → Bool
  | .agg _ | .tup _ => false
  | _ => true
abbrev aundef : AVal := .tup []
theorem cv_undef (ρ : Rho) : cv ρ aundef = undef := rfl
theorem cells_cv (ρ : Rho) (v : AVal) : (cv ρ v).cells = (cvs ρ (acells v)).toArray := by
  cases v <;> simp [cv, acells, Value.cells, cvs]
theorem one_cv (ρ : Rho) {v : AVal} (h : v.one = true) : (cv ρ v).oneCell' = true := by
  cases v <;> simp_all [cv, AVal.one, Value.oneCell']
theorem okvs_acells {ρ : Rho} {v : AVal} (h : okv ρ v) : okvs ρ (acells v) := by
  cases v <;> simp_all [acells, okvs, okv]

def jumpCode : AJump → Code
  | .exit id => .exit id
  | .ret => .ret

/-- 'c' is the code of which 'ac' was made: given by the table of a program (Engine 4). -/
abbrev CodeR := Code → ACode → Prop

def TR (ρ : Rho) (tm : Tr AVal) (tmps : Array Value) : Prop := ∀ t, tmps.getD t undef = cv ρ ((tm.get t).getD aundef) ∧ okv ρ ((tm.get t).getD aundef)

def LR (CR : CodeR) (ρ : Rho) (l : ALoop) (r : Loop) : Prop :=
  r.state = l.st ∧ r.pending = l.pending.map jumpCode ∧ TR ρ l.tm r.tmps ∧ r.tmps.size = l.size ∧ r.params.toList = l.params ∧ CR r.assign l.assign ∧ CR r.body l.body ∧
    r.defers = ρ.blk l.defers ∧ (ρ l.defers).isSome = true

def centry (ρ : Rho) (x : AVal × AVal × Nat) : MapEntry := { key := cv ρ x.1, val := cv ρ x.2.1, born := x.2.2 }

def BR (CR : CodeR) (ρ : Rho) (s : Nat) : ABlk → Obj → Prop
  | .cells cs e esz own _ anc, o => own ≤ cs.length ∧ okvs ρ cs ∧ (∀ a ∈ anc, (ρ a).isSome = true) ∧
      ∃ c' rest, o = .cells c' e (0, 0) ∧ c'.toList = cvs ρ cs ++ rest ∧ s * esz ≤ rest.length
  | .map es clock, o => o = .map (es.map (centry ρ)).toArray clock ∧ ∀ x ∈ es, okv ρ x.1 ∧ okv ρ x.2.1
  | .iter m since seen stepped, o => (∀ r, m = some r → (ρ r).isSome = true) ∧ o = .mapIter (m.map ρ.blk) since seen.toArray stepped
  | .loop l, o => ∃ r, o = .loop r ∧ LR CR ρ l r
  | .deferred live, o => o = .deferred (if live then some [] else none)
  | .dead, _ => True

def Anc (W : AW) (g1 g2 : Nat) : Prop := ∃ cs1 e1 z1 o1 a1 cs2 e2 z2 o2 t2 a2, W.get g1 = .cells cs1 e1 z1 o1 false a1 ∧ W.get g2 = .cells cs2 e2 z2 o2 t2 a2 ∧ cs1.length ≤ o2 ∧ g1 ∈ a2
def Share (W : AW) (g1 g2 : Nat) : Prop := W.get g1 = .dead ∨ W.get g2 = .dead ∨ Anc W g1 g2 ∨ Anc W g2 g1
theorem Share.symm {W : AW} {g1 g2 : Nat} (h : Share W g1 g2) : Share W g2 g1 := by
  rcases h with h | h | h | h
  · exact .inr (.inl h)
  · exact .inl h
  · exact .inr (.inr (.inr h))
  · exact .inr (.inr (.inl h))

/-- (nothing more is asked of the whole world) -/
def IterR (ρ : Rho) (W : AW) (w : World) : Prop := True

structure WR (CR : CodeR) (ρ : Rho) (W : AW) (w : World) : Prop where
  blk : ∀ g b s, ρ g = some (b, s) → g < W.n ∧ ∃ o, w.heap[b]? = some o ∧ BR CR ρ s (W.get g) o
  share : ∀ g1 g2 b s1 s2, g1 ≠ g2 → ρ g1 = some (b, s1) → ρ g2 = some (b, s2) → Share W g1 g2
  it : IterR ρ W w

/-- an object of which nothing is frozen -/
def calmObj (o : Obj) : Prop := ∀ c e f, o = .cells c e f → f = (0, 0)
theorem BR.calm {CR : CodeR} {ρ : Rho} {s : Nat} {blk : ABlk} {o : Obj} (h : BR CR ρ s blk o) (hd : blk ≠ .dead) : calmObj o := by
  intro c e f ho
  subst ho
  cases blk with
  | cells cs e' esz own tip anc =>
    obtain ⟨_, _, _, c', rest, h4, _⟩ := h
    cases h4; rfl
  | map es clock => exact absurd h.1 (by simp)
  | iter m a b c => exact absurd h.2 (by simp)
  | loop l => obtain ⟨r, h1, _⟩ := h; cases h1
  | deferred l => cases h
  | dead => exact absurd rfl hd

structure Ext (ρ : Rho) (W : AW) (w : World) (ρ' : Rho) (W' : AW) (w' : World) : Prop where
  le : ρ.le ρ'
  n : W.n ≤ W'.n
  dom : ∀ g, (ρ' g).isSome = true → (ρ g).isSome = true ∨ W.n ≤ g
  sz : w.heap.size ≤ w'.heap.size
  out : ∀ b, b < w.heap.size → (∀ g s, ρ g ≠ some (b, s)) → w'.heap[b]? = w.heap[b]?
  img : ∀ g b s, ρ' g = some (b, s) → b < w.heap.size → ∃ g0 s0, ρ g0 = some (b, s0)
  keep : ∀ g, g < W.n → ρ g = none → W'.get g = W.get g
  os : w'.os = w.os
  output : w'.output = w.output ∧ ∀ a, w'.frozen? a = w.frozen? a

theorem Ext.refl (ρ : Rho) (W : AW) (w : World) : Ext ρ W w ρ W w :=
  ⟨ρ.le_refl, Nat.le_refl _, fun _ h => .inl h, Nat.le_refl _, fun _ _ _ => rfl, fun g b s h _ => ⟨g, s, h⟩, fun _ _ _ => rfl, rfl, rfl, fun _ => rfl⟩
theorem Ext.trans {ρ ρ1 ρ2 : Rho} {W W1 W2 : AW} {w w1 w2 : World} (h : Ext ρ W w ρ1 W1 w1) (k : Ext ρ1 W1 w1 ρ2 W2 w2) : Ext ρ W w ρ2 W2 w2 where
  le := Rho.le_trans h.le k.le
  n := Nat.le_trans h.n k.n
  dom g hg := (k.dom g hg).elim (fun h1 => h.dom g h1) (fun h1 => .inr (Nat.le_trans h.n h1))
  sz := Nat.le_trans h.sz k.sz
  out b hb ho := (k.out b (Nat.lt_of_lt_of_le hb h.sz) (fun g s e => by
    obtain ⟨g0, s0, e0⟩ := h.img g b s e hb
    exact ho g0 s0 e0)).trans (h.out b hb ho)
  img g b s e hb := by
    obtain ⟨g1, s1, e1⟩ := k.img g b s e (Nat.lt_of_lt_of_le hb h.sz)
    exact h.img g1 b s1 e1 hb
  keep g hg e := (k.keep g (Nat.lt_of_lt_of_le hg h.n) (by
    cases e1 : ρ1 g with
    | none => rfl
    | some x =>
      rcases h.dom g (by simp [e1]) with h2 | h2
      · simp [e] at h2
      · omega)).trans (h.keep g hg e)
  os := k.os.trans h.os
  output := ⟨k.output.1.trans h.output.1, fun a => (k.output.2 a).trans (h.output.2 a)⟩
end Go.Eng

/- Engine 3: how worlds change, and what an abstract heap says then. -/
namespace Go.Eng
set_option linter.unusedVariables false
set_option linter.unusedSimpArgs false
variable {CR : CodeR}

def wset (w : World) (b : Nat) (o : Obj) : World := { w with heap := w.heap.setIfInBounds b o }
def wpush (w : World) (o : Obj) : World := { w with heap := w.heap.push o }
theorem wset_get (w : World) (b k : Nat) (o : Obj) (hb : b < w.heap.size) : (wset w b o).heap[k]? = if k = b then some o else w.heap[k]? := by
  simp only [wset, Array.getElem?_setIfInBounds]
  by_cases h : b = k
  · subst h; simp [hb]
  · simp [h, Ne.symm h]
@[simp] theorem wset_size (w : World) (b : Nat) (o : Obj) : (wset w b o).heap.size = w.heap.size := by simp [wset]
theorem wpush_get (w : World) (k : Nat) (o : Obj) : (wpush w o).heap[k]? = if k = w.heap.size then some o else w.heap[k]? := by
  simp only [wpush, Array.getElem?_push]
@[simp] theorem wpush_size (w : World) (o : Obj) : (wpush w o).heap.size = w.heap.size + 1 := by simp [wpush]
theorem lt_of_get {w : World} {b : Nat} {o : Obj} (h : w.heap[b]? = some o) : b < w.heap.size := (Array.getElem?_eq_some_iff.1 h).1
theorem wset_wset (w : World) (b : Nat) (o o' : Obj) : wset (wset w b o) b o' = wset w b o' := by
  simp [wset]

theorem frz_wset {w : World} {b : Nat} {o o' : Obj} (h : w.heap[b]? = some o) (ho : calmObj o) (ho' : calmObj o') (a : Addr) : (wset w b o').frozen? a = w.frozen? a := by
  have hlt := lt_of_get h
  unfold World.frozen?
  rw [wset_get _ _ _ _ hlt]
  by_cases e : a.block = b
  · rw [if_pos e, e, h]
    cases o with
    | cells c2 e2 f2 =>
      have h2 := ho _ _ _ rfl
      subst h2
      cases o' with
      | cells c1 e1 f1 => have h1 := ho' _ _ _ rfl; subst h1; simp
      | _ => simp
    | _ =>
      cases o' with
      | cells c1 e1 f1 => have h1 := ho' _ _ _ rfl; subst h1; simp
      | _ => simp
  · rw [if_neg e]
theorem frz_wpush {w : World} {o : Obj} (ho : calmObj o) (a : Addr) : (wpush w o).frozen? a = w.frozen? a := by
  unfold World.frozen?
  rw [wpush_get]
  by_cases e : a.block = w.heap.size
  · rw [if_pos e, e]
    cases o with
    | cells c e f => rw [ho c e f rfl]; simp
    | _ => simp
  · rw [if_neg e]
theorem calm_cells (c : Array Value) (e : TypeId) : calmObj (.cells c e (0, 0)) := by intro _ _ _ h; cases h; rfl

theorem TR.le {ρ ρ' : Rho} (h : ρ.le ρ') {tm : Tr AVal} {tmps : Array Value} (ht : TR ρ tm tmps) : TR ρ' tm tmps :=
  fun t => ⟨by rw [cv_le h _ (ht t).2]; exact (ht t).1, okv_le h _ (ht t).2⟩
theorem LR.le {ρ ρ' : Rho} (h : ρ.le ρ') {l : ALoop} {r : Loop} (hl : LR CR ρ l r) : LR CR ρ' l r := by
  obtain ⟨a, b, d, e, f, g, i, j, k⟩ := hl
  exact ⟨a, b, d.le h, e, f, g, i, by rw [h.blk k]; exact j, h.some k⟩
theorem BR.le {ρ ρ' : Rho} (h : ρ.le ρ') {s : Nat} {blk : ABlk} {o : Obj} (hb : BR CR ρ s blk o) : BR CR ρ' s blk o := by
  cases blk with
  | cells cs e esz own tip anc =>
    obtain ⟨h1, h2, h3, c', rest, h4, h5, h6⟩ := hb
    exact ⟨h1, okvs_le h _ h2, fun a ha => h.some (h3 a ha), c', rest, h4, by rw [cvs_le h _ h2]; exact h5, h6⟩
  | map es clock =>
    refine ⟨?_, fun x hx => ⟨okv_le h _ (hb.2 x hx).1, okv_le h _ (hb.2 x hx).2⟩⟩
    rw [hb.1]
    congr 2
    exact List.map_congr_left fun x hx => by simp only [centry, cv_le h _ (hb.2 x hx).1, cv_le h _ (hb.2 x hx).2]
  | iter m since seen st =>
    refine ⟨fun r hr => h.some (hb.1 r hr), ?_⟩
    rw [hb.2]
    cases m with
    | none => rfl
    | some r => simp only [Option.map_some, h.blk (hb.1 r rfl)]
  | loop l => obtain ⟨r, h1, h2⟩ := hb; exact ⟨r, h1, h2.le h⟩
  | deferred l => exact hb
  | dead => trivial

theorem WR.none_n {ρ : Rho} {W : AW} {w : World} (h : WR CR ρ W w) : ρ W.n = none := by
  cases e : ρ W.n with
  | none => rfl
  | some x => exact absurd (h.blk W.n x.1 x.2 e).1 (Nat.lt_irrefl _)
theorem WR.lt {ρ : Rho} {W : AW} {w : World} (h : WR CR ρ W w) {g b s : Nat} (e : ρ g = some (b, s)) : b < w.heap.size := by
  obtain ⟨_, o, ho, _⟩ := h.blk g b s e
  exact lt_of_get ho

def Rho.upd (ρ : Rho) (g b s : Nat) : Rho := fun k => if k = g then some (b, s) else ρ k
theorem Rho.le_upd {ρ : Rho} {g b s : Nat} (h : ρ g = none) : ρ.le (ρ.upd g b s) := by
  intro k x hk
  unfold Rho.upd
  split
  · rename_i e; subst e; rw [h] at hk; cases hk
  · exact hk
theorem Rho.upd_same (ρ : Rho) (g b s : Nat) : ρ.upd g b s g = some (b, s) := by simp [Rho.upd]
theorem Rho.upd_ne (ρ : Rho) {g k : Nat} (b s : Nat) (h : k ≠ g) : ρ.upd g b s k = ρ k := by simp [Rho.upd, h]

theorem Share.congr {W W' : AW} {g1 g2 : Nat} (h : Share W g1 g2) (h1 : W'.get g1 = W.get g1 ∨ W'.get g1 = .dead) (h2 : W'.get g2 = W.get g2 ∨ W'.get g2 = .dead) : Share W' g1 g2 := by
  rcases h1 with h1 | h1
  · rcases h2 with h2 | h2
    · unfold Share Anc at *; rw [h1, h2]; exact h
    · exact .inr (.inl h2)
  · exact .inl h1

/-- A new block. -/
theorem WR.push {ρ : Rho} {W : AW} {w : World} (h : WR CR ρ W w) {blk : ABlk} {o : Obj} {s : Nat} (hb : BR CR ρ s blk o) (hi : blk ≠ .dead) :
    WR CR (ρ.upd W.n w.heap.size s) (W.push blk) (wpush w o) ∧ Ext ρ W w (ρ.upd W.n w.heap.size s) (W.push blk) (wpush w o) := by
  have hn := h.none_n
  have hle := Rho.le_upd (b := w.heap.size) (s := s) hn
  refine ⟨⟨?_, ?_, ?_⟩, hle, by simp, ?_, by simp, ?_, ?_, ?_, rfl, rfl, frz_wpush (hb.calm hi)⟩
  · intro g b t e
    by_cases hg : g = W.n
    · subst hg
      rw [Rho.upd_same] at e; cases e
      exact ⟨by simp, o, by rw [wpush_get]; simp, by rw [AW.get_push_same]; exact hb.le hle⟩
    · rw [Rho.upd_ne _ _ _ hg] at e
      obtain ⟨h1, o', h2, h3⟩ := h.blk g b t e
      exact ⟨by simp; omega, o', by rw [wpush_get, if_neg (Nat.ne_of_lt (lt_of_get h2))]; exact h2, by rw [AW.get_push_ne _ _ hg]; exact h3.le hle⟩
  · intro g1 g2 b s1 s2 hne e1 e2
    by_cases h1 : g1 = W.n
    · subst h1
      rw [Rho.upd_same] at e1; cases e1
      rw [Rho.upd_ne _ _ _ (Ne.symm hne)] at e2
      exact absurd (h.lt e2) (Nat.lt_irrefl _)
    · by_cases h2 : g2 = W.n
      · subst h2
        rw [Rho.upd_same] at e2; cases e2
        rw [Rho.upd_ne _ _ _ h1] at e1
        exact absurd (h.lt e1) (Nat.lt_irrefl _)
      · rw [Rho.upd_ne _ _ _ h1] at e1
        rw [Rho.upd_ne _ _ _ h2] at e2
        exact (h.share g1 g2 b s1 s2 hne e1 e2).congr (.inl (AW.get_push_ne _ _ h1)) (.inl (AW.get_push_ne _ _ h2))
  · trivial
  · intro g hg
    by_cases hgn : g = W.n
    · exact .inr (by omega)
    · rw [Rho.upd_ne _ _ _ hgn] at hg; exact .inl hg
  · intro b hb' _; rw [wpush_get, if_neg (Nat.ne_of_lt hb')]
  · intro g b t e hb'
    by_cases hgn : g = W.n
    · subst hgn; rw [Rho.upd_same] at e; cases e; omega
    · rw [Rho.upd_ne _ _ _ hgn] at e; exact ⟨g, t, e⟩
  · intro g hg _; exact AW.get_push_ne _ _ (Nat.ne_of_lt hg)

/-- A block of another object in its place, and what else stood for it. -/
theorem WR.upd {ρ : Rho} {W : AW} {w : World} (h : WR CR ρ W w) {b g0 s0 : Nat} (hg0 : ρ g0 = some (b, s0)) (W' : AW) (o' : Obj) (hn : W'.n = W.n)
    (hother : ∀ k b' s', ρ k = some (b', s') → b' ≠ b → W'.get k = W.get k ∨ W'.get k = .dead)
    (hsame : ∀ k s', ρ k = some (b, s') → BR CR ρ s' (W'.get k) o')
    (hshare : ∀ k1 k2 s1 s2, k1 ≠ k2 → ρ k1 = some (b, s1) → ρ k2 = some (b, s2) → Share W' k1 k2)
    (hkeep : ∀ k, ρ k = none → W'.get k = W.get k)
    (hit : IterR ρ W' (wset w b o')) (hfz : ∀ a, (wset w b o').frozen? a = w.frozen? a) :
    WR CR ρ W' (wset w b o') ∧ Ext ρ W w ρ W' (wset w b o') := by
  have hb := h.lt hg0
  refine ⟨⟨?_, ?_, hit⟩, ρ.le_refl, by omega, fun g hg => .inl hg, by simp, ?_, fun g b' s e _ => ⟨g, s, e⟩, fun g _ e => hkeep g e, rfl, rfl, hfz⟩
  · intro g b' s e
    by_cases hbb : b' = b
    · subst hbb
      exact ⟨by rw [hn]; exact (h.blk g b' s e).1, o', by rw [wset_get _ _ _ _ hb]; simp, hsame g s e⟩
    · obtain ⟨h1, o, h2, h3⟩ := h.blk g b' s e
      refine ⟨by omega, o, by rw [wset_get _ _ _ _ hb, if_neg hbb]; exact h2, ?_⟩
      rcases hother g b' s e hbb with h4 | h4
      · rw [h4]; exact h3
      · rw [h4]; trivial
  · intro g1 g2 b' s1 s2 hne e1 e2
    by_cases hbb : b' = b
    · subst hbb; exact hshare g1 g2 s1 s2 hne e1 e2
    · exact (h.share g1 g2 b' s1 s2 hne e1 e2).congr (hother _ _ _ e1 hbb) (hother _ _ _ e2 hbb)
  · intro k hk hout
    rw [wset_get _ _ _ _ hb]
    split
    · rename_i e; subst e; exact absurd hg0 (hout g0 s0)
    · rfl

/-! cells -/
/-- vs laid over cs from i on -/
def lay {α : Type} : List α → Nat → List α → List α
  | [], _, _ => []
  | c :: cs, 0, [] => c :: cs
  | _ :: cs, 0, v :: vs => v :: lay cs 0 vs
  | c :: cs, i + 1, vs => c :: lay cs i vs
@[simp] theorem lay_length {α : Type} : ∀ (cs : List α) (i : Nat) (vs : List α), (lay cs i vs).length = cs.length
  | [], _, _ => rfl
  | c :: cs, 0, [] => rfl
  | _ :: cs, 0, v :: vs => by simp [lay, lay_length cs 0 vs]
  | c :: cs, i + 1, vs => by simp [lay, lay_length cs i vs]
theorem lay_map {α β : Type} (f : α → β) : ∀ (cs : List α) (i : Nat) (vs : List α), (lay cs i vs).map f = lay (cs.map f) i (vs.map f)
  | [], _, _ => rfl
  | c :: cs, 0, [] => rfl
  | _ :: cs, 0, v :: vs => by simp [lay, lay_map f cs 0 vs]
  | c :: cs, i + 1, vs => by simp [lay, lay_map f cs i vs]
theorem lay_nil {α : Type} : ∀ (cs : List α) (i : Nat), lay cs i [] = cs
  | [], _ => by simp [lay]
  | c :: cs, 0 => rfl
  | c :: cs, i + 1 => by simp [lay, lay_nil cs i]
theorem lay_cons {α : Type} (v : α) : ∀ (cs : List α) (i : Nat) (vs : List α), lay cs i (v :: vs) = lay (cs.set i v) (i + 1) vs
  | [], _, _ => by simp [lay]
  | c :: cs, 0, vs => by simp [lay]
  | c :: cs, i + 1, vs => by simp [lay, lay_cons v cs i vs]
theorem lay_append_left {α : Type} : ∀ (cs rest : List α) (i : Nat) (vs : List α), i + vs.length ≤ cs.length → lay (cs ++ rest) i vs = lay cs i vs ++ rest
  | [], rest, i, vs, h => by
    obtain rfl : i = 0 := by simp at h; omega
    obtain rfl : vs = [] := by simpa using h
    simp [lay, lay_nil]
  | c :: cs, rest, 0, [], h => by simp [lay]
  | c :: cs, rest, 0, v :: vs, h => by simp [lay, lay_append_left cs rest 0 vs (by simpa using h)]
  | c :: cs, rest, i + 1, vs, h => by simp [lay, lay_append_left cs rest i vs (by simp at h; omega)]
theorem lay_append_right {α : Type} : ∀ (cs rest : List α) (vs : List α), lay (cs ++ rest) cs.length vs = cs ++ lay rest 0 vs
  | [], rest, vs => by simp
  | c :: cs, rest, vs => by simp [lay, lay_append_right cs rest vs]
theorem lay_zero {α : Type} : ∀ (rest vs : List α), vs.length ≤ rest.length → lay rest 0 vs = vs ++ rest.drop vs.length
  | [], vs, h => by
    obtain rfl : vs = [] := by simpa using h
    rfl
  | c :: rest, [], h => by simp [lay]
  | c :: rest, v :: vs, h => by simp [lay, lay_zero rest vs (by simpa using h)]
/-- cells ahead of where was laid -/
theorem lay_take {α : Type} : ∀ (cs : List α) (i k : Nat) (vs : List α), k ≤ i → (lay cs i vs).take k = cs.take k
  | [], _, _, _, _ => by simp [lay]
  | c :: cs, i, 0, vs, h => by simp
  | c :: cs, i + 1, k + 1, vs, h => by simp [lay, lay_take cs i k vs (by omega)]

theorem cell_of {w : World} {b i : Nat} {c' : Array Value} {e : TypeId} {fr : Nat × Nat} (h : w.heap[b]? = some (.cells c' e fr)) : w.cell? ⟨b, i, none⟩ = c'[i]? := by
  simp [World.cell?, h]
theorem setCell_wset {w : World} {b i : Nat} {c' : Array Value} {e : TypeId} {fr : Nat × Nat} (v : Value) (h : w.heap[b]? = some (.cells c' e fr)) :
    w.setCell ⟨b, i, none⟩ v = wset w b (.cells (c'.setIfInBounds i v) e fr) := by
  obtain ⟨hlt, hk⟩ := Array.getElem?_eq_some_iff.1 h
  simp only [World.setCell, wset]
  congr 1
  apply Array.ext (by simp)
  intro j h1 h2
  rw [Array.getElem_modify]
  rw [Array.getElem_setIfInBounds]
  split
  · rename_i e; subst e
    rw [hk]; simp
  · rfl

theorem wset_self {w : World} {b : Nat} {o : Obj} (h : w.heap[b]? = some o) : wset w b o = w := by
  obtain ⟨hlt, hk⟩ := Array.getElem?_eq_some_iff.1 h
  have : w.heap.setIfInBounds b o = w.heap := by
    apply Array.ext (by simp)
    intro k h1 h2
    rw [Array.getElem_setIfInBounds]
    split
    · rename_i e; subst e; rw [hk]
    · rfl
  simp [wset, this]
/-- storing cells one behind the other -/
theorem run_storeCells (P : Program) {b : Nat} {e : TypeId} : ∀ (vs : List Value) (i j : Nat) (w : World) (c' : Array Value),
    w.heap[b]? = some (.cells c' e (0, 0)) → (∀ v ∈ vs, v.oneCell' = true) → i + j + vs.length ≤ c'.size →
    (storeCells ⟨b, i, none⟩ vs j).run P w = .ok () (wset w b (.cells (lay c'.toList (i + j) vs).toArray e (0, 0)))
  | [], i, j, w, c', h, _, _ => by
    simp only [storeCells, Sem.run_pure, lay_nil]
    congr 1
    rw [wset_self (by simpa using h)]
  | v :: vs, i, j, w, c', h, ho, hl => by
    have hlen : i + j < c'.size := by simp at hl; omega
    have hadd : ((⟨b, i, none⟩ : Addr).add j) = ⟨b, i + j, none⟩ := by
      unfold Addr.add; split
      · rename_i e; subst e; rfl
      · rfl
    have hcell : w.cell? ⟨b, i + j, none⟩ = some c'[i + j] := by rw [cell_of h]; simp [hlen]
    have hfr : w.frozen? ⟨b, i + j, none⟩ = false := by simp [World.frozen?, h]
    simp only [storeCells, hadd, Sem.run_bind]
    rw [run_store P w _ _ _ (ho v (by simp)), hcell]
    simp only [hfr]
    have hset := setCell_wset (i := i + j) v h
    simp only [hset, Bool.false_eq_true, if_false, Result.andThen_ok]
    have h2 : (wset w b (.cells (c'.setIfInBounds (i + j) v) e (0, 0))).heap[b]? = some (.cells (c'.setIfInBounds (i + j) v) e (0, 0)) := by
      rw [wset_get _ _ _ _ (lt_of_get h)]; simp
    have := run_storeCells P vs i (j + 1) _ _ h2 (fun v hv => ho v (by simp [hv])) (by simp at hl ⊢; omega)
    rw [this, wset_wset]
    simp [lay_cons, Nat.add_assoc]

/-- An abstract store of cells: what shares what is overwritten is dead from there on; none where the block has been appended to. -/
def AW.stores (W : AW) (g i : Nat) (vs : List AVal) : Option AW :=
  match W.get g with
  | .cells cs e esz own tip anc =>
    bif tip && Nat.ble (i + vs.length) cs.length && vs.all AVal.one then
      bif Nat.ble own i || vs.isEmpty then some (W.set g (.cells (lay cs i vs) e esz own tip anc))
      else some ((W.kill anc).set g (.cells (lay cs i vs) e esz 0 tip []))
    else none
  | _ => none
theorem okvs_lay {ρ : Rho} : ∀ (cs : List AVal) (i : Nat) (vs : List AVal), okvs ρ cs → okvs ρ vs → okvs ρ (lay cs i vs)
  | [], _, _, _, _ => trivial
  | c :: cs, 0, [], h, _ => h
  | _ :: cs, 0, v :: vs, h, k => ⟨k.1, okvs_lay cs 0 vs h.2 k.2⟩
  | c :: cs, i + 1, vs, h, k => ⟨h.1, okvs_lay cs i vs h.2 k⟩
theorem cvs_lay (ρ : Rho) (cs : List AVal) (i : Nat) (vs : List AVal) : cvs ρ (lay cs i vs) = lay (cvs ρ cs) i (cvs ρ vs) := by
  simp [cvs_map, lay_map]
theorem cvs_take (ρ : Rho) (cs : List AVal) (n : Nat) : cvs ρ (cs.take n) = (cvs ρ cs).take n := by simp [cvs_map, List.map_take]
theorem cvs_append (ρ : Rho) (a b : List AVal) : cvs ρ (a ++ b) = cvs ρ a ++ cvs ρ b := by simp [cvs_map]
theorem okvs_append {ρ : Rho} {a b : List AVal} : okvs ρ (a ++ b) ↔ okvs ρ a ∧ okvs ρ b := by
  simp only [okvs_all, List.mem_append]
  exact ⟨fun h => ⟨fun v hv => h v (.inl hv), fun v hv => h v (.inr hv)⟩, fun h v hv => hv.elim (h.1 v) (h.2 v)⟩
theorem WR.stores {ρ : Rho} {W W' : AW} {w : World} (P : Program) (h : WR CR ρ W w) {g i b s : Nat} {vs : List AVal} (hg : ρ g = some (b, s)) (hs : W.stores g i vs = some W') (hv : okvs ρ vs) :
    ∃ w', (storeCells ⟨b, i, none⟩ (cvs ρ vs)).run P w = .ok () w' ∧ WR CR ρ W' w' ∧ Ext ρ W w ρ W' w' := by
  unfold AW.stores at hs
  split at hs
  case h_2 => cases hs
  rename_i cs e esz own tip anc hW
  cases hc : (tip && Nat.ble (i + vs.length) cs.length && vs.all AVal.one) <;> rw [hc] at hs
  · simp at hs
  simp only [Bool.and_eq_true] at hc
  obtain ⟨⟨htip, hble⟩, hone⟩ := hc
  subst htip
  have hlen : i + vs.length ≤ cs.length := Nat.le_of_ble_eq_true hble
  obtain ⟨hgn, o, ho, hB⟩ := h.blk g b s hg
  rw [hW] at hB
  obtain ⟨hown, hok, hanc, c', rest, rfl, hc', hsl⟩ := hB
  have hsz : c'.size = cs.length + rest.length := by rw [← Array.length_toList, hc']; simp
  have hrun := run_storeCells P (cvs ρ vs) i 0 w c' ho (by
    intro v hv'
    rw [cvs_map] at hv'
    obtain ⟨a, ha, rfl⟩ := List.mem_map.1 hv'
    exact one_cv ρ (List.all_eq_true.1 hone a ha)) (by simp; omega)
  have hlay : (lay c'.toList (i + 0) (cvs ρ vs)) = cvs ρ (lay cs i vs) ++ rest := by
    rw [hc', Nat.add_zero, lay_append_left _ _ _ _ (by simpa using hlen), cvs_lay]
  rw [hlay] at hrun
  refine ⟨_, hrun, ?_⟩
  have hnew : BR CR ρ s (.cells (lay cs i vs) e esz own true anc) (.cells (cvs ρ (lay cs i vs) ++ rest).toArray e (0, 0)) :=
    ⟨by simpa using hown, okvs_lay _ _ _ hok hv, hanc, _, rest, rfl, by simp, hsl⟩
  have hnew0 : BR CR ρ s (.cells (lay cs i vs) e esz 0 true []) (.cells (cvs ρ (lay cs i vs) ++ rest).toArray e (0, 0)) :=
    ⟨Nat.zero_le _, okvs_lay _ _ _ hok hv, by simp, _, rest, rfl, by simp, hsl⟩
  -- what another block that lies in the same place is
  have hoth : ∀ k s', k ≠ g → ρ k = some (b, s') → W.get k = .dead ∨ (∃ cs1 e1 z1 o1 a1, W.get k = .cells cs1 e1 z1 o1 false a1 ∧ cs1.length ≤ own ∧ k ∈ anc) := by
    intro k s' hne hk
    rcases h.share k g b s' s hne hk hg with h1 | h1 | h1 | h1
    · exact .inl h1
    · rw [hW] at h1; cases h1
    · obtain ⟨cs1, e1, z1, o1, a1, cs2, e2, z2, o2, t2, a2, q1, q2, q3, q4⟩ := h1
      rw [hW] at q2; cases q2
      exact .inr ⟨cs1, e1, z1, o1, a1, q1, q3, q4⟩
    · obtain ⟨cs1, e1, z1, o1, a1, cs2, e2, z2, o2, t2, a2, q1, q2, q3, q4⟩ := h1
      rw [hW] at q1; cases q1
  -- a block that is an elder of g holds still where g is turned behind its end
  have hold : ∀ k s', k ≠ g → ρ k = some (b, s') → own ≤ i ∨ vs = [] → BR CR ρ s' (W.get k) (.cells (cvs ρ (lay cs i vs) ++ rest).toArray e (0, 0)) := by
    intro k s' hne hk hi
    rcases hoth k s' hne hk with h1 | ⟨cs1, e1, z1, o1, a1, q1, q3, q4⟩
    · rw [h1]; trivial
    · obtain ⟨_, o', ho', hB'⟩ := h.blk k b s' hk
      rw [q1] at hB' ⊢
      obtain ⟨p1, p2, p3, c2, rest2, rfl, p5, p6⟩ := hB'
      rw [ho] at ho'; cases ho'
      refine ⟨p1, p2, p3, _, (cvs ρ (lay cs i vs) ++ rest).drop cs1.length, rfl, ?_, ?_⟩
      · have e1 : cvs ρ cs1 = (cvs ρ (lay cs i vs) ++ rest).take cs1.length := by
          have q : (cvs ρ cs ++ rest).take cs1.length = cvs ρ cs1 := by rw [← hc', p5]; simp
          rw [← q, List.take_append_of_le_length (by simp; omega), List.take_append_of_le_length (by simp; omega)]
          rcases hi with hi | hi
          · rw [cvs_lay, lay_take _ _ _ _ (by omega)]
          · rw [hi, lay_nil]
        rw [e1]; simp
      · have l1 : rest2.length = cs.length + rest.length - cs1.length := by
          have : (cvs ρ cs1 ++ rest2).length = cs.length + rest.length := by rw [← p5, Array.length_toList]; exact hsz
          simp at this; omega
        simp; omega
  cases hd : (Nat.ble own i || vs.isEmpty) <;> rw [hd] at hs <;> simp only [cond_true, cond_false, Option.some.injEq] at hs <;> subst hs
  · -- what is shared is overwritten: the elders are dead
    refine h.upd hg _ _ (by simp) ?_ ?_ ?_ ?_ ?_ (frz_wset ho (calm_cells _ _) (calm_cells _ _))
    · intro k b' s' hk hbb
      have hkg : k ≠ g := by rintro rfl; rw [hg] at hk; cases hk; exact hbb rfl
      rw [AW.get_set_ne _ _ hkg, AW.get_kill]
      split
      · exact .inr rfl
      · exact .inl rfl
    · intro k s' hk
      by_cases hkg : k = g
      · subst hkg; rw [hg] at hk; cases hk; rw [AW.get_set_same]; exact hnew0
      · rw [AW.get_set_ne _ _ hkg, AW.get_kill]
        rcases hoth k s' hkg hk with h1 | ⟨cs1, e1, z1, o1, a1, q1, q3, q4⟩
        · split
          · trivial
          · rw [h1]; trivial
        · rw [if_pos q4]; trivial
    · intro k1 k2 s1 s2 hne h1 h2
      have hdead : ∀ k s', k ≠ g → ρ k = some (b, s') → ((W.kill anc).set g (.cells (lay cs i vs) e esz 0 true [])).get k = .dead := by
        intro k s' hkg hk
        rw [AW.get_set_ne _ _ hkg, AW.get_kill]
        rcases hoth k s' hkg hk with h1 | ⟨cs1, e1, z1, o1, a1, q1, q3, q4⟩
        · split
          · rfl
          · exact h1
        · rw [if_pos q4]
      by_cases hkg : k1 = g
      · exact .inr (.inl (hdead k2 s2 (fun e => hne (hkg.trans e.symm)) h2))
      · exact .inl (hdead k1 s1 hkg h1)
    · intro k hk
      have hkg : k ≠ g := by rintro rfl; rw [hg] at hk; cases hk
      rw [AW.get_set_ne _ _ hkg, AW.get_kill, if_neg]
      intro hm
      have := hanc k hm
      rw [hk] at this; cases this
    · trivial
  · have hi : own ≤ i ∨ vs = [] := by
      simp only [Bool.or_eq_true] at hd
      exact hd.imp Nat.le_of_ble_eq_true (fun h => by simpa using h)
    refine h.upd hg _ _ (by simp) ?_ ?_ ?_ ?_ ?_ (frz_wset ho (calm_cells _ _) (calm_cells _ _))
    · intro k b' s' hk hbb
      have hkg : k ≠ g := by rintro rfl; rw [hg] at hk; cases hk; exact hbb rfl
      exact .inl (AW.get_set_ne _ _ hkg)
    · intro k s' hk
      by_cases hkg : k = g
      · subst hkg; rw [hg] at hk; cases hk; rw [AW.get_set_same]; exact hnew
      · rw [AW.get_set_ne _ _ hkg]; exact hold k s' hkg hk hi
    · intro k1 k2 s1 s2 hne h1 h2
      have hsh := h.share k1 k2 b s1 s2 hne h1 h2
      -- the ghost data have not turned
      have hget : ∀ k, (W.set g (.cells (lay cs i vs) e esz own true anc)).get k = W.get k ∨ (k = g ∧ (W.set g (.cells (lay cs i vs) e esz own true anc)).get k = .cells (lay cs i vs) e esz own true anc) := by
        intro k
        by_cases hkg : k = g
        · exact .inr ⟨hkg, by rw [hkg, AW.get_set_same]⟩
        · exact .inl (AW.get_set_ne _ _ hkg)
      have hanc' : ∀ x y, Anc W x y → Anc (W.set g (.cells (lay cs i vs) e esz own true anc)) x y := by
        rintro x y ⟨cs1, e1, z1, o1, a1, cs2, e2, z2, o2, t2, a2, q1, q2, q3, q4⟩
        have hx : x ≠ g := by rintro rfl; rw [hW] at q1; cases q1
        by_cases hy : y = g
        · subst hy
          rw [hW] at q2; cases q2
          exact ⟨cs1, e1, z1, o1, a1, _, _, _, _, _, _, by rw [AW.get_set_ne _ _ hx]; exact q1, AW.get_set_same _ _ _, q3, q4⟩
        · exact ⟨cs1, e1, z1, o1, a1, cs2, e2, z2, o2, t2, a2, by rw [AW.get_set_ne _ _ hx]; exact q1, by rw [AW.get_set_ne _ _ hy]; exact q2, q3, q4⟩
      rcases hsh with h3 | h3 | h3 | h3
      · have : k1 ≠ g := by rintro rfl; rw [hW] at h3; cases h3
        exact .inl (by rw [AW.get_set_ne _ _ this]; exact h3)
      · have : k2 ≠ g := by rintro rfl; rw [hW] at h3; cases h3
        exact .inr (.inl (by rw [AW.get_set_ne _ _ this]; exact h3))
      · exact .inr (.inr (.inl (hanc' _ _ h3)))
      · exact .inr (.inr (.inr (hanc' _ _ h3)))
    · intro k hk
      have hkg : k ≠ g := by rintro rfl; rw [hg] at hk; cases hk
      exact AW.get_set_ne _ _ hkg
    · trivial
end Go.Eng

/- Engine 3b: an append that may find room, and reading cells. -/
namespace Go.Eng
set_option linter.unusedVariables false
set_option linter.unusedSimpArgs false
variable {CR : CodeR}

/-- behind an append that came past the end: the elder may lie where the new one lies -/
def AW.grown (W : AW) (g : Nat) (cs : List AVal) (e esz own : Nat) (anc : List Nat) (vs : List AVal) : AW :=
  (W.set g (.cells cs e esz own false anc)).push (.cells (cs ++ vs) e esz cs.length true (g :: anc))

theorem Anc.turn {W : AW} {g : Nat} {cs : List AVal} {e esz own : Nat} {tip : Bool} {anc : List Nat} (hW : W.get g = .cells cs e esz own true anc) {x y : Nat} (h : Anc W x y) :
    Anc (W.set g (.cells cs e esz own tip anc)) x y := by
  obtain ⟨cs1, e1, z1, o1, a1, cs2, e2, z2, o2, t2, a2, q1, q2, q3, q4⟩ := h
  have hx : x ≠ g := by rintro rfl; rw [hW] at q1; cases q1
  by_cases hy : y = g
  · subst hy
    rw [hW] at q2; cases q2
    exact ⟨cs1, e1, z1, o1, a1, _, _, _, _, _, _, by rw [AW.get_set_ne _ _ hx]; exact q1, AW.get_set_same _ _ _, q3, q4⟩
  · exact ⟨cs1, e1, z1, o1, a1, cs2, e2, z2, o2, t2, a2, by rw [AW.get_set_ne _ _ hx]; exact q1, by rw [AW.get_set_ne _ _ hy]; exact q2, q3, q4⟩
theorem Share.turn {W : AW} {g : Nat} {cs : List AVal} {e esz own : Nat} {tip : Bool} {anc : List Nat} (hW : W.get g = .cells cs e esz own true anc) {x y : Nat} (h : Share W x y) :
    Share (W.set g (.cells cs e esz own tip anc)) x y := by
  rcases h with h | h | h | h
  · have : x ≠ g := by rintro rfl; rw [hW] at h; cases h
    exact .inl (by rw [AW.get_set_ne _ _ this]; exact h)
  · have : y ≠ g := by rintro rfl; rw [hW] at h; cases h
    exact .inr (.inl (by rw [AW.get_set_ne _ _ this]; exact h))
  · exact .inr (.inr (.inl (h.turn hW)))
  · exact .inr (.inr (.inr (h.turn hW)))

/-- the elder alone turns to one that was appended to -/
theorem WR.turn {ρ : Rho} {W : AW} {w : World} (h : WR CR ρ W w) {g b s : Nat} {cs : List AVal} {e esz own : Nat} {anc : List Nat} (hg : ρ g = some (b, s)) (hW : W.get g = .cells cs e esz own true anc) :
    WR CR ρ (W.set g (.cells cs e esz own false anc)) w ∧ Ext ρ W w ρ (W.set g (.cells cs e esz own false anc)) w := by
  obtain ⟨hgn, o, ho, hB⟩ := h.blk g b s hg
  rw [hW] at hB
  obtain ⟨hown, hok, hanc, c', rest, rfl, hc', hsl⟩ := hB
  have key := h.upd hg (W.set g (.cells cs e esz own false anc)) (.cells c' e (0, 0)) (by simp) ?_ ?_ ?_ ?_ ?_ (frz_wset ho (calm_cells _ _) (calm_cells _ _))
  · rwa [wset_self ho] at key
  · intro k b' s' hk hbb
    have hkg : k ≠ g := by rintro rfl; rw [hg] at hk; cases hk; exact hbb rfl
    exact .inl (AW.get_set_ne _ _ hkg)
  · intro k s' hk
    by_cases hkg : k = g
    · subst hkg; rw [hg] at hk; cases hk; rw [AW.get_set_same]; exact ⟨hown, hok, hanc, c', rest, rfl, hc', hsl⟩
    · rw [AW.get_set_ne _ _ hkg]
      obtain ⟨_, o', ho', hB'⟩ := h.blk k b s' hk
      rw [ho] at ho'; cases ho'; exact hB'
  · intro k1 k2 s1 s2 hne h1 h2
    exact (h.share k1 k2 b s1 s2 hne h1 h2).turn hW
  · intro k hk
    have hkg : k ≠ g := by rintro rfl; rw [hg] at hk; cases hk
    exact AW.get_set_ne _ _ hkg
  · trivial

theorem WR.grow {ρ : Rho} {W : AW} {w : World} (P : Program) (h : WR CR ρ W w) {g b s m : Nat} {cs : List AVal} {e esz own : Nat} {anc : List Nat} {vs : List AVal} (hg : ρ g = some (b, s))
    (hW : W.get g = .cells cs e esz own true anc) (hv : okvs ρ vs) (hone : ∀ v ∈ vs, v.one = true) (hm : m ≤ s) (hl : vs.length = m * esz) :
    ∃ w', (storeCells ⟨b, cs.length, none⟩ (cvs ρ vs)).run P w = .ok () w' ∧ WR CR (ρ.upd W.n b (s - m)) (W.grown g cs e esz own anc vs) w' ∧
      Ext ρ W w (ρ.upd W.n b (s - m)) (W.grown g cs e esz own anc vs) w' := by
  obtain ⟨hgn, o, ho, hB⟩ := h.blk g b s hg
  rw [hW] at hB
  obtain ⟨hown, hok, hanc, c', rest, rfl, hc', hsl⟩ := hB
  have hsz : c'.size = cs.length + rest.length := by rw [← Array.length_toList, hc']; simp
  have hroom : vs.length ≤ rest.length := by rw [hl]; exact Nat.le_trans (Nat.mul_le_mul_right _ hm) hsl
  have hrun := run_storeCells P (cvs ρ vs) cs.length 0 w c' ho (by
    intro v hv'
    rw [cvs_map] at hv'
    obtain ⟨a, ha, rfl⟩ := List.mem_map.1 hv'
    exact one_cv ρ (hone a ha)) (by simp; omega)
  have hlay : lay c'.toList (cs.length + 0) (cvs ρ vs) = cvs ρ cs ++ (cvs ρ vs ++ rest.drop vs.length) := by
    rw [hc', Nat.add_zero, show cs.length = (cvs ρ cs).length from by simp, lay_append_right, lay_zero _ _ (by simpa using hroom)]; simp
  rw [hlay] at hrun
  refine ⟨_, hrun, ?_⟩
  have hn := h.none_n
  have hle : ρ.le (ρ.upd W.n b (s - m)) := Rho.le_upd hn
  have hgne : g ≠ W.n := Nat.ne_of_lt hgn
  have hlt := h.lt hg
  generalize ho' : Obj.cells (cvs ρ cs ++ (cvs ρ vs ++ rest.drop vs.length)).toArray e (0, 0) = obj
  have get_old : ∀ k, k ≠ g → k ≠ W.n → (W.grown g cs e esz own anc vs).get k = W.get k := fun k h1 h2 => by
    unfold AW.grown; rw [AW.get_push_ne _ _ (by simpa using h2), AW.get_set_ne _ _ h1]
  have get_g : (W.grown g cs e esz own anc vs).get g = .cells cs e esz own false anc := by
    unfold AW.grown; rw [AW.get_push_ne _ _ (by simpa using hgne), AW.get_set_same]
  have get_n : (W.grown g cs e esz own anc vs).get W.n = .cells (cs ++ vs) e esz cs.length true (g :: anc) := by
    unfold AW.grown; exact AW.get_push_same (W.set g (.cells cs e esz own false anc)) _
  have hoth : ∀ k s', k ≠ g → ρ k = some (b, s') → W.get k = .dead ∨ (∃ cs1 e1 z1 o1 a1, W.get k = .cells cs1 e1 z1 o1 false a1 ∧ cs1.length ≤ own ∧ k ∈ anc) := by
    intro k s' hne hk
    rcases h.share k g b s' s hne hk hg with h1 | h1 | h1 | h1
    · exact .inl h1
    · rw [hW] at h1; cases h1
    · obtain ⟨cs1, e1, z1, o1, a1, cs2, e2, z2, o2, t2, a2, q1, q2, q3, q4⟩ := h1
      rw [hW] at q2; cases q2
      exact .inr ⟨cs1, e1, z1, o1, a1, q1, q3, q4⟩
    · obtain ⟨cs1, e1, z1, o1, a1, cs2, e2, z2, o2, t2, a2, q1, q2, q3, q4⟩ := h1
      rw [hW] at q1; cases q1
  have hB0 : ∀ k s', k ≠ W.n → ρ k = some (b, s') → BR CR ρ s' ((W.grown g cs e esz own anc vs).get k) obj := by
    intro k s' hkn hk
    subst ho'
    by_cases hkg : k = g
    · subst hkg; rw [hg] at hk; cases hk; rw [get_g]
      refine ⟨hown, hok, hanc, _, _, rfl, rfl, ?_⟩
      simp; omega
    · rw [get_old k hkg hkn]
      rcases hoth k s' hkg hk with h1 | ⟨cs1, e1, z1, o1, a1, q1, q3, q4⟩
      · rw [h1]; trivial
      · obtain ⟨_, o', ho2, hB'⟩ := h.blk k b s' hk
        rw [q1] at hB' ⊢
        obtain ⟨p1, p2, p3, c2, rest2, rfl, p5, p6⟩ := hB'
        rw [ho] at ho2; cases ho2
        refine ⟨p1, p2, p3, _, (cvs ρ cs ++ (cvs ρ vs ++ rest.drop vs.length)).drop cs1.length, rfl, ?_, ?_⟩
        · have e1 : cvs ρ cs1 = (cvs ρ cs ++ (cvs ρ vs ++ rest.drop vs.length)).take cs1.length := by
            have q : (cvs ρ cs ++ rest).take cs1.length = cvs ρ cs1 := by rw [← hc', p5]; simp
            rw [← q, List.take_append_of_le_length (by simp; omega), List.take_append_of_le_length (by simp; omega)]
          rw [e1]; simp
        · have l1 : rest2.length = cs.length + rest.length - cs1.length := by
            have : (cvs ρ cs1 ++ rest2).length = cs.length + rest.length := by rw [← p5, Array.length_toList]; exact hsz
            simp at this; omega
          simp; omega
  have hBn : BR CR ρ (s - m) ((W.grown g cs e esz own anc vs).get W.n) obj := by
    subst ho'
    rw [get_n]
    refine ⟨by simp, okvs_append.2 ⟨hok, hv⟩, ?_, _, rest.drop vs.length, rfl, by simp [cvs_append], ?_⟩
    · intro a ha
      rcases List.mem_cons.1 ha with rfl | ha
      · simp [hg]
      · exact hanc a ha
    · simp only [List.length_drop, hl]
      rw [Nat.sub_mul]; omega
  refine ⟨⟨?_, ?_, ?_⟩, hle, by unfold AW.grown; simp, ?_, by simp, ?_, ?_, ?_, rfl, rfl, fun a => frz_wset ho (calm_cells _ _) (by rw [← ho']; exact calm_cells _ _) a⟩
  · intro k b' s' hk
    by_cases hkn : k = W.n
    · subst hkn
      rw [Rho.upd_same] at hk; cases hk
      exact ⟨by unfold AW.grown; simp, obj, by rw [wset_get _ _ _ _ hlt]; simp, hBn.le hle⟩
    · rw [Rho.upd_ne _ _ _ hkn] at hk
      obtain ⟨h1, o1, h2, h3⟩ := h.blk k b' s' hk
      refine ⟨by unfold AW.grown; simp; omega, ?_⟩
      by_cases hbb : b' = b
      · subst hbb
        exact ⟨obj, by rw [wset_get _ _ _ _ hlt]; simp, (hB0 k s' hkn hk).le hle⟩
      · have hkg : k ≠ g := by rintro rfl; rw [hg] at hk; cases hk; exact hbb rfl
        exact ⟨o1, by rw [wset_get _ _ _ _ hlt, if_neg hbb]; exact h2, by rw [get_old k hkg hkn]; exact h3.le hle⟩
  · have hA : ∀ x y, x ≠ W.n → y ≠ W.n → Share W x y → Share (W.grown g cs e esz own anc vs) x y := by
      intro x y hx hy hs
      exact (hs.turn (tip := false) hW).congr (.inl (by unfold AW.grown; exact AW.get_push_ne _ _ (by simpa using hx))) (.inl (by unfold AW.grown; exact AW.get_push_ne _ _ (by simpa using hy)))
    have hN : ∀ x s', x ≠ W.n → ρ x = some (b, s') → Share (W.grown g cs e esz own anc vs) x W.n := by
      intro x s' hx hk
      by_cases hxg : x = g
      · subst hxg
        exact .inr (.inr (.inl ⟨_, _, _, _, _, _, _, _, _, _, _, get_g, get_n, Nat.le_refl _, by simp⟩))
      · rcases hoth x s' hxg hk with h1 | ⟨cs1, e1, z1, o1, a1, q1, q3, q4⟩
        · exact .inl (by rw [get_old x hxg hx]; exact h1)
        · exact .inr (.inr (.inl ⟨cs1, e1, z1, o1, a1, _, _, _, _, _, _, by rw [get_old x hxg hx]; exact q1, get_n, Nat.le_trans q3 hown, by simp [q4]⟩))
    intro k1 k2 b' s1 s2 hne h1 h2
    by_cases hk1 : k1 = W.n
    · subst hk1
      rw [Rho.upd_same] at h1; cases h1
      rw [Rho.upd_ne _ _ _ (Ne.symm hne)] at h2
      exact (hN k2 s2 (Ne.symm hne) h2).symm
    · by_cases hk2 : k2 = W.n
      · subst hk2
        rw [Rho.upd_same] at h2; cases h2
        rw [Rho.upd_ne _ _ _ hk1] at h1
        exact hN k1 s1 hk1 h1
      · rw [Rho.upd_ne _ _ _ hk1] at h1
        rw [Rho.upd_ne _ _ _ hk2] at h2
        exact hA k1 k2 hk1 hk2 (h.share k1 k2 b' s1 s2 hne h1 h2)
  · trivial
  · intro k hk
    by_cases hkn : k = W.n
    · exact .inr (by omega)
    · rw [Rho.upd_ne _ _ _ hkn] at hk; exact .inl hk
  · intro k hk hout
    rw [wset_get _ _ _ _ hlt, if_neg]
    rintro rfl; exact hout g s hg
  · intro k b' s' hk _
    by_cases hkn : k = W.n
    · subst hkn; rw [Rho.upd_same] at hk; cases hk; exact ⟨g, s, hg⟩
    · rw [Rho.upd_ne _ _ _ hkn] at hk; exact ⟨k, s', hk⟩
  · intro k hk hnone
    have hkg : k ≠ g := by rintro rfl; rw [hg] at hnone; cases hnone
    exact get_old k hkg (Nat.ne_of_lt hk)

/-! reading -/
theorem WR.cells {ρ : Rho} {W : AW} {w : World} (h : WR CR ρ W w) {g b s : Nat} {cs : List AVal} {e esz own : Nat} {tip : Bool} {anc : List Nat} (hg : ρ g = some (b, s)) (hW : W.get g = .cells cs e esz own tip anc) :
    okvs ρ cs ∧ ∃ c' rest, w.heap[b]? = some (.cells c' e (0, 0)) ∧ c'.toList = cvs ρ cs ++ rest ∧ s * esz ≤ rest.length := by
  obtain ⟨_, o, ho, hB⟩ := h.blk g b s hg
  rw [hW] at hB
  obtain ⟨_, hok, _, c', rest, rfl, hc', hsl⟩ := hB
  exact ⟨hok, c', rest, ho, hc', hsl⟩
theorem cell_at {w : World} {b i : Nat} {c' : Array Value} {e : TypeId} {l rest : List Value} (ho : w.heap[b]? = some (.cells c' e (0, 0))) (hc : c'.toList = l ++ rest) (hi : i < l.length) :
    w.cell? ⟨b, i, none⟩ = some l[i] := by
  rw [cell_of ho, ← Array.getElem?_toList, hc, List.getElem?_append_left hi, List.getElem?_eq_getElem hi]
theorem run_load_at (P : Program) {w : World} {b i : Nat} {v : Value} (h : w.cell? ⟨b, i, none⟩ = some v) : (load ⟨b, i, none⟩).run P w = .ok v w := by
  simp [load, Sem.run, h]
theorem run_loadCellsFrom (P : Program) {w : World} {b : Nat} {c' : Array Value} {e : TypeId} {l rest : List Value} (ho : w.heap[b]? = some (.cells c' e (0, 0))) (hc : c'.toList = l ++ rest) :
    ∀ (n i j : Nat) (acc : Array Value), i + j + n ≤ l.length → (loadCellsFrom ⟨b, i, none⟩ j n acc).run P w = .ok (acc ++ ((l.drop (i + j)).take n).toArray) w
  | 0, i, j, acc, _ => by simp [loadCellsFrom]
  | n + 1, i, j, acc, h => by
    have hadd : ((⟨b, i, none⟩ : Addr).add j) = ⟨b, i + j, none⟩ := by
      unfold Addr.add; split
      · rename_i e; subst e; rfl
      · rfl
    have hi : i + j < l.length := by omega
    simp only [loadCellsFrom, hadd, Sem.run_bind, run_load_at P (cell_at ho hc hi), Result.andThen_ok]
    rw [run_loadCellsFrom P ho hc n i (j + 1) _ (by omega)]
    congr 1
    have : (l.drop (i + j)).take (n + 1) = l[i + j] :: (l.drop (i + j + 1)).take n := by
      rw [List.drop_eq_getElem_cons hi, List.take_succ_cons]
    rw [this]
    simp [Nat.add_assoc]
theorem run_loadCells (P : Program) {w : World} {b i n : Nat} {c' : Array Value} {e : TypeId} {l rest : List Value} (ho : w.heap[b]? = some (.cells c' e (0, 0))) (hc : c'.toList = l ++ rest)
    (h : i + n ≤ l.length) : (loadCells ⟨b, i, none⟩ n).run P w = .ok ((l.drop i).take n).toArray w := by
  rw [loadCells, run_loadCellsFrom P ho hc n i 0 #[] (by omega)]; simp
theorem cvs_drop (ρ : Rho) (cs : List AVal) (n : Nat) : cvs ρ (cs.drop n) = (cvs ρ cs).drop n := by simp [cvs_map, List.map_drop]
theorem okvs_drop {ρ : Rho} {cs : List AVal} (n : Nat) (h : okvs ρ cs) : okvs ρ (cs.drop n) := by
  rw [okvs_all] at *; exact fun v hv => h v (List.mem_of_mem_drop hv)
theorem okvs_take {ρ : Rho} {cs : List AVal} (n : Nat) (h : okvs ρ cs) : okvs ρ (cs.take n) := by
  rw [okvs_all] at *; exact fun v hv => h v (List.mem_of_mem_take hv)
theorem okvs_get {ρ : Rho} {cs : List AVal} {i : Nat} {v : AVal} (h : okvs ρ cs) (hi : cs[i]? = some v) : okv ρ v := by
  rw [okvs_all] at h; exact h v (List.mem_of_getElem? hi)
theorem cvs_get (ρ : Rho) {cs : List AVal} {i : Nat} {v : AVal} (hi : cs[i]? = some v) : (cvs ρ cs)[i]? = some (cv ρ v) := by
  simp [cvs_map, hi]
end Go.Eng

/- Engine 4: how an operation is made into an abstract one, and what that does. -/
namespace Go.Eng
set_option linter.unusedVariables false
set_option linter.unusedSimpArgs false

/-! constants -/
def av1 : Value → Option AVal
  | .bool b => some (.bool b)
  | .int k n => some (.int k n)
  | .string s => some (.str s)
  | .pointer none => some .ptr0
  | .slice none 0 0 => some .sl0
  | .map none => some .map0
  | .nilFunc => some .fn0
  | .nilIface => some .if0
  | _ => none
def av1s : List Value → Option (List AVal)
  | [] => some []
  | v :: vs => match av1 v, av1s vs with
    | some a, some as => some (a :: as)
    | _, _ => none
def av? : Value → Option AVal
  | .agg cs => (av1s cs.toList).map .agg
  | v => av1 v
theorem av1_spec {v : Value} {a : AVal} (h : av1 v = some a) (ρ : Rho) : cv ρ a = v ∧ okv ρ a := by
  unfold av1 at h
  split at h <;> first | (cases h; exact ⟨by simp [cv], trivial⟩) | cases h
theorem av1s_spec : ∀ {vs : List Value} {as : List AVal}, av1s vs = some as → ∀ ρ, cvs ρ as = vs ∧ okvs ρ as
  | [], as, h, ρ => by cases h; exact ⟨rfl, trivial⟩
  | v :: vs, as, h, ρ => by
    unfold av1s at h
    split at h
    · rename_i a as' h1 h2
      cases h
      have p := av1_spec h1 ρ
      have q := av1s_spec h2 ρ
      exact ⟨by simp [cvs, p.1, q.1], p.2, q.2⟩
    · cases h
theorem av?_spec {v : Value} {a : AVal} (h : av? v = some a) (ρ : Rho) : cv ρ a = v ∧ okv ρ a := by
  unfold av? at h
  split at h
  · rename_i cs
    cases hc : av1s cs.toList with
    | none => rw [hc] at h; cases h
    | some as =>
      rw [hc] at h; cases h
      have q := av1s_spec hc ρ
      exact ⟨by simp [cv, q.1], q.2⟩
  · exact av1_spec h ρ

def compO : Operand → Option AO
  | .tmp t => some (.t t)
  | .const v => (av? v).map .c
  | .func f => some (.c (.fn f [] []))
  | .global _ => none
def compOs : List Operand → Option (List AO)
  | [] => some []
  | x :: xs => match compO x, compOs xs with
    | some a, some as => some (a :: as)
    | _, _ => none
def compOO : Option Operand → Option (Option AO)
  | none => some none
  | some x => (compO x).map some
def compPs (place : Nat → Option (Nat × Nat)) : List (Nat × Operand) → Option (List (Nat × Nat × AO))
  | [] => some []
  | (i, x) :: ps => match place i, compO x, compPs place ps with
    | some (off, sz), some a, some as => some ((off, sz, a) :: as)
    | _, _, _ => none

/-! what a program says of its types -/
def tySize (P : Program) (t : TypeId) : Option Nat := (P.info? t).map (·.size)
def tyBytes (P : Program) (t : TypeId) : Option Nat := (P.info? t).map (·.bytes)
def tyAgg (P : Program) (t : TypeId) : Option Bool := (P.underlying t).map fun | .struct _ | .array _ _ => true | _ => false
def tyZero (P : Program) (t : TypeId) : Option AVal := (P.info? t).bind fun i => i.zero.bind av?
section
variable {P : Program} {w : World}
theorem run_underlying' {t : TypeId} {d : TypeDesc} (h : P.underlying t = some d) : (underlying t).run P w = .ok d w := by
  simp [underlying, program, h, Sem.run]
theorem run_sizeOf' {t : TypeId} {n : Nat} (h : tySize P t = some n) : (sizeOf t).run P w = .ok n w := by
  unfold tySize at h
  cases hi : P.info? t with
  | none => rw [hi] at h; cases h
  | some i => rw [hi] at h; cases h; simp [sizeOf, typeInfo, program, hi, Sem.run]
theorem run_isAgg' {t : TypeId} {b : Bool} (h : tyAgg P t = some b) : (isAgg t).run P w = .ok b w := by
  unfold tyAgg at h
  cases hi : P.underlying t with
  | none => rw [hi] at h; cases h
  | some d => rw [hi] at h; cases h; cases d <;> simp [isAgg, run_underlying' hi]
theorem run_typeInfo' {t : TypeId} {i : TypeInfo} (h : P.info? t = some i) : (typeInfo t).run P w = .ok i w := by
  simp [typeInfo, program, h, Sem.run]
theorem run_zeroValue' {t : TypeId} {z : AVal} (h : tyZero P t = some z) : ∃ v, (zeroValue t).run P w = .ok v w ∧ ∀ ρ, cv ρ z = v ∧ okv ρ z := by
  unfold tyZero at h
  cases hi : P.info? t with
  | none => rw [hi] at h; cases h
  | some i =>
    rw [hi] at h
    simp only [Option.bind_some] at h
    cases hz : i.zero with
    | none => rw [hz] at h; cases h
    | some v =>
      rw [hz] at h
      exact ⟨v, by simp [zeroValue, run_typeInfo' hi, hz], fun ρ => av?_spec h ρ⟩
end

/-! equality of plain data -/
def simpleEq (P : Program) : Nat → TypeId → Option (List SK)
  | 0, _ => none
  | d + 1, t =>
    match P.underlying t with
    | some .bool => some [.b]
    | some (.int _) => some [.i]
    | some .string => some [.s]
    | some (.struct fs) => if P.stoodInHeld t then none else
        fs.toList.foldl (fun acc f => match acc, simpleEq P d f.type with
          | some ks, some ms => if f.name ≠ "_" ∧ f.offset = ks.length ∧ tySize P f.type = some ms.length ∧ (tyAgg P f.type = some true ∨ (tyAgg P f.type = some false ∧ ms.length = 1)) then some (ks ++ ms) else none
          | _, _ => none) (some [])
    | some (.array len e) => match simpleEq P d e with
      | some ms => if tySize P e = some ms.length ∧ (tyAgg P e = some true ∨ (tyAgg P e = some false ∧ ms.length = 1)) then some (List.replicate len ms).flatten else none
      | none => none
    | _ => none

def eqScalar : SK → AVal → AVal → Option Bool
  | .b, .bool a, .bool b => some (a == b)
  | .i, .int k a, .int k' b => if k = k' then some (a == b) else none
  | .s, .str a, .str b => some (a.toList == b.toList)
  | _, _, _ => none
/-- are all alike? none where a pair is no pair of plain data (ahead of the first that is unlike) -/
def eqCells : List SK → List AVal → List AVal → Option Bool
  | [], [], [] => some true
  | k :: ks, x :: xs, y :: ys => match eqScalar k x y with
    | some true => eqCells ks xs ys
    | some false => some false
    | none => none
  | _, _, _ => none
theorem eqCells_append : ∀ (k1 k2 : List SK) (a b c d : List AVal), a.length = k1.length → b.length = k1.length → eqCells (k1 ++ k2) (a ++ c) (b ++ d) = (match eqCells k1 a b with
    | some true => eqCells k2 c d
    | r => r)
  | [], k2, [], [], c, d, _, _ => rfl
  | k :: k1, k2, x :: a, y :: b, c, d, h1, h2 => by
    simp only [List.cons_append, eqCells]
    cases eqScalar k x y with
    | none => rfl
    | some t => cases t with
      | false => rfl
      | true => exact eqCells_append k1 k2 a b c d (by simpa using h1) (by simpa using h2)
  | [], _, _ :: _, _, _, _, h, _ => by simp at h
  | [], _, [], _ :: _, _, _, _, h => by simp at h
  | _ :: _, _, [], _, _, _, h, _ => by simp at h
  | _ :: _, _, _ :: _, [], _, _, _, h => by simp at h

/-- the value of a type whose cells are these -/
def valOf (P : Program) (t : TypeId) (l : List Value) : Value := if tyAgg P t = some true then .agg l.toArray else l.headD undef
theorem run_part {P : Program} {w : World} {t : TypeId} {l : List Value} {off m : Nat} (hs : tySize P t = some m) (ha : tyAgg P t = some true ∨ (tyAgg P t = some false ∧ m = 1)) (hl : off + m ≤ l.length) :
    (part t l.toArray off).run P w = .ok (valOf P t ((l.drop off).take m)) w := by
  rcases ha with ha | ⟨ha, rfl⟩
  · simp only [part, Sem.run_bind, run_isAgg' ha, Result.andThen_ok, if_true, run_sizeOf' hs, Sem.run_pure, valOf, ha]
    congr 2
    simp
  · have : off < l.length := by omega
    have e1 : (l.drop off).take 1 = [l[off]] := by rw [List.drop_eq_getElem_cons this]; rfl
    have e2 : l.toArray[off]? = some l[off] := by simp [this]
    simp only [part, Sem.run_bind, run_isAgg' ha, Result.andThen_ok, valOf, ha, e1, e2]
    simp

theorem run_equalIn_array {P : Program} (w : World) (d : Nat) (t e : TypeId) (len n : Nat) (xs ys : Array Value) (ht : P.underlying t = some (.array len e)) (hn : tySize P e = some n) (f : Nat → Bool)
    (h : ∀ i, i < len → (∀ j, j < i → f j = true) → ∃ a b, (part e xs (i * n)).run P w = .ok a w ∧ (part e ys (i * n)).run P w = .ok b w ∧ (Op.equalIn d e a b).run P w = .ok (f i) w) :
    (Op.equalIn (d + 1) t (.agg xs) (.agg ys)).run P w = .ok ((List.range len).all f) w := by
  simp only [Op.equalIn, Sem.run_bind, run_underlying' ht, Result.andThen_ok, run_sizeOf' hn]
  rw [Std.Legacy.Range.forIn_eq_forIn_range']
  simp only [Std.Legacy.Range.size, Nat.sub_zero, Nat.add_sub_cancel, Nat.div_one]
  rw [← List.range_eq_range']
  have key : ∀ (k : Nat) (pre : Nat), pre + k = len → (∀ j, j < pre → f j = true) →
      ((forIn (List.range' pre k) ((none, ()) : Option Bool × Unit) fun i r => do
        let a ← part e xs (i * n)
        let b ← part e ys (i * n)
        let r' ← Op.equalIn d e a b
        if (!r') = true then pure (ForInStep.done (some false, ())) else pure (ForInStep.yield (none, ())) : Sem _).run P w) =
      .ok (if (List.range' pre k).all f then (none, ()) else (some false, ())) w := by
    intro k
    induction k with
    | zero => intro pre _ _; simp
    | succ k ih =>
      intro pre hpk hpre
      obtain ⟨x, y, h1, h2, h3⟩ := h pre (by omega) hpre
      rw [List.range'_succ, List.forIn_cons]
      simp only [Sem.run_bind, h1, h2, h3, Result.andThen_ok, Sem.run_ite]
      cases hf : f pre with
      | false => simp [hf]
      | true =>
        simp only [Bool.not_true, Bool.false_eq_true, if_false, Sem.run_pure, Result.andThen_ok]
        rw [ih (pre + 1) (by omega) (fun j hj => by
          by_cases e : j = pre
          · subst e; exact hf
          · exact hpre j (by omega))]
        rw [List.all_cons, hf]; simp only [Bool.true_and]
  have := key len 0 (by omega) (fun j hj => by omega)
  rw [← List.range_eq_range'] at this
  rw [this]
  cases (List.range len).all f <;> simp

theorem cvs_headD (ρ : Rho) (l : List AVal) : (cvs ρ l).headD undef = cv ρ (l.headD aundef) := by
  cases l <;> simp [cvs, cv_undef]
theorem eqCells_one {k : SK} {x y : AVal} : eqCells [k] [x] [y] = eqScalar k x y := by
  simp only [eqCells]
  cases eqScalar k x y with
  | none => rfl
  | some b => cases b <;> rfl
theorem eqScalar_b {x y : AVal} {r : Bool} (h : eqScalar .b x y = some r) : ∃ a b, x = .bool a ∧ y = .bool b ∧ r = (a == b) := by
  cases x <;> cases y <;> simp [eqScalar] at h
  exact ⟨_, _, rfl, rfl, by rw [← h]⟩
theorem eqScalar_i {x y : AVal} {r : Bool} (h : eqScalar .i x y = some r) : ∃ k a b, x = .int k a ∧ y = .int k b ∧ r = (a == b) := by
  cases x <;> cases y <;> simp [eqScalar] at h
  obtain ⟨e, h⟩ := h
  subst e
  exact ⟨_, _, _, rfl, rfl, by rw [← h]⟩
theorem eqScalar_s {x y : AVal} {r : Bool} (h : eqScalar .s x y = some r) : ∃ a b, x = .str a ∧ y = .str b ∧ r = (a.toList == b.toList) := by
  cases x <;> cases y <;> simp [eqScalar] at h
  exact ⟨_, _, rfl, rfl, by rw [← h]⟩
theorem len_one {α : Type} {l : List α} (h : l.length = 1) : ∃ x, l = [x] := by
  match l, h with
  | [x], _ => exact ⟨x, rfl⟩

theorem foldl_none {β : Type} (g : List SK → β → Option (List SK)) (f : Option (List SK) → β → Option (List SK)) (hf : ∀ x, f none x = none) : ∀ l : List β, l.foldl f none = none
  | [] => rfl
  | x :: l => by rw [List.foldl_cons, hf, foldl_none g f hf l]

theorem eq_spec {P : Program} (ρ : Rho) : ∀ (d : Nat) (t : TypeId) (ks : List SK), simpleEq P d t = some ks → ∀ (D : Nat), d ≤ D → ∀ (w : World) (xs ys : List AVal) (b : Bool), xs.length = ks.length → ys.length = ks.length →
    eqCells ks xs ys = some b → (Op.equalIn D t (valOf P t (cvs ρ xs)) (valOf P t (cvs ρ ys))).run P w = .ok b w := by
  intro d
  induction d with
  | zero => intro t ks h; cases h
  | succ d ih =>
    intro t ks h D hD w xs ys b hx hy hb
    obtain ⟨D, rfl⟩ : ∃ m, D = m + 1 := ⟨D - 1, by omega⟩
    unfold simpleEq at h
    split at h
    · -- bool
      rename_i hu
      cases h
      obtain ⟨x, rfl⟩ := len_one hx
      obtain ⟨y, rfl⟩ := len_one hy
      rw [eqCells_one] at hb
      have ha : tyAgg P t = some false := by simp [tyAgg, hu]
      obtain ⟨p, q, rfl, rfl, rfl⟩ := eqScalar_b hb
      simp only [valOf, ha]
      simp [cvs, cv, Op.equalIn, run_underlying' hu]
    · rename_i k hu
      cases h
      obtain ⟨x, rfl⟩ := len_one hx
      obtain ⟨y, rfl⟩ := len_one hy
      rw [eqCells_one] at hb
      have ha : tyAgg P t = some false := by simp [tyAgg, hu]
      obtain ⟨k', p, q, rfl, rfl, rfl⟩ := eqScalar_i hb
      simp only [valOf, ha]
      simp [cvs, cv, Op.equalIn, run_underlying' hu]
    · rename_i hu
      cases h
      obtain ⟨x, rfl⟩ := len_one hx
      obtain ⟨y, rfl⟩ := len_one hy
      rw [eqCells_one] at hb
      have ha : tyAgg P t = some false := by simp [tyAgg, hu]
      obtain ⟨p, q, rfl, rfl, rfl⟩ := eqScalar_s hb
      simp only [valOf, ha]
      simp [cvs, cv, Op.equalIn, run_underlying' hu, beq_toListBytes]
    · rename_i fs hu
      split at h
      · cases h
      rename_i hst
      have ha : tyAgg P t = some true := by simp [tyAgg, hu]
      have hu' : P.underlying t = some (.struct (P.fieldsOf t)) := by simp [Program.fieldsOf, hu]
      simp only [valOf, ha, if_true]
      rw [run_equalIn_struct w D t _ _ hu' (by simpa using hst)]
      have hf : P.fieldsOf t = fs := by simp [Program.fieldsOf, hu]
      rw [hf]
      have hstep : ∀ (l : List Field) (acc : List SK), l.foldl (fun acc f => match acc, simpleEq P d f.type with
          | some ks, some ms => if f.name ≠ "_" ∧ f.offset = ks.length ∧ tySize P f.type = some ms.length ∧ (tyAgg P f.type = some true ∨ (tyAgg P f.type = some false ∧ ms.length = 1)) then some (ks ++ ms) else none
          | _, _ => none) (some acc) = some ks → ∀ (w : World), ∃ k2, ks = acc ++ k2 ∧ ∀ b, eqCells k2 (xs.drop acc.length) (ys.drop acc.length) = some b →
            (Op.eqFields D (cvs ρ xs).toArray (cvs ρ ys).toArray l).run P w = .ok b w := by
        intro l
        induction l with
        | nil =>
          intro acc hl w
          cases hl
          refine ⟨[], by simp, fun b hb => ?_⟩
          have e1 : xs.drop ks.length = [] := by simp [hx]
          have e2 : ys.drop ks.length = [] := by simp [hy]
          rw [e1, e2] at hb
          cases hb
          simp [Op.eqFields]
        | cons f l ihl =>
          intro acc hl w
          simp only [List.foldl_cons] at hl
          cases hs : simpleEq P d f.type with
          | none =>
            rw [hs] at hl
            simp only at hl
            rw [foldl_none (fun _ _ => none) _ (fun x => rfl)] at hl
            cases hl
          | some ms =>
            rw [hs] at hl
            simp only at hl
            split at hl
            · rename_i hcond
              obtain ⟨c1, c2, c3, c4⟩ := hcond
              obtain ⟨k2, rfl, hk2⟩ := ihl (acc ++ ms) hl w
              refine ⟨ms ++ k2, by simp, fun b hb => ?_⟩
              have lx : acc.length + ms.length ≤ xs.length := by rw [hx]; simp
              have ly : acc.length + ms.length ≤ ys.length := by rw [hy]; simp
              have sx : xs.drop acc.length = (xs.drop acc.length).take ms.length ++ xs.drop (acc.length + ms.length) := by
                rw [← List.drop_drop, List.take_append_drop]
              have sy : ys.drop acc.length = (ys.drop acc.length).take ms.length ++ ys.drop (acc.length + ms.length) := by
                rw [← List.drop_drop, List.take_append_drop]
              rw [sx, sy, eqCells_append _ _ _ _ _ _ (by simp; omega) (by simp; omega)] at hb
              have px := run_part (P := P) (w := w) (t := f.type) (l := cvs ρ xs) (off := f.offset) c3 c4 (by simp; omega)
              have py := run_part (P := P) (w := w) (t := f.type) (l := cvs ρ ys) (off := f.offset) c3 c4 (by simp; omega)
              rw [c2, ← cvs_drop, ← cvs_take] at px py
              simp only [Op.eqFields, if_pos c1, Sem.run_bind, c2, px, py, Result.andThen_ok]
              cases he : eqCells ms ((xs.drop acc.length).take ms.length) ((ys.drop acc.length).take ms.length) with
              | none => rw [he] at hb; cases hb
              | some r =>
                rw [he] at hb
                rw [ih f.type ms hs D (by omega) w _ _ r (by simp; omega) (by simp; omega) he]
                cases r with
                | false => cases hb; simp
                | true =>
                  simp only [Result.andThen_ok, Bool.not_true, Bool.false_eq_true, if_false]
                  refine hk2 b ?_
                  rw [List.length_append]; exact hb
            · rw [foldl_none (fun _ _ => none) _ (fun x => rfl)] at hl
              cases hl
      obtain ⟨k2, hk, hk2⟩ := hstep fs.toList [] h w
      have : ks = k2 := by simpa using hk
      subst this
      exact hk2 b (by simpa using hb)
    · rename_i len e hu
      split at h
      · rename_i ms hms
        split at h
        · rename_i hcond
          obtain ⟨c1, c2⟩ := hcond
          cases h
          have ha : tyAgg P t = some true := by simp [tyAgg, hu]
          simp only [valOf, ha, if_true]
          have hlen : ∀ k, (List.replicate k ms).flatten.length = k * ms.length := by intro k; simp
          have hkk := hlen len
          rw [hkk] at hx hy
          -- cut off from the head
          have cut : ∀ (k i : Nat), i + k = len → ∀ r, eqCells (List.replicate k ms).flatten (xs.drop (i * ms.length)) (ys.drop (i * ms.length)) = some r →
              ∃ f : Nat → Bool, (∀ j, j < k → (∀ j', j' < j → f j' = true) → eqCells ms ((xs.drop ((i + j) * ms.length)).take ms.length) ((ys.drop ((i + j) * ms.length)).take ms.length) = some (f j)) ∧ (List.range k).all f = r := by
            intro k
            induction k with
            | zero =>
              intro i hi r hr
              have e1 : xs.drop (i * ms.length) = [] := by rw [List.drop_eq_nil_iff, hx]; exact Nat.mul_le_mul_right _ (by omega)
              have e2 : ys.drop (i * ms.length) = [] := by rw [List.drop_eq_nil_iff, hy]; exact Nat.mul_le_mul_right _ (by omega)
              rw [e1, e2] at hr
              cases hr
              exact ⟨fun _ => true, fun j hj => by omega, rfl⟩
            | succ k ihk =>
              intro i hi r hr
              have hle : (i + 1) * ms.length ≤ len * ms.length := Nat.mul_le_mul_right _ (by omega)
              have hs1 : (i + 1) * ms.length = i * ms.length + ms.length := by rw [Nat.add_mul, Nat.one_mul]
              have sx : xs.drop (i * ms.length) = (xs.drop (i * ms.length)).take ms.length ++ xs.drop ((i + 1) * ms.length) := by
                rw [hs1, ← List.drop_drop, List.take_append_drop]
              have sy : ys.drop (i * ms.length) = (ys.drop (i * ms.length)).take ms.length ++ ys.drop ((i + 1) * ms.length) := by
                rw [hs1, ← List.drop_drop, List.take_append_drop]
              rw [List.replicate_succ, List.flatten_cons, sx, sy, eqCells_append _ _ _ _ _ _ (by simp; omega) (by simp; omega)] at hr
              cases he : eqCells ms ((xs.drop (i * ms.length)).take ms.length) ((ys.drop (i * ms.length)).take ms.length) with
              | none => rw [he] at hr; cases hr
              | some q =>
                rw [he] at hr
                cases q with
                | false =>
                  cases hr
                  refine ⟨fun j => false, fun j hj hall => ?_, by simp [List.range_succ_eq_map]⟩
                  cases j with
                  | zero => simpa using he
                  | succ j => exact absurd (hall 0 (by omega)) (by simp)
                | true =>
                  obtain ⟨f, hf, hr'⟩ := ihk (i + 1) (by omega) r hr
                  refine ⟨fun j => match j with | 0 => true | j + 1 => f j, fun j hj hall => ?_, ?_⟩
                  · cases j with
                    | zero => simpa using he
                    | succ j =>
                      have := hf j (by omega) (fun j' hj' => hall (j' + 1) (by omega))
                      rw [show i + (j + 1) = i + 1 + j from by omega]; exact this
                  · rw [List.range_succ_eq_map, List.all_cons, List.all_map, ← hr']
                    rfl
          obtain ⟨f, hf, hr⟩ := cut len 0 (by omega) b (by simpa using hb)
          rw [run_equalIn_array w D t e len ms.length _ _ hu c1 f ?_, hr]
          intro i hi hall
          have hle : (i + 1) * ms.length ≤ len * ms.length := Nat.mul_le_mul_right _ (by omega)
          have hs1 : (i + 1) * ms.length = i * ms.length + ms.length := by rw [Nat.add_mul, Nat.one_mul]
          have px := run_part (P := P) (w := w) (t := e) (l := cvs ρ xs) (off := i * ms.length) c1 c2 (by simp; omega)
          have py := run_part (P := P) (w := w) (t := e) (l := cvs ρ ys) (off := i * ms.length) c1 c2 (by simp; omega)
          rw [← cvs_drop, ← cvs_take] at px py
          have he := hf i hi hall
          rw [Nat.zero_add] at he
          exact ⟨_, _, px, py, ih e ms hms D (by omega) w _ _ _ (by simp; omega) (by simp; omega) he⟩
        · cases h
      · cases h
    · cases h
def intBin (op : BinOp) (k : IntKind) (x y : Int) : Option AVal :=
  match op with
  | .add => some (.int k (k.wrap (x + y)))
  | .sub => some (.int k (k.wrap (x - y)))
  | .mul => some (.int k (k.wrap (x * y)))
  | .quo => if y = 0 then none else some (.int k (k.wrap (x.tdiv y)))
  | .rem => if y = 0 then none else some (.int k (x.tmod y))
  | .and => some (.int k (k.wrap ((BitVec.ofInt k.bits x) &&& (BitVec.ofInt k.bits y)).toNat))
  | .or => some (.int k (k.wrap ((BitVec.ofInt k.bits x) ||| (BitVec.ofInt k.bits y)).toNat))
  | .xor => some (.int k (k.wrap ((BitVec.ofInt k.bits x) ^^^ (BitVec.ofInt k.bits y)).toNat))
  | .andNot => some (.int k (k.wrap ((BitVec.ofInt k.bits x) &&& ~~~(BitVec.ofInt k.bits y)).toNat))
  | .eql => some (.bool (x == y))
  | .neq => some (.bool (x != y))
  | .lss => some (.bool (x < y))
  | .leq => some (.bool (x ≤ y))
  | .gtr => some (.bool (x > y))
  | .geq => some (.bool (x ≥ y))
  | _ => none
def strBin (op : BinOp) (x y : ByteArray) : Option AVal :=
  match op with
  | .add => if ((x.size + y.size : Nat) : Int) > IntKind.i64.max then none else some (.str (x ++ y))
  | .eql => some (.bool (x.toList == y.toList))
  | .neq => some (.bool !(x.toList == y.toList))
  | .lss => some (.bool (Op.bytesLess x.toList y.toList))
  | .leq => some (.bool (Op.bytesLess x.toList y.toList || x.toList == y.toList))
  | .gtr => some (.bool !(Op.bytesLess x.toList y.toList || x.toList == y.toList))
  | .geq => some (.bool !(Op.bytesLess x.toList y.toList))
  | _ => none
def abin (op : BinOp) (x y : AVal) : Option AVal :=
  match op, x, y with
  | .shl, .int k a, .int _ b => if b < 0 then none else some (.int k (k.wrap (a * 2 ^ (min b.toNat k.bits))))
  | .shr, .int k a, .int _ b => if b < 0 then none else some (.int k (a.fdiv (2 ^ (min b.toNat k.bits))))
  | op, .int k a, .int k' b => if k = k' then intBin op k a b else none
  | op, .str a, .str b => strBin op a b
  | _, _, _ => none
theorem abin_spec {P : Program} {w : World} {ρ : Rho} {op : BinOp} {xt : TypeId} {x y r : AVal} (h : abin op x y = some r) : (binOp op xt (cv ρ x) (cv ρ y)).run P w = .ok (cv ρ r) w ∧ okv ρ r := by
  unfold abin at h
  split at h
  · rename_i k a k' b
    split at h
    · cases h
    · rename_i hb; cases h
      exact ⟨by simp [cv, binOp, Op.shift, hb], trivial⟩
  · rename_i k a k' b
    split at h
    · cases h
    · rename_i hb; cases h
      exact ⟨by simp [cv, binOp, Op.shift, hb], trivial⟩
  · rename_i op k a k' b n1 n2
    split at h
    · rename_i hk; subst hk
      unfold intBin at h
      split at h
      case h_4 => split at h; · cases h
                  · rename_i hb; cases h; exact ⟨by simp [cv, binOp, Op.intDiv, hb], trivial⟩
      case h_5 => split at h; · cases h
                  · rename_i hb; cases h; exact ⟨by simp [cv, binOp, Op.intDiv, hb], trivial⟩
      all_goals first
        | (cases h; exact ⟨by simp [cv, binOp, Op.intArith, Op.intBits, Op.intCmp], trivial⟩)
        | cases h
    · cases h
  · rename_i op a b
    unfold strBin at h
    split at h
    case h_1 => split at h; · cases h
                · rename_i hb; cases h; exact ⟨by simp only [cv, binOp, Op.stringOp]; rw [if_neg hb]; rfl, trivial⟩
    all_goals first
      | (cases h; exact ⟨by simp [cv, binOp, Op.stringOp], trivial⟩)
      | cases h
  · cases h

def aun (op : UnOp) (x : AVal) : Option AVal :=
  match op, x with
  | .neg, .int k n => some (.int k (k.wrap (0 - n)))
  | .xor, .int k n => intBin .xor k (if k.signed then -1 else k.max) n
  | .not, .bool b => some (.bool !b)
  | _, _ => none
theorem aun_spec {P : Program} {w : World} {ρ : Rho} {op : UnOp} {x r : AVal} (h : aun op x = some r) : (Op.unary op (cv ρ x)).run P w = .ok (cv ρ r) w ∧ okv ρ r := by
  unfold aun at h
  split at h
  · cases h; exact ⟨by simp [cv, Op.unary, Op.intArith], trivial⟩
  · unfold intBin at h; cases h; exact ⟨by simp [cv, Op.unary, Op.intBits], trivial⟩
  · cases h; exact ⟨by simp [cv, Op.unary], trivial⟩
  · cases h
end Go.Eng

/- Engine, keys: what keys of maps are taken, and that the model finds them as they are. -/
namespace Go.Eng
open Go.Maps (Keyed int_keyed bool_keyed string_keyed keyOf_int_mk keyOf_bool_mk)
set_option linter.unusedVariables false
set_option linter.unusedSimpArgs false

mutual
def AVal.same : AVal → AVal → Bool
  | .bool a, .bool b => a == b
  | .int k n, .int k' n' => decide (k = k') && decide (n = n')
  | .str a, .str b => decide (a = b)
  | .ptr0, .ptr0 => true
  | .ptr a b, .ptr c d => Nat.beq a c && Nat.beq b d
  | .sl0, .sl0 => true
  | .sl a b c d e, .sl a' b' c' d' e' => Nat.beq a a' && Nat.beq b b' && Nat.beq c c' && Nat.beq d d' && (e == e')
  | .slT a b c, .slT a' b' c' => Nat.beq a a' && Nat.beq b b' && Nat.beq c c'
  | .map0, .map0 => true
  | .map a, .map b => Nat.beq a b
  | .fn f a b, .fn f' a' b' => Nat.beq f f' && AVal.sames a a' && AVal.sames b b'
  | .yield a, .yield b => Nat.beq a b
  | .fn0, .fn0 => true
  | .iface t v, .iface t' v' => Nat.beq t t' && AVal.same v v'
  | .if0, .if0 => true
  | .agg a, .agg b => AVal.sames a b
  | .tup a, .tup b => AVal.sames a b
  | _, _ => false
def AVal.sames : List AVal → List AVal → Bool
  | [], [] => true
  | a :: as, b :: bs => AVal.same a b && AVal.sames as bs
  | _, _ => false
end
mutual
theorem AVal.same_eq : ∀ (a b : AVal), AVal.same a b = true → a = b
  | .bool a, b, h => by cases b <;> simp_all [AVal.same]
  | .int _ _, b, h => by cases b <;> simp_all [AVal.same]
  | .str _, b, h => by cases b <;> simp_all [AVal.same]
  | .ptr0, b, h => by cases b <;> simp_all [AVal.same]
  | .ptr _ _, b, h => by cases b <;> simp_all [AVal.same]
  | .sl0, b, h => by cases b <;> simp_all [AVal.same]
  | .sl _ _ _ _ _, b, h => by cases b <;> simp_all [AVal.same]
  | .slT _ _ _, b, h => by cases b <;> simp_all [AVal.same]
  | .map0, b, h => by cases b <;> simp_all [AVal.same]
  | .map _, b, h => by cases b <;> simp_all [AVal.same]
  | .fn f x y, b, h => by
    cases b with
    | fn f' x' y' =>
      simp only [AVal.same, Bool.and_eq_true] at h
      rw [Nat.eq_of_beq_eq_true h.1.1, AVal.sames_eq x x' h.1.2, AVal.sames_eq y y' h.2]
    | _ => simp [AVal.same] at h
  | .yield _, b, h => by cases b <;> simp_all [AVal.same]
  | .fn0, b, h => by cases b <;> simp_all [AVal.same]
  | .iface t v, b, h => by
    cases b with
    | iface t' v' =>
      simp only [AVal.same, Bool.and_eq_true] at h
      rw [Nat.eq_of_beq_eq_true h.1, AVal.same_eq v v' h.2]
    | _ => simp [AVal.same] at h
  | .if0, b, h => by cases b <;> simp_all [AVal.same]
  | .agg x, b, h => by
    cases b with
    | agg x' => rw [AVal.sames_eq x x' (by simpa only [AVal.same] using h)]
    | _ => simp [AVal.same] at h
  | .tup x, b, h => by
    cases b with
    | tup x' => rw [AVal.sames_eq x x' (by simpa only [AVal.same] using h)]
    | _ => simp [AVal.same] at h
theorem AVal.sames_eq : ∀ (a b : List AVal), AVal.sames a b = true → a = b
  | [], [], _ => rfl
  | [], _ :: _, h => by simp [AVal.sames] at h
  | _ :: _, [], h => by simp [AVal.sames] at h
  | x :: xs, y :: ys, h => by
    simp only [AVal.sames, Bool.and_eq_true] at h
    rw [AVal.same_eq x y h.1, AVal.sames_eq xs ys h.2]
end
mutual
theorem AVal.same_refl : ∀ (a : AVal), AVal.same a a = true
  | .bool a | .int _ _ | .str _ | .ptr0 | .ptr _ _ | .sl0 | .sl _ _ _ _ _ | .slT _ _ _ | .map0 | .map _ | .yield _ | .fn0 | .if0 => by simp [AVal.same]
  | .fn f x y => by simp [AVal.same, AVal.sames_refl x, AVal.sames_refl y]
  | .iface t v => by simp [AVal.same, AVal.same_refl v]
  | .agg x => by simp [AVal.same, AVal.sames_refl x]
  | .tup x => by simp [AVal.same, AVal.sames_refl x]
theorem AVal.sames_refl : ∀ (a : List AVal), AVal.sames a a = true
  | [] => rfl
  | x :: xs => by simp [AVal.sames, AVal.same_refl x, AVal.sames_refl xs]
end

def kfit : KC → AVal → Bool
  | .b, .bool _ => true
  | .i q, .int q' n => decide (q' = q) && (Lit.int q n).wf
  | .s, .str s => Nat.ble s.size maxLen
  | _, _ => false
def kfits : List KC → List AVal → Bool
  | [], [] => true
  | c :: cs, v :: vs => kfit c v && kfits cs vs
  | _, _ => false
def akey (ks : List KC) (agg : Bool) (k : AVal) : Bool := match k with
  | .agg cs => agg && kfits ks cs
  | v => !agg && kfits ks [v]
theorem kfits_length : ∀ {ks : List KC} {vs : List AVal}, kfits ks vs = true → vs.length = ks.length
  | [], [], _ => rfl
  | c :: cs, v :: vs, h => by
    simp only [kfits, Bool.and_eq_true] at h
    simp [kfits_length h.2]
  | [], _ :: _, h => by simp [kfits] at h
  | _ :: _, [], h => by simp [kfits] at h
theorem kfit_inj {ρ : Rho} {c : KC} {v u : AVal} (hv : kfit c v = true) (hu : kfit c u = true) (e : cv ρ v = cv ρ u) : v = u := by
  cases c <;> cases v <;> simp [kfit] at hv <;> cases u <;> simp [kfit] at hu <;> simp_all [cv]
theorem kfits_inj {ρ : Rho} : ∀ {cs : List KC} {vs us : List AVal}, kfits cs vs = true → kfits cs us = true → cvs ρ vs = cvs ρ us → vs = us
  | [], [], [], _, _, _ => rfl
  | c :: cs, v :: vs, u :: us, hv, hu, e => by
    simp only [kfits, Bool.and_eq_true] at hv hu
    simp only [cvs, List.cons.injEq] at e
    rw [kfit_inj hv.1 hu.1 e.1, kfits_inj hv.2 hu.2 e.2]
  | [], _ :: _, _, h, _, _ => by simp [kfits] at h
  | [], [], _ :: _, _, h, _ => by simp [kfits] at h
  | _ :: _, [], _, h, _, _ => by simp [kfits] at h
  | _ :: _, _ :: _, [], _, h, _ => by simp [kfits] at h
theorem akey_false {ks : List KC} {v : AVal} (h : akey ks false v = true) : kfits ks [v] = true := by
  cases v <;> simp_all [akey]
theorem akey_true {ks : List KC} {v : AVal} (h : akey ks true v = true) : ∃ cs, v = .agg cs ∧ kfits ks cs = true := by
  cases v <;> simp_all [akey]
theorem akey_inj {ρ : Rho} {ks : List KC} {agg : Bool} {v u : AVal} (hv : akey ks agg v = true) (hu : akey ks agg u = true) (e : cv ρ v = cv ρ u) : v = u := by
  cases agg with
  | false =>
    have := kfits_inj (ρ := ρ) (akey_false hv) (akey_false hu) (by simp [cvs, e])
    simpa using this
  | true =>
    obtain ⟨a, rfl, h1⟩ := akey_true hv
    obtain ⟨b, rfl, h2⟩ := akey_true hu
    simp only [cv, Value.agg.injEq] at e
    rw [kfits_inj h1 h2 (by simpa using congrArg Array.toList e)]

def kc1 (P : Program) (t : TypeId) : Option KC := match P.underlying t with
  | some .bool => some .b
  | some (.int q) => some (.i q)
  | some .string => some .s
  | _ => none
def wideOk (P : Program) (t : TypeId) : Bool := P.keyTypeAt (P.types.size + 1) t && P.tiled (P.types.size + 1) t && Nat.ble 1 P.types.size && Nat.ble (P.types.size + 2) 10000
def keyShape (P : Program) (t : TypeId) : Option (List KC × Bool) :=
  match P.underlying t with
  | some (.array n e) => match kc1 P e with
    | some c => if wideOk P t = true ∧ P.cellsOf e = 1 ∧ P.cellsOf t = n then some (List.replicate n c, true) else none
    | none => none
  | some (.struct fs) => match fs.toList.mapM (fun f => kc1 P f.type) with
    | some ks => if wideOk P t = true ∧ fs.toList.map (·.offset) = List.range fs.size ∧ (∀ f ∈ fs.toList, P.cellsOf f.type = 1) ∧ fs.all (·.name != "_") = true ∧ P.cellsOf t = fs.size then some (ks, true) else none
    | none => none
  | _ => match kc1 P t with
    | some c => some ([c], false)
    | none => none

theorem mapM_some {α β : Type} {f : α → Option β} : ∀ {l : List α}, (∀ x ∈ l, ∃ y, f x = some y) → ∃ ys, l.mapM f = some ys
  | [], _ => ⟨[], rfl⟩
  | x :: l, h => by
    obtain ⟨y, hy⟩ := h x (by simp)
    obtain ⟨ys, hys⟩ := mapM_some (l := l) (fun z hz => h z (by simp [hz]))
    exact ⟨y :: ys, by simp [List.mapM_cons, hy, hys]⟩
theorem mapM_get {α β : Type} {f : α → Option β} : ∀ {l : List α} {ys : List β}, l.mapM f = some ys → ys.length = l.length ∧ ∀ (i : Nat) (x : α), l[i]? = some x → ∃ y, ys[i]? = some y ∧ f x = some y
  | [], ys, h => by cases h; exact ⟨rfl, fun i x h => by simp at h⟩
  | x :: l, ys, h => by
    simp only [List.mapM_cons, Option.pure_def, Option.bind_eq_bind, Option.bind_eq_some_iff] at h
    obtain ⟨y, hy, zs, hz, e⟩ := h
    cases e
    have ih := mapM_get hz
    refine ⟨by simp [ih.1], fun i z hi => ?_⟩
    cases i with
    | zero => cases hi; exact ⟨y, rfl, hy⟩
    | succ i => exact ih.2 i z (by simpa using hi)
theorem kfits_get : ∀ {ks : List KC} {vs : List AVal}, kfits ks vs = true → ∀ (i : Nat) (c : KC) (v : AVal), ks[i]? = some c → vs[i]? = some v → kfit c v = true
  | [], _, _, i, c, v, h, _ => by simp at h
  | k :: ks, [], h, _, _, _, _, _ => by simp [kfits] at h
  | k :: ks, u :: vs, h, i, c, v, h1, h2 => by
    simp only [kfits, Bool.and_eq_true] at h
    cases i with
    | zero => cases h1; cases h2; exact h.1
    | succ i => exact kfits_get h.2 i c v (by simpa using h1) (by simpa using h2)

variable {P : Program} {ρ : Rho}
theorem keyLits_one {d : Nat} {t : TypeId} {c : KC} {v : AVal} (h : kc1 P t = some c) (hv : kfit c v = true) : ∃ L, P.keyLits (d + 1) t [cv ρ v] = some L := by
  unfold kc1 at h
  split at h <;> first | (cases h; done) | skip
  · rename_i hu; cases h
    cases v <;> simp [kfit] at hv
    exact ⟨[.bool _], by simp only [Program.keyLits, hu, cv]; rfl⟩
  · rename_i q hu; cases h
    cases v <;> simp [kfit] at hv
    exact ⟨[.int q _], by simp only [Program.keyLits, hu, cv]; rw [if_pos ⟨hv.1, hv.2⟩]⟩
  · rename_i hu; cases h
    cases v <;> simp [kfit] at hv
    exact ⟨_, by simp only [Program.keyLits, hu, cv]; rw [if_pos hv]⟩

theorem keyShape_spec {t : TypeId} {ks : List KC} {agg : Bool} (h : keyShape P t = some (ks, agg)) : Keyed P t ∧ ∀ (ρ : Rho) k, akey ks agg k = true → ∃ l, keyOf P t (cv ρ k) = some l := by
  have wide : ∀ (hw : wideOk P t = true) (hwide : (match P.underlying t with | some (.array _ _) | some (.struct _) => true | _ => false) = true), Keyed P t := by
    intro hw hwide
    simp only [wideOk, Bool.and_eq_true] at hw
    exact Keyed.of_law (deep_law (Nat.le_of_ble_eq_true hw.2) hw.1.1.1 hw.1.1.2 hwide)
  have plain : ∀ {c : KC}, kc1 P t = some c → (∀ n e, P.underlying t ≠ some (.array n e)) → (∀ fs, P.underlying t ≠ some (.struct fs)) → Keyed P t ∧ ∀ (ρ : Rho) k, akey [c] false k = true → ∃ l, keyOf P t (cv ρ k) = some l := by
    intro c hc _ _
    unfold kc1 at hc
    split at hc <;> first | (cases hc; done) | skip
    · rename_i hu; cases hc
      refine ⟨bool_keyed hu, fun ρ k hk => ?_⟩
      have := akey_false hk
      cases k <;> simp [kfits, kfit] at this
      exact ⟨_, keyOf_bool_mk hu _⟩
    · rename_i q hu; cases hc
      refine ⟨int_keyed hu, fun ρ k hk => ?_⟩
      have := akey_false hk
      cases k <;> simp [kfits, kfit] at this
      obtain ⟨rfl, hw⟩ := this
      exact ⟨_, keyOf_int_mk hu hw⟩
    · rename_i hu; cases hc
      refine ⟨string_keyed hu, fun ρ k hk => ?_⟩
      have := akey_false hk
      cases k <;> simp [kfits, kfit] at this
      exact ⟨_, by simp only [keyOf, hu, mapKey, cv]; rw [if_pos this]⟩
  unfold keyShape at h
  split at h
  · rename_i n e hu
    split at h
    · rename_i c hc
      split at h
      · rename_i hcond
        obtain ⟨hw, hce, hct⟩ := hcond
        cases h
        refine ⟨wide hw (by rw [hu]), fun ρ k hk => ?_⟩
        obtain ⟨cs, rfl, hfit⟩ := akey_true hk
        have hlen := kfits_length hfit
        simp only [List.length_replicate] at hlen
        simp only [wideOk, Bool.and_eq_true] at hw
        obtain ⟨m, hm⟩ : ∃ m, P.types.size = m + 1 := ⟨P.types.size - 1, by have := Nat.le_of_ble_eq_true hw.1.2; omega⟩
        have hmap : ∃ ys, (List.range n).mapM (fun i => P.keyLits P.types.size e (((cvs ρ cs).drop (i * P.cellsOf e)).take (P.cellsOf e))) = some ys := by
          refine mapM_some (fun i hi => ?_)
          have hi' : i < cs.length := by rw [hlen]; exact List.mem_range.1 hi
          rw [hce, Nat.mul_one, List.drop_eq_getElem_cons (by simpa using hi'), List.take_succ_cons, List.take_zero]
          have hv : kfit c cs[i] = true := kfits_get hfit i c cs[i] (by simp [List.getElem?_replicate]; omega) (List.getElem?_eq_getElem hi')
          have : (cvs ρ cs)[i]'(by simpa using hi') = cv ρ cs[i] := by simp [cvs_map]
          rw [this, hm]
          exact keyLits_one hc hv
        obtain ⟨ys, hys⟩ := hmap
        refine ⟨.string (keyBytes ys.flatten), ?_⟩
        have hf : (cv ρ (.agg cs)).formed P t = true := by simp [cv, Value.formed, hu, hlen, hct]
        have hkt : P.keyType t = true := hw.1.1.1
        unfold keyOf
        simp only [hu, hkt, hf, Bool.and_self, if_true]
        simp only [cv, Value.cells, Program.keyLits, hu]
        rw [if_pos (by simp [hlen, hct]), hys]
        rfl
      · cases h
    · cases h
  · rename_i fs hu
    split at h
    · rename_i ks' hks
      split at h
      · rename_i hcond
        obtain ⟨hw, hoff, hcell, hname, hct⟩ := hcond
        cases h
        refine ⟨wide hw (by rw [hu]), fun ρ k hk => ?_⟩
        obtain ⟨cs, rfl, hfit⟩ := akey_true hk
        obtain ⟨hkl, hkg⟩ := mapM_get hks
        have hlen := kfits_length hfit
        rw [hkl] at hlen
        simp only [wideOk, Bool.and_eq_true] at hw
        obtain ⟨m, hm⟩ : ∃ m, P.types.size = m + 1 := ⟨P.types.size - 1, by have := Nat.le_of_ble_eq_true hw.1.2; omega⟩
        have hmap : ∃ ys, fs.toList.mapM (fun f => P.keyLits P.types.size f.type (((cvs ρ cs).drop f.offset).take (P.cellsOf f.type))) = some ys := by
          refine mapM_some (fun f hf => ?_)
          obtain ⟨i, hi, e⟩ := List.getElem_of_mem hf
          have hfi : fs.toList[i]? = some f := by rw [List.getElem?_eq_getElem hi, e]
          obtain ⟨c, hc1, hc2⟩ := hkg i f hfi
          have ho : f.offset = i := by
            have := congrArg (fun l : List Nat => l[i]?) hoff
            simp only [List.getElem?_map, hfi, Option.map_some] at this
            rw [List.getElem?_range (by simpa using hi)] at this
            simpa using this
          have hi' : i < cs.length := by omega
          rw [hcell f hf, ho, List.drop_eq_getElem_cons (by simpa using hi'), List.take_succ_cons, List.take_zero]
          have hv : kfit c cs[i] = true := kfits_get hfit i c cs[i] hc1 (List.getElem?_eq_getElem hi')
          have : (cvs ρ cs)[i]'(by simpa using hi') = cv ρ cs[i] := by simp [cvs_map]
          rw [this, hm]
          exact keyLits_one hc2 hv
        obtain ⟨ys, hys⟩ := hmap
        refine ⟨.string (keyBytes ys.flatten), ?_⟩
        have hf : (cv ρ (.agg cs)).formed P t = true := by simp [cv, Value.formed, hu, hlen, hct]
        have hkt : P.keyType t = true := hw.1.1.1
        unfold keyOf
        simp only [hu, hkt, hf, Bool.and_self, if_true]
        simp only [cv, Value.cells, Program.keyLits, hu]
        rw [if_pos ⟨by simp [hlen, hct], hname⟩, hys]
        rfl
      · cases h
    · cases h
  · rename_i h1 h2
    split at h
    · rename_i c hc
      cases h
      exact plain hc h1 h2
    · cases h
end Go.Eng

/- Engine 5: the operations. -/
namespace Go.Eng
set_option linter.unusedVariables false
set_option linter.unusedSimpArgs false
variable {CR : CodeR}

inductive ADefer where
  | call (f : Nat) (args : List AVal)
  | collected (r : Nat)

inductive AOut where
  | val (v : AVal) (W : AW)
  | enter (f : Nat) (args : List AVal)
  | round (l : Nat) (args : List AVal)
  | defer (d : ADefer)
  | recover
  | panic (v : AVal)

def aev (tm : Tr AVal) : AO → AVal
  | .t n => (tm.get n).getD aundef
  | .c v => v
def aevs (ev : AO → AVal) : List AO → List AVal
  | [] => []
  | x :: xs => ev x :: aevs ev xs
/-- what the operands are -/
def EvR (ρ : Rho) (ev : AO → AVal) (ρv : Operand → Value) : Prop := ∀ o x, compO o = some x → ρv o = cv ρ (ev x) ∧ okv ρ (ev x)
theorem EvR.all {ρ : Rho} {ev : AO → AVal} {ρv : Operand → Value} (h : EvR ρ ev ρv) : ∀ {l : List Operand} {as : List AO}, compOs l = some as → l.map ρv = cvs ρ (aevs ev as) ∧ okvs ρ (aevs ev as)
  | [], as, e => by cases e; exact ⟨rfl, trivial⟩
  | x :: xs, as, e => by
    unfold compOs at e
    split at e
    · rename_i a as' h1 h2
      cases e
      have p := h x a h1
      have q := h.all h2
      exact ⟨by simp [aevs, cvs, p.1, q.1], p.2, q.2⟩
    · cases e

def layParts (ev : AO → AVal) : List AVal → List (Nat × Nat × AO) → Option (List AVal)
  | cs, [] => some cs
  | cs, (off, sz, x) :: ps =>
    bif Nat.beq (acells (ev x)).length sz && Nat.ble (off + sz) cs.length then layParts ev (lay cs off (acells (ev x))) ps else none

def zeroRow (zl : List AVal) (n : Nat) : List AVal := (List.range n).map fun i => zl.getD (i % zl.length) aundef
def repRow (zl : List AVal) : Nat → List AVal
  | 0 => []
  | n + 1 => zl ++ repRow zl n

/-! slices' bounds: m is the capacity (told), op whether there may be more -/
def abound (x : AVal) (y : Nat) : Option Nat :=
  match x with
  | .int _ i => if 0 ≤ i ∧ i ≤ y then some i.toNat else none
  | _ => none

def abMx (ev : AO → AVal) (cap : Nat) : Option AO → Option Nat
  | none => some cap
  | some m => abound (ev m) cap
def abHi (ev : AO → AVal) (len m : Nat) (third : Bool) : Option AO → Option Nat
  | none => bif third then none else some len
  | some h => abound (ev h) m
def abLo (ev : AO → AVal) (h : Nat) : Option AO → Option Nat
  | none => some 0
  | some l => abound (ev l) h
/-- low, high, capacity -/
def abBounds (ev : AO → AVal) (len cap : Nat) (lo hi mx : Option AO) : Option (Nat × Nat × Nat) :=
  match abMx ev cap mx with
  | none => none
  | some m => match abHi ev len m mx.isSome hi with
    | none => none
    | some h => match abLo ev h lo with
      | none => none
      | some l => bif Nat.ble h m then some (l, h, m) else none

def nilEq : NK → AVal → AVal → Option Bool
  | .p, .ptr0, .ptr0 => some true
  | .p, .ptr0, .ptr _ _ => some false
  | .p, .ptr _ _, .ptr0 => some false
  | .s, .sl0, .sl0 => some true
  | .s, .sl0, .sl .. => some false
  | .s, .sl0, .slT .. => some false
  | .s, .slT .., .sl0 => some false
  | .s, .sl .., .sl0 => some false
  | .m, .map0, .map0 => some true
  | .m, .map0, .map _ => some false
  | .m, .map _, .map0 => some false
  | .f, .fn0, .fn0 => some true
  | .f, .fn0, .fn .. => some false
  | .f, .fn .., .fn0 => some false
  | .i, .if0, .if0 => some true
  | .i, .if0, .iface _ _ => some false
  | .i, .iface _ _, .if0 => some false
  | _, _, _ => none

/-! maps -/
abbrev AEntry := AVal × AVal × Nat
/-- the entries that have a key -/
def ahits (k : AVal) : List AEntry → List AEntry
  | [] => []
  | x :: xs => bif AVal.same k x.1 then x :: ahits k xs else ahits k xs
def aput (k v : AVal) : List AEntry → List AEntry
  | [] => []
  | x :: xs => bif AVal.same k x.1 then (k, v, x.2.2) :: aput k v xs else x :: aput k v xs
def adel (k : AVal) : List AEntry → List AEntry
  | [] => []
  | x :: xs => bif AVal.same k x.1 then adel k xs else x :: adel k xs
def aborn (n : Nat) (v : AVal) : List AEntry → Option (List AEntry)
  | [] => none
  | x :: xs => bif Nat.beq x.2.2 n then some ((x.1, v, x.2.2) :: xs) else match aborn n v xs with
    | some ys => some (x :: ys)
    | none => none
/-- a map's entries, where all keys are such as are taken -/
def aentries (W : AW) (ks : List KC) (agg : Bool) : AVal → Option (List AEntry)
  | .map0 => some []
  | .map r => match W.get r with
    | .map es _ => bif es.all (fun x => akey ks agg x.1) then some es else none
    | _ => none
  | _ => none
def amapOf (W : AW) (ks : List KC) (agg : Bool) (k : AVal) : AVal → Option (Nat × List AEntry × Nat)
  | .map r => match W.get r with
    | .map es clock => bif akey ks agg k && es.all (fun x => akey ks agg x.1) then some (r, es, clock) else none
    | _ => none
  | _ => none
def anext (W : AW) (g : Nat) : Option (List AOut) :=
  match W.get g with
  | .iter none _ _ _ => some [.val (.tup [.bool false]) W]
  | .iter (some r) since seen stepped => match W.get r with
    | .map es clock =>
      bif !seen.isEmpty && !es.isEmpty && es.all (fun x => decide (x.2.2 ≥ stepped)) then none else
      let left := es.filter fun x => !seen.contains x.2.2
      let old := left.filter fun x => decide (x.2.2 < since)
      let new := left.filter fun x => decide (x.2.2 ≥ since)
      some ((bif old.isEmpty then [.val (.tup [.bool false]) W] else []) ++ (old ++ new).map fun x => .val (.tup [.bool true, x.1, x.2.1]) (W.set g (.iter (some r) since (seen ++ [x.2.2]) clock)))
    | _ => none
  | _ => none
def aentry (W : AW) (g : Nat) : Option AVal :=
  match W.get g with
  | .iter (some r) since seen stepped => match W.get r, seen.getLast? with
    | .map es clock, some stamp => bif Nat.beq clock stepped then match es.find? (fun x => x.2.2 == stamp) with
        | some x => some (.tup [x.1, x.2.1])
        | none => none
      else none
    | _, _ => none
  | _ => none

def xopS (ev : AO → AVal) (W : AW) : AOp → Option (List AOut)
  | .move x => some [.val (ev x) W]
  | .pick c a b => match ev c with
    | .bool t => some [.val (bif t then ev a else ev b) W]
    | _ => none
  | .alloc e z => some [.val (.ptr W.n 0) (W.push (.cells z e 0 0 true []))]
  | .box e x => some [.val (.ptr W.n 0) (W.push (.cells (acells (ev x)) e 0 0 true []))]
  | .build z ps => match layParts ev z ps with
    | some cs => some [.val (.agg cs) W]
    | none => none
  | .buildSlice e len esz z ps => match layParts ev z ps with
    | some cs => some [.val (.sl W.n 0 len len false) (W.push (.cells cs e esz 0 true []))]
    | none => none
  | .load1 a => match ev a with
    | .ptr g o => match W.get g with
      | .cells cs _ _ _ _ _ => match cs[o]? with
        | some v => some [.val v W]
        | none => none
      | _ => none
    | _ => none
  | .loadN n a => match ev a with
    | .ptr g o => match W.get g with
      | .cells cs _ _ _ _ _ => bif Nat.ble (o + n) cs.length then some [.val (.agg ((cs.drop o).take n)) W] else none
      | _ => none
    | _ => none
  | .store n a x => match ev a with
    | .ptr g o => bif Nat.beq (acells (ev x)).length n then
        match W.stores g o (acells (ev x)) with
        | some W' => some [.val aundef W']
        | none => none
      else none
    | _ => none
  | .nilCheck x => match ev x with
    | .ptr g o => some [.val (.ptr g o) W]
    | .fn f a b => some [.val (.fn f a b) W]
    | .yield l => some [.val (.yield l) W]
    | .iface t v => some [.val (.iface t v) W]
    | _ => none
  | .bin op x y => match abin op (ev x) (ev y) with
    | some v => some [.val v W]
    | none => none
  | .eqs ks neg x y => match ev x, ev y with
    | .agg xs, .agg ys => bif Nat.beq xs.length ks.length && Nat.beq ys.length ks.length then
        match eqCells ks xs ys with
        | some b => some [.val (.bool (bif neg then !b else b)) W]
        | none => none
      else none
    | _, _ => none
  | .eqb neg x y => match ev x, ev y with
    | .bool p, .bool q => some [.val (.bool (bif neg then !(p == q) else (p == q))) W]
    | _, _ => none
  | .isNil nk neg x y => match nilEq nk (ev x) (ev y) with
    | some b => some [.val (.bool (bif neg then !b else b)) W]
    | none => none
  | .un op x => match aun op (ev x) with
    | some v => some [.val v W]
    | none => none
  | .conv k x => match ev x with
    | .int _ n => some [.val (.int k (k.wrap n)) W]
    | _ => none
  | .mkIface t x => some [.val (.iface t (ev x)) W]
  | .mkFunc f first captured => some [.val (.fn f (aevs ev first) (aevs ev captured)) W]
  | .fieldAddr off x => match ev x with
    | .ptr g o => some [.val (.ptr g (o + off)) W]
    | _ => none
  | .field off n agg x => match ev x with
    | .agg cs => bif agg then some [.val (.agg ((cs.drop off).take n)) W] else match cs[off]? with
      | some v => some [.val v W]
      | none => none
    | _ => none
  | .indexAddrA len sz x i => match ev x, ev i with
    | .ptr g o, .int _ i => if 0 ≤ i ∧ i < len then some [.val (.ptr g (o + i.toNat * sz)) W] else none
    | _, _ => none
  | .indexAddrS sz x i => match ev x, ev i with
    | .sl g o len _ _, .int _ i => if 0 ≤ i ∧ i < len then some [.val (.ptr g (o + i.toNat * sz)) W] else none
    | _, _ => none
  | .index len n agg x i => match ev x, ev i with
    | .agg cs, .int _ i => if 0 ≤ i ∧ i < len then
        bif agg then some [.val (.agg ((cs.drop (i.toNat * n)).take n)) W] else match cs[i.toNat * n]? with
          | some v => some [.val v W]
          | none => none
      else none
    | _, _ => none
  | .indexStr x i => match ev x, ev i with
    | .str s, .int _ i => if 0 ≤ i then match s[i.toNat]? with
        | some b => some [.val (.int .u8 b.toNat) W]
        | none => none
      else none
    | _, _ => none
  | .extract x i => match ev x with
    | .tup vs => match vs[i]? with
      | some v => some [.val v W]
      | none => none
    | _ => none
  | .callF f args => some [.enter f (aevs ev args)]
  | .callV f args => match ev f with
    | .fn f first captured => some [.enter f (first ++ aevs ev args ++ captured)]
    | .yield l => some [.round l (aevs ev args)]
    | _ => none
  | .add64 x y c => match ev x, ev y, ev c with
    | .int .u64 a, .int .u64 b, .int .u64 k => if 0 ≤ a ∧ 0 ≤ b ∧ 0 ≤ k ∧ k ≤ 1 then some [.val (.tup [.int .u64 ((a + b + k) % 18446744073709551616), .int .u64 ((a + b + k) / 18446744073709551616)]) W] else none
    | _, _, _ => none
  | .len k x => match k, ev x with
    | .sl, .sl0 => some [.val (.int .i64 0) W]
    | .sl, .sl _ _ n _ _ => some [.val (.int .i64 n) W]
    | .sl, .slT _ _ _ => some [.val (.int .i64 0) W]
    | .str, .str s => some [.val (.int .i64 s.size) W]
    | .mp, .map0 => some [.val (.int .i64 0) W]
    | .mp, .map r => match W.get r with
      | .map es _ => some [.val (.int .i64 es.length) W]
      | _ => none
    | _, _ => none
  | .lenC n _ => some [.val (.int .i64 n) W]
  | .assert t zero ok x => match ev x with
    | .iface u v => bif Nat.beq u t then some [.val (bif ok then .tup [v, .bool true] else v) W] else bif ok then some [.val (.tup [zero, .bool false]) W] else none
    | .if0 => bif ok then some [.val (.tup [zero, .bool false]) W] else none
    | _ => none
  | .recover => some [.recover]
  | .defer f args => match ev f with
    | .fn f first captured => some [.defer (.call f (first ++ aevs ev args ++ captured))]
    | _ => none
  | .panic x => match ev x with
    | .iface t v => some [.panic (.iface t v)]
    | _ => none
  | .slice sz x lo hi mx => match ev x with
    | .sl g o len cap op => match abBounds ev len cap lo hi mx with
      | some (l, h, m) =>
        bif (op && mx.isNone) && Nat.beq m l && !Nat.beq l 0 then some [.val (.slT g o (l * sz)) W]
        else some [.val (.sl g (bif Nat.beq m l then o else o + l * sz) (h - l) (m - l) (op && mx.isNone)) W]
      | none => none
    | .sl0 => match abBounds ev 0 0 lo hi mx with
      | some (l, h, m) => some [.val .sl0 W]
      | none => none
    | _ => none
  | .sliceArr n sz x lo hi mx => match ev x with
    | .ptr g o => match abBounds ev n n lo hi mx with
      | some (l, h, m) => some [.val (.sl g (bif Nat.beq m l then o else o + l * sz) (h - l) (m - l) false) W]
      | none => none
    | _ => none
  | .append e sz bytes z s x =>
    match (match ev x with
      | .sl0 => some ([], 0)
      | .slT _ _ _ => some ([], 0)
      | .sl g o n _ _ => match W.get g with
        | .cells cs _ _ _ _ _ => bif Nat.ble (o + n * sz) cs.length then some ((cs.drop o).take (n * sz), n) else none
        | _ => none
      | _ => none) with
    | none => none
    | some (new, n) =>
      match ev s with
      | .sl0 => bif Nat.beq n 0 then some [.val .sl0 W] else
          bif Nat.ble n 1048576 then some [.val (.sl W.n 0 n n true) (W.push (.cells new e sz 0 true []))] else none
      | .sl g o len cap op =>
        bif Nat.ble (len + n) cap then
          match W.stores g (o + len * sz) new with
          | some W' => some [.val (.sl g o (len + n) cap op) W']
          | none => none
        else bif !Nat.ble (len + n) 1048576 then none else
          match W.get g with
          | .cells cs e' esz own tip anc =>
            bif op then
              bif Nat.beq o 0 && Nat.beq len cap && Nat.beq (len * sz) cs.length && tip && Nat.beq esz sz && Nat.beq e' e && new.all AVal.one then
                some [.val (.sl W.n 0 (len + n) (len + n) true) (W.grown g cs e esz own anc new)]
              else none
            else bif Nat.ble (o + len * sz) cs.length then some [.val (.sl W.n 0 (len + n) (len + n) true) (W.push (.cells ((cs.drop o).take (len * sz) ++ new) e sz 0 true []))] else none
          | _ => none
      | _ => none
  | .copy sz d s =>
    match ev d, ev s with
    | .sl0, .sl0 | .sl0, .sl .. | .sl .., .sl0 => some [.val (.int .i64 0) W]
    | .sl g o len _ _, .sl g2 o2 n _ _ =>
      match W.get g2 with
      | .cells cs _ _ _ _ _ => bif Nat.ble (o2 + Nat.min n len * sz) cs.length then
          match W.stores g o ((cs.drop o2).take (Nat.min n len * sz)) with
          | some W' => some [.val (.int .i64 (Nat.min n len)) W']
          | none => none
        else none
      | _ => none
    | _, _ => none
  | .clear z x =>
    match ev x with
    | .sl0 => some [.val (.tup []) W]
    | .sl g o n _ _ => bif Nat.beq n 0 then some [.val (.tup []) W] else match W.stores g o (zeroRow z (n * z.length)) with
        | some W' => some [.val (.tup []) W']
        | none => none
    | _ => none
  | .mkSlice e esz bytes z l c =>
    match ev l, ev c with
    | .int _ l, .int _ c => bif decide (0 ≤ l ∧ l ≤ c ∧ c ≤ 1048576) then
        some [.val (.sl W.n 0 l.toNat c.toNat false) (W.push (.cells (zeroRow z (c.toNat * esz)) e esz 0 true []))] else none
    | _, _ => none
  | .maxmin isMax xs =>
    match aevs ev xs with
    | .int k x :: rest => match rest.foldl (fun acc y => match acc, y with
        | some x, .int _ y => some (bif isMax then (if y > x then y else x) else (if y < x then y else x))
        | _, _ => none) (some x) with
      | some r => some [.val (.int k r) W]
      | none => none
    | _ => none
  | .mkMap r => match r with
    | none => some [.val (.map W.n) (W.push (.map [] 0))]
    | some x => match ev x with
      | .int _ _ => some [.val (.map W.n) (W.push (.map [] 0))]
      | _ => none
  | .lookup ks agg zero m k ok =>
    bif akey ks agg (ev k) then match aentries W ks agg (ev m) with
      | none => none
      | some es => match ahits (ev k) es with
        | [] => some [.val (bif ok then .tup [zero, .bool false] else zero) W]
        | [x] => some [.val (bif ok then .tup [x.2.1, .bool true] else x.2.1) W]
        | _ => none
    else none
  | .mapUpdate ks agg m k v => match amapOf W ks agg (ev k) (ev m) with
    | none => none
    | some (r, es, clock) => match ahits (ev k) es with
      | [] => some [.val aundef (W.set r (.map (es ++ [(ev k, ev v, clock)]) (clock + 1)))]
      | [_] => some [.val aundef (W.set r (.map (aput (ev k) (ev v) es) clock))]
      | _ => none
  | .mapEntry ks agg zero m k => match amapOf W ks agg (ev k) (ev m) with
    | none => none
    | some (r, es, clock) => match ahits (ev k) es with
      | [] => some [.val (.tup [zero, .int .i64 clock]) (W.set r (.map (es ++ [(ev k, zero, clock)]) (clock + 1)))]
      | [x] => some [.val (.tup [x.2.1, .int .i64 x.2.2]) (W.set r (.map es clock))]
      | _ => none
  | .entryStore m s v => match ev m, ev s with
    | .map r, .int _ n => match W.get r with
      | .map es clock => bif decide (0 ≤ n) then match aborn n.toNat (ev v) es with
          | some es' => some [.val aundef (W.set r (.map es' clock))]
          | none => none
        else none
      | _ => none
    | _, _ => none
  | .delete ks agg m k => match ev m with
    | .map0 => bif akey ks agg (ev k) then some [.val aundef W] else none
    | m' => match amapOf W ks agg (ev k) m' with
      | none => none
      | some (r, es, clock) => match ahits (ev k) es with
        | [] => some [.val aundef (W.set r (.map es clock))]
        | [_] => some [.val aundef (W.set r (.map (adel (ev k) es) clock))]
        | _ => none
  | .range m => match ev m with
    | .map0 => some [.val (.ptr W.n 0) (W.push (.iter none 0 [] 0))]
    | .map r => match W.get r with
      | .map _ clock => some [.val (.ptr W.n 0) (W.push (.iter (some r) clock [] clock))]
      | _ => none
    | _ => none
  | .next it => match ev it with
    | .ptr g 0 => anext W g
    | _ => none
  | .entry it => match ev it with
    | .ptr g 0 => match aentry W g with
      | some v => some [.val v W]
      | none => none
    | _ => none
  | _ => none
def xMove (ev : AO → AVal) (W : AW) (x : AO) : Option (List AOut) := some [.val (ev x) W]
def xPick (ev : AO → AVal) (W : AW) (c : AO) (a : AO) (b : AO) : Option (List AOut) := match ev c with
    | .bool t => some [.val (bif t then ev a else ev b) W]
    | _ => none
def xAlloc (ev : AO → AVal) (W : AW) (e : Nat) (z : List AVal) : Option (List AOut) := some [.val (.ptr W.n 0) (W.push (.cells z e 0 0 true []))]
def xBox (ev : AO → AVal) (W : AW) (e : Nat) (x : AO) : Option (List AOut) := some [.val (.ptr W.n 0) (W.push (.cells (acells (ev x)) e 0 0 true []))]
def xBuild (ev : AO → AVal) (W : AW) (z : List AVal) (ps : List (Nat × Nat × AO)) : Option (List AOut) := match layParts ev z ps with
    | some cs => some [.val (.agg cs) W]
    | none => none
def xBuildSlice (ev : AO → AVal) (W : AW) (e : Nat) (len : Nat) (esz : Nat) (z : List AVal) (ps : List (Nat × Nat × AO)) : Option (List AOut) := match layParts ev z ps with
    | some cs => some [.val (.sl W.n 0 len len false) (W.push (.cells cs e esz 0 true []))]
    | none => none
def xLoad1 (ev : AO → AVal) (W : AW) (a : AO) : Option (List AOut) := match ev a with
    | .ptr g o => match W.get g with
      | .cells cs _ _ _ _ _ => match cs[o]? with
        | some v => some [.val v W]
        | none => none
      | _ => none
    | _ => none
def xLoadN (ev : AO → AVal) (W : AW) (n : Nat) (a : AO) : Option (List AOut) := match ev a with
    | .ptr g o => match W.get g with
      | .cells cs _ _ _ _ _ => bif Nat.ble (o + n) cs.length then some [.val (.agg ((cs.drop o).take n)) W] else none
      | _ => none
    | _ => none
def xStore (ev : AO → AVal) (W : AW) (n : Nat) (a : AO) (x : AO) : Option (List AOut) := match ev a with
    | .ptr g o => bif Nat.beq (acells (ev x)).length n then
        match W.stores g o (acells (ev x)) with
        | some W' => some [.val aundef W']
        | none => none
      else none
    | _ => none
def xNilCheck (ev : AO → AVal) (W : AW) (x : AO) : Option (List AOut) := match ev x with
    | .ptr g o => some [.val (.ptr g o) W]
    | .fn f a b => some [.val (.fn f a b) W]
    | .yield l => some [.val (.yield l) W]
    | .iface t v => some [.val (.iface t v) W]
    | _ => none
def xBin (ev : AO → AVal) (W : AW) (op : BinOp) (x : AO) (y : AO) : Option (List AOut) := match abin op (ev x) (ev y) with
    | some v => some [.val v W]
    | none => none
def xEqs (ev : AO → AVal) (W : AW) (ks : List SK) (neg : Bool) (x : AO) (y : AO) : Option (List AOut) := match ev x, ev y with
    | .agg xs, .agg ys => bif Nat.beq xs.length ks.length && Nat.beq ys.length ks.length then
        match eqCells ks xs ys with
        | some b => some [.val (.bool (bif neg then !b else b)) W]
        | none => none
      else none
    | _, _ => none
def xEqb (ev : AO → AVal) (W : AW) (neg : Bool) (x : AO) (y : AO) : Option (List AOut) := match ev x, ev y with
    | .bool p, .bool q => some [.val (.bool (bif neg then !(p == q) else (p == q))) W]
    | _, _ => none
def xIsNil (ev : AO → AVal) (W : AW) (nk : NK) (neg : Bool) (x : AO) (y : AO) : Option (List AOut) := match nilEq nk (ev x) (ev y) with
    | some b => some [.val (.bool (bif neg then !b else b)) W]
    | none => none
def xUn (ev : AO → AVal) (W : AW) (op : UnOp) (x : AO) : Option (List AOut) := match aun op (ev x) with
    | some v => some [.val v W]
    | none => none
def xConv (ev : AO → AVal) (W : AW) (k : IntKind) (x : AO) : Option (List AOut) := match ev x with
    | .int _ n => some [.val (.int k (k.wrap n)) W]
    | _ => none
def xMkIface (ev : AO → AVal) (W : AW) (t : Nat) (x : AO) : Option (List AOut) := some [.val (.iface t (ev x)) W]
def xMkFunc (ev : AO → AVal) (W : AW) (f : Nat) (first : List AO) (captured : List AO) : Option (List AOut) := some [.val (.fn f (aevs ev first) (aevs ev captured)) W]
def xFieldAddr (ev : AO → AVal) (W : AW) (off : Nat) (x : AO) : Option (List AOut) := match ev x with
    | .ptr g o => some [.val (.ptr g (o + off)) W]
    | _ => none
def xField (ev : AO → AVal) (W : AW) (off : Nat) (n : Nat) (agg : Bool) (x : AO) : Option (List AOut) := match ev x with
    | .agg cs => bif agg then some [.val (.agg ((cs.drop off).take n)) W] else match cs[off]? with
      | some v => some [.val v W]
      | none => none
    | _ => none
def xIndexAddrA (ev : AO → AVal) (W : AW) (len : Nat) (sz : Nat) (x : AO) (i : AO) : Option (List AOut) := match ev x, ev i with
    | .ptr g o, .int _ i => if 0 ≤ i ∧ i < len then some [.val (.ptr g (o + i.toNat * sz)) W] else none
    | _, _ => none
def xIndexAddrS (ev : AO → AVal) (W : AW) (sz : Nat) (x : AO) (i : AO) : Option (List AOut) := match ev x, ev i with
    | .sl g o len _ _, .int _ i => if 0 ≤ i ∧ i < len then some [.val (.ptr g (o + i.toNat * sz)) W] else none
    | _, _ => none
def xIndex (ev : AO → AVal) (W : AW) (len : Nat) (n : Nat) (agg : Bool) (x : AO) (i : AO) : Option (List AOut) := match ev x, ev i with
    | .agg cs, .int _ i => if 0 ≤ i ∧ i < len then
        bif agg then some [.val (.agg ((cs.drop (i.toNat * n)).take n)) W] else match cs[i.toNat * n]? with
          | some v => some [.val v W]
          | none => none
      else none
    | _, _ => none
def xIndexStr (ev : AO → AVal) (W : AW) (x : AO) (i : AO) : Option (List AOut) := match ev x, ev i with
    | .str s, .int _ i => if 0 ≤ i then match s[i.toNat]? with
        | some b => some [.val (.int .u8 b.toNat) W]
        | none => none
      else none
    | _, _ => none
def xExtract (ev : AO → AVal) (W : AW) (x : AO) (i : Nat) : Option (List AOut) := match ev x with
    | .tup vs => match vs[i]? with
      | some v => some [.val v W]
      | none => none
    | _ => none
def xCallF (ev : AO → AVal) (W : AW) (f : Nat) (args : List AO) : Option (List AOut) := some [.enter f (aevs ev args)]
def xCallV (ev : AO → AVal) (W : AW) (f : AO) (args : List AO) : Option (List AOut) := match ev f with
    | .fn f first captured => some [.enter f (first ++ aevs ev args ++ captured)]
    | .yield l => some [.round l (aevs ev args)]
    | _ => none
def xAdd64 (ev : AO → AVal) (W : AW) (x : AO) (y : AO) (c : AO) : Option (List AOut) := match ev x, ev y, ev c with
    | .int .u64 a, .int .u64 b, .int .u64 k => if 0 ≤ a ∧ 0 ≤ b ∧ 0 ≤ k ∧ k ≤ 1 then some [.val (.tup [.int .u64 ((a + b + k) % 18446744073709551616), .int .u64 ((a + b + k) / 18446744073709551616)]) W] else none
    | _, _, _ => none
def xLen (ev : AO → AVal) (W : AW) (k : LK) (x : AO) : Option (List AOut) := match k, ev x with
    | .sl, .sl0 => some [.val (.int .i64 0) W]
    | .sl, .sl _ _ n _ _ => some [.val (.int .i64 n) W]
    | .sl, .slT _ _ _ => some [.val (.int .i64 0) W]
    | .str, .str s => some [.val (.int .i64 s.size) W]
    | .mp, .map0 => some [.val (.int .i64 0) W]
    | .mp, .map r => match W.get r with
      | .map es _ => some [.val (.int .i64 es.length) W]
      | _ => none
    | _, _ => none
def xLenC (ev : AO → AVal) (W : AW) (n : Nat) (_x1 : AO) : Option (List AOut) := some [.val (.int .i64 n) W]
def xAssert (ev : AO → AVal) (W : AW) (t : Nat) (zero : AVal) (ok : Bool) (x : AO) : Option (List AOut) := match ev x with
    | .iface u v => bif Nat.beq u t then some [.val (bif ok then .tup [v, .bool true] else v) W] else bif ok then some [.val (.tup [zero, .bool false]) W] else none
    | .if0 => bif ok then some [.val (.tup [zero, .bool false]) W] else none
    | _ => none
def xRecover (ev : AO → AVal) (W : AW)  : Option (List AOut) := some [.recover]
def xDefer (ev : AO → AVal) (W : AW) (f : AO) (args : List AO) : Option (List AOut) := match ev f with
    | .fn f first captured => some [.defer (.call f (first ++ aevs ev args ++ captured))]
    | _ => none
def xPanic (ev : AO → AVal) (W : AW) (x : AO) : Option (List AOut) := match ev x with
    | .iface t v => some [.panic (.iface t v)]
    | _ => none
def xSlice (ev : AO → AVal) (W : AW) (sz : Nat) (x : AO) (lo : Option AO) (hi : Option AO) (mx : Option AO) : Option (List AOut) := match ev x with
    | .sl g o len cap op => match abBounds ev len cap lo hi mx with
      | some (l, h, m) =>
        bif (op && mx.isNone) && Nat.beq m l && !Nat.beq l 0 then some [.val (.slT g o (l * sz)) W]
        else some [.val (.sl g (bif Nat.beq m l then o else o + l * sz) (h - l) (m - l) (op && mx.isNone)) W]
      | none => none
    | .sl0 => match abBounds ev 0 0 lo hi mx with
      | some (l, h, m) => some [.val .sl0 W]
      | none => none
    | _ => none
def xSliceArr (ev : AO → AVal) (W : AW) (n : Nat) (sz : Nat) (x : AO) (lo : Option AO) (hi : Option AO) (mx : Option AO) : Option (List AOut) := match ev x with
    | .ptr g o => match abBounds ev n n lo hi mx with
      | some (l, h, m) => some [.val (.sl g (bif Nat.beq m l then o else o + l * sz) (h - l) (m - l) false) W]
      | none => none
    | _ => none
def xAppend (ev : AO → AVal) (W : AW) (e : Nat) (sz : Nat) (bytes : Nat) (z : List AVal) (s : AO) (x : AO) : Option (List AOut) :=
    match (match ev x with
      | .sl0 => some ([], 0)
      | .slT _ _ _ => some ([], 0)
      | .sl g o n _ _ => match W.get g with
        | .cells cs _ _ _ _ _ => bif Nat.ble (o + n * sz) cs.length then some ((cs.drop o).take (n * sz), n) else none
        | _ => none
      | _ => none) with
    | none => none
    | some (new, n) =>
      match ev s with
      | .sl0 => bif Nat.beq n 0 then some [.val .sl0 W] else
          bif Nat.ble n 1048576 then some [.val (.sl W.n 0 n n true) (W.push (.cells new e sz 0 true []))] else none
      | .sl g o len cap op =>
        bif Nat.ble (len + n) cap then
          match W.stores g (o + len * sz) new with
          | some W' => some [.val (.sl g o (len + n) cap op) W']
          | none => none
        else bif !Nat.ble (len + n) 1048576 then none else
          match W.get g with
          | .cells cs e' esz own tip anc =>
            bif op then
              bif Nat.beq o 0 && Nat.beq len cap && Nat.beq (len * sz) cs.length && tip && Nat.beq esz sz && Nat.beq e' e && new.all AVal.one then
                some [.val (.sl W.n 0 (len + n) (len + n) true) (W.grown g cs e esz own anc new)]
              else none
            else bif Nat.ble (o + len * sz) cs.length then some [.val (.sl W.n 0 (len + n) (len + n) true) (W.push (.cells ((cs.drop o).take (len * sz) ++ new) e sz 0 true []))] else none
          | _ => none
      | _ => none
def xCopy (ev : AO → AVal) (W : AW) (sz : Nat) (d : AO) (s : AO) : Option (List AOut) :=
    match ev d, ev s with
    | .sl0, .sl0 | .sl0, .sl .. | .sl .., .sl0 => some [.val (.int .i64 0) W]
    | .sl g o len _ _, .sl g2 o2 n _ _ =>
      match W.get g2 with
      | .cells cs _ _ _ _ _ => bif Nat.ble (o2 + Nat.min n len * sz) cs.length then
          match W.stores g o ((cs.drop o2).take (Nat.min n len * sz)) with
          | some W' => some [.val (.int .i64 (Nat.min n len)) W']
          | none => none
        else none
      | _ => none
    | _, _ => none
def xClear (ev : AO → AVal) (W : AW) (z : List AVal) (x : AO) : Option (List AOut) :=
    match ev x with
    | .sl0 => some [.val (.tup []) W]
    | .sl g o n _ _ => bif Nat.beq n 0 then some [.val (.tup []) W] else match W.stores g o (zeroRow z (n * z.length)) with
        | some W' => some [.val (.tup []) W']
        | none => none
    | _ => none
def xMkSlice (ev : AO → AVal) (W : AW) (e : Nat) (esz : Nat) (bytes : Nat) (z : List AVal) (l : AO) (c : AO) : Option (List AOut) :=
    match ev l, ev c with
    | .int _ l, .int _ c => bif decide (0 ≤ l ∧ l ≤ c ∧ c ≤ 1048576) then
        some [.val (.sl W.n 0 l.toNat c.toNat false) (W.push (.cells (zeroRow z (c.toNat * esz)) e esz 0 true []))] else none
    | _, _ => none
def xMaxmin (ev : AO → AVal) (W : AW) (isMax : Bool) (xs : List AO) : Option (List AOut) :=
    match aevs ev xs with
    | .int k x :: rest => match rest.foldl (fun acc y => match acc, y with
        | some x, .int _ y => some (bif isMax then (if y > x then y else x) else (if y < x then y else x))
        | _, _ => none) (some x) with
      | some r => some [.val (.int k r) W]
      | none => none
    | _ => none
def xMkMap (ev : AO → AVal) (W : AW) (r : Option AO) : Option (List AOut) := match r with
    | none => some [.val (.map W.n) (W.push (.map [] 0))]
    | some x => match ev x with
      | .int _ _ => some [.val (.map W.n) (W.push (.map [] 0))]
      | _ => none
def xLookup (ev : AO → AVal) (W : AW) (ks : List KC) (agg : Bool) (zero : AVal) (m : AO) (k : AO) (ok : Bool) : Option (List AOut) :=
    bif akey ks agg (ev k) then match aentries W ks agg (ev m) with
      | none => none
      | some es => match ahits (ev k) es with
        | [] => some [.val (bif ok then .tup [zero, .bool false] else zero) W]
        | [x] => some [.val (bif ok then .tup [x.2.1, .bool true] else x.2.1) W]
        | _ => none
    else none
def xMapUpdate (ev : AO → AVal) (W : AW) (ks : List KC) (agg : Bool) (m : AO) (k : AO) (v : AO) : Option (List AOut) := match amapOf W ks agg (ev k) (ev m) with
    | none => none
    | some (r, es, clock) => match ahits (ev k) es with
      | [] => some [.val aundef (W.set r (.map (es ++ [(ev k, ev v, clock)]) (clock + 1)))]
      | [_] => some [.val aundef (W.set r (.map (aput (ev k) (ev v) es) clock))]
      | _ => none
def xMapEntry (ev : AO → AVal) (W : AW) (ks : List KC) (agg : Bool) (zero : AVal) (m : AO) (k : AO) : Option (List AOut) := match amapOf W ks agg (ev k) (ev m) with
    | none => none
    | some (r, es, clock) => match ahits (ev k) es with
      | [] => some [.val (.tup [zero, .int .i64 clock]) (W.set r (.map (es ++ [(ev k, zero, clock)]) (clock + 1)))]
      | [x] => some [.val (.tup [x.2.1, .int .i64 x.2.2]) (W.set r (.map es clock))]
      | _ => none
def xEntryStore (ev : AO → AVal) (W : AW) (m : AO) (s : AO) (v : AO) : Option (List AOut) := match ev m, ev s with
    | .map r, .int _ n => match W.get r with
      | .map es clock => bif decide (0 ≤ n) then match aborn n.toNat (ev v) es with
          | some es' => some [.val aundef (W.set r (.map es' clock))]
          | none => none
        else none
      | _ => none
    | _, _ => none
def xDelete (ev : AO → AVal) (W : AW) (ks : List KC) (agg : Bool) (m : AO) (k : AO) : Option (List AOut) := match ev m with
    | .map0 => bif akey ks agg (ev k) then some [.val aundef W] else none
    | m' => match amapOf W ks agg (ev k) m' with
      | none => none
      | some (r, es, clock) => match ahits (ev k) es with
        | [] => some [.val aundef (W.set r (.map es clock))]
        | [_] => some [.val aundef (W.set r (.map (adel (ev k) es) clock))]
        | _ => none
def xRange (ev : AO → AVal) (W : AW) (m : AO) : Option (List AOut) := match ev m with
    | .map0 => some [.val (.ptr W.n 0) (W.push (.iter none 0 [] 0))]
    | .map r => match W.get r with
      | .map _ clock => some [.val (.ptr W.n 0) (W.push (.iter (some r) clock [] clock))]
      | _ => none
    | _ => none
def xNext (ev : AO → AVal) (W : AW) (it : AO) : Option (List AOut) := match ev it with
    | .ptr g 0 => anext W g
    | _ => none
def xEntry (ev : AO → AVal) (W : AW) (it : AO) : Option (List AOut) := match ev it with
    | .ptr g 0 => match aentry W g with
      | some v => some [.val v W]
      | none => none
    | _ => none
def xop (ev : AO → AVal) (W : AW) : AOp → Option (List AOut)
  | .move v0 => xMove ev W v0
  | .pick v0 v1 v2 => xPick ev W v0 v1 v2
  | .alloc v0 v1 => xAlloc ev W v0 v1
  | .box v0 v1 => xBox ev W v0 v1
  | .build v0 v1 => xBuild ev W v0 v1
  | .buildSlice v0 v1 v2 v3 v4 => xBuildSlice ev W v0 v1 v2 v3 v4
  | .load1 v0 => xLoad1 ev W v0
  | .loadN v0 v1 => xLoadN ev W v0 v1
  | .store v0 v1 v2 => xStore ev W v0 v1 v2
  | .nilCheck v0 => xNilCheck ev W v0
  | .bin v0 v1 v2 => xBin ev W v0 v1 v2
  | .eqs v0 v1 v2 v3 => xEqs ev W v0 v1 v2 v3
  | .eqb v0 v1 v2 => xEqb ev W v0 v1 v2
  | .isNil v0 v1 v2 v3 => xIsNil ev W v0 v1 v2 v3
  | .un v0 v1 => xUn ev W v0 v1
  | .conv v0 v1 => xConv ev W v0 v1
  | .mkIface v0 v1 => xMkIface ev W v0 v1
  | .mkFunc v0 v1 v2 => xMkFunc ev W v0 v1 v2
  | .fieldAddr v0 v1 => xFieldAddr ev W v0 v1
  | .field v0 v1 v2 v3 => xField ev W v0 v1 v2 v3
  | .indexAddrA v0 v1 v2 v3 => xIndexAddrA ev W v0 v1 v2 v3
  | .indexAddrS v0 v1 v2 => xIndexAddrS ev W v0 v1 v2
  | .index v0 v1 v2 v3 v4 => xIndex ev W v0 v1 v2 v3 v4
  | .indexStr v0 v1 => xIndexStr ev W v0 v1
  | .extract v0 v1 => xExtract ev W v0 v1
  | .callF v0 v1 => xCallF ev W v0 v1
  | .callV v0 v1 => xCallV ev W v0 v1
  | .add64 v0 v1 v2 => xAdd64 ev W v0 v1 v2
  | .len v0 v1 => xLen ev W v0 v1
  | .lenC v0 v1 => xLenC ev W v0 v1
  | .assert v0 v1 v2 v3 => xAssert ev W v0 v1 v2 v3
  | .recover  => xRecover ev W 
  | .defer v0 v1 => xDefer ev W v0 v1
  | .panic v0 => xPanic ev W v0
  | .slice v0 v1 v2 v3 v4 => xSlice ev W v0 v1 v2 v3 v4
  | .sliceArr v0 v1 v2 v3 v4 v5 => xSliceArr ev W v0 v1 v2 v3 v4 v5
  | .append v0 v1 v2 v3 v4 v5 => xAppend ev W v0 v1 v2 v3 v4 v5
  | .copy v0 v1 v2 => xCopy ev W v0 v1 v2
  | .clear v0 v1 => xClear ev W v0 v1
  | .mkSlice v0 v1 v2 v3 v4 v5 => xMkSlice ev W v0 v1 v2 v3 v4 v5
  | .maxmin v0 v1 => xMaxmin ev W v0 v1
  | .mkMap v0 => xMkMap ev W v0
  | .lookup v0 v1 v2 v3 v4 v5 => xLookup ev W v0 v1 v2 v3 v4 v5
  | .mapUpdate v0 v1 v2 v3 v4 => xMapUpdate ev W v0 v1 v2 v3 v4
  | .mapEntry v0 v1 v2 v3 v4 => xMapEntry ev W v0 v1 v2 v3 v4
  | .entryStore v0 v1 v2 => xEntryStore ev W v0 v1 v2
  | .delete v0 v1 v2 v3 => xDelete ev W v0 v1 v2 v3
  | .range v0 => xRange ev W v0
  | .next v0 => xNext ev W v0
  | .entry v0 => xEntry ev W v0
  | _ => none
theorem xop_eq (ev : AO → AVal) (W : AW) (op : AOp) : xop ev W op = xopS ev W op := by cases op <;> rfl
end Go.Eng

/- Engine 6: how an operation of the model is made into an abstract one. -/
namespace Go.Eng
set_option linter.unusedVariables false
set_option linter.unusedSimpArgs false

/-- the one function without a body that is taken -/
def isAdd64 (P : Program) (g : Nat) : Bool := match P.funcs[g]? with
  | some fn => fn.body.isNone && fn.name == "math/bits.Add64" && fn.origin == ""
  | none => false
def compUpdate (P : Program) (t : TypeId) (m k x : Operand) : Option AOp :=
  match P.underlying t, compO m, compO k, compO x with
  | some (.map kt _), some m, some k, some x => match keyShape P kt with
    | some (ks, agg) => some (.mapUpdate ks agg m k x)
    | none => none
  | _, _, _, _ => none
def compOp (P : Program) (op : Op) : Option AOp :=
  match op with
  | .move x => (compO x).map .move
  | .assign x => (compO x).map .move
  | .pick c a b => match compO c, compO a, compO b with
    | some c, some a, some b => some (.pick c a b)
    | _, _, _ => none
  | .alloc e => (tyZero P e).map fun z => .alloc e (acells z)
  | .box e x => (compO x).map (.box e)
  | .build t ps => match tyZero P t, P.underlying t with
    | some z, some (.struct fields) =>
      match fields.toList.mapM (fun f => (P.info? f.type).map fun i => (f.offset, i.size)) with
      | some places => (compPs (fun i => places[i]?) ps.toList).map (.build (acells z))
      | none => none
    | some z, some (.array _ e) => match tySize P e with
      | some sz => (compPs (fun i => some (i * sz, sz)) ps.toList).map (.build (acells z))
      | none => none
    | _, _ => none
  | .buildSlice t len ps => match P.underlying t with
    | some (.slice e) => match tySize P e, tyZero P e with
      | some sz, some z => if len * sz ≤ 2 ^ 24 ∧ (acells z).length = sz then (compPs (fun i => some (i * sz, sz)) ps.toList).map (.buildSlice e len sz (zeroRow (acells z) (len * sz))) else none
      | _, _ => none
    | _ => none
  | .load t a => match tyAgg P t, tySize P t, compO a with
    | some true, some n, some a => some (.loadN n a)
    | some false, _, some a => some (.load1 a)
    | _, _, _ => none
  | .store t a x => match tySize P t, compO a, compO x with
    | some n, some a, some x => some (.store n a x)
    | _, _, _ => none
  | .nilCheck x => (compO x).map .nilCheck
  | .binOp op xt x y _ => match compO x, compO y with
    | some x', some y' =>
      if op = .eql ∨ op = .neq then
        match P.underlying xt with
        | some (.int _) | some .string => some (.bin op x' y')
        | some .bool => some (.eqb (decide (op = .neq)) x' y')
        | some (.struct _) | some (.array _ _) => match simpleEq P 16 xt with
          | some n => if P.eqGuardType P.depth xt = false then some (.eqs n (decide (op = .neq)) x' y') else none
          | none => none
        | some (.pointer _) => some (.isNil .p (decide (op = .neq)) x' y')
        | some (.slice _) => some (.isNil .s (decide (op = .neq)) x' y')
        | some (.map _ _) => some (.isNil .m (decide (op = .neq)) x' y')
        | some (.func _ _ _) => some (.isNil .f (decide (op = .neq)) x' y')
        | some (.interface _) => match x, y with
          | .const _, _ => some (.isNil .i (decide (op = .neq)) x' y')
          | _, .const _ => some (.isNil .i (decide (op = .neq)) x' y')
          | _, _ => none
        | _ => none
      else some (.bin op x' y')
    | _, _ => none
  | .unOp op _ x => (compO x).map (.un op)
  | .convert s d x => match P.underlying s, P.underlying d, compO x with
    | some _, some (.int k), some x => some (.conv k x)
    | _, _, _ => none
  | .makeInterface t x => match P.concrete t, compO x with
    | true, some x => some (.mkIface t x)
    | _, _ => none
  | .makeFunc (.func f) first captured => match compOs first.toList, compOs captured.toList with
    | some a, some b => some (.mkFunc f a b)
    | _, _ => none
  | .makeSlice t l c => match P.underlying t with
    | some (.slice e) => match tySize P e, tyBytes P e, tyZero P e, compO l, compO c with
      | some sz, some bytes, some z, some l, some c => if bytes ≤ 65536 ∧ (acells z).length = sz then some (.mkSlice e sz bytes (acells z) l c) else none
      | _, _, _, _, _ => none
    | _ => none
  | .slice t x lo hi mx => match compO x, compOO lo, compOO hi, compOO mx with
    | some x, some lo, some hi, some mx => match P.underlying t with
      | some (.slice e) => (tySize P e).map fun sz => .slice sz x lo hi mx
      | some (.array n e) => (tySize P e).map fun sz => .sliceArr n sz x lo hi mx
      | _ => none
    | _, _, _, _ => none
  | .fieldAddr s x f => match P.underlying s, compO x with
    | some (.struct fields), some x => match fields[f]? with
      | some fd => match tySize P fd.type with
        | some n => if n = 0 then none else some (.fieldAddr fd.offset x)
        | none => none
      | none => none
    | _, _ => none
  | .field t x f => match P.underlying t, compO x with
    | some (.struct fields), some x => match fields[f]? with
      | some fd => match tyAgg P fd.type, tySize P fd.type with
        | some b, some n => some (.field fd.offset n b x)
        | _, _ => none
      | none => none
    | _, _ => none
  | .indexAddr t x i => match P.underlying t, compO x, compO i with
    | some (.array len e), some x, some i => (tySize P e).map fun sz => .indexAddrA len sz x i
    | some (.slice e), some x, some i => (tySize P e).map fun sz => .indexAddrS sz x i
    | _, _, _ => none
  | .index t x i => match P.underlying t, compO x, compO i with
    | some (.array len e), some x, some i => match tyAgg P e, tySize P e with
      | some b, some n => some (.index len n b x i)
      | _, _ => none
    | some .string, some x, some i => some (.indexStr x i)
    | _, _, _ => none
  | .typeAssert x _ t ok => match P.concrete t, tyZero P t, compO x with
    | true, some z, some x => some (.assert t z ok x)
    | _, _, _ => none
  | .extract x i => (compO x).map fun x => .extract x i
  | .call c => match c.callee, compOs c.args.toList with
    | .value f, some args => match compO f with
      | some (.c (.fn f [] [])) => if isAdd64 P f = true then (match args with
        | [x, y, k] => some (.add64 x y k)
        | _ => none) else some (.callF f args)
      | some f => some (.callV f args)
      | none => none
    | .builtin .len, some [x] => match c.argTypes[0]? with
      | some t => match P.underlying t with
        | some (.array n _) => some (.lenC n x)
        | some (.slice _) => some (.len .sl x)
        | some .string => some (.len .str x)
        | some (.map _ _) => some (.len .mp x)
        | _ => none
      | none => none
    | .builtin .append, some [s, x] => match c.argTypes.toList with
      | [t, u] => match P.underlying t, P.underlying u with
        | some (.slice e), some (.slice _) => match tySize P e, tyBytes P e, tyZero P e with
          | some sz, some bytes, some z => if 0 < bytes ∧ bytes ≤ 65536 ∧ (acells z).length = sz then some (.append e sz bytes (acells z) s x) else none
          | _, _, _ => none
        | _, _ => none
      | _ => none
    | .builtin .copy, some [d, s] => match c.argTypes.toList with
      | [t, _] => match P.underlying t with
        | some (.slice e) => (tySize P e).map fun sz => .copy sz d s
        | _ => none
      | _ => none
    | .builtin .clear, some [x] => match c.argTypes.toList with
      | [t] => match P.underlying t with
        | some (.slice e) => (tyZero P e).map fun z => .clear (acells z) x
        | _ => none
      | _ => none
    | .builtin .delete, some [m, k] => match c.argTypes.toList with
      | t :: _ => match P.underlying t with
        | some (.map kt _) => match keyShape P kt with
          | some (ks, agg) => some (.delete ks agg m k)
          | none => none
        | _ => none
      | _ => none
    | .builtin .max, some xs => some (.maxmin true xs)
    | .builtin .min, some xs => some (.maxmin false xs)
    | .builtin .recover, some [] => some .recover
    | _, _ => none
  | .makeMap t none => match P.underlying t with
    | some (.map _ _) => some (.mkMap none)
    | _ => none
  | .makeMap t (some x) => match P.underlying t, compO x with
    | some (.map _ _), some x => some (.mkMap (some x))
    | _, _ => none
  | .lookup t m k ok => match P.underlying t, compO m, compO k with
    | some (.map kt e), some m, some k => match keyShape P kt, tyZero P e with
      | some (ks, agg), some z => some (.lookup ks agg z m k ok)
      | _, _ => none
    | _, _, _ => none
  | .mapUpdate t m k x => compUpdate P t m k x
  | .insert t m k x => compUpdate P t m k x
  | .mapEntry t m k => match P.underlying t, compO m, compO k with
    | some (.map kt e), some m, some k => match keyShape P kt, tyZero P e with
      | some (ks, agg), some z => some (.mapEntry ks agg z m k)
      | _, _ => none
    | _, _, _ => none
  | .entryStore _ m s x => match compO m, compO s, compO x with
    | some m, some s, some x => some (.entryStore m s x)
    | _, _, _ => none
  | .range t x => match P.underlying t, compO x with
    | some (.map _ _), some x => some (.range x)
    | _, _ => none
  | .next it false => (compO it).map .next
  | .entry it => (compO it).map .entry
  | .defer c => match c.callee, compOs c.args.toList with
    | .value f, some args => (compO f).map fun f => .defer f args
    | _, _ => none
  | .panic x => (compO x).map .panic
  | _ => none
end Go.Eng

/- Engine 7: the abstract operations tell what the model's do. First part: what makes no slice longer. -/
namespace Go.Eng
set_option linter.unusedVariables false
set_option linter.unusedSimpArgs false
variable {CR : CodeR} {P : Program}

def nxVal : Next → Option Value
  | .value v => some v
  | .skip => some undef
  | _ => none
def cdefer (ρ : Rho) : ADefer → Deferred → Prop
  | .call f args, d => okvs ρ args ∧ ∃ captured pre, d.target = .fn (.func f) captured ∧ d.args = pre ∧ (pre ++ captured) = (cvs ρ args).toArray
  | .collected r, d => (ρ r).isSome = true ∧ d.target = .collected (ρ.blk r) ∧ d.args = #[]

def OutR (CR : CodeR) (P : Program) (ρ : Rho) (W : AW) (w : World) (a : Act) (o : Oper) : AOut → Prop
  | .val v W' => ∃ ρ' w' nx, (execOp a.eval o).run P w = .ok nx w' ∧ nxVal nx = some (cv ρ' v) ∧ okv ρ' v ∧ WR CR ρ' W' w' ∧ Ext ρ W w ρ' W' w'
  | .enter f args => okvs ρ args ∧ ∀ fn, P.funcs[f]? = some fn → fn.body.isSome = true → (fn.name == "runtime.NumGoroutine") = false → (execOp a.eval o).run P w = .ok (.enter f (cvs ρ args).toArray) w
  | .round l args => okvs ρ args ∧ (ρ l).isSome = true ∧ ∀ r, w.heap[ρ.blk l]? = some (.loop r) → r.params.size = args.length →
      (execOp a.eval o).run P w = .ok (.round (ρ.blk l) r.fn ((r.params.zip (cvs ρ args).toArray).foldl (fun tmps (t, a) => tmps.setIfInBounds t a) r.tmps) r.assign r.body) w
  | .defer d => ∃ d', (execOp a.eval o).run P w = .ok (.defer d') w ∧ cdefer ρ d d'
  | .recover => (execOp a.eval o).run P w = .ok .recover w
  | .panic v => (execOp a.eval o).run P w = .halt (.panic (cv ρ v)) w ∧ okv ρ v

def Sim1 (CR : CodeR) (P : Program) (ρ : Rho) (W : AW) (w : World) (a : Act) (o : Oper) (outs : List AOut) : Prop :=
  ∃ out ∈ outs, OutR CR P ρ W w a o out

section
variable {ρ : Rho} {W : AW} {w : World} {a : Act} {o : Oper} {outs : List AOut} {ev : AO → AVal}
/-- an operation that leaves the world alone -/
def SimQ (P : Program) (ρ : Rho) (W : AW) (w : World) (a : Act) (o : Oper) (outs : List AOut) : Prop :=
  ∃ v, outs = [.val v W] ∧ (execOp a.eval o).run P w = .ok (.value (cv ρ v)) w ∧ okv ρ v
theorem SimQ.same {v : AVal} (hW : WR CR ρ W w) (hrun : (execOp a.eval o).run P w = .ok (.value (cv ρ v)) w) (hok : okv ρ v) : SimQ P ρ W w a o [.val v W] :=
  ⟨v, rfl, hrun, hok⟩
/-- an operation that makes a new block -/
def SimA (CR : CodeR) (P : Program) (ρ : Rho) (W : AW) (w : World) (a : Act) (o : Oper) (outs : List AOut) : Prop :=
  ∃ v blk obj, outs = [.val v (W.push blk)] ∧ (execOp a.eval o).run P w = .ok (.value (cv (ρ.upd W.n w.heap.size 0) v)) (wpush w obj) ∧ okv (ρ.upd W.n w.heap.size 0) v ∧ BR CR ρ 0 blk obj ∧ blk ≠ .dead
theorem Sim1.same {v : AVal} (hW : WR CR ρ W w) (hrun : (execOp a.eval o).run P w = .ok (.value (cv ρ v)) w) (hok : okv ρ v) : Sim1 CR P ρ W w a o [.val v W] :=
  ⟨.val v W, by simp, ρ, w, _, hrun, rfl, hok, hW, Ext.refl _ _ _⟩
theorem Sim1.here {out : AOut} (h : OutR CR P ρ W w a o out) : Sim1 CR P ρ W w a o [out] := ⟨_, by simp, h⟩

theorem SimQ.sim1 (hW : WR CR ρ W w) (h : SimQ P ρ W w a o outs) : Sim1 CR P ρ W w a o outs := by
  obtain ⟨v, rfl, h1, h2⟩ := h
  exact .same hW h1 h2
theorem SimA.sim1 (hW : WR CR ρ W w) (h : SimA CR P ρ W w a o outs) : Sim1 CR P ρ W w a o outs := by
  obtain ⟨v, blk, obj, rfl, h1, h2, h3, h4⟩ := h
  have hp := hW.push h3 h4
  exact .here ⟨_, _, _, h1, rfl, h2, hp.1, hp.2⟩

theorem map_some {α β : Type} {x : Option α} {f : α → β} {y : β} (h : x.map f = some y) : ∃ z, x = some z ∧ f z = y := by
  cases x with
  | none => cases h
  | some z => cases h; exact ⟨z, rfl, rfl⟩

theorem sim_move (x : Operand) (hop : o.op = .move x ∨ o.op = .assign x) {ao : AOp} (hc : compOp P o.op = some ao) (hev : EvR ρ ev a.eval) (hW : WR CR ρ W w) (hx : xop ev W ao = some outs) : SimQ P ρ W w a o outs := by
  rcases hop with hop | hop <;> rw [hop] at hc <;> simp only [compOp] at hc <;> obtain ⟨x', hx', rfl⟩ := map_some hc <;> cases hx <;>
    exact .same hW (by simp [execOp, hop, (hev _ _ hx').1]) (hev _ _ hx').2

theorem sim_pick (c x y : Operand) (hop : o.op = .pick c x y) {ao : AOp} (hc : compOp P o.op = some ao) (hev : EvR ρ ev a.eval) (hW : WR CR ρ W w) (hx : xop ev W ao = some outs) : SimQ P ρ W w a o outs := by
  rw [hop] at hc
  simp only [compOp] at hc
  split at hc
  · rename_i c' x' y' h1 h2 h3
    cases hc
    simp only [xop_eq, xopS] at hx
    split at hx
    · rename_i t ht
      cases hx
      have p := hev _ _ h1
      rw [ht] at p
      refine .same hW ?_ ?_
      · cases t <;> simp [execOp, hop, p.1, cv, (hev _ _ h2).1, (hev _ _ h3).1, asBool]
      · cases t
        · exact (hev _ _ h3).2
        · exact (hev _ _ h2).2
    · cases hx
  · cases hc

/-- a new row of cells -/
theorem new_cells (hW : WR CR ρ W w) {cs : List AVal} {e esz s : Nat} {rest : List Value} (hok : okvs ρ cs) (hs : s * esz ≤ rest.length) :
    WR CR (ρ.upd W.n w.heap.size s) (W.push (.cells cs e esz 0 true [])) (wpush w (.cells (cvs ρ cs ++ rest).toArray e (0, 0))) ∧
      Ext ρ W w (ρ.upd W.n w.heap.size s) (W.push (.cells cs e esz 0 true [])) (wpush w (.cells (cvs ρ cs ++ rest).toArray e (0, 0))) :=
  hW.push ⟨Nat.zero_le _, hok, by simp, _, rest, rfl, by simp, hs⟩ (by simp)
theorem new_cells0 (hW : WR CR ρ W w) {cs : List AVal} {e esz : Nat} {arr : Array Value} (hok : okvs ρ cs) (harr : arr = (cvs ρ cs).toArray) :
    WR CR (ρ.upd W.n w.heap.size 0) (W.push (.cells cs e esz 0 true [])) (wpush w (.cells arr e (0, 0))) ∧
      Ext ρ W w (ρ.upd W.n w.heap.size 0) (W.push (.cells cs e esz 0 true [])) (wpush w (.cells arr e (0, 0))) := by
  have := new_cells (rest := []) hW (e := e) (esz := esz) (s := 0) hok (by simp)
  subst harr
  simpa using this
theorem br_cells0 {cs : List AVal} {e esz : Nat} {arr : Array Value} (hok : okvs ρ cs) (harr : arr = (cvs ρ cs).toArray) : BR CR ρ 0 (.cells cs e esz 0 true []) (.cells arr e (0, 0)) :=
  ⟨Nat.zero_le _, hok, by simp, arr, [], rfl, by rw [harr]; simp, by simp⟩
theorem run_newRow (e : TypeId) (c : Array Value) : (newRow e c).run P w = .ok ⟨w.heap.size, 0, none⟩ (wpush w (.cells c e (0, 0))) := by
  simp [newRow, wpush]
theorem blk_upd (n b s : Nat) : (ρ.upd n b s).blk n = b := by simp [Rho.blk, Rho.upd_same]
theorem slack_upd (n b s : Nat) : (ρ.upd n b s).slack n = s := by simp [Rho.slack, Rho.upd_same]

theorem sim_alloc (e : TypeId) (hop : o.op = .alloc e) {ao : AOp} (hc : compOp P o.op = some ao) (hev : EvR ρ ev a.eval) (hW : WR CR ρ W w) (hx : xop ev W ao = some outs) : SimA CR P ρ W w a o outs := by
  rw [hop] at hc
  simp only [compOp] at hc
  obtain ⟨z, hz, rfl⟩ := map_some hc
  cases hx
  obtain ⟨v, hv, hcv⟩ := run_zeroValue' (w := w) hz
  refine ⟨_, _, .cells v.cells e (0, 0), rfl, ?_, ?_, br_cells0 (okvs_acells (hcv ρ).2) (by rw [← (hcv ρ).1, cells_cv]), by simp⟩
  · simp [execOp, hop, Instr.alloc, hv, newVar, run_newRow, cv, blk_upd]
  · simp [okv, Rho.upd_same]

theorem sim_box (e : TypeId) (x : Operand) (hop : o.op = .box e x) {ao : AOp} (hc : compOp P o.op = some ao) (hev : EvR ρ ev a.eval) (hW : WR CR ρ W w) (hx : xop ev W ao = some outs) : SimA CR P ρ W w a o outs := by
  rw [hop] at hc
  simp only [compOp] at hc
  obtain ⟨x', hx', rfl⟩ := map_some hc
  cases hx
  have p := hev _ _ hx'
  refine ⟨_, _, .cells (a.eval x).cells e (0, 0), rfl, ?_, ?_, br_cells0 (okvs_acells p.2) (by rw [p.1, cells_cv]), by simp⟩
  · simp [execOp, hop, Instr.box, newVar, run_newRow, cv, blk_upd]
  · simp [okv, Rho.upd_same]

/-! filling -/
theorem foldl_lay : ∀ (vs cs : List Value) (off k : Nat), ((vs.zipIdx k).foldl (fun (cs : Array Value) (x : Value × Nat) => cs.setIfInBounds (off + x.2) x.1) cs.toArray) = (lay cs (off + k) vs).toArray
  | [], cs, off, k => by simp [lay_nil]
  | v :: vs, cs, off, k => by
    simp only [List.zipIdx_cons, List.foldl_cons]
    have : cs.toArray.setIfInBounds (off + k) v = (cs.set (off + k) v).toArray := by simp
    rw [this, foldl_lay vs _ off (k + 1), lay_cons]
    simp [Nat.add_assoc]
theorem fill_spec (hev : EvR ρ ev a.eval) (place : Nat → Option (Nat × Nat)) : ∀ (ps : List (Nat × Operand)) (as : List (Nat × Nat × AO)) (cs cs' : List AVal), compPs place ps = some as → okvs ρ cs → layParts ev cs as = some cs' →
    Instr.fill place (cvs ρ cs).toArray (ps.map fun x => (x.1, a.eval x.2)) = some (cvs ρ cs').toArray ∧ okvs ρ cs'
  | [], as, cs, cs', h, hok, hl => by
    cases h; cases hl
    exact ⟨rfl, hok⟩
  | (i, x) :: ps, as, cs, cs', h, hok, hl => by
    unfold compPs at h
    split at h
    · rename_i off sz x' as' h1 h2 h3
      cases h
      unfold layParts at hl
      cases hb : (Nat.beq (acells (ev x')).length sz && Nat.ble (off + sz) cs.length) <;> rw [hb] at hl
      · cases hl
      · simp only [Bool.and_eq_true] at hb
        have e1 := Nat.eq_of_beq_eq_true hb.1
        have e2 := Nat.le_of_ble_eq_true hb.2
        have p := hev _ _ h2
        have hcells : (a.eval x).cells = (cvs ρ (acells (ev x'))).toArray := by rw [p.1, cells_cv]
        have ih := fill_spec hev place ps as' (lay cs off (acells (ev x'))) cs' h3 (okvs_lay _ _ _ hok (okvs_acells p.2)) hl
        refine ⟨?_, ih.2⟩
        simp only [List.map_cons, Instr.fill, h1, hcells]
        rw [if_neg (by simp [e1]; omega)]
        rw [← ih.1, cvs_lay]
        congr 1
        have := foldl_lay (cvs ρ (acells (ev x'))) (cvs ρ cs) off 0
        rw [Nat.add_zero] at this
        rw [← this]
        rw [← Array.foldl_toList]
        simp
    · cases h

theorem sim_build (t : TypeId) (ps : Array (Nat × Operand)) (hop : o.op = .build t ps) {ao : AOp} (hc : compOp P o.op = some ao) (hev : EvR ρ ev a.eval) (hW : WR CR ρ W w) (hx : xop ev W ao = some outs) : SimQ P ρ W w a o outs := by
  rw [hop] at hc
  simp only [compOp] at hc
  have hz0 : ∀ z, tyZero P t = some z → ∃ it v, P.info? t = some it ∧ it.zero = some v ∧ (∀ ρ, cv ρ z = v ∧ okv ρ z) := by
    intro z hz
    unfold tyZero at hz
    cases hi : P.info? t with
    | none => rw [hi] at hz; cases hz
    | some i =>
      rw [hi] at hz; simp only [Option.bind_some] at hz
      cases hz' : i.zero with
      | none => rw [hz'] at hz; cases hz
      | some v => rw [hz'] at hz; exact ⟨i, v, rfl, hz', fun ρ => av?_spec hz ρ⟩
  have fin : ∀ (place : Nat → Option (Nat × Nat)) (z : AVal) (it : TypeInfo) (v : Value) (as : List (Nat × Nat × AO)) (cs' : List AVal), P.info? t = some it → it.zero = some v → (∀ ρ, cv ρ z = v ∧ okv ρ z) →
      compPs place ps.toList = some as → layParts ev (acells z) as = some cs' → (Instr.fill place v.cells (ps.toList.map fun x => (x.1, a.eval x.2)) = some (cvs ρ cs').toArray ∧ okvs ρ cs') := by
    intro place z it v as cs' hi hz hv hp hl
    have := fill_spec hev place ps.toList as (acells z) cs' hp (okvs_acells (hv ρ).2) hl
    rw [← cells_cv, (hv ρ).1] at this
    exact this
  split at hc
  · rename_i z fields hz hu
    obtain ⟨it, v, hi, hz', hv⟩ := hz0 z hz
    split at hc
    · rename_i places hpl
      obtain ⟨as, has, rfl⟩ := map_some hc
      simp only [xop_eq, xopS] at hx
      split at hx
      · rename_i cs' hl
        cases hx
        obtain ⟨hf, hok⟩ := fin _ z it v as cs' hi hz' hv has hl
        refine .same hW ?_ hok
        have hb : P.built t (ps.map fun x => (x.1, a.eval x.2)).toList = some (cvs ρ cs').toArray := by
          unfold Program.built
          simp only [hi, hu, hz', hpl]
          simpa using hf
        simp only [execOp, hop, Sem.run_bind]
        rw [run_build w t _ _ hb]
        simp [cv]
      · cases hx
    · cases hc
  · rename_i z len e hz hu
    obtain ⟨it, v, hi, hz', hv⟩ := hz0 z hz
    split at hc
    · rename_i sz hsz
      obtain ⟨as, has, rfl⟩ := map_some hc
      simp only [xop_eq, xopS] at hx
      split at hx
      · rename_i cs' hl
        cases hx
        obtain ⟨hf, hok⟩ := fin _ z it v as cs' hi hz' hv has hl
        refine .same hW ?_ hok
        unfold tySize at hsz
        obtain ⟨ie, hie, rfl⟩ := map_some hsz
        have hb : P.built t (ps.map fun x => (x.1, a.eval x.2)).toList = some (cvs ρ cs').toArray := by
          unfold Program.built
          simp only [hi, hu, hz', hie]
          simpa using hf
        simp only [execOp, hop, Sem.run_bind]
        rw [run_build w t _ _ hb]
        simp [cv]
      · cases hx
    · cases hc
  · cases hc

theorem zeroRow_spec {z : AVal} {v : Value} {n : Nat} (hz : cv ρ z = v ∧ okv ρ z) (hn : n ≠ 0 → (acells z).length ≠ 0) :
    ((Array.range n).map fun i => v.cells[i % v.cells.size]!) = (cvs ρ (zeroRow (acells z) n)).toArray ∧ okvs ρ (zeroRow (acells z) n) := by
  have hcells : v.cells = (cvs ρ (acells z)).toArray := by rw [← hz.1, cells_cv]
  constructor
  · apply Array.ext
    · simp [zeroRow]
    · intro i h1 h2
      have hin : i < n := by simpa using h1
      have hne := hn (by omega)
      have hmod : i % (acells z).length < (acells z).length := Nat.mod_lt _ (by omega)
      simp only [Array.getElem_map, Array.getElem_range, hcells, List.size_toArray, cvs_map, zeroRow, List.map_map, List.getElem_toArray, List.getElem_map, List.getElem_range, Function.comp_apply]
      rw [getElem!_pos _ _ (by simpa using hmod)]
      simp only [List.getElem_toArray, List.getElem_map]
      rw [List.getD_eq_getElem?_getD, List.getElem?_eq_getElem hmod]
      simp
  · rw [okvs_all]
    intro x hx
    simp only [zeroRow, List.mem_map, List.mem_range] at hx
    obtain ⟨i, hi, rfl⟩ := hx
    have hne := hn (by omega)
    have hmod : i % (acells z).length < (acells z).length := Nat.mod_lt _ (by omega)
    rw [List.getD_eq_getElem?_getD, List.getElem?_eq_getElem hmod]
    exact (okvs_all ρ _).1 (okvs_acells hz.2) _ (List.getElem_mem _)
end
end Go.Eng

/- Engine 8: the abstract operations tell what the model's do. Second part. -/
namespace Go.Eng
set_option linter.unusedVariables false
set_option linter.unusedSimpArgs false
variable {CR : CodeR} {P : Program}
section
variable {ρ : Rho} {W : AW} {w : World} {a : Act} {o : Oper} {outs : List AOut} {ev : AO → AVal}

theorem sim_buildSlice (t : TypeId) (len : Nat) (ps : Array (Nat × Operand)) (hop : o.op = .buildSlice t len ps) {ao : AOp} (hc : compOp P o.op = some ao) (hev : EvR ρ ev a.eval) (hW : WR CR ρ W w) (hx : xop ev W ao = some outs) : SimA CR P ρ W w a o outs := by
  rw [hop] at hc
  simp only [compOp] at hc
  split at hc
  · rename_i e hu
    split at hc
    · rename_i sz z hsz hz
      split at hc
      · rename_i hcond
        obtain ⟨c1, c2⟩ := hcond
        obtain ⟨as, has, rfl⟩ := map_some hc
        simp only [xop_eq, xopS] at hx
        split at hx
        · rename_i cs hl
          cases hx
          obtain ⟨v, hv, hcv⟩ := run_zeroValue' (w := w) hz
          have hzr := zeroRow_spec (hcv ρ) (n := len * sz) (fun h => by rw [c2]; intro e; rw [e] at h; simp at h)
          have hf := fill_spec hev _ ps.toList as _ cs has hzr.2 hl
          refine ⟨_, _, .cells (cvs ρ cs).toArray e (0, 0), rfl, ?_, ?_, br_cells0 hf.2 rfl, by simp⟩
          · have hrow : ∀ zero : Array Value, (len * sz ≠ 0 → zero = v.cells) → ((Array.range (len * sz)).map fun x => zero[x % zero.size]!) = (cvs ρ (zeroRow (acells z) (len * sz))).toArray := by
              intro zero hzero
              by_cases h0 : len * sz = 0
              · rw [h0]; simp [zeroRow, cvs]
              · rw [hzero h0]; exact hzr.1
            simp only [execOp, hop, Instr.buildSlice, Sem.run_bind, run_underlying' hu, run_sizeOf' hsz, Result.andThen_ok]
            rw [if_neg (by omega)]
            have hps : (ps.map fun x => (x.1, a.eval x.2)).toList = ps.toList.map fun x => (x.1, a.eval x.2) := by simp
            by_cases h0 : len * sz = 0
            · rw [if_pos h0]
              simp only [Sem.run_bind, Sem.run_pure, Result.andThen_ok]
              rw [hrow #[] (fun h => absurd h0 h), hps, hf.1]
              simp [run_newRow, cv, blk_upd]
            · rw [if_neg h0]
              simp only [Sem.run_bind, hv, Sem.run_pure, Result.andThen_ok]
              rw [hrow v.cells (fun _ => rfl), hps, hf.1]
              simp [run_newRow, cv, blk_upd]
          · simp [okv, Rho.upd_same]
        · cases hx
      · cases hc
    · cases hc
  · cases hc

theorem rho_of {g : Nat} (h : (ρ g).isSome = true) : ∃ b s, ρ g = some (b, s) ∧ ρ.blk g = b ∧ ρ.slack g = s := by
  obtain ⟨⟨b, s⟩, hx⟩ := Option.isSome_iff_exists.1 h
  exact ⟨b, s, hx, by simp [Rho.blk, hx], by simp [Rho.slack, hx]⟩

theorem sim_load (t : TypeId) (x : Operand) (hop : o.op = .load t x) {ao : AOp} (hc : compOp P o.op = some ao) (hev : EvR ρ ev a.eval) (hW : WR CR ρ W w) (hx : xop ev W ao = some outs) : SimQ P ρ W w a o outs := by
  rw [hop] at hc
  simp only [compOp] at hc
  split at hc
  · rename_i n x' hagg hsz hx'
    cases hc
    have p := hev _ _ hx'
    simp only [xop_eq, xopS] at hx
    split at hx
    · rename_i g off hg
      rw [hg] at p
      obtain ⟨b, s, hρ, hb, _⟩ := rho_of p.2
      split at hx
      · rename_i cs e esz own tip anc hcs
        cases hle : Nat.ble (off + n) cs.length <;> rw [hle] at hx
        · cases hx
        cases hx
        have hle' := Nat.le_of_ble_eq_true hle
        obtain ⟨hok, c', rest, ho, hcc, _⟩ := hW.cells hρ hcs
        refine .same hW ?_ (okvs_take _ (okvs_drop _ hok))
        simp only [execOp, hop, p.1, cv, hb, Instr.loadAt, Instr.sureAddr, Sem.run_bind, Sem.run_pure, Result.andThen_ok, loadVar, run_isAgg' hagg, if_true, run_sizeOf' hsz, run_loadCells P ho hcc (i := off) (n := n) (by simpa using hle'), cvs_take, cvs_drop]
      · cases hx
    · cases hx
  · rename_i x' hagg hx'
    cases hc
    have p := hev _ _ hx'
    simp only [xop_eq, xopS] at hx
    split at hx
    · rename_i g off hg
      rw [hg] at p
      obtain ⟨b, s, hρ, hb, _⟩ := rho_of p.2
      split at hx
      · rename_i cs e esz own tip anc hcs
        split at hx
        · rename_i v hv
          cases hx
          obtain ⟨hok, c', rest, ho, hcc, _⟩ := hW.cells hρ hcs
          have hlt : off < cs.length := (List.getElem?_eq_some_iff.1 hv).1
          refine .same hW ?_ (okvs_get hok hv)
          have hcell := cell_at ho hcc (i := off) (by simpa using hlt)
          have : (cvs ρ cs)[off]'(by simpa using hlt) = cv ρ v := by
            have := cvs_get ρ hv
            rw [List.getElem?_eq_getElem (by simpa using hlt)] at this
            exact Option.some.inj this
          rw [this] at hcell
          simp only [execOp, hop, p.1, cv, hb, Instr.loadAt, Instr.sureAddr, Sem.run_bind, Sem.run_pure, Result.andThen_ok, loadVar, run_isAgg' hagg, Bool.false_eq_true, if_false, run_load_at P hcell]
        · cases hx
      · cases hx
    · cases hx
  · cases hc

theorem sim_store (t : TypeId) (x y : Operand) (hop : o.op = .store t x y) {ao : AOp} (hc : compOp P o.op = some ao) (hev : EvR ρ ev a.eval) (hW : WR CR ρ W w) (hx : xop ev W ao = some outs) : Sim1 CR P ρ W w a o outs := by
  rw [hop] at hc
  simp only [compOp] at hc
  split at hc
  · rename_i n x' y' hsz hx' hy'
    cases hc
    have p := hev _ _ hx'
    have q := hev _ _ hy'
    simp only [xop_eq, xopS] at hx
    split at hx
    · rename_i g off hg
      rw [hg] at p
      obtain ⟨b, s, hρ, hb, _⟩ := rho_of p.2
      cases hle : Nat.beq (acells (ev y')).length n <;> rw [hle] at hx
      · cases hx
      have hlen := Nat.eq_of_beq_eq_true hle
      simp only [cond_true] at hx
      split at hx
      · rename_i W' hs
        cases hx
        obtain ⟨w', hrun, hW', hE⟩ := hW.stores P hρ hs (okvs_acells q.2)
        refine .here ⟨ρ, w', .skip, ?_, rfl, trivial, hW', hE⟩
        have hcells : (a.eval y).cells = (cvs ρ (acells (ev y'))).toArray := by rw [q.1, cells_cv]
        simp only [execOp, hop, p.1, cv, hb, Instr.storeAt, Instr.sureAddr, Sem.run_bind, Sem.run_pure, Result.andThen_ok, storeVar, run_sizeOf' hsz, hcells]
        rw [if_neg (by simp [hlen])]
        simp only [hrun, Sem.run_pure, Result.andThen_ok]
      · cases hx
    · cases hx
  · cases hc

theorem sim_nilCheck (x : Operand) (hop : o.op = .nilCheck x) {ao : AOp} (hc : compOp P o.op = some ao) (hev : EvR ρ ev a.eval) (hW : WR CR ρ W w) (hx : xop ev W ao = some outs) : SimQ P ρ W w a o outs := by
  rw [hop] at hc
  simp only [compOp] at hc
  obtain ⟨x', hx', rfl⟩ := map_some hc
  have p := hev _ _ hx'
  simp only [xop_eq, xopS] at hx
  split at hx <;> first | cases hx | skip
  all_goals
    rename_i hg
    rw [hg] at p
    exact .same hW (by simp [execOp, hop, p.1, cv]) p.2

theorem eqGuard_int {op : BinOp} {t : TypeId} {x y : Operand} {v u : Value} (h : (∃ k n, v = .int k n) ∨ (∃ s, v = .string s) ∨ (∃ b, v = .bool b)) : (eqGuard op t x y v u).run P w = .ok () w := by
  unfold eqGuard
  rcases h with ⟨k, n, rfl⟩ | ⟨s, rfl⟩ | ⟨b, rfl⟩ <;> cases op <;> simp
theorem abin_plain {op : BinOp} {x y r : AVal} (h : abin op x y = some r) : (∃ k n, cv ρ x = .int k n) ∨ (∃ s, cv ρ x = .string s) ∨ (∃ b, cv ρ x = .bool b) := by
  unfold abin at h
  split at h <;> first | cases h | skip
  · exact .inl ⟨_, _, rfl⟩
  · exact .inl ⟨_, _, rfl⟩
  · exact .inl ⟨_, _, rfl⟩
  · exact .inr (.inl ⟨_, rfl⟩)
theorem sim_bin (op : BinOp) (xt yt : TypeId) (x y : Operand) (x' y' : AO) (hop : o.op = .binOp op xt x y yt) (hx' : compO x = some x') (hy' : compO y = some y') (hev : EvR ρ ev a.eval) (hW : WR CR ρ W w) (hx : xop ev W (.bin op x' y') = some outs) : SimQ P ρ W w a o outs := by
  have p := hev _ _ hx'
  have q := hev _ _ hy'
  simp only [xop_eq, xopS] at hx
  split at hx
  · rename_i v hv
    cases hx
    have hs := abin_spec (P := P) (w := w) (ρ := ρ) (xt := xt) hv
    refine .same hW ?_ hs.2
    have hg := eqGuard_int (P := P) (w := w) (op := op) (t := xt) (x := x) (y := y) (u := cv ρ (ev y')) (abin_plain (ρ := ρ) hv)
    simp only [execOp, hop, p.1, q.1, Sem.run_bind, hg, hs.1, Result.andThen_ok, Sem.run_pure]
  · cases hx

theorem simpleEq_agg : ∀ {d : Nat} {t : TypeId} {ks : List SK}, simpleEq P d t = some ks → (∃ fs, P.underlying t = some (.struct fs)) ∨ (∃ n e, P.underlying t = some (.array n e)) → tyAgg P t = some true := by
  intro d t ks _ h
  rcases h with ⟨fs, h⟩ | ⟨n, e, h⟩ <;> simp [tyAgg, h]

theorem sim_eqs (neg : Bool) (op : BinOp) (hneg : op = if neg then .neq else .eql) (xt yt : TypeId) (x y : Operand) (x' y' : AO) (ks : List SK) (hop : o.op = .binOp op xt x y yt) (hx' : compO x = some x') (hy' : compO y = some y')
    (hks : simpleEq P 16 xt = some ks) (hagg : tyAgg P xt = some true) (hgd : P.eqGuardType P.depth xt = false) (hev : EvR ρ ev a.eval) (hW : WR CR ρ W w) (hx : xop ev W (.eqs ks neg x' y') = some outs) : SimQ P ρ W w a o outs := by
  have p := hev _ _ hx'
  have q := hev _ _ hy'
  simp only [xop_eq, xopS] at hx
  split at hx
  · rename_i xs ys hxs hys
    cases hl : (Nat.beq xs.length ks.length && Nat.beq ys.length ks.length) <;> rw [hl] at hx
    · cases hx
    simp only [Bool.and_eq_true] at hl
    have l1 := Nat.eq_of_beq_eq_true hl.1
    have l2 := Nat.eq_of_beq_eq_true hl.2
    simp only [cond_true] at hx
    split at hx
    · rename_i b hb
      cases hx
      have he := eq_spec (P := P) ρ 16 xt ks hks 10000 (by omega) w xs ys b l1 l2 hb
      simp only [valOf, hagg, if_true] at he
      rw [hxs] at p; rw [hys] at q
      refine .same hW ?_ trivial
      have hg := run_eqGuard_agg (P := P) w op xt x y (cvs ρ xs).toArray (cvs ρ ys).toArray hgd
      cases neg
      · subst hneg
        simp only [execOp, hop, p.1, q.1, cv, Sem.run_bind, if_false, Bool.false_eq_true] at *
        rw [hg]
        simp [binOp, Op.equal, Op.maxDepth, he]
      · subst hneg
        simp only [execOp, hop, p.1, q.1, cv, Sem.run_bind, if_true] at *
        rw [hg]
        simp [binOp, Op.equal, Op.maxDepth, he]
    · cases hx
  · cases hx

theorem run_binEq {xt : TypeId} {v u : Value} {b : Bool} (neg : Bool) (hv : ∀ k n, v ≠ .int k n) (hs : ∀ s, v ≠ .string s) (hf : ∀ k n, v ≠ .float k n) (hcx : ∀ k n m, v ≠ .complex k n m)
    (h : (Op.equalIn (9999 + 1) xt v u).run P w = .ok b w) : (binOp (if neg then .neq else .eql) xt v u).run P w = .ok (.bool (if neg then !b else b)) w := by
  have h' : (Op.equal xt v u).run P w = .ok b w := h
  cases neg <;> cases v <;> first
    | exact absurd rfl (hv _ _)
    | exact absurd rfl (hs _)
    | exact absurd rfl (hf _ _)
    | exact absurd rfl (hcx _ _ _)
    | (simp only [binOp, if_true, if_false, Bool.false_eq_true, Sem.run_bind, h', Result.andThen_ok]; simp)

theorem sim_eqb (neg : Bool) (op : BinOp) (hneg : op = if neg then .neq else .eql) (xt yt : TypeId) (x y : Operand) (x' y' : AO) (hop : o.op = .binOp op xt x y yt) (hx' : compO x = some x') (hy' : compO y = some y')
    (hu : P.underlying xt = some .bool) (hev : EvR ρ ev a.eval) (hW : WR CR ρ W w) (hx : xop ev W (.eqb neg x' y') = some outs) : SimQ P ρ W w a o outs := by
  have p := hev _ _ hx'
  have q := hev _ _ hy'
  simp only [xop_eq, xopS] at hx
  split at hx
  · rename_i u v hxs hys
    cases hx
    rw [hxs] at p; rw [hys] at q
    simp only [cv] at p q
    refine .same hW ?_ trivial
    have hg := eqGuard_int (P := P) (w := w) (op := op) (t := xt) (x := x) (y := y) (v := .bool u) (u := .bool v) (.inr (.inr ⟨_, rfl⟩))
    have hb := run_binEq (P := P) (w := w) (xt := xt) (v := .bool u) (u := .bool v) neg (by simp) (by simp) (by simp) (by simp) (run_equalIn_bool' w 9999 xt u v hu)
    subst hneg
    simp only [execOp, hop, p.1, q.1, Sem.run_bind, hg, Result.andThen_ok, hb, Sem.run_pure, cv]
    cases neg <;> rfl
  · cases hx

def nkOf : NK → TypeDesc → Prop
  | .p, d => ∃ e, d = .pointer e
  | .s, d => ∃ e, d = .slice e
  | .m, d => ∃ k e, d = .map k e
  | .f, d => ∃ p r v, d = .func p r v
  | .i, d => ∃ ms, d = .interface ms
theorem nilEq_spec {nk : NK} {d : TypeDesc} {xt : TypeId} {u v : AVal} {b : Bool} (hu : P.underlying xt = some d) (hd : nkOf nk d) (h : nilEq nk u v = some b) (D : Nat) :
    (Op.equalIn (D + 1) xt (cv ρ u) (cv ρ v)).run P w = .ok b w ∧ (∀ k n, cv ρ u ≠ .int k n) ∧ (∀ s, cv ρ u ≠ .string s) ∧ (∀ k n, cv ρ u ≠ .float k n) ∧ (∀ k n m, cv ρ u ≠ .complex k n m) ∧
      ((∀ l k, cv ρ u ≠ .agg l ∨ cv ρ v ≠ .agg k) ∧ ((cv ρ u ≠ .nilIface ∨ cv ρ v ≠ .nilIface) ∨ nk = .i)) := by
  unfold nilEq at h
  split at h <;> first | cases h | skip
  all_goals
    simp only [nkOf] at hd
    refine ⟨?_, by simp [cv], by simp [cv], by simp [cv], by simp [cv], by simp [cv], by simp [cv]⟩
  all_goals first
    | (obtain ⟨p, r, v, rfl⟩ := hd; simp only [Op.equalIn, Sem.run_bind, run_underlying' hu, Result.andThen_ok, cv]; simp; done)
    | (obtain ⟨k, e, rfl⟩ := hd; simp only [Op.equalIn, Sem.run_bind, run_underlying' hu, Result.andThen_ok, cv]; simp; done)
    | (obtain ⟨e, rfl⟩ := hd; simp only [Op.equalIn, Sem.run_bind, run_underlying' hu, Result.andThen_ok, cv]; simp; done)

theorem eqGuard_else {op : BinOp} {t : TypeId} {x y : Operand} {u v : Value} (h1 : op ≠ .eql) (h2 : op ≠ .neq) : (eqGuard op t x y u v).run P w = .ok () w := by
  cases op <;> first | rfl | exact absurd rfl h1 | exact absurd rfl h2
theorem eqGuard_other {op : BinOp} {t : TypeId} {x y : Operand} {u v : Value} (h : ∀ l k, u ≠ .agg l ∨ v ≠ .agg k) (h' : u = .nilIface → v = .nilIface → False) : (eqGuard op t x y u v).run P w = .ok () w := by
  by_cases h1 : op = .eql
  · subst h1
    cases u <;> cases v <;> first | rfl | exact (h' rfl rfl).elim | (rcases h _ _ with h | h <;> exact absurd rfl h)
  · by_cases h2 : op = .neq
    · subst h2
      cases u <;> cases v <;> first | rfl | exact (h' rfl rfl).elim | (rcases h _ _ with h | h <;> exact absurd rfl h)
    · exact eqGuard_else h1 h2
theorem eqGuard_nil {op : BinOp} {t : TypeId} {x y : Operand} (h : (∃ v, x = .const v) ∨ ∃ v, y = .const v) : (eqGuard op t x y .nilIface .nilIface).run P w = .ok () w := by
  by_cases h1 : op = .eql
  · subst h1
    rcases h with ⟨v, rfl⟩ | ⟨v, rfl⟩
    · rfl
    · cases x <;> rfl
  · by_cases h2 : op = .neq
    · subst h2
      rcases h with ⟨v, rfl⟩ | ⟨v, rfl⟩
      · rfl
      · cases x <;> rfl
    · exact eqGuard_else h1 h2

theorem sim_isNil (nk : NK) (neg : Bool) (op : BinOp) (hneg : op = if neg then .neq else .eql) (xt yt : TypeId) (x y : Operand) (x' y' : AO) (hop : o.op = .binOp op xt x y yt) (hx' : compO x = some x') (hy' : compO y = some y')
    {d : TypeDesc} (hu : P.underlying xt = some d) (hd : nkOf nk d) (hi : nk = .i → (∃ v, x = .const v) ∨ ∃ v, y = .const v) (hev : EvR ρ ev a.eval) (hW : WR CR ρ W w) (hx : xop ev W (.isNil nk neg x' y') = some outs) : SimQ P ρ W w a o outs := by
  have p := hev _ _ hx'
  have q := hev _ _ hy'
  simp only [xop_eq, xopS] at hx
  split at hx
  · rename_i b hb
    cases hx
    obtain ⟨h1, h2, h3, h4, h5, h6, h7⟩ := nilEq_spec (P := P) (w := w) (ρ := ρ) hu hd hb 9999
    have hbin := run_binEq neg h2 h3 h4 h5 h1
    have hg : (eqGuard op xt x y (cv ρ (ev x')) (cv ρ (ev y'))).run P w = .ok () w := by
      by_cases hii : cv ρ (ev x') = .nilIface ∧ cv ρ (ev y') = .nilIface
      · rw [hii.1, hii.2]
        have := h7.resolve_left (fun h => h.elim (fun h => h hii.1) (fun h => h hii.2))
        exact eqGuard_nil (hi this)
      · exact eqGuard_other h6 (fun e1 e2 => hii ⟨e1, e2⟩)
    subst hneg
    refine .same hW ?_ trivial
    simp only [execOp, hop, p.1, q.1, Sem.run_bind, hg, Result.andThen_ok, hbin, Sem.run_pure, cv]
    cases neg <;> rfl
  · cases hx
end
end Go.Eng

/- Engine 9: the abstract operations tell what the model's do. Third part. -/
namespace Go.Eng
set_option linter.unusedVariables false
set_option linter.unusedSimpArgs false
variable {CR : CodeR} {P : Program}
section
variable {ρ : Rho} {W : AW} {w : World} {a : Act} {o : Oper} {outs : List AOut} {ev : AO → AVal}

theorem sim_binOp (op : BinOp) (xt yt : TypeId) (x y : Operand) (hop : o.op = .binOp op xt x y yt) {ao : AOp} (hc : compOp P o.op = some ao) (hev : EvR ρ ev a.eval) (hW : WR CR ρ W w) (hx : xop ev W ao = some outs) : SimQ P ρ W w a o outs := by
  rw [hop] at hc
  simp only [compOp] at hc
  split at hc
  case h_2 => cases hc
  rename_i x' y' hx' hy'
  split at hc
  case isFalse => cases hc; exact sim_bin op xt yt x y x' y' hop hx' hy' hev hW hx
  rename_i hop'
  have hneg : op = if (decide (op = .neq)) then .neq else .eql := by
    rcases hop' with rfl | rfl <;> simp
  split at hc
  · cases hc; exact sim_bin op xt yt x y x' y' hop hx' hy' hev hW hx
  · cases hc; exact sim_bin op xt yt x y x' y' hop hx' hy' hev hW hx
  · rename_i hu; cases hc; exact sim_eqb _ op hneg xt yt x y x' y' hop hx' hy' hu hev hW hx
  · rename_i fs hu
    split at hc
    · rename_i ks hks
      split at hc
      · rename_i hgd
        cases hc
        exact sim_eqs _ op hneg xt yt x y x' y' ks hop hx' hy' hks (simpleEq_agg hks (.inl ⟨_, hu⟩)) hgd hev hW hx
      · cases hc
    · cases hc
  · rename_i n e hu
    split at hc
    · rename_i ks hks
      split at hc
      · rename_i hgd
        cases hc
        exact sim_eqs _ op hneg xt yt x y x' y' ks hop hx' hy' hks (simpleEq_agg hks (.inr ⟨_, _, hu⟩)) hgd hev hW hx
      · cases hc
    · cases hc
  · rename_i e hu; cases hc; exact sim_isNil .p _ op hneg xt yt x y x' y' hop hx' hy' hu ⟨_, rfl⟩ (by simp) hev hW hx
  · rename_i e hu; cases hc; exact sim_isNil .s _ op hneg xt yt x y x' y' hop hx' hy' hu ⟨_, rfl⟩ (by simp) hev hW hx
  · rename_i k e hu; cases hc; exact sim_isNil .m _ op hneg xt yt x y x' y' hop hx' hy' hu ⟨_, _, rfl⟩ (by simp) hev hW hx
  · rename_i p r v hu; cases hc; exact sim_isNil .f _ op hneg xt yt x y x' y' hop hx' hy' hu ⟨_, _, _, rfl⟩ (by simp) hev hW hx
  · rename_i ms hu
    split at hc
    · cases hc; exact sim_isNil .i _ op hneg xt yt _ _ x' y' hop hx' hy' hu ⟨_, rfl⟩ (fun _ => .inl ⟨_, rfl⟩) hev hW hx
    · cases hc; exact sim_isNil .i _ op hneg xt yt _ _ x' y' hop hx' hy' hu ⟨_, rfl⟩ (fun _ => .inr ⟨_, rfl⟩) hev hW hx
    · cases hc
  · cases hc

theorem sim_unOp (op : UnOp) (t : TypeId) (x : Operand) (hop : o.op = .unOp op t x) {ao : AOp} (hc : compOp P o.op = some ao) (hev : EvR ρ ev a.eval) (hW : WR CR ρ W w) (hx : xop ev W ao = some outs) : SimQ P ρ W w a o outs := by
  rw [hop] at hc
  simp only [compOp] at hc
  obtain ⟨x', hx', rfl⟩ := map_some hc
  have p := hev _ _ hx'
  simp only [xop_eq, xopS] at hx
  split at hx
  · rename_i v hv
    cases hx
    have hs := aun_spec (P := P) (w := w) (ρ := ρ) hv
    exact .same hW (by simp [execOp, hop, p.1, hs.1]) hs.2
  · cases hx

theorem sim_convert (s d : TypeId) (x : Operand) (hop : o.op = .convert s d x) {ao : AOp} (hc : compOp P o.op = some ao) (hev : EvR ρ ev a.eval) (hW : WR CR ρ W w) (hx : xop ev W ao = some outs) : SimQ P ρ W w a o outs := by
  rw [hop] at hc
  simp only [compOp] at hc
  split at hc
  · rename_i sd k x' hs hd hx'
    cases hc
    have p := hev _ _ hx'
    simp only [xop_eq, xopS] at hx
    split at hx
    · rename_i k' n hn
      cases hx
      rw [hn] at p
      refine .same hW ?_ trivial
      have hcv : (convert s d (.int k' n)).run P w = .ok (.int k (k.wrap n)) w := by
        simp only [convert, Sem.run_bind, run_underlying' hs, run_underlying' hd, Result.andThen_ok]
        cases sd <;> rfl
      simp only [execOp, hop, p.1, cv, Sem.run_bind, hcv, Result.andThen_ok, Sem.run_pure]
    · cases hx
  · cases hc

theorem sim_makeInterface (t : TypeId) (x : Operand) (hop : o.op = .makeInterface t x) {ao : AOp} (hc : compOp P o.op = some ao) (hev : EvR ρ ev a.eval) (hW : WR CR ρ W w) (hx : xop ev W ao = some outs) : SimQ P ρ W w a o outs := by
  rw [hop] at hc
  simp only [compOp] at hc
  split at hc
  · rename_i x' hcon hx'
    cases hc
    have p := hev _ _ hx'
    cases hx
    exact .same hW (by simp [execOp, hop, run_makeInterface w t _ hcon, p.1, cv]) p.2
  · cases hc

theorem arr_of {arr : Array Operand} {f : Operand → Value} {l : List Value} {Q : Prop} (h : arr.toList.map f = l ∧ Q) : arr.map f = l.toArray := by
  rw [← h.1]; apply Array.ext'; simp
theorem sim_makeFunc (f : FuncId) (fs cs : Array Operand) (hop : o.op = .makeFunc (.func f) fs cs) {ao : AOp} (hc : compOp P o.op = some ao) (hev : EvR ρ ev a.eval) (hW : WR CR ρ W w) (hx : xop ev W ao = some outs) : SimQ P ρ W w a o outs := by
  rw [hop] at hc
  simp only [compOp] at hc
  split at hc
  · rename_i x y h1 h2
    cases hc
    cases hx
    have p := hev.all h1
    have q := hev.all h2
    refine .same hW ?_ ⟨p.2, q.2⟩
    have e1 := arr_of p
    have e2 := arr_of q
    simp [execOp, hop, Instr.makeFunc, e1, e2, cv]
  · cases hc

theorem add_addr (b o n : Nat) : ((⟨b, o, none⟩ : Addr).add n) = ⟨b, o + n, none⟩ := by
  unfold Addr.add; split
  · rename_i e; subst e; rfl
  · rfl

theorem sim_fieldAddr (s : TypeId) (x : Operand) (f : Nat) (hop : o.op = .fieldAddr s x f) {ao : AOp} (hc : compOp P o.op = some ao) (hev : EvR ρ ev a.eval) (hW : WR CR ρ W w) (hx : xop ev W ao = some outs) : SimQ P ρ W w a o outs := by
  rw [hop] at hc
  simp only [compOp] at hc
  split at hc
  · rename_i fields x' hu hx'
    split at hc
    · rename_i fd hfd
      split at hc
      · rename_i n hn
        split at hc
        · cases hc
        · rename_i hn0
          cases hc
          have p := hev _ _ hx'
          simp only [xop_eq, xopS] at hx
          split at hx
          · rename_i g off hg
            cases hx
            rw [hg] at p
            refine .same hW ?_ p.2
            simp only [execOp, hop, p.1, cv, Instr.fieldAt, Sem.run_bind, run_underlying' hu, hfd, Result.andThen_ok, Instr.sureAddr, Sem.run_pure, fieldPlace, run_sizeOf' hn]
            rw [if_neg hn0]
            simp [add_addr]
          · cases hx
      · cases hc
    · cases hc
  · cases hc

theorem sim_field (t : TypeId) (x : Operand) (f : Nat) (hop : o.op = .field t x f) {ao : AOp} (hc : compOp P o.op = some ao) (hev : EvR ρ ev a.eval) (hW : WR CR ρ W w) (hx : xop ev W ao = some outs) : SimQ P ρ W w a o outs := by
  rw [hop] at hc
  simp only [compOp] at hc
  split at hc
  · rename_i fields x' hu hx'
    split at hc
    · rename_i fd hfd
      split at hc
      · rename_i b n hagg hn
        cases hc
        have p := hev _ _ hx'
        simp only [xop_eq, xopS] at hx
        split at hx
        · rename_i cs hcs
          rw [hcs] at p
          cases b with
          | true =>
            cases hx
            refine .same hW ?_ (okvs_take _ (okvs_drop _ p.2))
            simp only [execOp, hop, p.1, cv, Instr.field, Sem.run_bind, run_underlying' hu, hfd, Result.andThen_ok, asAgg, Sem.run_pure, part, run_isAgg' hagg, if_true, run_sizeOf' hn]
            simp [cvs_take, cvs_drop]
          | false =>
            simp only [cond_false] at hx
            split at hx
            · rename_i v hv
              cases hx
              refine .same hW ?_ (okvs_get p.2 hv)
              have hget : (cvs ρ cs).toArray[fd.offset]? = some (cv ρ v) := by simpa using cvs_get ρ hv
              simp only [execOp, hop, p.1, cv, Instr.field, Sem.run_bind, run_underlying' hu, hfd, Result.andThen_ok, asAgg, Sem.run_pure, part, run_isAgg' hagg, Bool.false_eq_true, if_false, hget]
            · cases hx
        · cases hx
      · cases hc
    · cases hc
  · cases hc

theorem sim_indexAddr (t : TypeId) (x i : Operand) (hop : o.op = .indexAddr t x i) {ao : AOp} (hc : compOp P o.op = some ao) (hev : EvR ρ ev a.eval) (hW : WR CR ρ W w) (hx : xop ev W ao = some outs) : SimQ P ρ W w a o outs := by
  rw [hop] at hc
  simp only [compOp] at hc
  split at hc
  · rename_i len e x' i' hu hx' hi'
    obtain ⟨sz, hsz, rfl⟩ := map_some hc
    have p := hev _ _ hx'
    have q := hev _ _ hi'
    simp only [xop_eq, xopS] at hx
    split at hx
    · rename_i g off k n hg hn
      rw [hg] at p; rw [hn] at q
      split at hx
      · rename_i hb
        cases hx
        refine .same hW ?_ p.2
        simp only [execOp, hop, p.1, q.1, cv, Instr.indexAt, asIntOf, Sem.run_bind, Sem.run_pure, run_underlying' hu, Result.andThen_ok, Instr.sureAddr]
        rw [if_pos hb]
        simp [run_sizeOf' hsz, add_addr]
      · cases hx
    · cases hx
  · rename_i e x' i' hu hx' hi'
    obtain ⟨sz, hsz, rfl⟩ := map_some hc
    have p := hev _ _ hx'
    have q := hev _ _ hi'
    simp only [xop_eq, xopS] at hx
    split at hx
    · rename_i g off len cap op k n hg hn
      rw [hg] at p; rw [hn] at q
      split at hx
      · rename_i hb
        cases hx
        refine .same hW ?_ p.2
        simp only [execOp, hop, p.1, q.1, cv, Instr.indexAt, asIntOf, Sem.run_bind, Sem.run_pure, run_underlying' hu, Result.andThen_ok]
        rw [if_pos hb]
        simp [run_sizeOf' hsz, add_addr]
      · cases hx
    · cases hx
  · cases hc

theorem sim_index (t : TypeId) (x i : Operand) (hop : o.op = .index t x i) {ao : AOp} (hc : compOp P o.op = some ao) (hev : EvR ρ ev a.eval) (hW : WR CR ρ W w) (hx : xop ev W ao = some outs) : SimQ P ρ W w a o outs := by
  rw [hop] at hc
  simp only [compOp] at hc
  split at hc
  · rename_i len e x' i' hu hx' hi'
    split at hc
    · rename_i b n hagg hn
      cases hc
      have p := hev _ _ hx'
      have q := hev _ _ hi'
      simp only [xop_eq, xopS] at hx
      split at hx
      · rename_i cs k m hcs hm
        rw [hcs] at p; rw [hm] at q
        split at hx
        · rename_i hb
          cases b with
          | true =>
            cases hx
            refine .same hW ?_ (okvs_take _ (okvs_drop _ p.2))
            simp only [execOp, hop, p.1, q.1, cv, Instr.index, asIntOf, Sem.run_bind, Sem.run_pure, run_underlying' hu, Result.andThen_ok]
            rw [if_pos hb]
            simp only [Sem.run_bind, run_sizeOf' hn, Result.andThen_ok, part, run_isAgg' hagg, if_true]
            simp [cvs_take, cvs_drop]
          | false =>
            simp only [cond_false] at hx
            split at hx
            · rename_i v hv
              cases hx
              refine .same hW ?_ (okvs_get p.2 hv)
              have hget : (cvs ρ cs).toArray[m.toNat * n]? = some (cv ρ v) := by simpa using cvs_get ρ hv
              simp only [execOp, hop, p.1, q.1, cv, Instr.index, asIntOf, Sem.run_bind, Sem.run_pure, run_underlying' hu, Result.andThen_ok]
              rw [if_pos hb]
              simp only [Sem.run_bind, run_sizeOf' hn, Result.andThen_ok, part, run_isAgg' hagg, Bool.false_eq_true, if_false, hget, Sem.run_pure]
            · cases hx
        · cases hx
      · cases hx
    · cases hc
  · rename_i x' i' hu hx' hi'
    cases hc
    have p := hev _ _ hx'
    have q := hev _ _ hi'
    simp only [xop_eq, xopS] at hx
    split at hx
    · rename_i s k n hs hn
      rw [hs] at p; rw [hn] at q
      split at hx
      · rename_i hb
        split at hx
        · rename_i c hcc
          cases hx
          refine .same hW ?_ trivial
          simp only [execOp, hop, p.1, q.1, cv, Instr.index, asIntOf, Sem.run_bind, Sem.run_pure, run_underlying' hu, Result.andThen_ok]
          rw [if_pos hb, hcc]
          rfl
        · cases hx
      · cases hx
    · cases hx
  · cases hc

theorem sim_extract (x : Operand) (i : Nat) (hop : o.op = .extract x i) {ao : AOp} (hc : compOp P o.op = some ao) (hev : EvR ρ ev a.eval) (hW : WR CR ρ W w) (hx : xop ev W ao = some outs) : SimQ P ρ W w a o outs := by
  rw [hop] at hc
  simp only [compOp] at hc
  obtain ⟨x', hx', rfl⟩ := map_some hc
  have p := hev _ _ hx'
  simp only [xop_eq, xopS] at hx
  split at hx
  · rename_i vs hvs
    rw [hvs] at p
    split at hx
    · rename_i v hv
      cases hx
      refine .same hW ?_ (okvs_get p.2 hv)
      have hget : (cvs ρ vs).toArray[i]? = some (cv ρ v) := by simpa using cvs_get ρ hv
      simp only [execOp, hop, p.1, cv, Instr.extract, hget, Sem.run_bind, Sem.run_pure, Result.andThen_ok]
    · cases hx
  · cases hx

theorem sim_typeAssert (x : Operand) (xt t : TypeId) (ok : Bool) (hop : o.op = .typeAssert x xt t ok) {ao : AOp} (hc : compOp P o.op = some ao) (hev : EvR ρ ev a.eval) (hW : WR CR ρ W w) (hx : xop ev W ao = some outs) : SimQ P ρ W w a o outs := by
  rw [hop] at hc
  simp only [compOp] at hc
  split at hc
  · rename_i z x' hcon hz hx'
    cases hc
    have p := hev _ _ hx'
    obtain ⟨v0, hv0, hcv⟩ := run_zeroValue' (w := w) hz
    obtain ⟨d, hd, hni⟩ : ∃ d, P.underlying t = some d ∧ ∀ ms, d ≠ .interface ms := by
      unfold Program.concrete at hcon
      split at hcon
      · cases hcon
      · cases hcon
      · rename_i h1 h2
        cases hd : P.underlying t with
        | none => exact absurd hd h2
        | some d => exact ⟨d, rfl, fun ms e => h1 ms (by rw [hd, e])⟩
    simp only [xop_eq, xopS] at hx
    split at hx
    · rename_i u v hu
      rw [hu] at p
      cases hut : Nat.beq u t with
      | true =>
        rw [hut] at hx
        cases hx
        have hut' := Nat.eq_of_beq_eq_true hut
        subst hut'
        have hrun : (Instr.typeAssert (.iface u (cv ρ v)) xt u ok).run P w = .ok (if ok then .tuple #[cv ρ v, .bool true] else cv ρ v) w := by
          simp only [Instr.typeAssert, Sem.run_bind, run_underlying' hd, Result.andThen_ok]
          cases d <;> first | exact absurd rfl (hni _) | (cases ok <;> simp)
        refine .same hW ?_ ?_
        · simp only [execOp, hop, p.1, cv, Sem.run_bind, hrun, Result.andThen_ok, Sem.run_pure]
          cases ok <;> simp [cv, cvs]
        · cases ok
          · exact p.2
          · exact ⟨p.2, trivial, trivial⟩
      | false =>
        rw [hut] at hx
        cases ok with
        | false => cases hx
        | true =>
          cases hx
          have hne : ¬ u = t := fun e => by rw [e] at hut; simp [Nat.beq_refl] at hut
          have hrun : (Instr.typeAssert (.iface u (cv ρ v)) xt t true).run P w = .ok (.tuple #[v0, .bool false]) w := by
            simp only [Instr.typeAssert, Sem.run_bind, run_underlying' hd, Result.andThen_ok]
            cases d <;> first | exact absurd rfl (hni _) | simp [hne, hv0]
          refine .same hW ?_ ⟨(hcv ρ).2, trivial, trivial⟩
          simp only [execOp, hop, p.1, cv, Sem.run_bind, hrun, Result.andThen_ok, Sem.run_pure]
          simp [cvs, (hcv ρ).1, cv]
    · rename_i hu
      rw [hu] at p
      cases ok with
      | false => cases hx
      | true =>
        cases hx
        have hrun : (Instr.typeAssert .nilIface xt t true).run P w = .ok (.tuple #[v0, .bool false]) w := by
          simp only [Instr.typeAssert, Sem.run_bind, run_underlying' hd, Result.andThen_ok]
          cases d <;> first | exact absurd rfl (hni _) | simp [hv0]
        refine .same hW ?_ ⟨(hcv ρ).2, trivial, trivial⟩
        simp only [execOp, hop, p.1, cv, Sem.run_bind, hrun, Result.andThen_ok, Sem.run_pure]
        simp [cvs, (hcv ρ).1, cv]
    · cases hx
  · cases hc

/-! calls -/
theorem sim_call_value (c : Call) (f : Operand) (hop : o.op = .call c) (hcal : c.callee = .value f) {f' : AO} {args : List AO} (hf : compO f = some f') (hargs : compOs c.args.toList = some args) (hev : EvR ρ ev a.eval) (hW : WR CR ρ W w)
    (hx : xop ev W (.callV f' args) = some outs) : Sim1 CR P ρ W w a o outs := by
  have p := hev _ _ hf
  have q := hev.all hargs
  have e1 := arr_of q
  simp only [xop_eq, xopS] at hx
  split at hx
  · rename_i g first captured hg
    rw [hg] at p
    cases hx
    obtain ⟨pf, pc⟩ := p.2
    refine .here ⟨okvs_append.2 ⟨okvs_append.2 ⟨pf, q.2⟩, pc⟩, fun fn hfn hb hn => ?_⟩
    simp only [execOp, hop, resolve, hcal, e1, p.1, cv, Deferred.ofValue, Sem.run_bind, Sem.run_pure, Result.andThen_ok, invoke, callFunc, run_program, hfn, hn, Bool.false_eq_true, if_false]
    rw [if_neg (by cases hbb : fn.body <;> simp_all)]
    simp [cvs_append]
  · rename_i l hl
    rw [hl] at p
    cases hx
    obtain ⟨b, s, hρ, hb, _⟩ := rho_of p.2
    refine .here ⟨q.2, p.2, fun r hr hsz => ?_⟩
    have hget : (Instr.getLoop (ρ.blk l)).run P w = .ok r w := by
      have : (getObj (ρ.blk l)).run P w = .ok (.loop r) w := by
        simp [getObj, Sem.run, hr]
      simp [Instr.getLoop, this]
    simp only [execOp, hop, resolve, hcal, e1, p.1, cv, Deferred.ofValue, Sem.run_bind, Sem.run_pure, Result.andThen_ok, invoke, Instr.yield, hget]
    rw [if_neg (by simp [hsz])]
    simp
  · cases hx

theorem sim_call_func (c : Call) (f : Operand) (g : Nat) (hop : o.op = .call c) (hcal : c.callee = .value f) {args : List AO} (hf : compO f = some (.c (.fn g [] []))) (hargs : compOs c.args.toList = some args) (hevc : ∀ v, ev (.c v) = v) (hev : EvR ρ ev a.eval) (hW : WR CR ρ W w)
    (hx : xop ev W (.callF g args) = some outs) : Sim1 CR P ρ W w a o outs := by
  refine sim_call_value c f hop hcal hf hargs hev hW ?_
  rw [← hx]
  simp [xop_eq, xopS, hevc]

theorem find_add64 {fn : Func} (h1 : fn.name = "math/bits.Add64") (h2 : fn.origin = "") : Extern.find fn = some add64Entry ∧ Extern.findNext fn = none := by
  unfold Extern.find Extern.findNext
  simp only [h1, h2]
  have e1 : (Extern.allGenericRows.lookup "math/bits.Add64").isNone = true := by kernel_rfl
  have e2 : (Extern.allTypedRows.lookup "math/bits.Add64").isNone = true := by kernel_rfl
  have e3 : Extern.allRows.lookup "math/bits.Add64" = some add64Entry := by kernel_rfl
  have e4 : (Extern.allNextRows.lookup "math/bits.Add64").isNone = true := by kernel_rfl
  have e5 : (Extern.allNextRows.lookup "").isNone = true := by kernel_rfl
  simp only [Option.isNone_iff_eq_none] at e1 e2 e4 e5
  simp [e1, e2, e3, e4, e5]
theorem sim_add64 (c : Call) (f : Operand) (g : Nat) (hop : o.op = .call c) (hcal : c.callee = .value f) {x' y' k' : AO} (hf : compO f = some (.c (.fn g [] []))) (hg : isAdd64 P g = true) (hargs : compOs c.args.toList = some [x', y', k']) (hevc : ∀ v, ev (.c v) = v) (hev : EvR ρ ev a.eval) (hW : WR CR ρ W w)
    (hx : xop ev W (.add64 x' y' k') = some outs) : SimQ P ρ W w a o outs := by
  have pf := hev _ _ hf
  have q := hev.all hargs
  have e1 := arr_of q
  unfold isAdd64 at hg
  split at hg
  case h_2 => cases hg
  rename_i fn hfn
  simp only [Bool.and_eq_true, beq_iff_eq] at hg
  obtain ⟨⟨hbody, hname⟩, horig⟩ := hg
  obtain ⟨hfind, hnext⟩ := find_add64 hname horig
  simp only [xop_eq, xopS] at hx
  split at hx
  case h_2 => cases hx
  rename_i n1 n2 n3 h1 h2 h3
  split at hx
  case isFalse => cases hx
  rename_i hcond
  cases hx
  obtain ⟨c1, c2, c3, c4⟩ := hcond
  refine .same hW ?_ ⟨trivial, trivial, trivial⟩
  rw [hevc] at pf
  have hargv : c.args.map a.eval = #[.int .u64 n1, .int .u64 n2, .int .u64 n3] := by
    rw [e1]
    simp [aevs, cvs, h1, h2, h3, cv]
  have hrun := run_callFunc_extern (P := P) hfn (by rw [hname]; rfl) hbody hnext hfind #[.int .u64 n1, .int .u64 n2, .int .u64 n3] w
  rw [run_add64 n1 n2 n3 c1 c2 c3 c4] at hrun
  have e2 : (execOp a.eval o).run P w = (callFunc g #[.int .u64 n1, .int .u64 n2, .int .u64 n3]).run P w := by
    simp only [execOp, hop, resolve, hcal, hargv, pf.1, cv, cvs, Deferred.ofValue, Sem.run_bind, Sem.run_pure, Result.andThen_ok, invoke]
    simp
  rw [e2, hrun]
  simp [cv, cvs]
theorem sim_defer (c : Call) (hop : o.op = .defer c) {ao : AOp} (hc : compOp P o.op = some ao) (hev : EvR ρ ev a.eval) (hW : WR CR ρ W w) (hx : xop ev W ao = some outs) : Sim1 CR P ρ W w a o outs := by
  rw [hop] at hc
  simp only [compOp] at hc
  split at hc
  · rename_i f args hcal hargs
    obtain ⟨f', hf, rfl⟩ := map_some hc
    have p := hev _ _ hf
    have q := hev.all hargs
    have e1 := arr_of q
    simp only [xop_eq, xopS] at hx
    split at hx
    · rename_i g first captured hg
      rw [hg] at p
      cases hx
      obtain ⟨pf, pc⟩ := p.2
      refine .here ⟨{ target := .fn (.func g) (cvs ρ captured).toArray, args := (cvs ρ first).toArray ++ (cvs ρ (aevs ev args)).toArray }, ?_, okvs_append.2 ⟨okvs_append.2 ⟨pf, q.2⟩, pc⟩, _, _, rfl, rfl, by simp [cvs_append]⟩
      simp only [execOp, hop, resolve, hcal, e1, p.1, cv, Deferred.ofValue, Sem.run_bind, Sem.run_pure, Result.andThen_ok]
    · cases hx
  · cases hc

theorem sim_panic (x : Operand) (hop : o.op = .panic x) {ao : AOp} (hc : compOp P o.op = some ao) (hev : EvR ρ ev a.eval) (hW : WR CR ρ W w) (hx : xop ev W ao = some outs) : Sim1 CR P ρ W w a o outs := by
  rw [hop] at hc
  simp only [compOp] at hc
  obtain ⟨x', hx', rfl⟩ := map_some hc
  have p := hev _ _ hx'
  simp only [xop_eq, xopS] at hx
  split at hx
  · rename_i t v hv
    rw [hv] at p
    cases hx
    exact .here ⟨by simp [execOp, hop, p.1, cv, Instr.panic, Result.andThen], p.2⟩
  · cases hx

end
end Go.Eng

/- Engine 10: the abstract operations tell what the model's do. Fourth part: the built-in functions. -/
namespace Go.Eng
set_option linter.unusedVariables false
set_option linter.unusedSimpArgs false
variable {CR : CodeR} {P : Program}
section
variable {ρ : Rho} {W : AW} {w : World} {a : Act} {o : Oper} {outs : List AOut} {ev : AO → AVal}

theorem WR.heap {w' : World} (h : WR CR ρ W w) (hh : w'.heap = w.heap) : WR CR ρ W w' :=
  ⟨fun g b s e => by rw [hh]; exact h.blk g b s e, h.share, trivial⟩
theorem Ext.heap {ρ' : Rho} {W' : AW} {w1 w' : World} (h : Ext ρ W w1 ρ' W' w') (hh : w1.heap = w.heap) (ho : w1.os = w.os) (hp : w1.output = w.output) : Ext ρ W w ρ' W' w' :=
  ⟨h.le, h.n, h.dom, by rw [← hh]; exact h.sz, by rw [← hh]; exact h.out, by rw [← hh]; exact h.img, h.keep, h.os.trans ho, h.output.1.trans hp, fun a => by rw [h.output.2 a]; simp only [World.frozen?, hh]⟩

theorem Ext.same {w' : World} (hh : w'.heap = w.heap) (ho : w'.os = w.os) (hp : w'.output = w.output) : Ext ρ W w ρ W w' :=
  ⟨ρ.le_refl, Nat.le_refl _, fun _ h => .inl h, by rw [hh]; exact Nat.le_refl _, fun _ _ _ => by rw [hh], fun g b s h _ => ⟨g, s, h⟩, fun _ _ _ => rfl, ho, hp, fun a => by simp only [World.frozen?, hh]⟩

theorem run_builtin (c : Call) (b : Builtin) (hop : o.op = .call c) (hcal : c.callee = .builtin b) :
    (execOp a.eval o).run P w = (builtin b c.argTypes o.type (c.args.map fun | .const _ => true | _ => false) (c.args.map a.eval)).run P w := by
  simp only [execOp, hop, resolve, hcal, Sem.run_bind, Sem.run_pure, Result.andThen_ok, invoke]
  rfl

theorem compOs_one {l : List Operand} {x' : AO} (h : compOs l = some [x']) : ∃ x, l = [x] ∧ compO x = some x' := by
  cases l with
  | nil => cases h
  | cons x l =>
    unfold compOs at h
    split at h
    · rename_i y ys h1 h2
      cases h
      cases l with
      | nil => exact ⟨x, rfl, h1⟩
      | cons z l =>
        unfold compOs at h2
        split at h2 <;> cases h2
    · cases h
theorem compOs_two {l : List Operand} {x' y' : AO} (h : compOs l = some [x', y']) : ∃ x y, l = [x, y] ∧ compO x = some x' ∧ compO y = some y' := by
  cases l with
  | nil => cases h
  | cons x l =>
    unfold compOs at h
    split at h
    · rename_i u us h1 h2
      cases h
      obtain ⟨y, rfl, h3⟩ := compOs_one h2
      exact ⟨x, y, rfl, h1, h3⟩
    · cases h
theorem arr_two {α : Type} {arr : Array α} {x y : α} (h : arr.toList = [x, y]) : arr = #[x, y] := by
  apply Array.ext'; simpa using h
theorem arr_one {α : Type} {arr : Array α} {x : α} (h : arr.toList = [x]) : arr = #[x] := by
  apply Array.ext'; simpa using h

theorem sim_len (c : Call) (hop : o.op = .call c) (hcal : c.callee = .builtin .len) {x' : AO} (hargs : compOs c.args.toList = some [x']) {t : TypeId} (ht : c.argTypes[0]? = some t) {k : LK}
    (hu : match k with | .sl => ∃ e, P.underlying t = some (.slice e) | .str => P.underlying t = some .string | .mp => ∃ q e, P.underlying t = some (.map q e)) (hev : EvR ρ ev a.eval) (hW : WR CR ρ W w)
    (hx : xop ev W (.len k x') = some outs) : SimQ P ρ W w a o outs := by
  obtain ⟨x, hl, hx'⟩ := compOs_one hargs
  have p := hev _ _ hx'
  have hmap : c.args.map a.eval = #[a.eval x] := by rw [arr_one hl]; simp
  have fin : ∀ n : Nat, (Builtin.len_ c.argTypes o.type #[a.eval x]).run P w = .ok (goInt n) w → outs = [.val (.int .i64 n) W] → SimQ P ρ W w a o outs := by
    intro n hn ho
    subst ho
    refine .same hW ?_ trivial
    rw [run_builtin c .len hop hcal, hmap]
    simp only [builtin, Sem.run_bind, hn, Result.andThen_ok, Sem.run_pure, goInt, cv]
  simp only [xop_eq, xopS] at hx
  split at hx
  · rename_i h1; rw [h1] at p; cases hx
    obtain ⟨e, hu⟩ := hu
    exact fin 0 (by simp [Builtin.len_, ht, run_underlying' hu, p.1, cv]) rfl
  · rename_i h1; rw [h1] at p; cases hx
    obtain ⟨e, hu⟩ := hu
    exact fin _ (by simp [Builtin.len_, ht, run_underlying' hu, p.1, cv]) rfl
  · rename_i h1; rw [h1] at p; cases hx
    obtain ⟨e, hu⟩ := hu
    exact fin 0 (by simp [Builtin.len_, ht, run_underlying' hu, p.1, cv]) rfl
  · rename_i h1; rw [h1] at p; cases hx
    exact fin _ (by simp [Builtin.len_, ht, run_underlying' hu, p.1, cv]) rfl
  · rename_i h1; rw [h1] at p; cases hx
    obtain ⟨q, e, hu⟩ := hu
    exact fin 0 (by simp [Builtin.len_, ht, run_underlying' hu, p.1, cv]) rfl
  · rename_i r h1
    rw [h1] at p
    obtain ⟨q, e, hu⟩ := hu
    split at hx
    · rename_i es ver hes
      cases hx
      obtain ⟨b, s, hρ, hb, _⟩ := rho_of p.2
      obtain ⟨_, ob, ho, hB⟩ := hW.blk r b s hρ
      rw [hes] at hB
      obtain ⟨rfl, _⟩ := hB
      have hget : (getObj (ρ.blk r)).run P w = .ok (.map (es.map (centry ρ)).toArray ver) w := by simp [getObj, Sem.run, hb, ho]
      have hlen : ((es.map (centry ρ)).toArray).size = es.length := by simp
      exact fin es.length (by simp [Builtin.len_, ht, run_underlying' hu, p.1, cv, hget, hlen]) rfl
    · cases hx
  · cases hx

theorem sim_lenC (c : Call) (hop : o.op = .call c) (hcal : c.callee = .builtin .len) {x' : AO} (hargs : compOs c.args.toList = some [x']) {t : TypeId} (ht : c.argTypes[0]? = some t) {n : Nat} {e : TypeId}
    (hu : P.underlying t = some (.array n e)) (hW : WR CR ρ W w) (hx : xop ev W (.lenC n x') = some outs) : SimQ P ρ W w a o outs := by
  obtain ⟨x, hl, hx'⟩ := compOs_one hargs
  have hmap : c.args.map a.eval = #[a.eval x] := by rw [arr_one hl]; simp
  cases hx
  refine .same hW ?_ trivial
  rw [run_builtin c .len hop hcal, hmap]
  have hn : (Builtin.len_ c.argTypes o.type #[a.eval x]).run P w = .ok (goInt n) w := by
    simp only [Builtin.len_, ht]
    simp [run_underlying' hu]
  simp only [builtin, Sem.run_bind, hn, Result.andThen_ok, Sem.run_pure, goInt, cv]

/-! append -/
theorem growBy_le (newLen : Nat) : ∀ (r c : Nat), c < newLen → Builtin.growBy newLen r c ≤ newLen + (newLen + 768) / 4
  | 0, c, h => by simp [Builtin.growBy]; omega
  | r + 1, c, h => by
    simp only [Builtin.growBy]
    rw [if_neg (by omega)]
    by_cases h2 : c + (c + 768) / 4 < newLen
    · exact growBy_le newLen r _ h2
    · cases r with
      | zero => simp [Builtin.growBy]; omega
      | succ r => simp only [Builtin.growBy]; rw [if_pos (by omega)]; omega
theorem nextslicecap_le {need old : Nat} (h : old < need) (hn : need ≤ 1048576) : Builtin.nextslicecap need old ≤ 4194304 := by
  unfold Builtin.nextslicecap
  split
  · omega
  · split
    · omega
    · have := growBy_le need 4 old h
      omega

/-- what is appended -/
def appended (ev : AO → AVal) (W : AW) (sz : Nat) (x : AO) : Option (List AVal × Nat) :=
  match ev x with
  | .sl0 => some ([], 0)
  | .slT _ _ _ => some ([], 0)
  | .sl g o n _ _ => match W.get g with
    | .cells cs _ _ _ _ _ => bif Nat.ble (o + n * sz) cs.length then some ((cs.drop o).take (n * sz), n) else none
    | _ => none
  | _ => none
theorem run_firstCells (hW : WR CR ρ W w) {x : AVal} (hok : okv ρ x) {sz : Nat} : (∀ g o n cap op cs e esz own tip anc m, x = .sl g o n cap op → W.get g = .cells cs e esz own tip anc → o + m * sz ≤ cs.length →
      (Builtin.firstCells sz m (cv ρ x)).run P w = .ok (cvs ρ ((cs.drop o).take (m * sz))).toArray w ∧ okvs ρ ((cs.drop o).take (m * sz))) ∧
    (x = .sl0 → ∀ m, (Builtin.firstCells sz m (cv ρ x)).run P w = .ok #[] w) := by
  constructor
  · rintro g o n cap op cs e esz own tip anc m rfl hg hle
    obtain ⟨b, s, hρ, hb, _⟩ := rho_of hok
    obtain ⟨hokc, c', rest, ho, hcc, _⟩ := hW.cells hρ hg
    refine ⟨?_, okvs_take _ (okvs_drop _ hokc)⟩
    simp only [cv, Builtin.firstCells, hb]
    rw [run_loadCells P ho hcc (i := o) (n := m * sz) (by simpa using hle), cvs_take, cvs_drop]
  · rintro rfl m
    simp [cv, Builtin.firstCells]
theorem appended_spec (hW : WR CR ρ W w) {x : AO} {xv : Value} (hx : xv = cv ρ (ev x) ∧ okv ρ (ev x)) {sz n : Nat} {new : List AVal} (h : appended ev W sz x = some (new, n)) :
    Builtin.lenOf xv = pure n ∧ (Builtin.firstCells sz n xv).run P w = .ok (cvs ρ new).toArray w ∧ okvs ρ new ∧ new.length = n * sz := by
  unfold appended at h
  split at h
  · rename_i he
    cases h
    rw [he] at hx
    rw [hx.1]
    exact ⟨rfl, by simp [cv, Builtin.firstCells, cvs], trivial, by simp⟩
  · rename_i he
    cases h
    rw [he] at hx
    rw [hx.1]
    exact ⟨rfl, by simp [cv, Builtin.firstCells, loadCells, loadCellsFrom, cvs], trivial, by simp⟩
  · rename_i g o n' cap op he
    split at h
    · rename_i cs e esz own tip anc hcs
      cases hle : Nat.ble (o + n' * sz) cs.length <;> rw [hle] at h
      · cases h
      cases h
      have hle' := Nat.le_of_ble_eq_true hle
      have := (run_firstCells (P := P) hW (sz := sz) hx.2).1 g o n cap op cs e esz own tip anc n he hcs hle'
      rw [← hx.1] at this
      refine ⟨by rw [hx.1, he]; rfl, this.1, this.2, by simp; omega⟩
    · cases h
  · cases h

/-- an append for which there is no room -/
theorem run_append_grows {t u e e' : TypeId} {ty : TypeId} {base : Option Addr} {sLen sCap n sz bytes : Nat} {x : Value} {z : AVal} (ht : P.underlying t = some (.slice e)) (hu : P.underlying u = some (.slice e')) (hsz : tySize P e = some sz) (hby : tyBytes P e = some bytes)
    (hz : tyZero P e = some z) (hzl : (acells z).length = sz) (hlen : Builtin.lenOf x = pure n) (hg : sCap < sLen + n) (hn : sLen + n ≤ 1048576) (hb : bytes ≤ 65536) {old new : Array Value}
    (hold : (Builtin.firstCells sz sLen (.slice base sLen sCap)).run P w.drew = .ok old w.drew) (hnew : (Builtin.firstCells sz n x).run P w.drew = .ok new w.drew) :
    ∃ (newCap : Nat) (rest : List Value), sLen + n ≤ newCap ∧ rest.length = (newCap - (sLen + n)) * sz ∧
      (Builtin.append_ #[t, u] ty #[.slice base sLen sCap, x]).run P w = .ok (.slice (some ⟨w.heap.size, 0, none⟩) (sLen + n) newCap) (wpush w.drew (.cells ((old.toList ++ new.toList) ++ rest).toArray e (0, 0))) := by
  obtain ⟨i, hi, hib⟩ : ∃ i, P.info? e = some i ∧ i.bytes = bytes := by
    unfold tyBytes at hby; obtain ⟨i, h1, h2⟩ := map_some hby; exact ⟨i, h1, h2⟩
  have his : i.size = sz := by
    unfold tySize at hsz; rw [hi] at hsz; cases hsz; rfl
  obtain ⟨zv, hzv, hcv⟩ : ∃ v, i.zero = some v ∧ ∀ ρ, cv ρ z = v ∧ okv ρ z := by
    unfold tyZero at hz
    rw [hi] at hz; simp only [Option.bind_some] at hz
    cases hz' : i.zero with
    | none => rw [hz'] at hz; cases hz
    | some v => rw [hz'] at hz; exact ⟨v, rfl, fun ρ => av?_spec hz ρ⟩
  have hcap := nextslicecap_le hg hn
  have hzs : zv.cells.size = sz := by rw [← (hcv (fun _ => none)).1, cells_cv]; simpa using hzl
  refine ⟨grownCap w (sLen + n) sCap e, (Builtin.zeroCells zv.cells (grownCap w (sLen + n) sCap e - (sLen + n))).toList, ?_, ?_, ?_⟩
  · simp [grownCap, Question.cut]
  · simp [Builtin.zeroCells, hzs]
  · have hn' : ¬ (sLen + n ≤ sCap) := by omega
    have h63' : ¬ (9223372036854775807 < ((sLen : Int) + (n : Int))) := by omega
    have h48' : ¬ (281474976710656 < Builtin.nextslicecap (sLen + n) sCap * i.bytes) := by
      rw [hib]
      have := Nat.mul_le_mul hcap hb
      omega
    subst his
    simp [Builtin.append_, run_underlying ht, run_underlying hu, sizeOf, typeInfo, zeroValue, hi, hzv, hlen, hn', h63', h48', Question.forced, hnew, hold, newRow, grownCap, wpush]
    congr 2
    apply Array.ext'
    simp [List.append_assoc]

theorem sim_append (c : Call) (hop : o.op = .call c) (hcal : c.callee = .builtin .append) {s' x' : AO} (hargs : compOs c.args.toList = some [s', x']) {t u e e' : TypeId} {sz bytes : Nat} {z : AVal} (hty : c.argTypes.toList = [t, u])
    (ht : P.underlying t = some (.slice e)) (hu : P.underlying u = some (.slice e')) (hsz : tySize P e = some sz) (hby : tyBytes P e = some bytes) (hz : tyZero P e = some z) (hzl : (acells z).length = sz) (hb : bytes ≤ 65536)
    (hev : EvR ρ ev a.eval) (hW : WR CR ρ W w) (hx : xop ev W (.append e sz bytes (acells z) s' x') = some outs) : Sim1 CR P ρ W w a o outs := by
  obtain ⟨so, xo, hl, hs', hx'⟩ := compOs_two hargs
  have p := hev _ _ hs'
  have q := hev _ _ hx'
  have hmap : c.args.map a.eval = #[a.eval so, a.eval xo] := by rw [arr_two hl]; simp
  have htys := arr_two hty
  have fin : ∀ (v : AVal) (ρ' : Rho) (W' : AW) (w' : World), (Builtin.append_ #[t, u] o.type #[a.eval so, a.eval xo]).run P w = .ok (cv ρ' v) w' → okv ρ' v → WR CR ρ' W' w' → Ext ρ W w ρ' W' w' → Sim1 CR P ρ W w a o [.val v W'] := by
    intro v ρ' W' w' hr hok h1 h2
    refine .here ⟨ρ', w', .value (cv ρ' v), ?_, rfl, hok, h1, h2⟩
    rw [run_builtin c .append hop hcal, hmap, htys]
    simp only [builtin, Sem.run_bind, hr, Result.andThen_ok, Sem.run_pure]
  have hdr : WR CR ρ W w.drew := hW.heap rfl
  simp only [xop_eq, xopS] at hx
  change (match appended ev W sz x' with | none => none | some (new, n) => _) = some outs at hx
  cases happ : appended ev W sz x' with
  | none => rw [happ] at hx; cases hx
  | some nn =>
    obtain ⟨new, n⟩ := nn
    rw [happ] at hx
    simp only at hx
    obtain ⟨hlen, hfirst, hokn, hln⟩ := appended_spec (P := P) hW q happ
    obtain ⟨_, hfirstD, _, _⟩ := appended_spec (P := P) hdr q happ
    -- a new row
    have grow : ∀ (base : Option Addr) (sLen sCap : Nat) (old : List AVal), a.eval so = .slice base sLen sCap → sCap < sLen + n → sLen + n ≤ 1048576 → okvs ρ old →
        (Builtin.firstCells sz sLen (.slice base sLen sCap)).run P w.drew = .ok (cvs ρ old).toArray w.drew → ∀ (W0 : AW), W0.n = W.n → WR CR ρ W0 w.drew → Ext ρ W w ρ W0 w.drew → ∀ (blk : ABlk), 
        (∀ s' o', (∃ rest : List Value, o' = .cells (cvs ρ (old ++ new) ++ rest).toArray e (0, 0) ∧ s' * sz ≤ rest.length) → BR CR ρ s' blk o') → blk ≠ .dead →
        Sim1 CR P ρ W w a o [.val (.sl W.n 0 (sLen + n) (sLen + n) true) (W0.push blk)] := by
      intro base sLen sCap old hso hg hn1 hokold hold W0 hW0n hW0 hE0 blk hblk hni
      obtain ⟨newCap, rest, h1, h2, h3⟩ := run_append_grows (w := w) (ty := o.type) (base := base) ht hu hsz hby hz hzl hlen hg hn1 hb hold hfirstD
      have hpush := hW0.push (hblk (newCap - (sLen + n)) _ ⟨rest, rfl, by rw [h2]; exact Nat.le_refl _⟩) hni
      have hhs : w.drew.heap.size = w.heap.size := rfl
      rw [hhs, hW0n] at hpush
      refine fin _ _ _ _ ?_ ?_ hpush.1 (hE0.trans hpush.2)
      · rw [hso, h3]
        have : cv (ρ.upd W.n w.heap.size (newCap - (sLen + n))) (.sl W.n 0 (sLen + n) (sLen + n) true) = .slice (some ⟨w.heap.size, 0, none⟩) (sLen + n) newCap := by
          simp only [cv, blk_upd, slack_upd, cond_true]
          congr 1
          omega
        rw [this]
        simp [cvs_append]
      · simp [okv, Rho.upd_same]
    have hEd : Ext ρ W w ρ W w.drew := Ext.same rfl rfl rfl
    split at hx
    · -- nil
      rename_i hs0
      rw [hs0] at p
      cases hn0 : Nat.beq n 0 <;> rw [hn0] at hx
      · simp only [cond_false] at hx
        cases hle : Nat.ble n 1048576 <;> rw [hle] at hx
        · cases hx
        cases hx
        have hnpos : n ≠ 0 := fun e => by rw [e] at hn0; cases hn0
        have := grow none 0 0 [] (by rw [p.1]; rfl) (by omega) (by have := Nat.le_of_ble_eq_true hle; omega) trivial (by simp [Builtin.firstCells, cvs]) W rfl hdr hEd (.cells new e sz 0 true [])
          (fun s' o' ⟨rest, h1, h2⟩ => ⟨Nat.zero_le _, hokn, by simp, _, rest, h1, by simp, h2⟩) (by simp)
        simpa using this
      · cases hx
        have hn0' := Nat.eq_of_beq_eq_true hn0
        subst hn0'
        refine fin _ ρ W w ?_ trivial hW (Ext.refl _ _ _)
        rw [p.1]
        simp only [cv]
        have : new = [] := by simpa using hln
        subst this
        unfold tySize at hsz
        obtain ⟨i, hi, rfl⟩ := map_some hsz
        simp [Builtin.append_, run_underlying ht, run_underlying hu, sizeOf, typeInfo, hi, hlen, hfirst]
    · rename_i g off len cap op hs0
      rw [hs0] at p
      obtain ⟨b, s, hρ, hbk, hsk⟩ := rho_of p.2
      cases hroom : Nat.ble (len + n) cap <;> rw [hroom] at hx
      · simp only [cond_false] at hx
        have hroom' : cap < len + n := by
          rcases Nat.lt_or_ge cap (len + n) with h | h
          · exact h
          · rw [Nat.ble_eq_true_of_le h] at hroom; cases hroom
        cases hle : Nat.ble (len + n) 1048576 <;> rw [hle] at hx
        · cases hx
        have hle' := Nat.le_of_ble_eq_true hle
        simp only [Bool.not_true, cond_false] at hx
        split at hx
        · rename_i cs e2 esz own tip anc hcs
          cases op with
          | true =>
            simp only [cond_true] at hx
            cases hcond : (Nat.beq off 0 && Nat.beq len cap && Nat.beq (len * sz) cs.length && tip && Nat.beq esz sz && Nat.beq e2 e && new.all AVal.one) <;> rw [hcond] at hx
            · cases hx
            cases hx
            simp only [Bool.and_eq_true] at hcond
            obtain ⟨⟨⟨⟨⟨⟨c1, c2⟩, c3⟩, c4⟩, c5⟩, c6⟩, c7⟩ := hcond
            have c1 := Nat.eq_of_beq_eq_true c1
            have c2 := Nat.eq_of_beq_eq_true c2
            have c3 := Nat.eq_of_beq_eq_true c3
            have c5 := Nat.eq_of_beq_eq_true c5
            have c6 := Nat.eq_of_beq_eq_true c6
            subst c1 c2 c4 c5 c6
            by_cases hin : len + n ≤ len + s
            · -- it finds room
              obtain ⟨w', hrun, hW', hE'⟩ := hW.grow P hρ hcs hokn (fun v hv => List.all_eq_true.1 c7 v hv) (m := n) (by omega) hln
              refine fin _ _ _ _ ?_ (by simp [okv, Rho.upd_same]) hW' hE'
              rw [p.1]
              simp only [cv, hbk, hsk, cond_true]
              rw [blk_upd, slack_upd]
              have hst : (storeCells ((⟨b, 0, none⟩ : Addr).add (len * esz)) (cvs ρ new)).run P w = .ok () w' := by rw [add_addr, Nat.zero_add, c3]; exact hrun
              unfold tySize at hsz
              obtain ⟨i, hi, rfl⟩ := map_some hsz
              simp [Builtin.append_, run_underlying ht, run_underlying hu, sizeOf, typeInfo, hi, hlen, hfirst, show n ≤ s from by omega, hst]
              omega
            · -- it finds none
              have ht2 := hdr.turn hρ hcs
              refine grow (some ⟨b, 0, none⟩) len (len + s) cs (by rw [p.1]; simp [cv, hbk, hsk]) (by omega) hle' ?_ ?_ (W.set g (.cells cs e2 esz own false anc)) rfl ht2.1 (hEd.trans ht2.2) (.cells (cs ++ new) e2 esz cs.length true (g :: anc)) ?_ (by simp)
              · exact (hW.cells hρ hcs).1
              · have := (run_firstCells (P := P) hdr (sz := esz) p.2).1 g 0 len len true cs e2 esz own true anc len rfl hcs (by omega)
                have h2 := this.1
                rw [List.drop_zero, c3, List.take_length] at h2
                simpa [cv, hbk, hsk, Builtin.firstCells] using h2
              · intro s' o' ⟨rest, h1, h2⟩
                refine ⟨by simp, okvs_append.2 ⟨(hW.cells hρ hcs).1, hokn⟩, ?_, _, rest, h1, by simp, h2⟩
                intro y hy
                rcases List.mem_cons.1 hy with rfl | hy
                · exact p.2
                · obtain ⟨_, ob, ho, hB⟩ := hW.blk g b s hρ
                  rw [hcs] at hB
                  exact hB.2.2.1 y hy
          | false =>
            simp only [cond_false] at hx
            cases hle2 : Nat.ble (off + len * sz) cs.length <;> rw [hle2] at hx
            · cases hx
            cases hx
            have hle2' := Nat.le_of_ble_eq_true hle2
            have hfc := (run_firstCells (P := P) hdr (sz := sz) p.2).1 g off len cap false cs e2 esz own tip anc len rfl hcs hle2'
            refine grow (some ⟨b, off, none⟩) len cap ((cs.drop off).take (len * sz)) (by rw [p.1]; simp [cv, hbk]) hroom' hle' hfc.2 ?_ W rfl hdr hEd _ ?_ (by simp)
            · have h2 := hfc.1
              simpa [cv, hbk, Builtin.firstCells] using h2
            · intro s' o' ⟨rest, h1, h2⟩
              exact ⟨Nat.zero_le _, okvs_append.2 ⟨hfc.2, hokn⟩, by simp, _, rest, h1, by simp, h2⟩
        · cases hx
      · simp only [cond_true] at hx
        have hroom' := Nat.le_of_ble_eq_true hroom
        split at hx
        · rename_i W' hst
          cases hx
          obtain ⟨w', hrun, hW', hE'⟩ := hW.stores P hρ hst hokn
          refine fin _ ρ _ w' ?_ p.2 hW' hE'
          rw [p.1]
          simp only [cv, hbk]
          have hst' : (storeCells ((⟨b, off, none⟩ : Addr).add (len * sz)) (cvs ρ new)).run P w = .ok () w' := by rw [add_addr]; exact hrun
          have hin : len + n ≤ cap + bif op then ρ.slack g else 0 := by omega
          unfold tySize at hsz
          obtain ⟨i, hi, rfl⟩ := map_some hsz
          simp [Builtin.append_, run_underlying ht, run_underlying hu, sizeOf, typeInfo, hi, hlen, hfirst, hin, hst']
        · cases hx
    · cases hx
end
end Go.Eng

/- Engine 11: the abstract operations tell what the model's do. Fifth part, and all together. -/
namespace Go.Eng
set_option linter.unusedVariables false
set_option linter.unusedSimpArgs false
variable {CR : CodeR} {P : Program}
section
variable {ρ : Rho} {W : AW} {w : World} {a : Act} {o : Oper} {outs : List AOut} {ev : AO → AVal}

theorem sim_copy (c : Call) (hop : o.op = .call c) (hcal : c.callee = .builtin .copy) {d' s' : AO} (hargs : compOs c.args.toList = some [d', s']) {t u e : TypeId} {sz : Nat} (hty : c.argTypes.toList = [t, u])
    (ht : P.underlying t = some (.slice e)) (hsz : tySize P e = some sz) (hev : EvR ρ ev a.eval) (hW : WR CR ρ W w) (hx : xop ev W (.copy sz d' s') = some outs) : Sim1 CR P ρ W w a o outs := by
  obtain ⟨dd, so, hl, hd', hs'⟩ := compOs_two hargs
  have p := hev _ _ hd'
  have q := hev _ _ hs'
  have hmap : c.args.map a.eval = #[a.eval dd, a.eval so] := by rw [arr_two hl]; simp
  have htys := arr_two hty
  have fin : ∀ (n : Nat) (W' : AW) (w' : World), (Builtin.copy_ #[t, u] o.type #[a.eval dd, a.eval so]).run P w = .ok (goInt n) w' → WR CR ρ W' w' → Ext ρ W w ρ W' w' → Sim1 CR P ρ W w a o [.val (.int .i64 n) W'] := by
    intro n W' w' hr h1 h2
    refine .here ⟨ρ, w', .value (goInt n), ?_, rfl, trivial, h1, h2⟩
    rw [run_builtin c .copy hop hcal, hmap, htys]
    simp only [builtin, Sem.run_bind, hr, Result.andThen_ok, Sem.run_pure]
  simp only [xop_eq, xopS] at hx
  split at hx
  · rename_i h1 h2; rw [h1] at p; rw [h2] at q; cases hx
    refine fin 0 W w ?_ hW (Ext.refl _ _ _)
    rw [p.1, q.1]
    simp [Builtin.copy_, run_underlying' ht, run_sizeOf' hsz, cv, Builtin.lenOf, Builtin.firstCells]
  · rename_i g off len cap op h1 h2; rw [h1] at p; rw [h2] at q; cases hx
    refine fin 0 W w ?_ hW (Ext.refl _ _ _)
    rw [p.1, q.1]
    simp [Builtin.copy_, run_underlying' ht, run_sizeOf' hsz, cv, Builtin.lenOf, Builtin.firstCells, loadCells, loadCellsFrom]
  · rename_i g off len cap op h1 h2; rw [h1] at p; rw [h2] at q; cases hx
    refine fin 0 W w ?_ hW (Ext.refl _ _ _)
    rw [p.1, q.1]
    simp [Builtin.copy_, run_underlying' ht, run_sizeOf' hsz, cv, Builtin.lenOf, Builtin.firstCells, storeCells]
  · rename_i g off len cap op g2 o2 n cap2 op2 h1 h2
    rw [h1] at p; rw [h2] at q
    obtain ⟨b, s, hρ, hb, _⟩ := rho_of p.2
    split at hx
    · rename_i cs e2 esz own tip anc hcs
      cases hle : Nat.ble (o2 + Nat.min n len * sz) cs.length <;> rw [hle] at hx
      · cases hx
      simp only [cond_true] at hx
      split at hx
      · rename_i W' hst
        cases hx
        have hle' := Nat.le_of_ble_eq_true hle
        have hfc := (run_firstCells (P := P) hW (sz := sz) q.2).1 g2 o2 n cap2 op2 cs e2 esz own tip anc (Nat.min n len) rfl hcs hle'
        obtain ⟨w', hrun, hW', hE'⟩ := hW.stores P hρ hst hfc.2
        refine fin _ W' w' ?_ hW' hE'
        rw [p.1, q.1]
        have hfc1 := hfc.1
        simp only [cv] at hfc1
        simp [Builtin.copy_, run_underlying' ht, run_sizeOf' hsz, cv, Builtin.lenOf, hfc1, hb, hrun]
      · cases hx
    · cases hx
  · cases hx

theorem zeroCells_spec {z : AVal} {v : Value} {n : Nat} (hz : cv ρ z = v ∧ okv ρ z) : Builtin.zeroCells v.cells n = (cvs ρ (zeroRow (acells z) (n * (acells z).length))).toArray ∧ okvs ρ (zeroRow (acells z) (n * (acells z).length)) := by
  have := zeroRow_spec (n := n * (acells z).length) hz (fun h e => by rw [e] at h; simp at h)
  refine ⟨?_, this.2⟩
  rw [← this.1]
  have hs : v.cells.size = (acells z).length := by rw [← hz.1, cells_cv]; simp
  simp [Builtin.zeroCells, hs]

theorem sim_clear (c : Call) (hop : o.op = .call c) (hcal : c.callee = .builtin .clear) {x' : AO} (hargs : compOs c.args.toList = some [x']) {t e : TypeId} {z : AVal} (hty : c.argTypes.toList = [t])
    (ht : P.underlying t = some (.slice e)) (hz : tyZero P e = some z) (hev : EvR ρ ev a.eval) (hW : WR CR ρ W w) (hx : xop ev W (.clear (acells z) x') = some outs) : Sim1 CR P ρ W w a o outs := by
  obtain ⟨x, hl, hx'⟩ := compOs_one hargs
  have p := hev _ _ hx'
  have hmap : c.args.map a.eval = #[a.eval x] := by rw [arr_one hl]; simp
  have htys := arr_one hty
  obtain ⟨v, hv, hcv⟩ := run_zeroValue' (w := w) hz
  have fin : ∀ (W' : AW) (w' : World), (Builtin.clear_ #[t] o.type #[a.eval x]).run P w = .ok (.tuple #[]) w' → WR CR ρ W' w' → Ext ρ W w ρ W' w' → Sim1 CR P ρ W w a o [.val (.tup []) W'] := by
    intro W' w' hr h1 h2
    refine .here ⟨ρ, w', .value (.tuple #[]), ?_, rfl, trivial, h1, h2⟩
    rw [run_builtin c .clear hop hcal, hmap, htys]
    simp only [builtin, Sem.run_bind, hr, Result.andThen_ok, Sem.run_pure]
  simp only [xop_eq, xopS] at hx
  split at hx
  · rename_i h1; rw [h1] at p; cases hx
    refine fin W w ?_ hW (Ext.refl _ _ _)
    rw [p.1]
    simp [Builtin.clear_, run_underlying' ht, cv]
  · rename_i g off n cap op h1
    rw [h1] at p
    obtain ⟨b, s, hρ, hb, _⟩ := rho_of p.2
    cases hn : Nat.beq n 0 <;> rw [hn] at hx
    · simp only [cond_false] at hx
      split at hx
      · rename_i W' hst
        cases hx
        have hn0 : n ≠ 0 := fun e => by rw [e] at hn; cases hn
        have hzc := zeroCells_spec (n := n) (hcv ρ)
        obtain ⟨w', hrun, hW', hE'⟩ := hW.stores P hρ hst hzc.2
        refine fin W' w' ?_ hW' hE'
        rw [p.1]
        obtain ⟨m, rfl⟩ : ∃ m, n = m + 1 := ⟨n - 1, by omega⟩
        simp only [Builtin.clear_, cv]
        simp [run_underlying' ht, hv, hzc.1, hb, hrun]
      · cases hx
    · cases hx
      have hn0 := Nat.eq_of_beq_eq_true hn
      subst hn0
      refine fin W w ?_ hW (Ext.refl _ _ _)
      rw [p.1]
      simp [Builtin.clear_, run_underlying' ht, cv]
  · cases hx

theorem sim_makeSlice (t : TypeId) (l c : Operand) (hop : o.op = .makeSlice t l c) {ao : AOp} (hc : compOp P o.op = some ao) (hev : EvR ρ ev a.eval) (hW : WR CR ρ W w) (hx : xop ev W ao = some outs) : SimA CR P ρ W w a o outs := by
  rw [hop] at hc
  simp only [compOp] at hc
  split at hc
  · rename_i e hu
    split at hc
    · rename_i sz bytes z l' c' hsz hby hz hl hcc
      split at hc
      · rename_i hcond
        obtain ⟨b1, b2⟩ := hcond
        cases hc
        have p := hev _ _ hl
        have q := hev _ _ hcc
        simp only [xop_eq, xopS] at hx
        split at hx
        · rename_i k1 n1 k2 n2 h1 h2
          rw [h1] at p; rw [h2] at q
          cases hd : decide (0 ≤ n1 ∧ n1 ≤ n2 ∧ n2 ≤ 1048576) <;> rw [hd] at hx
          · cases hx
          cases hx
          obtain ⟨d1, d2, d3⟩ := of_decide_eq_true hd
          obtain ⟨v, hv, hcv⟩ := run_zeroValue' (w := w) hz
          have hzr := zeroRow_spec (hcv ρ) (n := n2.toNat * sz) (fun h => by rw [b2]; intro e; rw [e] at h; simp at h)
          obtain ⟨i, hi, hib⟩ : ∃ i, P.info? e = some i ∧ i.bytes = bytes := by
            unfold tyBytes at hby; obtain ⟨i, h1, h2⟩ := map_some hby; exact ⟨i, h1, h2⟩
          have his : i.size = sz := by
            unfold tySize at hsz; rw [hi] at hsz; cases hsz; rfl
          refine ⟨_, _, .cells (cvs ρ (zeroRow (acells z) (n2.toNat * sz))).toArray e (0, 0), rfl, ?_, ?_, br_cells0 hzr.2 rfl, by simp⟩
          · have w1 : IntKind.i64.wrap n1 = n1 := by rw [IntKind.wrap_i64]; omega
            have w2 : IntKind.i64.wrap n2 = n2 := by rw [IntKind.wrap_i64]; omega
            have hbn : ¬ (281474976710656 < (i.bytes : Int) * n2) := by
              obtain ⟨m, rfl⟩ := Int.eq_ofNat_of_zero_le (show 0 ≤ n2 by omega)
              have h3 : m ≤ 1048576 := by omega
              have := Nat.mul_le_mul (hib ▸ b1 : i.bytes ≤ 65536) h3
              have h4 : ((i.bytes * m : Nat) : Int) ≤ 68719476736 := by omega
              rw [Int.natCast_mul] at h4
              omega
            have g1 : ¬ n2 < 0 := by omega
            have g2 : ¬ n1 < 0 := by omega
            have g3 : ¬ n2 < n1 := by omega
            subst his
            have hrow : ∀ zero : Array Value, (n2.toNat * i.size ≠ 0 → zero = v.cells) → ((Array.range (n2.toNat * i.size)).map fun x => zero[x % zero.size]!) = (cvs ρ (zeroRow (acells z) (n2.toNat * i.size))).toArray := by
              intro zero hzero
              by_cases h0 : n2.toNat * i.size = 0
              · rw [h0]; simp [zeroRow, cvs]
              · rw [hzero h0]; exact hzr.1
            by_cases h0 : n2.toNat * i.size = 0
            · have hr := hrow #[] (fun h => absurd h0 h)
              rw [h0] at hr
              simp only [execOp, hop, p.1, q.1, cv, Instr.makeSlice, asInt, asIntOf]
              simp [run_underlying' hu, run_typeInfo' hi, run_sizeOf' hsz, w1, w2, hbn, g1, g2, g3, h0, run_newRow, cv, blk_upd]
              exact congrArg (fun c => wpush w (.cells c e (0, 0))) (by simpa using hr)
            · have hr := hrow v.cells (fun _ => rfl)
              simp only [execOp, hop, p.1, q.1, cv, Instr.makeSlice, asInt, asIntOf]
              simp only [Sem.run_bind, run_underlying' hu, Result.andThen_ok, Sem.run_pure, run_typeInfo' hi, w1, w2]
              have hcd : ((decide (n2 < 0) || decide ((i.bytes : Int) * n2 > 2 ^ 48) || decide (n1 < 0) || decide (n1 > n2)) = true) = False := by
                simp only [eq_iff_iff, iff_false, Bool.not_eq_true, Bool.or_eq_false_iff, decide_eq_false_iff_not]
                exact ⟨⟨⟨g1, by simpa using hbn⟩, g2⟩, by omega⟩
              simp only [hcd, if_false, run_askRoom, Sem.run_bind, Result.andThen_ok, run_sizeOf' hsz]
              rw [if_neg h0]
              simp only [Sem.run_bind, hv, Result.andThen_ok, Sem.run_pure, hr, run_newRow, blk_upd, cond_false, Nat.add_zero]
          · simp [okv, Rho.upd_same]
        · cases hx
      · cases hc
    · cases hc
  · cases hc

/-! slices of slices -/
theorem abound_spec {x : AVal} {y m : Nat} {code : BoundsCode} (h : abound x y = some m) : (Instr.sliceBound (cv ρ x) y code).run P w = .ok m w ∧ m ≤ y := by
  unfold abound at h
  split at h
  · rename_i k i
    split at h
    · rename_i hb
      cases h
      refine ⟨?_, by omega⟩
      simp only [cv, Instr.sliceBound, asIntOf, Sem.run_bind, Sem.run_pure, Result.andThen_ok]
      rw [if_pos hb]; rfl
    · cases h
  · cases h
theorem abound_more {x : AVal} {y y' m : Nat} (h : abound x y = some m) (hy : y ≤ y') : abound x y' = some m := by
  unfold abound at *
  split at h
  · split at h
    · rename_i hb
      cases h
      rw [if_pos ⟨hb.1, by omega⟩]
    · cases h
  · cases h
/-- what an operand that may be there is -/
def OvR (ρ : Rho) (ev : AO → AVal) (ρv : Operand → Value) (o : Option Operand) (x : Option AO) : Prop := (o = none ∧ x = none) ∨ ∃ o' x', o = some o' ∧ x = some x' ∧ ρv o' = cv ρ (ev x')
theorem ovr {ρv : Operand → Value} (hev : EvR ρ ev ρv) {o : Option Operand} {x : Option AO} (h : compOO o = some x) : OvR ρ ev ρv o x := by
  unfold compOO at h
  split at h
  · cases h; exact .inl ⟨rfl, rfl⟩
  · rename_i y
    obtain ⟨z, hz, rfl⟩ := map_some h
    exact .inr ⟨y, z, rfl, rfl, (hev _ _ hz).1⟩
theorem abBounds_some {len cap l h m : Nat} {lo hi mx : Option AO} (hb : abBounds ev len cap lo hi mx = some (l, h, m)) :
    abMx ev cap mx = some m ∧ abHi ev len m mx.isSome hi = some h ∧ abLo ev h lo = some l ∧ h ≤ m := by
  unfold abBounds at hb
  split at hb
  · cases hb
  · rename_i m' h1
    split at hb
    · cases hb
    · rename_i h' h2
      split at hb
      · cases hb
      · rename_i l' h3
        cases hc : Nat.ble h' m' <;> rw [hc] at hb
        · cases hb
        · cases hb
          exact ⟨h1, h2, h3, Nat.le_of_ble_eq_true hc⟩

theorem run_low {ρv : Operand → Value} {lo : Option Operand} {lo' : Option AO} (h1 : OvR ρ ev ρv lo lo') {l h : Nat} (hl : abLo ev h lo' = some l) (code : BoundsCode) (m : Nat) :
    ((match lo.map ρv with
      | some v => do
        let l ← Instr.sliceBound v h code
        pure (l, h, m)
      | none => do
        let l ← pure 0
        pure (l, h, m)) : Sem (Nat × Nat × Nat)).run P w = .ok (l, h, m) w ∧ l ≤ h := by
  rcases h1 with ⟨rfl, rfl⟩ | ⟨o', x', rfl, rfl, e⟩
  · cases hl; exact ⟨rfl, Nat.zero_le _⟩
  · have := abound_spec (P := P) (w := w) (ρ := ρ) (code := code) hl
    refine ⟨?_, this.2⟩
    simp only [Option.map_some, e, Sem.run_bind, this.1, Result.andThen_ok]
    rfl

/-- the bounds, told and true: a third index shuts what is open -/
theorem run_bounds {ρv : Operand → Value} {lo hi mx : Option Operand} {lo' hi' mx' : Option AO} (h1 : OvR ρ ev ρv lo lo') (h2 : OvR ρ ev ρv hi hi') (h3 : OvR ρ ev ρv mx mx') (isS : Bool) (len cap extra l h m : Nat)
    (hb : abBounds ev len cap lo' hi' mx' = some (l, h, m)) :
    (Instr.sliceBounds isS len (cap + extra) (lo.map ρv) (hi.map ρv) (mx.map ρv)).run P w = .ok (l, h, m + bif mx'.isNone then extra else 0) w ∧ l ≤ h ∧ h ≤ m := by
  obtain ⟨hm, hh, hl, hle⟩ := abBounds_some hb
  rcases h3 with ⟨rfl, rfl⟩ | ⟨mo, mx'', rfl, rfl, em⟩
  · cases hm
    rcases h2 with ⟨rfl, rfl⟩ | ⟨ho, hx', rfl, rfl, eh⟩
    · cases hh
      have := run_low (P := P) (w := w) h1 hl .sliceB (cap + extra)
      refine ⟨?_, this.2, hle⟩
      simp only [Instr.sliceBounds, Option.map_none, Sem.run_bind, Sem.run_pure, Result.andThen_ok, Option.isSome_none, Bool.false_eq_true, if_false]
      exact this.1
    · have hbd := abound_spec (P := P) (w := w) (ρ := ρ) (code := if isS then .sliceAcap else .sliceAlen) (abound_more hh (Nat.le_add_right cap extra))
      have := run_low (P := P) (w := w) h1 hl .sliceB (cap + extra)
      refine ⟨?_, this.2, hle⟩
      simp only [Instr.sliceBounds, Option.map_none, Option.map_some, Sem.run_bind, Sem.run_pure, Result.andThen_ok, Option.isSome_none, Bool.false_eq_true, if_false, eh]
      rw [hbd.1]
      simp only [Result.andThen_ok]
      exact this.1
  · rcases h2 with ⟨rfl, rfl⟩ | ⟨ho, hx', rfl, rfl, eh⟩
    · cases hh
    · have hbm := abound_spec (P := P) (w := w) (ρ := ρ) (code := if isS then .slice3Acap else .slice3Alen) (abound_more hm (Nat.le_add_right cap extra))
      have hbd := abound_spec (P := P) (w := w) (ρ := ρ) (code := .slice3B) hh
      have := run_low (P := P) (w := w) h1 hl .slice3C m
      refine ⟨?_, this.2, hle⟩
      simp only [Instr.sliceBounds, Option.map_some, Sem.run_bind, em, hbm.1, Result.andThen_ok, eh, hbd.1, Option.isSome_some, if_true]
      exact this.1

theorem sim_slice (t : TypeId) (x : Operand) (lo hi mx : Option Operand) (hop : o.op = .slice t x lo hi mx) {ao : AOp} (hc : compOp P o.op = some ao) (hev : EvR ρ ev a.eval) (hW : WR CR ρ W w) (hx : xop ev W ao = some outs) : SimQ P ρ W w a o outs := by
  rw [hop] at hc
  simp only [compOp] at hc
  split at hc
  · rename_i x' lo' hi' mx' hx' hlo hhi hmx
    have p := hev _ _ hx'
    have r1 := ovr hev hlo
    have r2 := ovr hev hhi
    have r3 := ovr hev hmx
    split at hc
    · rename_i e hu
      obtain ⟨sz, hsz, rfl⟩ := map_some hc
      simp only [xop_eq, xopS] at hx
      split at hx
      · rename_i g off len cap op hg
        rw [hg] at p
        obtain ⟨b, s, hρ, hb, hs⟩ := rho_of p.2
        split at hx
        · rename_i l h m hbd
          obtain ⟨hrun, hlh, hhm⟩ := run_bounds (P := P) (w := w) r1 r2 r3 true len cap (bif op then ρ.slack g else 0) l h m hbd
          have hsl : (bif mx'.isNone then (bif op then ρ.slack g else 0) else 0) = bif (op && mx'.isNone) then ρ.slack g else 0 := by cases op <;> cases mx'.isNone <;> rfl
          rw [hsl] at hrun
          generalize (op && mx'.isNone) = op' at *
          have hexec : (execOp a.eval o).run P w = .ok (.value (.slice (if m + (bif op' then ρ.slack g else 0) = l then some ⟨b, off, none⟩ else some ⟨b, off + l * sz, none⟩) (h - l) (m + (bif op' then ρ.slack g else 0) - l))) w := by
            simp only [execOp, hop, p.1, cv, Instr.sliceAt, Sem.run_bind, run_underlying' hu, Result.andThen_ok, Instr.slice, hrun, run_sizeOf' hsz, Sem.run_pure, hb, Option.map_some, add_addr]
          cases hc1 : (op' && Nat.beq m l && !Nat.beq l 0) <;> rw [hc1] at hx
          · cases hx
            refine .same hW ?_ p.2
            rw [hexec]
            simp only [cv, hb]
            congr 2
            cases hml : Nat.beq m l with
            | true =>
              have e1 := Nat.eq_of_beq_eq_true hml
              cases op' with
              | false => simp [e1]
              | true =>
                rw [hml] at hc1
                have hl0 : l = 0 := by
                  cases h0 : Nat.beq l 0 with
                  | true => exact Nat.eq_of_beq_eq_true h0
                  | false => rw [h0] at hc1; cases hc1
                simp [e1, hl0]
            | false =>
              have hne : ¬ m = l := fun e => by rw [e, Nat.beq_refl] at hml; cases hml
              have : ¬ m + (bif op' then ρ.slack g else 0) = l := by omega
              rw [if_neg this]
              simp only [cond_false]
              congr 1
              omega
          · cases hx
            simp only [Bool.and_eq_true] at hc1
            obtain ⟨⟨hop1, hml⟩, _⟩ := hc1
            have e1 := Nat.eq_of_beq_eq_true hml
            refine .same hW ?_ p.2
            rw [hexec]
            simp only [cv, hb, hop1, cond_true, e1]
            have e2 : (if l + ρ.slack g = l then some (⟨b, off, none⟩ : Addr) else some ⟨b, off + l * sz, none⟩) = some ⟨b, if ρ.slack g = 0 then off else off + l * sz, none⟩ := by
              by_cases h0 : ρ.slack g = 0
              · simp [h0]
              · rw [if_neg (by omega), if_neg h0]
            rw [e2, show h - l = 0 by omega, show l + ρ.slack g - l = ρ.slack g by omega]
        · cases hx
      · rename_i hg
        rw [hg] at p
        split at hx
        · rename_i l h m hbd
          cases hx
          obtain ⟨hrun, hlh, hhm⟩ := run_bounds (P := P) (w := w) r1 r2 r3 true 0 0 0 l h m hbd
          have hm0 : m ≤ 0 := by
            have := (abBounds_some hbd).1
            cases mx' with
            | none => cases this; exact Nat.le_refl _
            | some m' => exact (abound_spec (P := P) (w := w) (ρ := ρ) (code := .index) this).2
          refine .same hW ?_ trivial
          obtain rfl : m = 0 := by omega
          obtain rfl : h = 0 := by omega
          obtain rfl : l = 0 := by omega
          simp only [execOp, hop, p.1, cv, Instr.sliceAt, Sem.run_bind, run_underlying' hu, Result.andThen_ok, Instr.slice, hrun, run_sizeOf' hsz, Sem.run_pure]
          simp
        · cases hx
      · cases hx
    · rename_i n e hu
      obtain ⟨sz, hsz, rfl⟩ := map_some hc
      simp only [xop_eq, xopS] at hx
      split at hx
      · rename_i g off hg
        rw [hg] at p
        obtain ⟨b, s, hρ, hb, hs⟩ := rho_of p.2
        split at hx
        · rename_i l h m hbd
          cases hx
          obtain ⟨hrun, hlh, hhm⟩ := run_bounds (P := P) (w := w) r1 r2 r3 false n n 0 l h m hbd
          refine .same hW ?_ p.2
          simp only [execOp, hop, p.1, cv, Instr.sliceAt, Sem.run_bind, run_underlying' hu, Result.andThen_ok, Instr.sureAddr, hrun, run_sizeOf' hsz, Sem.run_pure, hb, add_addr, Nat.add_zero] at hrun ⊢
          cases hml : Nat.beq m l with
          | true =>
            have e1 := Nat.eq_of_beq_eq_true hml
            simp [e1]
          | false =>
            have hne : ¬ m = l := fun e => by rw [e, Nat.beq_refl] at hml; cases hml
            simp [hne]
        · cases hx
      · cases hx
    · cases hc
  · cases hc

theorem foldl_max_none (isMax : Bool) : ∀ l : List AVal, l.foldl (fun (acc : Option Int) y => match acc, y with
        | some x, .int _ y => some (bif isMax then (if y > x then y else x) else (if y < x then y else x))
        | _, _ => none) none = none
  | [] => rfl
  | _ :: l => foldl_max_none isMax l
theorem maxmin_spec (isMax : Bool) (k : IntKind) : ∀ (l : List AVal) (x r : Int), l.foldl (fun (acc : Option Int) y => match acc, y with
        | some x, .int _ y => some (bif isMax then (if y > x then y else x) else (if y < x then y else x))
        | _, _ => none) (some x) = some r → ((cvs ρ l).foldlM (if isMax then Builtin.max2 else Builtin.min2) (.int k x)).run P w = .ok (.int k r) w
  | [], x, r, h => by cases h; simp [cvs]
  | v :: l, x, r, h => by
    rw [List.foldl_cons] at h
    cases v with
    | int k' y =>
      have := maxmin_spec isMax k l _ r h
      simp only [cvs, cv, List.foldlM_cons, Sem.run_bind]
      cases isMax <;> simpa [Builtin.max2, Builtin.min2] using this
    | _ => simp only at h; rw [foldl_max_none] at h; cases h

theorem sim_maxmin (isMax : Bool) (c : Call) (hop : o.op = .call c) (hcal : c.callee = .builtin (if isMax then .max else .min)) {xs : List AO} (hargs : compOs c.args.toList = some xs) (hev : EvR ρ ev a.eval) (hW : WR CR ρ W w)
    (hx : xop ev W (.maxmin isMax xs) = some outs) : SimQ P ρ W w a o outs := by
  have q := hev.all hargs
  have e1 := arr_of q
  simp only [xop_eq, xopS] at hx
  split at hx
  · rename_i k x rest hr
    split at hx
    · rename_i r hf
      cases hx
      refine .same hW ?_ trivial
      rw [run_builtin c _ hop hcal, e1, hr]
      have := maxmin_spec (P := P) (w := w) (ρ := ρ) isMax k rest x r hf
      cases isMax
      · simp only [Bool.false_eq_true, if_false, builtin, Builtin.min_, cvs, cv, List.toArray_cons, Sem.run_bind] at this ⊢
        simp [this]
      · simp only [if_true, builtin, Builtin.max_, cvs, cv, Sem.run_bind] at this ⊢
        simp [this]
    · cases hx
  · cases hx

theorem sim_recover (c : Call) (hop : o.op = .call c) (hcal : c.callee = .builtin .recover) (hx : xop ev W .recover = some outs) : Sim1 CR P ρ W w a o outs := by
  cases hx
  refine .here ?_
  show (execOp a.eval o).run P w = _
  rw [run_builtin c _ hop hcal]
  rfl
end
end Go.Eng

/- Engine, maps: the abstract operations on maps tell what the model's do. -/
namespace Go.Eng
open Go.Maps (Keyed)
set_option linter.unusedVariables false
set_option linter.unusedSimpArgs false
variable {CR : CodeR} {P : Program}
section
variable {ρ : Rho} {W : AW} {w : World}

/-! blocks that are no cells -/
def ABlk.isObj : ABlk → Bool
  | .loop _ | .deferred _ | .map .. | .iter .. => true
  | _ => false
theorem WR.alone (h : WR CR ρ W w) {g k b s s' : Nat} (hg : ρ g = some (b, s)) (hk : ρ k = some (b, s')) (hne : k ≠ g) (hobj : (W.get g).isObj = true) : W.get k = .dead := by
  rcases h.share k g b s' s hne hk hg with h1 | h1 | h1 | h1
  · exact h1
  · rw [h1] at hobj; cases hobj
  · obtain ⟨_, _, _, _, _, cs2, e2, z2, o2, t2, a2, _, q2, _, _⟩ := h1
    rw [q2] at hobj; cases hobj
  · obtain ⟨cs1, e1, z1, o1, a1, _, _, _, _, _, _, q1, _, _, _⟩ := h1
    rw [q1] at hobj; cases hobj
theorem WR.setObj (h : WR CR ρ W w) {g b s : Nat} (hg : ρ g = some (b, s)) (hobj : (W.get g).isObj = true) {blk' : ABlk} {o' : Obj} (hB : BR CR ρ s blk' o') (hit : IterR ρ (W.set g blk') (wset w b o')) (hd : blk' ≠ .dead := by simp) :
    WR CR ρ (W.set g blk') (wset w b o') ∧ Ext ρ W w ρ (W.set g blk') (wset w b o') := by
  obtain ⟨_, o0, ho0, hB0⟩ := h.blk g b s hg
  refine h.upd hg _ _ (by simp) ?_ ?_ ?_ ?_ hit (frz_wset ho0 (hB0.calm (by intro e; rw [e] at hobj; cases hobj)) (hB.calm hd))
  · intro k b' s' hk hbb
    have hkg : k ≠ g := by rintro rfl; rw [hg] at hk; cases hk; exact hbb rfl
    exact .inl (AW.get_set_ne _ _ hkg)
  · intro k s' hk
    by_cases hkg : k = g
    · subst hkg; rw [hg] at hk; cases hk; rw [AW.get_set_same]; exact hB
    · rw [AW.get_set_ne _ _ hkg, h.alone hg hk hkg hobj]; trivial
  · intro k1 k2 s1 s2 hne h1 h2
    by_cases hkg : k1 = g
    · have hk2 : k2 ≠ g := fun e => hne (hkg.trans e.symm)
      exact .inr (.inl (by rw [AW.get_set_ne _ _ hk2]; exact h.alone hg h2 hk2 hobj))
    · exact .inl (by rw [AW.get_set_ne _ _ hkg]; exact h.alone hg h1 hkg hobj)
  · intro k hk
    have hkg : k ≠ g := by rintro rfl; rw [hg] at hk; cases hk
    exact AW.get_set_ne _ _ hkg
theorem WR.getMap (h : WR CR ρ W w) {g : Nat} (hg : (ρ g).isSome = true) {es : List AEntry} {clock : Nat} (hW : W.get g = .map es clock) :
    w.heap[ρ.blk g]? = some (.map (es.map (centry ρ)).toArray clock) ∧ ∀ x ∈ es, okv ρ x.1 ∧ okv ρ x.2.1 := by
  obtain ⟨b, s, hρ, hb, _⟩ := rho_of hg
  obtain ⟨_, o, ho, hB⟩ := h.blk g b s hρ
  rw [hW] at hB
  obtain ⟨rfl, hok⟩ := hB
  rw [hb]; exact ⟨ho, hok⟩
theorem WR.setMap (h : WR CR ρ W w) {g : Nat} (hg : (ρ g).isSome = true) {es es2 : List AEntry} {clock clock2 : Nat} (hW : W.get g = .map es clock) (hok : ∀ x ∈ es2, okv ρ x.1 ∧ okv ρ x.2.1) :
    WR CR ρ (W.set g (.map es2 clock2)) (wset w (ρ.blk g) (.map (es2.map (centry ρ)).toArray clock2)) ∧ Ext ρ W w ρ (W.set g (.map es2 clock2)) (wset w (ρ.blk g) (.map (es2.map (centry ρ)).toArray clock2)) := by
  obtain ⟨b, s, hρ, hb, _⟩ := rho_of hg
  rw [hb]
  exact h.setObj hρ (by rw [hW]; rfl) ⟨rfl, hok⟩ trivial
theorem WR.getIter (h : WR CR ρ W w) {g : Nat} (hg : (ρ g).isSome = true) {m : Option Nat} {since st : Nat} {seen : List Nat} (hW : W.get g = .iter m since seen st) :
    w.heap[ρ.blk g]? = some (.mapIter (m.map ρ.blk) since seen.toArray st) ∧ ∀ r, m = some r → (ρ r).isSome = true := by
  obtain ⟨b, s, hρ, hb, _⟩ := rho_of hg
  obtain ⟨_, o, ho, hB⟩ := h.blk g b s hρ
  rw [hW] at hB
  obtain ⟨hok, rfl⟩ := hB
  rw [hb]; exact ⟨ho, hok⟩
theorem WR.setIter (h : WR CR ρ W w) {g : Nat} (hg : (ρ g).isSome = true) {m : Option Nat} {since st since2 st2 : Nat} {seen seen2 : List Nat} (hW : W.get g = .iter m since seen st) (hok : ∀ r, m = some r → (ρ r).isSome = true) :
    WR CR ρ (W.set g (.iter m since2 seen2 st2)) (wset w (ρ.blk g) (.mapIter (m.map ρ.blk) since2 seen2.toArray st2)) ∧ Ext ρ W w ρ (W.set g (.iter m since2 seen2 st2)) (wset w (ρ.blk g) (.mapIter (m.map ρ.blk) since2 seen2.toArray st2)) := by
  obtain ⟨b, s, hρ, hb, _⟩ := rho_of hg
  rw [hb]
  exact h.setObj hρ (by rw [hW]; rfl) ⟨hok, rfl⟩ trivial

theorem run_getMap {P : Program} {r : Nat} {es : Array MapEntry} {c : Nat} (h : w.heap[r]? = some (.map es c)) : (getObj r).run P w = .ok (.map es c) w := by
  simp [getObj, Sem.run, h]
theorem run_getIter {P : Program} {r : Nat} {m : Option Nat} {a l : Nat} {sn : Array Nat} (h : w.heap[r]? = some (.mapIter m a sn l)) : (getObj r).run P w = .ok (.mapIter m a sn l) w := by
  simp [getObj, Sem.run, h]
theorem run_setObj' (P : Program) {l : Nat} {o o' : Obj} (h : w.heap[l]? = some o) (hc : ∀ c e f, o ≠ .cells c e f) : (setObj l o').run P w = .ok () (wset w l o') := by
  simp only [Go.setObj, Sem.run, h]
  cases o <;> first | exact absurd rfl (hc _ _ _) | rfl

/-! entries -/
theorem mem_ahits {k : AVal} {y : AEntry} : ∀ {es : List AEntry}, y ∈ ahits k es ↔ y ∈ es ∧ y.1 = k
  | [] => by simp [ahits]
  | x :: xs => by
    unfold ahits
    cases h : AVal.same k x.1 with
    | true =>
      have := AVal.same_eq _ _ h
      simp only [cond_true, List.mem_cons, mem_ahits (es := xs)]
      constructor
      · rintro (rfl | ⟨h1, h2⟩)
        · exact ⟨.inl rfl, this.symm⟩
        · exact ⟨.inr h1, h2⟩
      · rintro ⟨rfl | h1, h2⟩
        · exact .inl rfl
        · exact .inr ⟨h1, h2⟩
    | false =>
      simp only [cond_false, List.mem_cons, mem_ahits (es := xs)]
      constructor
      · rintro ⟨h1, h2⟩; exact ⟨.inr h1, h2⟩
      · rintro ⟨rfl | h1, h2⟩
        · rw [h2, AVal.same_refl] at h; cases h
        · exact ⟨h1, h2⟩
theorem ahits_one {k : AVal} {x : AEntry} : ∀ {es : List AEntry}, ahits k es = [x] → ∀ (i j : Nat) (y z : AEntry), es[i]? = some y → es[j]? = some z → y.1 = k → z.1 = k → i = j
  | [], h, _, _, _, _, _, _, _, _ => by cases h
  | e :: es, h, i, j, y, z, hi, hj, hy, hz => by
    unfold ahits at h
    cases hs : AVal.same k e.1 with
    | true =>
      rw [hs] at h
      simp only [cond_true, List.cons.injEq] at h
      have hno : ∀ (n : Nat) (u : AEntry), es[n]? = some u → u.1 ≠ k := fun n u hu hk => by
        have := mem_ahits.2 ⟨List.mem_of_getElem? hu, hk⟩
        rw [h.2] at this
        cases this
      cases i with
      | zero => cases j with
        | zero => rfl
        | succ j => exact absurd hz (hno j z (by simpa using hj))
      | succ i => exact absurd hy (hno i y (by simpa using hi))
    | false =>
      rw [hs] at h
      simp only [cond_false] at h
      have hne : e.1 ≠ k := fun hk => by rw [hk, AVal.same_refl] at hs; cases hs
      cases i with
      | zero => cases hi; exact absurd hy hne
      | succ i => cases j with
        | zero => cases hj; exact absurd hz hne
        | succ j => rw [ahits_one h i j y z (by simpa using hi) (by simpa using hj) hy hz]
theorem aput_get (k v : AVal) : ∀ (es : List AEntry) (i : Nat), (aput k v es)[i]? = (es[i]?).map fun x => bif AVal.same k x.1 then (k, v, x.2.2) else x
  | [], i => by simp [aput]
  | e :: es, 0 => by unfold aput; cases h : AVal.same k e.1 <;> simp [h]
  | e :: es, i + 1 => by unfold aput; cases h : AVal.same k e.1 <;> simp [aput_get k v es i]
theorem adel_eq {k : AVal} {x : AEntry} : ∀ {es : List AEntry}, ahits k es = [x] → ∀ (j : Nat) (y : AEntry), es[j]? = some y → y.1 = k → adel k es = es.eraseIdx j
  | [], h, _, _, _, _ => by cases h
  | e :: es, h, j, y, hj, hy => by
    unfold ahits at h
    unfold adel
    cases hs : AVal.same k e.1 with
    | true =>
      rw [hs] at h
      simp only [cond_true, List.cons.injEq] at h
      cases j with
      | zero =>
        simp only [cond_true, List.eraseIdx_cons_zero]
        have : ∀ (l : List AEntry), ahits k l = [] → adel k l = l := by
          intro l
          induction l with
          | nil => intro _; rfl
          | cons a l ih =>
            intro ha
            unfold ahits at ha
            unfold adel
            cases hs' : AVal.same k a.1 with
            | true => rw [hs'] at ha; cases ha
            | false => rw [hs'] at ha; simp only [cond_false] at ha ⊢; rw [ih ha]
        exact this es h.2
      | succ j =>
        exfalso
        have := mem_ahits.2 ⟨List.mem_of_getElem? (show es[j]? = some y by simpa using hj), hy⟩
        rw [h.2] at this
        cases this
    | false =>
      rw [hs] at h
      simp only [cond_false] at h
      have hne : e.1 ≠ k := fun hk => by rw [hk, AVal.same_refl] at hs; cases hs
      cases j with
      | zero => cases hj; exact absurd hy hne
      | succ j =>
        simp only [cond_false, List.eraseIdx_cons_succ]
        rw [adel_eq h j y (by simpa using hj) hy]
theorem aborn_spec {n : Nat} {v : AVal} : ∀ {es es2 : List AEntry}, aborn n v es = some es2 → ∃ i, (es.map (centry ρ)).findIdx? (fun e => (e.born : Int) == (n : Int)) = some i ∧
    es2.map (centry ρ) = (es.map (centry ρ)).modify i (fun e => { e with val := cv ρ v }) ∧ ∀ x ∈ es2, x ∈ es ∨ ∃ y ∈ es, x.1 = y.1 ∧ x.2.1 = v
  | [], es2, h => by cases h
  | e :: es, es2, h => by
    unfold aborn at h
    cases hb : Nat.beq e.2.2 n with
    | true =>
      rw [hb] at h
      cases h
      have := Nat.eq_of_beq_eq_true hb
      refine ⟨0, by simp [List.findIdx?_cons, centry, this], by simp [centry], fun x hx => ?_⟩
      rcases List.mem_cons.1 hx with rfl | hx
      · exact .inr ⟨e, by simp, rfl, rfl⟩
      · exact .inl (by simp [hx])
    | false =>
      rw [hb] at h
      simp only [cond_false] at h
      split at h
      · rename_i ys hys
        cases h
        obtain ⟨i, h1, h2, h3⟩ := aborn_spec hys
        have hne : e.2.2 ≠ n := fun hk => by rw [hk, Nat.beq_refl] at hb; cases hb
        refine ⟨i + 1, ?_, ?_, fun x hx => ?_⟩
        · rw [List.map_cons, List.findIdx?_cons]
          have : (((centry ρ e).born : Int) == (n : Int)) = false := beq_eq_false_iff_ne.2 (fun e2 => hne (by simp only [centry] at e2; omega))
          simp [this, h1]
        · rw [List.map_cons, List.map_cons, h2]; simp
        · rcases List.mem_cons.1 hx with rfl | hx
          · exact .inl (by simp)
          · rcases h3 x hx with h4 | ⟨y, h4, h5⟩
            · exact .inl (by simp [h4])
            · exact .inr ⟨y, by simp [h4], h5⟩
      · cases h

theorem find_spec {kt : TypeId} {ks : List KC} {agg : Bool} (hs : keyShape P kt = some (ks, agg)) {k : AVal} {es : List AEntry} (hk : akey ks agg k = true) (hall : es.all (fun x => akey ks agg x.1) = true) :
    (∀ em, (Instr.checkKey em 10000 kt (cv ρ k)).run P w = .ok () w) ∧ (Instr.keyThatStays (cv ρ k) (cv ρ k)).run P w = .ok (cv ρ k) w ∧
    (ahits k es = [] → (Instr.findKey kt (cv ρ k) (es.map (centry ρ))).run P w = .ok none w) ∧
    (∀ x, ahits k es = [x] → ∃ j, (Instr.findKey kt (cv ρ k) (es.map (centry ρ))).run P w = .ok (some (j, cv ρ x.2.1)) w ∧ es[j]? = some x ∧ x.1 = k) := by
  obtain ⟨K, hkeys⟩ := keyShape_spec hs
  obtain ⟨l, hl⟩ := hkeys ρ k hk
  have hk2 : ∀ e ∈ es.map (centry ρ), ∃ l, keyOf P kt e.key = some l := by
    intro e he
    obtain ⟨x, hx, rfl⟩ := List.mem_map.1 he
    exact hkeys ρ x.1 (List.all_eq_true.1 hall x hx)
  have hinj : ∀ x ∈ es, (centry ρ x).key = cv ρ k → x.1 = k := fun x hx e => akey_inj (List.all_eq_true.1 hall x hx) hk e
  refine ⟨fun em => K.check w em hl, K.stays w hl, fun h0 => ?_, fun x h1 => ?_⟩
  · rcases K.find w hl _ hk2 with ⟨h2, _⟩ | ⟨j, e, h2, h3, h4⟩
    · exact h2
    · exfalso
      rw [List.getElem?_map] at h3
      obtain ⟨y, hy, rfl⟩ := map_some h3
      have hm := List.mem_of_getElem? hy
      have := mem_ahits.2 ⟨hm, hinj y hm h4⟩
      rw [h0] at this; cases this
  · have hxm : x ∈ ahits k es := by rw [h1]; simp
    obtain ⟨hx, hxk⟩ := mem_ahits.1 hxm
    rcases K.find w hl _ hk2 with ⟨_, h2⟩ | ⟨j, e, h2, h3, h4⟩
    · exact absurd (show (centry ρ x).key = cv ρ k by simp [centry, hxk]) (h2 _ (List.mem_map.2 ⟨x, hx, rfl⟩))
    · rw [List.getElem?_map] at h3
      obtain ⟨y, hy, rfl⟩ := map_some h3
      have hm := List.mem_of_getElem? hy
      have hyk := hinj y hm h4
      have hyx : y = x := by
        have := mem_ahits.2 ⟨hm, hyk⟩
        rw [h1] at this
        simpa using this
      subst hyx
      exact ⟨j, h2, hy, hyk⟩
end
section
variable {ρ : Rho} {W : AW} {w : World} {a : Act} {o : Oper} {outs : List AOut} {ev : AO → AVal}

theorem sim_makeMap (t : TypeId) (r : Option Operand) (hop : o.op = .makeMap t r) {ao : AOp} (hc : compOp P o.op = some ao) (hev : EvR ρ ev a.eval) (hW : WR CR ρ W w) (hx : xop ev W ao = some outs) : SimA CR P ρ W w a o outs := by
  rw [hop] at hc
  cases r with
  | none =>
    simp only [compOp] at hc
    split at hc
    · rename_i k e hu
      cases hc; cases hx
      refine ⟨_, _, .map #[] 0, rfl, ?_, by simp [okv, Rho.upd_same], ⟨rfl, by simp⟩, by simp⟩
      simp [execOp, hop, Instr.makeMap, wpush, cv, blk_upd]
    · cases hc
  | some x =>
    simp only [compOp] at hc
    split at hc
    · rename_i k e x' hu hx'
      cases hc
      have p := hev _ _ hx'
      simp only [xop_eq, xopS] at hx
      split at hx
      · rename_i q n hn
        cases hx
        rw [hn] at p
        refine ⟨_, _, .map #[] 0, rfl, ?_, by simp [okv, Rho.upd_same], ⟨rfl, by simp⟩, by simp⟩
        simp [execOp, hop, Instr.makeMap, wpush, cv, blk_upd, run_underlying' hu, p.1, asInt, asIntOf]
      · cases hx
    · cases hc

theorem aentries_some {ks : List KC} {agg : Bool} {m : AVal} {es : List AEntry} (h : aentries W ks agg m = some es) (hW : WR CR ρ W w) (hok : okv ρ m) :
    es.all (fun x => akey ks agg x.1) = true ∧ (∀ x ∈ es, okv ρ x.1 ∧ okv ρ x.2.1) ∧ ((m = .map0 ∧ es = []) ∨ ∃ r clock, m = .map r ∧ w.heap[ρ.blk r]? = some (.map (es.map (centry ρ)).toArray clock)) := by
  unfold aentries at h
  split at h
  · cases h; exact ⟨rfl, by simp, .inl ⟨rfl, rfl⟩⟩
  · rename_i r
    split at h
    · rename_i es' clock hg
      cases hb : es'.all (fun x => akey ks agg x.1) <;> rw [hb] at h
      · cases h
      · cases h
        obtain ⟨h1, h2⟩ := hW.getMap (show (ρ r).isSome = true from hok) hg
        exact ⟨hb, h2, .inr ⟨r, clock, rfl, h1⟩⟩
    · cases h
  · cases h

theorem sim_lookup (t : TypeId) (m k : Operand) (ok : Bool) (hop : o.op = .lookup t m k ok) {ao : AOp} (hc : compOp P o.op = some ao) (hev : EvR ρ ev a.eval) (hW : WR CR ρ W w) (hx : xop ev W ao = some outs) : SimQ P ρ W w a o outs := by
  rw [hop] at hc
  simp only [compOp] at hc
  split at hc
  case h_2 => cases hc
  rename_i kt e m' k' hu hm hk
  split at hc
  case h_2 => cases hc
  rename_i ks agg z hks hz
  cases hc
  have p := hev _ _ hm
  have q := hev _ _ hk
  obtain ⟨v, hv, hcv⟩ := run_zeroValue' (w := w) hz
  simp only [xop_eq, xopS] at hx
  cases hak : akey ks agg (ev k') <;> rw [hak] at hx
  · cases hx
  simp only [cond_true] at hx
  split at hx
  · cases hx
  rename_i es hes
  obtain ⟨hall, hokes, hcase⟩ := aentries_some hes hW p.2
  obtain ⟨f1, f2, f3, f4⟩ := find_spec (ρ := ρ) (w := w) hks hak hall
  have hrunes : (match a.eval m with
    | .map none => pure #[]
    | .map (some r) => do
      match ← getObj r with
      | .map es _ => pure es
      | _ => stuck "Lookup: map expected"
    | _ => stuck "Lookup: map expected" : Sem (Array MapEntry)).run P w = .ok (es.map (centry ρ)).toArray w := by
    rcases hcase with ⟨h1, rfl⟩ | ⟨r, clock, h1, h2⟩
    · rw [p.1, h1]; simp [cv]
    · rw [p.1, h1]; simp [cv, run_getMap h2]
  have hrun : ∀ (res : Option (Nat × Value)) (val : AVal) (is : Bool), (Instr.findKey kt (cv ρ (ev k')) (es.map (centry ρ))).run P w = .ok res w → (match res with | some (_, u) => u = cv ρ val ∧ is = true | none => v = cv ρ val ∧ is = false) →
      okv ρ val → SimQ P ρ W w a o [.val (bif ok then .tup [val, .bool is] else val) W] := by
    intro res val is hf hres hokv
    refine .same hW ?_ (by cases ok <;> simp [okv, okvs, hokv])
    simp only [execOp, hop, Instr.lookup, Sem.run_bind, run_underlying' hu, Result.andThen_ok]
    rcases hcase with ⟨h1, rfl⟩ | ⟨r, clock, h1, h2⟩
    · rw [p.1, h1]
      simp only [cv, Sem.run_bind, Sem.run_pure, Result.andThen_ok, q.1, f1]
      simp only [List.map_nil] at hf
      rw [hf]
      cases res with
      | none => simp only [Result.andThen_ok, Sem.run_bind, hv, Sem.run_pure, hres.1, hres.2]; cases ok <;> simp [cv, cvs]
      | some u => obtain ⟨u1, u2⟩ := u; simp only [Result.andThen_ok, Sem.run_bind, Sem.run_pure, hres.1, hres.2]; cases ok <;> simp [cv, cvs]
    · rw [p.1, h1]
      simp only [cv, Sem.run_bind, Sem.run_pure, Result.andThen_ok, q.1, f1, run_getMap h2]
      rw [hf]
      cases res with
      | none => simp only [Result.andThen_ok, Sem.run_bind, hv, Sem.run_pure, hres.1, hres.2]; cases ok <;> simp [cv, cvs]
      | some u => obtain ⟨u1, u2⟩ := u; simp only [Result.andThen_ok, Sem.run_bind, Sem.run_pure, hres.1, hres.2]; cases ok <;> simp [cv, cvs]
  split at hx
  · rename_i h0
    cases hx
    exact hrun none z false (f3 h0) ⟨(hcv ρ).1.symm, rfl⟩ (hcv ρ).2
  · rename_i x h1
    cases hx
    obtain ⟨j, hf, hj, _⟩ := f4 x h1
    exact hrun _ x.2.1 true hf ⟨rfl, rfl⟩ (hokes x (List.mem_of_getElem? hj)).2
  · cases hx

theorem amapOf_some {ks : List KC} {agg : Bool} {k m : AVal} {r clock : Nat} {es : List AEntry} (h : amapOf W ks agg k m = some (r, es, clock)) :
    m = .map r ∧ W.get r = .map es clock ∧ akey ks agg k = true ∧ es.all (fun x => akey ks agg x.1) = true := by
  unfold amapOf at h
  split at h
  · rename_i r'
    split at h
    · rename_i es' clock' hg
      cases hb : (akey ks agg k && es'.all (fun x => akey ks agg x.1)) <;> rw [hb] at h
      · cases h
      · cases h
        simp only [Bool.and_eq_true] at hb
        exact ⟨rfl, hg, hb.1, hb.2⟩
    · cases h
  · cases h
theorem aput_conc {k v : AVal} {es : List AEntry} {x : AEntry} {j : Nat} (h1 : ahits k es = [x]) (hj : es[j]? = some x) (hx : x.1 = k) :
    ((es.map (centry ρ)).toArray.modify j fun e => { e with key := cv ρ k, val := cv ρ v }) = ((aput k v es).map (centry ρ)).toArray := by
  apply Array.ext'
  apply List.ext_getElem?
  intro i
  simp only [Array.toList_modify, List.getElem?_modify, List.getElem?_map, aput_get]
  cases hi : es[i]? with
  | none => simp
  | some y =>
    by_cases hij : j = i
    · subst hij
      rw [hj] at hi; cases hi
      have : AVal.same k x.1 = true := by rw [hx]; exact AVal.same_refl _
      simp [this, centry]
    · have : AVal.same k y.1 = false := by
        cases hs : AVal.same k y.1 with
        | false => rfl
        | true => exact absurd (ahits_one h1 j i x y hj hi hx (AVal.same_eq _ _ hs).symm) hij
      simp [this, hij]
theorem mem_aput {k v : AVal} {x : AEntry} : ∀ {es : List AEntry}, x ∈ aput k v es → x ∈ es ∨ (x.1 = k ∧ x.2.1 = v)
  | [], h => by cases h
  | e :: es, h => by
    unfold aput at h
    cases hs : AVal.same k e.1 with
    | true =>
      rw [hs] at h
      rcases List.mem_cons.1 h with rfl | h
      · exact .inr ⟨rfl, rfl⟩
      · rcases mem_aput h with h | h
        · exact .inl (by simp [h])
        · exact .inr h
    | false =>
      rw [hs] at h
      rcases List.mem_cons.1 h with rfl | h
      · exact .inl (by simp)
      · rcases mem_aput h with h | h
        · exact .inl (by simp [h])
        · exact .inr h
theorem mem_adel {k : AVal} {x : AEntry} : ∀ {es : List AEntry}, x ∈ adel k es → x ∈ es
  | [], h => by cases h
  | e :: es, h => by
    unfold adel at h
    cases hs : AVal.same k e.1 with
    | true => rw [hs] at h; simp [mem_adel (es := es) h]
    | false =>
      rw [hs] at h
      rcases List.mem_cons.1 h with rfl | h
      · simp
      · simp [mem_adel h]

theorem map_eraseIdx' {α β : Type} (f : α → β) : ∀ (l : List α) (j : Nat), (l.eraseIdx j).map f = (l.map f).eraseIdx j
  | [], _ => rfl
  | x :: l, 0 => rfl
  | x :: l, j + 1 => by simp [map_eraseIdx' f l j]
theorem run_asInt' (q : IntKind) (n : Int) : (asInt (.int q n)).run P w = .ok n w := by simp [asInt, asIntOf]
theorem run_modify_at {es : List AEntry} {j : Nat} {x : AEntry} (hj : es[j]? = some x) (d : Value) : ((((es.map (centry ρ)).toArray[j]?).map (·.key)).getD d) = cv ρ x.1 := by
  simp [hj, centry]
theorem run_modify_born {es : List AEntry} {j : Nat} {x : AEntry} (hj : es[j]? = some x) (d : Int) : ((((es.map (centry ρ)).toArray[j]?).map (fun e => (e.born : Int))).getD d) = (x.2.2 : Int) := by
  simp [hj, centry]

theorem sim_mapUpdate (t : TypeId) (m k v : Operand) (hop : o.op = .mapUpdate t m k v ∨ o.op = .insert t m k v) {ao : AOp} (hc : compUpdate P t m k v = some ao) (hev : EvR ρ ev a.eval) (hW : WR CR ρ W w) (hx : xop ev W ao = some outs) : Sim1 CR P ρ W w a o outs := by
  unfold compUpdate at hc
  split at hc
  case h_2 => cases hc
  rename_i kt e m' k' v' hu hm hk hv
  split at hc
  case h_2 => cases hc
  rename_i ks agg hks
  cases hc
  have p := hev _ _ hm
  have q := hev _ _ hk
  have u := hev _ _ hv
  simp only [xop_eq, xopS] at hx
  split at hx
  · cases hx
  rename_i r es clock hmo
  obtain ⟨hmr, hg, hak, hall⟩ := amapOf_some hmo
  rw [hmr] at p
  have hr : (ρ r).isSome = true := p.2
  obtain ⟨hheap, hokes⟩ := hW.getMap hr hg
  obtain ⟨f1, f2, f3, f4⟩ := find_spec (ρ := ρ) (w := w) hks hak hall
  have hexec : ∀ w', (Instr.mapUpdate t (.map (some (ρ.blk r))) (cv ρ (ev k')) (cv ρ (ev v'))).run P w = .ok () w' → (execOp a.eval o).run P w = .ok .skip w' := by
    intro w' hrun
    have e1 : execOp a.eval o = (do Instr.mapUpdate t (a.eval m) (a.eval k) (a.eval v); pure .skip) := by
      rcases hop with hop | hop <;> simp [execOp, hop]
    rw [e1, Sem.run_bind, p.1, q.1, u.1]
    show ((Instr.mapUpdate t (.map (some (ρ.blk r))) (cv ρ (ev k')) (cv ρ (ev v'))).run P w).andThen _ = _
    rw [hrun]
    simp
  split at hx
  · rename_i h0
    cases hx
    have hset := hW.setMap hr hg (es2 := es ++ [(ev k', ev v', clock)]) (clock2 := clock + 1) (fun x hx => by
      rcases List.mem_append.1 hx with hx | hx
      · exact hokes x hx
      · obtain rfl : x = _ := by simpa using hx
        exact ⟨q.2, u.2⟩)
    refine .here ⟨ρ, _, .skip, hexec _ ?_, rfl, trivial, hset.1, hset.2⟩
    simp only [Instr.mapUpdate, Sem.run_bind, run_underlying' hu, Result.andThen_ok, run_getMap hheap, f1]
    rw [f3 h0]
    simp only [Result.andThen_ok]
    rw [run_setObj' P hheap (by simp)]
    simp [centry]
  · rename_i x h1
    cases hx
    obtain ⟨j, hf, hj, hxk⟩ := f4 x h1
    have hset := hW.setMap hr hg (es2 := aput (ev k') (ev v') es) (clock2 := clock) (fun y hy => by
      rcases mem_aput hy with hy | ⟨h2, h3⟩
      · exact hokes y hy
      · exact ⟨by rw [h2]; exact q.2, by rw [h3]; exact u.2⟩)
    refine .here ⟨ρ, _, .skip, hexec _ ?_, rfl, trivial, hset.1, hset.2⟩
    simp only [Instr.mapUpdate, Sem.run_bind, run_underlying' hu, Result.andThen_ok, run_getMap hheap, f1]
    rw [hf]
    simp only [Result.andThen_ok, Sem.run_bind]
    rw [run_modify_at hj, hxk, f2]
    simp only [Result.andThen_ok]
    rw [run_setObj' P hheap (by simp), aput_conc h1 hj hxk]
  · cases hx

theorem sim_mapEntry (t : TypeId) (m k : Operand) (hop : o.op = .mapEntry t m k) {ao : AOp} (hc : compOp P o.op = some ao) (hev : EvR ρ ev a.eval) (hW : WR CR ρ W w) (hx : xop ev W ao = some outs) : Sim1 CR P ρ W w a o outs := by
  rw [hop] at hc
  simp only [compOp] at hc
  split at hc
  case h_2 => cases hc
  rename_i kt e m' k' hu hm hk
  split at hc
  case h_2 => cases hc
  rename_i ks agg z hks hz
  cases hc
  have p := hev _ _ hm
  have q := hev _ _ hk
  obtain ⟨zv, hzv, hcv⟩ := run_zeroValue' (w := w) hz
  simp only [xop_eq, xopS] at hx
  split at hx
  · cases hx
  rename_i r es clock hmo
  obtain ⟨hmr, hg, hak, hall⟩ := amapOf_some hmo
  rw [hmr] at p
  have hr : (ρ r).isSome = true := p.2
  obtain ⟨hheap, hokes⟩ := hW.getMap hr hg
  obtain ⟨f1, f2, f3, f4⟩ := find_spec (ρ := ρ) (w := w) hks hak hall
  have hexec : ∀ w' val, (Instr.mapEntry t (.map (some (ρ.blk r))) (cv ρ (ev k'))).run P w = .ok val w' → (execOp a.eval o).run P w = .ok (.value val) w' := by
    intro w' val hrun
    have e1 : execOp a.eval o = (do let x ← Instr.mapEntry t (a.eval m) (a.eval k); pure (.value x)) := by simp [execOp, hop]
    rw [e1, Sem.run_bind, p.1, q.1]
    show ((Instr.mapEntry t (.map (some (ρ.blk r))) (cv ρ (ev k'))).run P w).andThen _ = _
    rw [hrun]
    simp
  split at hx
  · rename_i h0
    cases hx
    have hset := hW.setMap hr hg (es2 := es ++ [(ev k', z, clock)]) (clock2 := clock + 1) (fun x hx => by
      rcases List.mem_append.1 hx with hx | hx
      · exact hokes x hx
      · obtain rfl : x = _ := by simpa using hx
        exact ⟨q.2, (hcv ρ).2⟩)
    refine .here ⟨ρ, _, _, hexec _ (.tuple #[zv, goInt clock]) ?_, ?_, ?_, hset.1, hset.2⟩
    · simp only [Instr.mapEntry, Sem.run_bind, run_underlying' hu, Result.andThen_ok, run_getMap hheap, f1]
      rw [f3 h0]
      simp only [Result.andThen_ok, Sem.run_bind, hzv]
      rw [run_setObj' P hheap (by simp)]
      simp [centry, (hcv ρ).1]
    · simp [nxVal, cv, cvs, goInt, (hcv ρ).1]
    · exact ⟨(hcv ρ).2, trivial, trivial⟩
  · rename_i x h1
    cases hx
    obtain ⟨j, hf, hj, hxk⟩ := f4 x h1
    have hset := hW.setMap hr hg (es2 := es) (clock2 := clock) hokes
    refine .here ⟨ρ, _, _, hexec _ (.tuple #[cv ρ x.2.1, goInt x.2.2]) ?_, ?_, ?_, hset.1, hset.2⟩
    · simp only [Instr.mapEntry, Sem.run_bind, run_underlying' hu, Result.andThen_ok, run_getMap hheap, f1]
      rw [hf]
      simp only [Result.andThen_ok, Sem.run_bind]
      rw [run_modify_at hj, hxk, f2]
      simp only [Result.andThen_ok, Sem.run_bind]
      rw [run_setObj' P hheap (by simp)]
      have e2 : ((es.map (centry ρ)).toArray.modify j fun e => { e with key := cv ρ (ev k') }) = (es.map (centry ρ)).toArray := by
        apply Array.ext'
        apply List.ext_getElem?
        intro i
        simp only [Array.toList_modify, List.getElem?_modify, List.getElem?_map]
        by_cases hij : j = i
        · subst hij; simp [hj, centry, hxk]
        · cases es[i]? <;> simp [hij]
      rw [e2, run_modify_born hj]
      simp
    · simp [nxVal, cv, cvs, goInt]
    · exact ⟨(hokes x (List.mem_of_getElem? hj)).2, trivial, trivial⟩
  · cases hx

theorem sim_entryStore (t : TypeId) (m k v : Operand) (hop : o.op = .entryStore t m k v) {ao : AOp} (hc : compOp P o.op = some ao) (hev : EvR ρ ev a.eval) (hW : WR CR ρ W w) (hx : xop ev W ao = some outs) : Sim1 CR P ρ W w a o outs := by
  rw [hop] at hc
  simp only [compOp] at hc
  split at hc
  case h_2 => cases hc
  rename_i m' k' v' hm hk hv
  cases hc
  have p := hev _ _ hm
  have q := hev _ _ hk
  have u := hev _ _ hv
  simp only [xop_eq, xopS] at hx
  split at hx
  case h_2 => cases hx
  rename_i r kq n hmr hkn
  split at hx
  case h_2 => cases hx
  rename_i es clock hg
  cases hb : decide (0 ≤ n) <;> rw [hb] at hx
  · cases hx
  have hn := of_decide_eq_true hb
  simp only [cond_true] at hx
  split at hx
  case h_2 => cases hx
  rename_i es2 hes2
  cases hx
  rw [hmr] at p; rw [hkn] at q
  have hr : (ρ r).isSome = true := p.2
  obtain ⟨hheap, hokes⟩ := hW.getMap hr hg
  obtain ⟨i, hi, he2, hmem⟩ := aborn_spec (ρ := ρ) hes2
  have hset := hW.setMap hr hg (es2 := es2) (clock2 := clock) (fun x hx => by
    rcases hmem x hx with h1 | ⟨y, h1, h2, h3⟩
    · exact hokes x h1
    · exact ⟨by rw [h2]; exact (hokes y h1).1, by rw [h3]; exact u.2⟩)
  refine .here ⟨ρ, _, .skip, ?_, rfl, trivial, hset.1, hset.2⟩
  have e1 : execOp a.eval o = (do Instr.entryStore t (a.eval m) (a.eval k) (a.eval v); pure .skip) := by simp [execOp, hop]
  rw [e1, Sem.run_bind, p.1, q.1, u.1]
  have hnn : ((n.toNat : Nat) : Int) = n := Int.toNat_of_nonneg hn
  have hfi : ((es.map (centry ρ)).toArray).findIdx? (fun e => (e.born : Int) == n) = some i := by
    rw [← hnn, List.findIdx?_toArray]; exact hi
  simp only [cv, Instr.entryStore, Sem.run_bind, run_getMap hheap, Result.andThen_ok, run_asInt', Sem.run_pure, hfi]
  rw [run_setObj' P hheap (by simp)]
  simp only [Result.andThen_ok, Sem.run_pure]
  have : ((es.map (centry ρ)).toArray.modify i fun e => { e with val := cv ρ (ev v') }) = (es2.map (centry ρ)).toArray := by
    apply Array.ext'
    rw [Array.toList_modify, he2]
  rw [this]

theorem sim_delete (c : Call) (hop : o.op = .call c) (hcal : c.callee = .builtin .delete) {m' k' : AO} (hargs : compOs c.args.toList = some [m', k']) {t kt e : TypeId} {tys : List TypeId} {ks : List KC} {agg : Bool} (hty : c.argTypes.toList = t :: tys)
    (hu : P.underlying t = some (.map kt e)) (hks : keyShape P kt = some (ks, agg)) (hev : EvR ρ ev a.eval) (hW : WR CR ρ W w) (hx : xop ev W (.delete ks agg m' k') = some outs) : Sim1 CR P ρ W w a o outs := by
  obtain ⟨mo, ko, hl, hm, hk⟩ := compOs_two hargs
  have p := hev _ _ hm
  have q := hev _ _ hk
  have hmap : c.args.map a.eval = #[a.eval mo, a.eval ko] := by rw [arr_two hl]; simp
  have hty0 : c.argTypes[0]? = some t := by rw [← Array.getElem?_toList, hty]; rfl
  have fin : ∀ (W' : AW) (w' : World), (Builtin.delete_ c.argTypes o.type #[a.eval mo, a.eval ko]).run P w = .ok (.tuple #[]) w' → WR CR ρ W' w' → Ext ρ W w ρ W' w' → Sim1 CR P ρ W w a o [.val aundef W'] := by
    intro W' w' hr h1 h2
    refine .here ⟨ρ, w', .value (.tuple #[]), ?_, rfl, trivial, h1, h2⟩
    rw [run_builtin c .delete hop hcal, hmap]
    simp only [builtin, Sem.run_bind, hr, Result.andThen_ok, Sem.run_pure]
  have hmapcase : ∀ mv, ev m' = mv → (match amapOf W ks agg (ev k') mv with
      | none => none
      | some (r, es, clock) => match ahits (ev k') es with
        | [] => some [AOut.val aundef (W.set r (.map es clock))]
        | [_] => some [.val aundef (W.set r (.map (adel (ev k') es) clock))]
        | _ => none) = some outs → Sim1 CR P ρ W w a o outs := by
    intro mv hmv hx
    split at hx
    · cases hx
    rename_i r es clock hmo
    obtain ⟨hmr, hg, hak, hall⟩ := amapOf_some hmo
    rw [hmv, hmr] at p
    have hr : (ρ r).isSome = true := p.2
    obtain ⟨hheap, hokes⟩ := hW.getMap hr hg
    obtain ⟨f1, f2, f3, f4⟩ := find_spec (ρ := ρ) (w := w) hks hak hall
    split at hx
    · rename_i h0
      cases hx
      have hset := hW.setMap hr hg (es2 := es) (clock2 := clock) hokes
      refine fin _ _ ?_ hset.1 hset.2
      simp only [Builtin.delete_, hty0, p.1, q.1, cv, List.getElem?_toArray, List.getElem?_cons_zero, List.getElem?_cons_succ, Sem.run_bind, run_underlying' hu, Result.andThen_ok, run_getMap hheap, f1]
      rw [f3 h0]
      simp only [Result.andThen_ok, Sem.run_bind]
      rw [run_setObj' P hheap (by simp)]
      simp
    · rename_i x h1
      cases hx
      obtain ⟨j, hf, hj, hxk⟩ := f4 x h1
      have hset := hW.setMap hr hg (es2 := adel (ev k') es) (clock2 := clock) (fun y hy => hokes y (mem_adel hy))
      refine fin _ _ ?_ hset.1 hset.2
      simp only [Builtin.delete_, hty0, p.1, q.1, cv, List.getElem?_toArray, List.getElem?_cons_zero, List.getElem?_cons_succ, Sem.run_bind, run_underlying' hu, Result.andThen_ok, run_getMap hheap, f1]
      rw [hf]
      simp only [Result.andThen_ok, Sem.run_bind]
      rw [run_setObj' P hheap (by simp)]
      have : (es.map (centry ρ)).toArray.eraseIdxIfInBounds j = ((adel (ev k') es).map (centry ρ)).toArray := by
        have hlt : j < es.length := (List.getElem?_eq_some_iff.1 hj).1
        rw [adel_eq h1 j x hj hxk]
        simp [Array.eraseIdxIfInBounds, hlt, map_eraseIdx']
      rw [this]
      simp
    · cases hx
  simp only [xop_eq, xopS] at hx
  split at hx
  · rename_i hm0
    cases hak : akey ks agg (ev k') <;> rw [hak] at hx
    · cases hx
    cases hx
    rw [hm0] at p
    obtain ⟨f1, _⟩ := find_spec (ρ := ρ) (w := w) (es := []) hks hak rfl
    refine fin _ _ ?_ hW (Ext.refl _ _ _)
    simp only [Builtin.delete_, hty0, p.1, q.1, cv, List.getElem?_toArray, List.getElem?_cons_zero, List.getElem?_cons_succ, Sem.run_bind, run_underlying' hu, Result.andThen_ok, f1, Sem.run_pure]
  · rename_i hne
    exact hmapcase _ rfl hx

theorem sim_range (t : TypeId) (x : Operand) (hop : o.op = .range t x) {ao : AOp} (hc : compOp P o.op = some ao) (hev : EvR ρ ev a.eval) (hW : WR CR ρ W w) (hx : xop ev W ao = some outs) : Sim1 CR P ρ W w a o outs := by
  rw [hop] at hc
  simp only [compOp] at hc
  split at hc
  case h_2 => cases hc
  rename_i kt e x' hu hx'
  cases hc
  have p := hev _ _ hx'
  have hexec : ∀ w' val, (Instr.range t (a.eval x)).run P w = .ok val w' → (execOp a.eval o).run P w = .ok (.value val) w' := by
    intro w' val hrun
    have e1 : execOp a.eval o = (do let v ← Instr.range t (a.eval x); pure (.value v)) := by simp [execOp, hop]
    rw [e1, Sem.run_bind, hrun]; simp
  simp only [xop_eq, xopS] at hx
  split at hx
  · rename_i h0
    cases hx
    rw [h0] at p
    have hp := hW.push (s := 0) (blk := .iter none 0 [] 0) (o := .mapIter none 0 #[] 0) ⟨by simp, rfl⟩ (by simp)
    refine .here ⟨_, _, _, hexec _ (.pointer (some ⟨w.heap.size, 0, none⟩)) ?_, by simp [nxVal, cv, blk_upd], by simp [okv, Rho.upd_same], hp.1, hp.2⟩
    simp [Instr.range, run_underlying' hu, p.1, cv, wpush]
  · rename_i r h0
    split at hx
    · rename_i es clock hg
      cases hx
      rw [h0] at p
      have hr : (ρ r).isSome = true := p.2
      obtain ⟨hheap, _⟩ := hW.getMap hr hg
      have hp := hW.push (s := 0) (blk := .iter (some r) clock [] clock) (o := .mapIter (some (ρ.blk r)) clock #[] clock) ⟨by rintro r' e; cases e; exact hr, rfl⟩ (by simp)
      refine .here ⟨_, _, _, hexec _ (.pointer (some ⟨w.heap.size, 0, none⟩)) ?_, by simp [nxVal, cv, blk_upd], by simp [okv, Rho.upd_same], hp.1, hp.2⟩
      simp [Instr.range, run_underlying' hu, p.1, cv, wpush, run_getMap hheap]
    · cases hx
  · cases hx

theorem filter_map' {α β : Type} (f : α → β) (p : β → Bool) (l : List α) : (l.map f).toArray.filter p = ((l.filter fun x => p (f x)).map f).toArray := by
  apply Array.ext'
  rw [Array.toList_filter]
  simp [List.filter_map, Function.comp_def]

theorem sim_next (x : Operand) (hop : o.op = .next x false) {ao : AOp} (hc : compOp P o.op = some ao) (hev : EvR ρ ev a.eval) (hW : WR CR ρ W w) (hx : xop ev W ao = some outs) : Sim1 CR P ρ W w a o outs := by
  rw [hop] at hc
  simp only [compOp] at hc
  obtain ⟨x', hx', rfl⟩ := map_some hc
  have p := hev _ _ hx'
  have hexec : ∀ w' val, (Instr.next (a.eval x) false o.type).run P w = .ok val w' → (execOp a.eval o).run P w = .ok (.value val) w' := by
    intro w' val hrun
    have e1 : execOp a.eval o = (do let v ← Instr.next (a.eval x) false o.type; pure (.value v)) := by simp [execOp, hop]
    rw [e1, Sem.run_bind, hrun]; simp
  simp only [xop_eq, xopS] at hx
  split at hx
  case h_2 => cases hx
  rename_i g hg0
  rw [hg0] at p
  have hg : (ρ g).isSome = true := p.2
  unfold anext at hx
  split at hx
  · rename_i since seen st hit
    cases hx
    obtain ⟨hheap, _⟩ := hW.getIter hg hit
    refine .here ⟨ρ, w, _, hexec _ (.tuple #[.bool false]) ?_, by simp [nxVal, cv, cvs], ⟨trivial, trivial⟩, hW, Ext.refl _ _ _⟩
    rw [p.1]
    simp only [cv, Instr.next, Sem.run_bind, run_getIter hheap, Result.andThen_ok, Option.map_none, Sem.run_pure]
  · rename_i r since seen st hit
    obtain ⟨hheap, hr0⟩ := hW.getIter hg hit
    have hr := hr0 r rfl
    split at hx
    case h_2 => cases hx
    rename_i es clock hmap
    obtain ⟨hheapm, hokes⟩ := hW.getMap hr hmap
    cases hb : (!seen.isEmpty && !es.isEmpty && es.all (fun x => decide (x.2.2 ≥ st))) <;> rw [hb] at hx
    case true => cases hx
    simp only [cond_false, Option.some.injEq] at hx
    subst hx
    have hb' : (!(seen.toArray).isEmpty && !((es.map (centry ρ)).toArray).isEmpty && ((es.map (centry ρ)).toArray).all (fun e => decide (e.born ≥ st))) = false := by
      rw [← hb]
      simp [centry, Function.comp_def, List.all_map]
      try rfl
    generalize hleft : es.filter (fun x => !seen.contains x.2.2) = left
    generalize hold : left.filter (fun x => decide (x.2.2 < since)) = old
    generalize hnew : left.filter (fun x => decide (x.2.2 ≥ since)) = new
    have hleft' : ((es.map (centry ρ)).toArray).filter (fun e => !(seen.toArray).contains e.born) = (left.map (centry ρ)).toArray := by
      rw [filter_map', ← hleft]
      simp [centry]
    have hold' : ((left.map (centry ρ)).toArray).filter (fun e => decide (e.born < since)) = (old.map (centry ρ)).toArray := by
      rw [filter_map', ← hold]; rfl
    have hnew' : ((left.map (centry ρ)).toArray).filter (fun e => decide (e.born ≥ since)) = (new.map (centry ρ)).toArray := by
      rw [filter_map', ← hnew]; rfl
    have hmem : ∀ y ∈ old ++ new, y ∈ es := by
      intro y hy
      have : y ∈ left := by
        rcases List.mem_append.1 hy with h | h
        · rw [← hold] at h; exact (List.mem_filter.1 h).1
        · rw [← hnew] at h; exact (List.mem_filter.1 h).1
      rw [← hleft] at this
      exact (List.mem_filter.1 this).1
    -- what may be drawn
    generalize hcand : ((if (old.map (centry ρ)).toArray.isEmpty then #[none] else #[]) ++ ((old.map (centry ρ)).toArray ++ (new.map (centry ρ)).toArray).map some : Array (Option MapEntry)) = cand
    have hcl : cand.toList = (if old.isEmpty then [none] else []) ++ (old ++ new).map fun y => some (centry ρ y) := by
      rw [← hcand]
      cases old <;> simp [Function.comp_def]
    have hsize : 0 < cand.size := by
      have : cand.size = cand.toList.length := by simp
      rw [this, hcl]
      cases old <;> simp
    have hdraw : ∃ idx w1, (choose (.mapNext cand.size)).run P w = .ok idx w1 ∧ idx < cand.size ∧ w1.heap = w.heap ∧ w1.os = w.os ∧ w1.output = w.output := by
      rw [run_choose]
      split
      · exact ⟨0, w, rfl, hsize, rfl, rfl, rfl⟩
      · exact ⟨_, _, rfl, Nat.mod_lt _ hsize, rfl, rfl, rfl⟩
    obtain ⟨idx, w1, hch, hidx, hh, hos, hout⟩ := hdraw
    have hW1 : WR CR ρ W w1 := hW.heap hh
    have hE1 : Ext ρ W w ρ W w1 := Ext.same hh hos hout
    have hget : cand[idx]? = some cand[idx] := Array.getElem?_eq_getElem hidx
    have hc2 : cand[idx] ∈ cand.toList := by simp
    have hpre : ∀ (val : Value) (w' : World), ((match cand[idx] with
        | some e => (do
          setObj (ρ.blk g) (.mapIter (some (ρ.blk r)) since (seen.toArray.push e.born) clock)
          pure (.tuple #[.bool true, e.key, e.val]) : Sem Value)
        | none => pure (.tuple #[.bool false]))).run P w1 = .ok val w' → (Instr.next (a.eval x) false o.type).run P w = .ok val w' := by
      intro val w' hrun
      rw [p.1]
      simp only [cv, Instr.next, Sem.run_bind, run_getIter hheap, Result.andThen_ok, Option.map_some, run_getMap hheapm, hb', Bool.false_eq_true, if_false, hleft', hold', hnew', hcand, hch, hget]
      rw [← hrun]
      cases cand[idx] <;> rfl
    rw [hcl] at hc2
    rcases List.mem_append.1 hc2 with h | h
    · have hempty : old.isEmpty = true ∧ cand[idx] = none := by
        cases hoe : old.isEmpty with
        | true => rw [hoe] at h; exact ⟨rfl, by simpa using h⟩
        | false => rw [hoe] at h; simp at h
      refine ⟨.val (.tup [.bool false]) W, by simp [hempty.1], ρ, w1, _, hexec _ (.tuple #[.bool false]) (hpre _ _ ?_), by simp [nxVal, cv, cvs], ⟨trivial, trivial⟩, hW1, hE1⟩
      rw [hempty.2]; simp
    · obtain ⟨y, hy, hey⟩ := List.mem_map.1 h
      have hyes := hmem y hy
      have hset := hW1.setIter hg hit (since2 := since) (seen2 := seen ++ [y.2.2]) (st2 := clock) hr0
      refine ⟨.val (.tup [.bool true, y.1, y.2.1]) (W.set g (.iter (some r) since (seen ++ [y.2.2]) clock)), ?_, ρ, _, _, hexec _ (.tuple #[.bool true, cv ρ y.1, cv ρ y.2.1]) (hpre _ _ ?_), by simp [nxVal, cv, cvs], ⟨trivial, (hokes y hyes).1, (hokes y hyes).2, trivial⟩, hset.1, hE1.trans hset.2⟩
      · exact List.mem_append.2 (.inr (List.mem_map.2 ⟨y, hy, rfl⟩))
      · rw [← hey]
        simp only [Sem.run_bind]
        rw [run_setObj' P (by rw [hh]; exact hheap) (by simp)]
        simp [centry]
  · cases hx

theorem sim_entry (x : Operand) (hop : o.op = .entry x) {ao : AOp} (hc : compOp P o.op = some ao) (hev : EvR ρ ev a.eval) (hW : WR CR ρ W w) (hx : xop ev W ao = some outs) : SimQ P ρ W w a o outs := by
  rw [hop] at hc
  simp only [compOp] at hc
  obtain ⟨x', hx', rfl⟩ := map_some hc
  have p := hev _ _ hx'
  simp only [xop_eq, xopS] at hx
  split at hx
  case h_2 => cases hx
  rename_i g hg0
  rw [hg0] at p
  have hg : (ρ g).isSome = true := p.2
  split at hx
  case h_2 => cases hx
  rename_i v hv
  cases hx
  unfold aentry at hv
  split at hv
  case h_2 => cases hv
  rename_i r since seen st hit
  obtain ⟨hheap, hr0⟩ := hW.getIter hg hit
  have hr := hr0 r rfl
  split at hv
  case h_2 => cases hv
  rename_i es clock stamp hmap hlast
  obtain ⟨hheapm, hokes⟩ := hW.getMap hr hmap
  cases hb : Nat.beq clock st <;> rw [hb] at hv
  · cases hv
  have hcs := Nat.eq_of_beq_eq_true hb
  subst hcs
  simp only [cond_true] at hv
  split at hv
  case h_2 => cases hv
  rename_i y hy
  cases hv
  have hym := List.mem_of_find?_eq_some hy
  have hfind : ((es.map (centry ρ)).toArray).find? (fun e => e.born == stamp) = some (centry ρ y) := by
    rw [List.find?_toArray, List.find?_map]
    have : (fun x : AEntry => x.2.2 == stamp) = ((fun e : MapEntry => e.born == stamp) ∘ centry ρ) := by
      funext z; rfl
    rw [← this, hy]; rfl
  refine .same hW ?_ ⟨(hokes y hym).1, (hokes y hym).2, trivial⟩
  have e1 : execOp a.eval o = (do let v ← Instr.entry (a.eval x); pure (.value v)) := by simp [execOp, hop]
  have hback : seen.toArray.back? = some stamp := by simpa using hlast
  rw [e1, Sem.run_bind, p.1]
  simp only [cv, Instr.entry, Sem.run_bind, run_getIter hheap, Result.andThen_ok, Option.map_some, hback, run_getMap hheapm, bne_self_eq_false, Bool.false_eq_true, if_false, hfind, Sem.run_pure]
  simp [cvs, centry]
end
end Go.Eng

/- Engine 12: every abstract operation tells what the model's does. -/
namespace Go.Eng
set_option linter.unusedVariables false
set_option linter.unusedSimpArgs false
variable {CR : CodeR} {P : Program}
section
variable {ρ : Rho} {W : AW} {w : World} {a : Act} {o : Oper} {outs : List AOut} {ev : AO → AVal}

theorem sim_call (c : Call) (hop : o.op = .call c) {ao : AOp} (hc : compOp P o.op = some ao) (hev : EvR ρ ev a.eval) (hevc : ∀ v, ev (.c v) = v) (hW : WR CR ρ W w) (hx : xop ev W ao = some outs) : Sim1 CR P ρ W w a o outs := by
  rw [hop] at hc
  simp only [compOp] at hc
  split at hc
  · rename_i f args hcal hargs
    split at hc
    · rename_i g hf
      split at hc
      · rename_i hadd
        split at hc
        · cases hc
          exact (sim_add64 c f g hop hcal hf hadd hargs hevc hev hW hx).sim1 hW
        · cases hc
      · cases hc
        exact sim_call_func c f g hop hcal hf hargs hevc hev hW hx
    · rename_i f' hf
      cases hc
      exact sim_call_value c f hop hcal hf hargs hev hW hx
    · cases hc
  · rename_i x hcal hargs
    split at hc
    · rename_i t ht
      split at hc
      · rename_i n e hu; cases hc; exact (sim_lenC c hop hcal hargs ht hu hW hx).sim1 hW
      · rename_i e hu; cases hc; exact (sim_len c hop hcal hargs ht (k := .sl) ⟨e, hu⟩ hev hW hx).sim1 hW
      · rename_i hu; cases hc; exact (sim_len c hop hcal hargs ht (k := .str) hu hev hW hx).sim1 hW
      · rename_i q e hu; cases hc; exact (sim_len c hop hcal hargs ht (k := .mp) ⟨q, e, hu⟩ hev hW hx).sim1 hW
      · cases hc
    · cases hc
  · rename_i s x hcal hargs
    split at hc
    · rename_i t u hty
      split at hc
      · rename_i e e' ht hu
        split at hc
        · rename_i sz bytes z hsz hby hz
          split at hc
          · rename_i hcond
            cases hc
            exact sim_append c hop hcal hargs hty ht hu hsz hby hz hcond.2.2 hcond.2.1 hev hW hx
          · cases hc
        · cases hc
      · cases hc
    · cases hc
  · rename_i d s hcal hargs
    split at hc
    · rename_i t u hty
      split at hc
      · rename_i e ht
        obtain ⟨sz, hsz, rfl⟩ := map_some hc
        exact sim_copy c hop hcal hargs hty ht hsz hev hW hx
      · cases hc
    · cases hc
  · rename_i x hcal hargs
    split at hc
    · rename_i t hty
      split at hc
      · rename_i e ht
        obtain ⟨z, hz, rfl⟩ := map_some hc
        exact sim_clear c hop hcal hargs hty ht hz hev hW hx
      · cases hc
    · cases hc
  · rename_i m k hcal hargs
    split at hc
    · rename_i t tys hty
      split at hc
      · rename_i kt e hu
        split at hc
        · rename_i ks agg hks
          cases hc
          exact sim_delete c hop hcal hargs hty hu hks hev hW hx
        · cases hc
      · cases hc
    · cases hc
  · rename_i xs hcal hargs; cases hc; exact (sim_maxmin true c hop hcal hargs hev hW hx).sim1 hW
  · rename_i xs hcal hargs; cases hc; exact (sim_maxmin false c hop hcal hargs hev hW hx).sim1 hW
  · rename_i hcal hargs; cases hc; exact sim_recover c hop hcal hx
  · cases hc

theorem xop_sim {ao : AOp} (hc : compOp P o.op = some ao) (hev : EvR ρ ev a.eval) (hevc : ∀ v, ev (.c v) = v) (hW : WR CR ρ W w) (hx : xop ev W ao = some outs) : Sim1 CR P ρ W w a o outs := by
  cases hop : o.op with
  | move x => exact (sim_move x (.inl hop) hc hev hW hx).sim1 hW
  | assign x => exact (sim_move x (.inr hop) hc hev hW hx).sim1 hW
  | pick c x y => exact (sim_pick c x y hop hc hev hW hx).sim1 hW
  | alloc e => exact (sim_alloc e hop hc hev hW hx).sim1 hW
  | box e x => exact (sim_box e x hop hc hev hW hx).sim1 hW
  | build t ps => exact (sim_build t ps hop hc hev hW hx).sim1 hW
  | buildSlice t l ps => exact (sim_buildSlice t l ps hop hc hev hW hx).sim1 hW
  | load t x => exact (sim_load t x hop hc hev hW hx).sim1 hW
  | store t x y => exact sim_store t x y hop hc hev hW hx
  | nilCheck x => exact (sim_nilCheck x hop hc hev hW hx).sim1 hW
  | binOp op xt x y yt => exact (sim_binOp op xt yt x y hop hc hev hW hx).sim1 hW
  | unOp op t x => exact (sim_unOp op t x hop hc hev hW hx).sim1 hW
  | convert s d x => exact (sim_convert s d x hop hc hev hW hx).sim1 hW
  | makeInterface t x => exact (sim_makeInterface t x hop hc hev hW hx).sim1 hW
  | makeFunc fn f cs =>
    cases fn with
    | func f' => exact (sim_makeFunc f' f cs hop hc hev hW hx).sim1 hW
    | _ => rw [hop] at hc; cases hc
  | makeSlice t l c => exact (sim_makeSlice t l c hop hc hev hW hx).sim1 hW
  | slice t x lo hi mx => exact (sim_slice t x lo hi mx hop hc hev hW hx).sim1 hW
  | fieldAddr t x f => exact (sim_fieldAddr t x f hop hc hev hW hx).sim1 hW
  | field t x f => exact (sim_field t x f hop hc hev hW hx).sim1 hW
  | indexAddr t x i => exact (sim_indexAddr t x i hop hc hev hW hx).sim1 hW
  | index t x i => exact (sim_index t x i hop hc hev hW hx).sim1 hW
  | typeAssert x xt t ok => exact (sim_typeAssert x xt t ok hop hc hev hW hx).sim1 hW
  | extract x i => exact (sim_extract x i hop hc hev hW hx).sim1 hW
  | call c => exact sim_call c hop hc hev hevc hW hx
  | defer c => exact sim_defer c hop hc hev hW hx
  | makeMap t r => exact (sim_makeMap t r hop hc hev hW hx).sim1 hW
  | lookup t m k ok => exact (sim_lookup t m k ok hop hc hev hW hx).sim1 hW
  | mapUpdate t m k v => exact sim_mapUpdate t m k v (.inl hop) (by rw [hop] at hc; exact hc) hev hW hx
  | insert t m k v => exact sim_mapUpdate t m k v (.inr hop) (by rw [hop] at hc; exact hc) hev hW hx
  | mapEntry t m k => exact sim_mapEntry t m k hop hc hev hW hx
  | entryStore t m k v => exact sim_entryStore t m k v hop hc hev hW hx
  | range t x => exact sim_range t x hop hc hev hW hx
  | next x is =>
    cases is with
    | true => rw [hop] at hc; cases hc
    | false => exact sim_next x hop hc hev hW hx
  | entry x => exact (sim_entry x hop hc hev hW hx).sim1 hW
  | panic x => exact sim_panic x hop hc hev hW hx
  | _ => rw [hop] at hc; cases hc
end
end Go.Eng
