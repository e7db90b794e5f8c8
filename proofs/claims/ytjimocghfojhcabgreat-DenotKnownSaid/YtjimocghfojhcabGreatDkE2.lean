/- The engine, part 2 of 3: abstract runs tell what the machine does. Without conditions. -/
import Derived.Test.YtjimocghfojhcabGreatDkE1
import Derived.RangeFuncIn
import Derived.RangeFuncLeaves
import Derived.Defers
import Derived.Recover
import Derived.Orders
import Derived.RowKit3
/- Engine 13: the abstract run. -/
namespace Go.Eng
set_option linter.unusedVariables false
set_option linter.unusedSimpArgs false

inductive AMode where
  | run
  | returning
  | panicking (ch : List (AVal × Bool))

inductive AEx where
  | nrm
  | exit (id : Nat)
  | ret
  | panic (ch : List (AVal × Bool))

structure ASt where
  tm : Tr AVal
  sz : Nat
  df : List ADefer
  up : Option AMode
  W : AW

inductive ACR where
  | ret (v : AVal)
  | panic (ch : List (AVal × Bool))

structure COut where
  r : ACR
  W : AW
  up : Option AMode

inductive ARes where
  | tmp (t : Nat)
  | cell1 (t : Nat)
  | cellN (t n : Nat)

structure AFunc where
  ntmps : Nat
  res : List ARes
  body : ACode

structure Rec where
  code : Option Nat → ACode → ASt → Option (List (AEx × ASt))
  call : Option AMode → Nat → List AVal → AW → Option (List COut)

def bindL {α β : Type} : List α → (α → Option (List β)) → Option (List β)
  | [], _ => some []
  | [x], f => f x
  | x :: xs, f => match f x, bindL xs f with
    | some a, some b => some (a ++ b)
    | _, _ => none
def bindR {α β : Type} (x : Option (List α)) (f : α → Option (List β)) : Option (List β) :=
  match x with
  | none => none
  | some l => bindL l f

theorem bindL_mem {α β : Type} {f : α → Option (List β)} : ∀ {l : List α} {r : List β}, bindL l f = some r → ∀ x ∈ l, ∃ r1, f x = some r1 ∧ ∀ y ∈ r1, y ∈ r
  | [], r, h, x, hx => by cases hx
  | [x], r, h, y, hy => by
    obtain rfl : y = x := by simpa using hy
    exact ⟨r, h, fun _ h => h⟩
  | x :: x2 :: xs, r, h, y, hy => by
    simp only [bindL] at h
    split at h
    · rename_i a b h1 h2
      cases h
      rcases List.mem_cons.1 hy with rfl | hy
      · exact ⟨a, h1, fun z hz => List.mem_append.2 (.inl hz)⟩
      · obtain ⟨r1, q1, q2⟩ := bindL_mem (l := x2 :: xs) h2 y hy
        exact ⟨r1, q1, fun z hz => List.mem_append.2 (.inr (q2 z hz))⟩
    · cases h
theorem bindR_mem {α β : Type} {x : Option (List α)} {f : α → Option (List β)} {r : List β} (h : bindR x f = some r) : ∃ l, x = some l ∧ ∀ y ∈ l, ∃ r1, f y = some r1 ∧ ∀ z ∈ r1, z ∈ r := by
  cases x with
  | none => cases h
  | some l => exact ⟨l, rfl, bindL_mem h⟩

/-- a temporary is written (what is beyond the frame's end is not) -/
def tput (tm : Tr AVal) (sz : Nat) (d : Nat) (v : AVal) : Tr AVal := bif Nat.ble sz d then tm else tm.set d v
def ASt.put (s : ASt) (dst : Option Nat) (v : AVal) : ASt :=
  match dst with
  | some d => { s with tm := tput s.tm s.sz d v }
  | none => s
def tget (tm : Tr AVal) (t : Nat) : AVal := (tm.get t).getD aundef

/-- is an operation to be carried out? -/
def awanted (s : ASt) (o : AOper) : Bool :=
  match o.guard with
  | none => true
  | some (t, want) => match tget s.tm t with
    | .bool b => b == want
    | _ => false

def jumpEx : AEx → Option (Option AJump)
  | .nrm => some none
  | .exit id => some (some (.exit id))
  | .ret => some (some .ret)
  | .panic _ => none
def exOfJump : Option AJump → AEx
  | none => .nrm
  | some (.exit id) => .exit id
  | some .ret => .ret

def setParams (sz : Nat) : List Nat → List AVal → Tr AVal → Tr AVal
  | t :: ts, v :: vs, tm => setParams sz ts vs (tput tm sz t v)
  | _, _, tm => tm

/-- a round of a range over a function -/
def xround (r : Rec) (l : Nat) (args : List AVal) (W : AW) : Option (List (ACR × AW)) :=
  match W.get l with
  | .loop L =>
    bif Nat.beq L.params.length args.length then
      bindR (r.code (some l) L.assign { tm := setParams L.size L.params args L.tm, sz := L.size, df := [], up := none, W := W }) fun x =>
        match x.1 with
        | .nrm => match x.2.W.get l with
          | .loop L1 => match L1.st with
            | .ready =>
              bindR (r.code (some l) L.body { x.2 with W := x.2.W.set l (.loop { L1 with st := .busy }) }) fun y =>
                match y.1 with
                | .panic ch => match y.2.df with
                  | [] => some [(.panic ch, y.2.W)]
                  | _ => none
                | e => match jumpEx e, y.2.W.get l with
                  | some j, .loop L2 => some [(.ret (.bool j.isNone), y.2.W.set l (.loop { L2 with st := bif j.isNone then .ready else .done, pending := j }))]
                  | _, _ => none
            | _ => none
          | _ => none
        | _ => none
    else none
  | _ => none

def xout (r : Rec) (rnd : Option Nat) (dst : Option Nat) (s : ASt) : AOut → Option (List (AEx × ASt))
  | .val v W' => some [(.nrm, { s.put dst v with W := W' })]
  | .enter f args => bindR (r.call none f args s.W) fun c => match c.r with
    | .ret v => some [(.nrm, { s.put dst v with W := c.W })]
    | .panic ch => some [(.panic ch, { s with W := c.W })]
  | .round l args => bindR (xround r l args s.W) fun c => match c.1 with
    | .ret v => some [(.nrm, { s.put dst v with W := c.2 })]
    | .panic ch => some [(.panic ch, { s with W := c.2 })]
  | .defer d => match rnd with
    | none => some [(.nrm, { s.put dst aundef with df := d :: s.df })]
    | some _ => none
  | .recover => match rnd with
    | none => match s.up with
      | some (.panicking ((v, false) :: older)) => some [(.nrm, { s.put dst v with up := some (.panicking ((v, true) :: older)) })]
      | _ => some [(.nrm, s.put dst .if0)]
    | some _ => none
  | .panic v => some [(.panic [(v, false)], s)]

def xone (r : Rec) (rnd : Option Nat) (o : AOper) (s : ASt) : Option (List (AEx × ASt)) :=
  bif awanted s o then
    match xop (aev s.tm) s.W o.op with
    | none => none
    | some outs => bindL outs (xout r rnd o.dst s)
  else some [(.nrm, s.put o.dst aundef)]

def xops (r : Rec) (rnd : Option Nat) : List AOper → ASt → Option (List (AEx × ASt))
  | [], s => some [(.nrm, s)]
  | o :: os, s => bindR (xone r rnd o s) fun x => match x.1 with
    | .nrm => xops r rnd os x.2
    | _ => some [x]

def aoTmp : AO → List Nat
  | .t n => [n]
  | .c _ => []
def aoTmps : List AO → List Nat
  | [] => []
  | x :: xs => aoTmp x ++ aoTmps xs
def aooTmp : Option AO → List Nat
  | none => []
  | some x => aoTmp x
def psTmps : List (Nat × Nat × AO) → List Nat
  | [] => []
  | (_, _, x) :: ps => aoTmp x ++ psTmps ps
/-- the temporaries that an operation reads -/
def AOp.tmps : AOp → List Nat
  | .move x | .box _ x | .load1 x | .loadN _ x | .nilCheck x | .un _ x | .conv _ x | .mkIface _ x | .fieldAddr _ x | .field _ _ _ x | .range x | .next x | .entry x | .assert _ _ _ x | .extract x _ | .len _ x | .clear _ x | .panic x | .lenC _ x => aoTmp x
  | .pick a b c => aoTmp a ++ (aoTmp b ++ aoTmp c)
  | .alloc .. | .recover => []
  | .mkMap r => aooTmp r
  | .build _ ps | .buildSlice _ _ _ _ ps => psTmps ps
  | .store _ a b | .bin _ a b | .eqs _ _ a b | .eqb _ a b | .isNil _ _ a b | .mkSlice _ _ _ _ a b | .indexAddrA _ _ a b | .indexAddrS _ a b | .index _ _ _ a b | .indexStr a b | .lookup _ _ _ a b _ | .mapEntry _ _ _ a b | .append _ _ _ _ a b | .copy _ a b | .delete _ _ a b => aoTmp a ++ aoTmp b
  | .mkFunc _ as bs => aoTmps as ++ aoTmps bs
  | .slice _ x a b c | .sliceArr _ _ x a b c => aoTmp x ++ (aooTmp a ++ (aooTmp b ++ aooTmp c))
  | .sliceStr x a b => aoTmp x ++ (aooTmp a ++ aooTmp b)
  | .mapUpdate _ _ a b c | .entryStore a b c | .add64 a b c => aoTmp a ++ (aoTmp b ++ aoTmp c)
  | .callF _ as | .maxmin _ as => aoTmps as
  | .callV f as | .defer f as => aoTmp f ++ aoTmps as

mutual
/-- of a value: whether all blocks that it names are below n -/
def vbelow (n : Nat) : AVal → Bool
  | .ptr b _ => Nat.blt b n
  | .sl b _ _ _ _ => Nat.blt b n
  | .slT b _ _ => Nat.blt b n
  | .map r => Nat.blt r n
  | .fn _ a b => vsbelow n a && vsbelow n b
  | .yield l => Nat.blt l n
  | .iface _ v => vbelow n v
  | .agg cs => vsbelow n cs
  | .tup vs => vsbelow n vs
  | _ => true
def vsbelow (n : Nat) : List AVal → Bool
  | [] => true
  | v :: vs => vbelow n v && vsbelow n vs
end
/-! regions that draw their order -/
/-- states ahead of each operation, and the last one -/
def xtrace (r : Rec) (rnd : Option Nat) : List AOper → ASt → Option (List ASt × ASt)
  | [], s => some ([], s)
  | o :: os, s => match xone r rnd o s with
    | some [(.nrm, s')] => bif Nat.ble s.W.n s'.W.n then
        match xtrace r rnd os s' with
        | some (l, fin) => some (s :: l, fin)
        | none => none
      else none
    | _ => none
def worldAt (sts : List ASt) (fin : ASt) (q : Nat) : AW := match sts[q]? with
  | some s => s.W
  | none => fin.W
/-- does an operation tell the same wherever it may come? -/
def sameAlts (o : AOper) (s : ASt) (sts : List ASt) (fin : ASt) : List Nat → Bool
  | [] => true
  | q :: qs => (match xop (aev s.tm) s.W o.op, xop (aev s.tm) (worldAt sts fin q) o.op with
    | some [.val v _], some [.val v' _] => AVal.same v v' && vbelow s.W.n v
    | _, _ => false) && ((o.op.tmps.all fun t => vbelow (worldAt sts fin q).n (tget s.tm t)) && sameAlts o s sts fin qs)
def drawOk (sts : List ASt) (fin : ASt) : List AOper → List ASt → Bool
  | o :: os, s :: ss => (bif awanted s o then sameAlts o s sts fin o.alts else true) && drawOk sts fin os ss
  | _, _ => true
def xdraw (r : Rec) (rnd : Option Nat) (ops : List AOper) (s : ASt) : Option ASt :=
  match xtrace r rnd ops s with
  | none => none
  | some (sts, fin) => bif drawOk sts fin ops sts then some fin else none
def unsnoc {α : Type} : List α → Option (List α × α)
  | [] => none
  | [o] => some ([], o)
  | o :: os => match unsnoc os with
    | some (l, o') => some (o :: l, o')
    | none => none

/-! code -/
def xrange (r : Rec) (rnd : Option Nat) (f : AO) (params : List Nat) (assign body : ACode) (s : ASt) : Option (List (AEx × ASt)) :=
  match aev s.tm f with
  | .fn g first captured =>
    match (match rnd with
      | none => some (s.W.push (.deferred true), s.W.n, ADefer.collected s.W.n :: s.df)
      | some l => match s.W.get l with
        | .loop L => some (s.W, L.defers, s.df)
        | _ => none) with
    | none => none
    | some (W1, dfs, df') =>
      let lid := W1.n
      bindR (r.call none g (first ++ [.yield lid] ++ captured) (W1.push (.loop { st := .ready, pending := none, tm := s.tm, size := s.sz, params, assign, body, defers := dfs }))) fun c =>
        match c.r with
        | .panic ch => some [(.panic ch, { s with W := c.W, df := df' })]
        | .ret _ => match c.W.get lid with
          | .loop L => match L.st with
            | .busy => none
            | _ => some [(exOfJump L.pending, { s with W := c.W.set lid (.loop { L with st := .exhausted }), df := df' })]
          | _ => none
  | _ => none

def xcode (r : Rec) (rnd : Option Nat) : ACode → ASt → Option (List (AEx × ASt))
  | .skip, s => some [(.nrm, s)]
  | .region ops .seq, s => xops r rnd ops s
  | .region ops .draw, s => match xdraw r rnd ops s with
    | some s' => some [(.nrm, s')]
    | none => none
  | .region ops .sink, s => match unsnoc ops with
    | some (init, last) => match xdraw r rnd init s with
      | some s' => xone r rnd last s'
      | none => none
    | none => none
  | .seq a b, s => bindR (xcode r rnd a s) fun x => match x.1 with
    | .nrm => xcode r rnd b x.2
    | _ => some [x]
  | .cond c a b, s => match aev s.tm c with
    | .bool true => xcode r rnd a s
    | .bool false => xcode r rnd b s
    | _ => none
  | .block id b, s => bindR (xcode r rnd b s) fun x => match x.1 with
    | .exit id' => some [(bif Nat.beq id' id then .nrm else .exit id', x.2)]
    | _ => some [x]
  | .loop b, s => bindR (xcode r rnd b s) fun x => match x.1 with
    | .nrm => r.code rnd (.loop b) x.2
    | _ => some [x]
  | .rangeFunc f ps assign body, s => xrange r rnd f ps assign body s
  | .exit id, s => some [(.exit id, s)]
  | .ret, s => some [(.ret, s)]

def xresults (tm : Tr AVal) (W : AW) : List ARes → Option (List AVal)
  | [] => some []
  | x :: xs => match (match x with
      | .tmp t => some (tget tm t)
      | .cell1 t => match tget tm t with
        | .ptr g o => match W.get g with
          | .cells cs _ _ _ _ _ => cs[o]?
          | _ => none
        | _ => none
      | .cellN t n => match tget tm t with
        | .ptr g o => match W.get g with
          | .cells cs _ _ _ _ _ => bif Nat.ble (o + n) cs.length then some (.agg ((cs.drop o).take n)) else none
          | _ => none
        | _ => none), xresults tm W xs with
    | some v, some vs => some (v :: vs)
    | _, _ => none
def oneOrTup : List AVal → AVal
  | [v] => v
  | vs => .tup vs

def asettle : AMode → AMode
  | .panicking ((_, true) :: _) => .returning
  | m => m
def araised (m : AMode) (ch : List (AVal × Bool)) : AMode :=
  match m with
  | .panicking old => .panicking (ch ++ old)
  | _ => .panicking ch

def xunwind (r : Rec) (res : List ARes) (tm : Tr AVal) (up : Option AMode) : List ADefer → AMode → AW → Option (List COut)
  | [], .returning, W => match xresults tm W res with
    | some vs => some [{ r := .ret (oneOrTup vs), W := W, up := up }]
    | none => none
  | [], .panicking ch, W => some [{ r := .panic ch, W := W, up := up }]
  | [], .run, _ => none
  | .collected b :: ds, m, W => match W.get b with
    | .deferred true => xunwind r res tm up ds m (W.set b (.deferred false))
    | _ => none
  | .call f args :: ds, m, W => bindR (r.call (some m) f args W) fun c => match c.up with
    | none => none
    | some .run => none
    | some m' => match c.r with
      | .ret _ => xunwind r res tm up ds (asettle m') c.W
      | .panic ch => xunwind r res tm up ds (araised m' ch) c.W

def trOf : Nat → List AVal → Tr AVal → Tr AVal
  | _, [], t => t
  | i, v :: vs, t => trOf (i + 1) vs (t.set i v)

def xcall (AP : Nat → Option AFunc) (r : Rec) (up : Option AMode) (f : Nat) (args : List AVal) (W : AW) : Option (List COut) :=
  match AP f with
  | none => none
  | some F => bindR (r.code none F.body { tm := trOf 0 args .nil, sz := args.length + (F.ntmps - args.length), df := [], up := up, W := W }) fun x =>
    match x.1 with
    | .nrm => xunwind r F.res x.2.tm x.2.up x.2.df .returning x.2.W
    | .ret => xunwind r F.res x.2.tm x.2.up x.2.df .returning x.2.W
    | .panic ch => xunwind r F.res x.2.tm x.2.up x.2.df (.panicking ch) x.2.W
    | .exit _ => none

def stepF (AP : Nat → Option AFunc) (r : Rec) : Rec := { code := xcode r, call := xcall AP r }
def exec (AP : Nat → Option AFunc) : Nat → Rec
  | 0 => { code := fun _ _ _ => none, call := fun _ _ _ _ => none }
  | n + 1 => stepF AP (exec AP n)
end Go.Eng

/- Engine 14: how code is made into abstract code. -/
namespace Go.Eng
set_option linter.unusedVariables false
set_option linter.unusedSimpArgs false

/-- what an operation does to the world: nothing · it reads · it makes a new block · it turns what is there -/
inductive Cls where
  | pure | read | alloc | heavy | bad
  deriving DecidableEq
def AOp.cls : AOp → Cls
  | .move _ | .pick .. | .build .. | .nilCheck _ | .bin .. | .eqs .. | .eqb .. | .isNil .. | .un .. | .conv .. | .mkIface .. | .mkFunc .. | .fieldAddr .. | .field .. | .indexAddrA .. | .indexAddrS .. | .index .. | .assert .. | .extract .. | .lenC .. | .slice .. | .sliceArr .. | .maxmin .. | .add64 .. => .pure
  | .len k _ => match k with
    | .mp => .read
    | _ => .pure
  | .load1 _ | .loadN .. | .lookup .. | .entry _ => .read
  | .alloc .. | .box .. | .buildSlice .. | .mkSlice .. | .mkMap _ => .alloc
  | .store .. | .append .. | .copy .. | .clear .. | .callF .. | .callV .. | .mapUpdate .. | .mapEntry .. | .entryStore .. | .range _ | .next _ | .delete .. => .heavy
  | _ => .bad

def compGuard (ops : Array Oper) : Option (Nat × Bool) → Option (Option (Nat × Bool))
  | none => some none
  | some (j, b) => match (ops[j]?).bind (·.dst) with
    | some t => some (some (t, b))
    | none => none
def compOper (P : Program) (ops : Array Oper) (o : Oper) (alts : List Nat) : Option AOper :=
  match compOp P o.op, compGuard ops o.guard with
  | some op, some g => some { dst := o.dst, op := op, guard := g, alts := alts }
  | _, _ => none
def compOpers (P : Program) (ops : Array Oper) : List Oper → Option (List AOper)
  | [] => some []
  | o :: os => match compOper P ops o [], compOpers P ops os with
    | some a, some as => some (a :: as)
    | _, _ => none

/-! regions that draw -/
def dedup : List Nat → List Nat
  | [] => []
  | x :: xs => bif xs.contains x then dedup xs else x :: dedup xs
/-- of each operation: those that must stand ahead of it (in order; acc: of those before) -/
def befores : List Oper → List (List Nat) → List (List Nat)
  | [], acc => acc
  | o :: os, acc =>
    let direct := (o.after.toList.filter (Region.binds .any)).map (·.on)
    befores os (acc ++ [dedup (direct ++ direct.flatMap fun j => acc.getD j [])])
def AOper.names (o : AOper) : List Nat := o.op.tmps ++ ((match o.guard with | some (t, _) => [t] | none => []) ++ o.dst.toList)
def conflict (a b : AOper) : Bool := (match a.dst with | some d => b.names.contains d | none => false) || (match b.dst with | some d => a.names.contains d | none => false)
/-- pairs: those that clash, and those that turn the world, stand in order -/
def pairsOk (as : List AOper) (bs : List (List Nat)) : Bool :=
  (List.range as.length).all fun j => (List.range j).all fun i =>
    match as[i]?, as[j]? with
    | some a, some b => (bs.getD j []).contains i || (!(conflict a b) && !(decide (a.op.cls = .heavy) && decide (b.op.cls = .heavy)))
    | _, _ => false
def altsOf (as : List AOper) (bs : List (List Nat)) (i : Nat) : List Nat :=
  match as[i]? with
  | some a => if a.op.cls = .read then
      let heavy : Nat → Bool := fun j => match as[j]? with | some b => decide (b.op.cls = .heavy) | none => false
      (List.range (as.length + 1)).filter fun q => (heavy q || Nat.beq q as.length) &&
        ((List.range as.length).all fun j => !(heavy j) || (bif Nat.blt j q then !((bs.getD j []).contains i) else !((bs.getD i []).contains j)))
    else []
  | none => []
def edgesOk (ops : List Oper) : Bool := (List.range ops.length).all fun i => match ops[i]? with
  | some o => o.after.toList.all fun e => !Region.binds .any e || Nat.blt e.on i
  | none => false
def setAlts (as : List AOper) (bs : List (List Nat)) : Nat → List AOper → List AOper
  | _, [] => []
  | i, a :: rest => { a with alts := altsOf as bs i } :: setAlts as bs (i + 1) rest
/-- does an operation look at no other temporaries than its abstract one? -/
def opTmpsOk (o : Oper) (a : AOper) : Bool := o.op.operands.toList.all fun x => match x with
  | .tmp t => a.op.tmps.contains t
  | _ => true
def tmpsOk : List Oper → List AOper → Bool
  | [], [] => true
  | o :: os, a :: as => opTmpsOk o a && tmpsOk os as
  | _, _ => false
def compDraw (P : Program) (ops : Array Oper) : Option ACode :=
  match compOpers P ops ops.toList with
  | none => none
  | some as =>
    let bs := befores ops.toList []
    bif edgesOk ops.toList && tmpsOk ops.toList as && pairsOk as bs && as.all (fun a => decide (a.op.cls ≠ .bad)) then
        some (.region (setAlts as bs 0 as) (bif (List.range (as.length - 1)).all (fun i => (bs.getD (as.length - 1) []).contains i) && Nat.ble 1 as.length then .sink else .draw)) else none

def compCode (P : Program) : Code → Option ACode
  | .skip => some .skip
  | .region _ ops false => (compOpers P ops ops.toList).map fun l => .region l .seq
  | .region _ ops true => compDraw P ops
  | .seq a b => match compCode P a, compCode P b with
    | some a, some b => some (.seq a b)
    | _, _ => none
  | .cond c a b => match compO c, compCode P a, compCode P b with
    | some c, some a, some b => some (.cond c a b)
    | _, _, _ => none
  | .block id b => (compCode P b).map (.block id)
  | .loop b => (compCode P b).map .loop
  | .rangeFunc f ps a b => match compO f, compCode P a, compCode P b with
    | some f, some a, some b => some (.rangeFunc f ps.toList a b)
    | _, _, _ => none
  | .exit id => some (.exit id)
  | .ret => some .ret
  | _ => none

def compRes (P : Program) : List ResultVar → Option (List ARes)
  | [] => some []
  | x :: xs => match (match x with
      | .tmp t => some (ARes.tmp t)
      | .cell a t => match tyAgg P t, tySize P t with
        | some true, some n => some (.cellN a n)
        | some false, _ => some (.cell1 a)
        | _, _ => none), compRes P xs with
    | some r, some rs => some (r :: rs)
    | _, _ => none
def compFunc (P : Program) (f : Nat) : Option AFunc :=
  match P.funcs[f]? with
  | none => none
  | some fn => bif fn.name == "runtime.NumGoroutine" then none else
    match fn.body with
    | none => none
    | some c => match compRes P fn.results.toList, compCode P c with
      | some res, some b => some { ntmps := fn.ntmps, res := res, body := b }
      | _, _ => none
end Go.Eng

/- Engine 15: what the abstract run says of the machine; the machine's steps. -/
namespace Go.Eng
set_option linter.unusedVariables false
set_option linter.unusedSimpArgs false
variable {CR : CodeR} {P : Program}

def PR (ρ : Rho) (ch : List (AVal × Bool)) (ch' : List PanicEntry) : Prop :=
  ch' = ch.map (fun x => { v := cv ρ x.1, recovered := x.2, goexit := false }) ∧ ∀ x ∈ ch, okv ρ x.1
def MR (ρ : Rho) : AMode → FrameMode → Prop
  | .run, .run => True
  | .returning, .returning => True
  | .panicking ch, .panicking ch' => PR ρ ch ch'
  | _, _ => False
def DR (ρ : Rho) : List ADefer → List Deferred → Prop
  | [], [] => True
  | d :: ds, d' :: ds' => cdefer ρ d d' ∧ DR ρ ds ds'
  | _, _ => False
def UR (ρ : Rho) (up : Option AMode) (kind : CallKind) (cs : List Frame) : Prop :=
  match up with
  | none => kind = .normal
  | some m => kind = .deferred ∧ ∃ c rest, cs = c :: rest ∧ MR ρ m c.mode
/-- the callers: at a deferred call the caller's mode may turn -/
def CS (up : Option AMode) (cs cs' : List Frame) : Prop :=
  match up with
  | none => cs' = cs
  | some _ => ∃ c rest m, cs = c :: rest ∧ cs' = { c with mode := m } :: rest

theorem PR.le {ρ ρ' : Rho} (h : ρ.le ρ') {ch : List (AVal × Bool)} {ch' : List PanicEntry} (hp : PR ρ ch ch') : PR ρ' ch ch' := by
  refine ⟨?_, fun x hx => okv_le h _ (hp.2 x hx)⟩
  rw [hp.1]
  exact List.map_congr_left fun x hx => by rw [cv_le h _ (hp.2 x hx)]
theorem MR.le {ρ ρ' : Rho} (h : ρ.le ρ') {m : AMode} {m' : FrameMode} (hm : MR ρ m m') : MR ρ' m m' := by
  cases m <;> cases m' <;> first | exact hm.elim | trivial | exact PR.le h hm
theorem cdefer.le {ρ ρ' : Rho} (h : ρ.le ρ') {d : ADefer} {d' : Deferred} (hd : cdefer ρ d d') : cdefer ρ' d d' := by
  cases d with
  | call f args =>
    obtain ⟨h1, captured, pre, h2, h3, h4⟩ := hd
    exact ⟨okvs_le h _ h1, captured, pre, h2, h3, by rw [cvs_le h _ h1]; exact h4⟩
  | collected r => exact ⟨h.some hd.1, by rw [h.blk hd.1]; exact hd.2.1, hd.2.2⟩
theorem DR.le {ρ ρ' : Rho} (h : ρ.le ρ') : ∀ {ds : List ADefer} {ds' : List Deferred}, DR ρ ds ds' → DR ρ' ds ds'
  | [], [], _ => trivial
  | d :: ds, d' :: ds', hd => ⟨hd.1.le h, DR.le h hd.2⟩
  | [], _ :: _, hd => hd.elim
  | _ :: _, [], hd => hd.elim
theorem UR.le {ρ ρ' : Rho} (h : ρ.le ρ') {up : Option AMode} {kind : CallKind} {cs : List Frame} (hu : UR ρ up kind cs) : UR ρ' up kind cs := by
  cases up with
  | none => exact hu
  | some m => obtain ⟨h1, c, rest, h2, h3⟩ := hu; exact ⟨h1, c, rest, h2, h3.le h⟩
theorem CS.refl_of {ρ : Rho} {up : Option AMode} {kind : CallKind} {cs : List Frame} (hu : UR ρ up kind cs) : CS up cs cs := by
  cases up with
  | none => rfl
  | some m => obtain ⟨h1, c, rest, h2, h3⟩ := hu; exact ⟨c, rest, c.mode, h2, h2⟩
theorem CS.trans {up up' : Option AMode} {a b c : List Frame} (h : CS up a b) (hi : up'.isSome = up.isSome) (k : CS up' b c) : CS up a c := by
  cases up with
  | none =>
    cases up' with
    | none => exact Eq.trans k h
    | some m => cases hi
  | some m =>
    cases up' with
    | none => cases hi
    | some m' =>
      obtain ⟨c1, r1, m1, rfl, rfl⟩ := h
      obtain ⟨c2, r2, m2, h2, rfl⟩ := k
      cases h2
      exact ⟨c1, r1, m2, rfl, rfl⟩

structure SR (CR : CodeR) (ρ : Rho) (rnd : Option Nat) (s : ASt) (b : Frame) (a : Act) (cs : List Frame) (w : World) : Prop where
  tm : TR ρ s.tm a.tmps
  sz : a.tmps.size = s.sz
  df : DR ρ s.df a.defers
  up : UR ρ s.up b.kind cs
  W : WR CR ρ s.W w
  rnd : match rnd with
    | none => b.roundOf = none
    | some l => b.roundOf = some (ρ.blk l) ∧ (ρ l).isSome = true ∧ s.up = none

/-- a frame's other parts, behind a turn of the world -/
theorem SR.le {ρ ρ' : Rho} {rnd : Option Nat} {s : ASt} {b : Frame} {a : Act} {cs : List Frame} {w w' : World} (h : SR CR ρ rnd s b a cs w) (hle : ρ.le ρ') {W' : AW} (hW : WR CR ρ' W' w') : SR CR ρ' rnd { s with W := W' } b a cs w' where
  tm := h.tm.le hle
  sz := h.sz
  df := h.df.le hle
  up := h.up.le hle
  W := hW
  rnd := by
    have := h.rnd
    cases rnd with
    | none => exact this
    | some l => exact ⟨by rw [hle.blk this.2.1]; exact this.1, hle.some this.2.1, this.2.2⟩

def calm (todo : List Item) : Prop := ∀ d wr r s k, todo ≠ .call d wr r s :: k
def noBlk (id : Nat) (pre : List Item) : Prop := ∀ x ∈ pre, ∀ j, x = .inBlock j → j ≠ id

/-- where the machine has come -/
def At (b : Frame) (kn : List Item) (e : AEx) (ρ : Rho) (a : Act) (cs : List Frame) (w : World) (m : Machine) : Prop :=
  match e with
  | .nrm => m = lone (b.atR a kn) cs w
  | .exit id => ∃ pre, noBlk id pre ∧ m = lone (b.atR a (.code (.exit id) :: (pre ++ kn))) cs w
  | .ret => ∃ k', m = lone (b.atR a (.code .ret :: k')) cs w
  | .panic ch => ∃ todo ch', calm todo ∧ PR ρ ch ch' ∧ m = lone { b.atR a todo with mode := .panicking ch' } cs w

def Post (CR : CodeR) (ρ : Rho) (rnd : Option Nat) (s : ASt) (w : World) (b : Frame) (kn : List Item) (cs : List Frame) (out : AEx × ASt) (m : Machine) : Prop :=
  ∃ ρ' a' cs' w', Ext ρ s.W w ρ' out.2.W w' ∧ SR CR ρ' rnd out.2 b a' cs' w' ∧ CS s.up cs cs' ∧ out.2.up.isSome = s.up.isSome ∧ out.2.sz = s.sz ∧ At b kn out.1 ρ' a' cs' w' m

def Comes1 (P : Program) (m0 : Machine) (K : Machine → Prop) : Prop := ∃ m, Steps P m0 m ∧ K m
theorem Comes1.here {m0 : Machine} {K : Machine → Prop} (h : K m0) : Comes1 P m0 K := ⟨m0, .refl P m0, h⟩
theorem Comes1.step {m0 m1 : Machine} {K : Machine → Prop} (h : step P m0 = .next m1) (k : Comes1 P m1 K) : Comes1 P m0 K := by
  obtain ⟨m, hs, hk⟩ := k; exact ⟨m, .head h hs, hk⟩
theorem Comes1.steps {m0 m1 : Machine} {K : Machine → Prop} (h : Steps P m0 m1) (k : Comes1 P m1 K) : Comes1 P m0 K := by
  obtain ⟨m, hs, hk⟩ := k; exact ⟨m, h.trans hs, hk⟩

def SimAt (CR : CodeR) (P : Program) (rnd : Option Nat) (s : ASt) (outs : List (AEx × ASt)) (items : List Item) : Prop :=
  ∀ ρ b a kn cs w, SR CR ρ rnd s b a cs w → ∃ out ∈ outs, Comes1 P (lone (b.atR a (items ++ kn)) cs w) (Post CR ρ rnd s w b kn cs out)

structure CallEnd (CR : CodeR) (P : Program) (ρ : Rho) (up : Option AMode) (W : AW) (w : World) (kind : CallKind) (fnid : Nat) (cs : List Frame) (out : COut) (ρ' : Rho) (fr : Frame) (cs' : List Frame) (w' : World) : Prop where
  hext : Ext ρ W w ρ' out.W w'
  hW : WR CR ρ' out.W w'
  hup : UR ρ' out.up kind cs'
  hcs : CS up cs cs'
  hsame : out.up.isSome = up.isSome
  hkind : fr.kind = kind
  hfn : fr.fn = fnid
  hdf : fr.defers = []
  hr : match out.r with
    | .ret v => fr.mode = .returning ∧ okv ρ' v ∧ ∃ fn, P.funcs[fr.fn]? = some fn ∧ (results fn fr.tmps).run P w' = .ok (cv ρ' v) w'
    | .panic ch => ∃ ch', fr.mode = .panicking ch' ∧ PR ρ' ch ch' ∧ ∃ fn, P.funcs[fr.fn]? = some fn

structure RecSim (CR : CodeR) (P : Program) (r : Rec) : Prop where
  code : ∀ rnd ac s outs, r.code rnd ac s = some outs → ∀ c, CR c ac → SimAt CR P rnd s outs [.code c]
  loop : ∀ rnd ab s outs, r.code rnd (.loop ab) s = some outs → ∀ c, CR c ab → SimAt CR P rnd s outs [.inLoop c]
  call : ∀ up f args W outs, r.call up f args W = some outs → ∀ ρ w cs kind, okvs ρ args → WR CR ρ W w → UR ρ up kind cs →
    ∃ out ∈ outs, ∃ ρ' fr cs' w', Steps P (lone (Frame.enter P f (cvs ρ args).toArray kind) cs w) (lone fr cs' w') ∧ CallEnd CR P ρ up W w kind f cs out ρ' fr cs' w'
  enters : ∀ up f args W outs, r.call up f args W = some outs → ∃ fn, P.funcs[f]? = some fn ∧ fn.body.isSome = true ∧ (fn.name == "runtime.NumGoroutine") = false

/-! the machine's steps at an operation -/
section steps
variable {b : Frame} {a : Act} {k : List Item} {cs : List Frame} {w w' : World} {ops : Array Oper} {i : Nat} {rest : List Nat} {o : Oper}
theorem fin_op (ho : ops[i]? = some o) (v : Value) : (b.atR a (.inRegion ops (i :: rest) :: k)).finish v = b.atR (a.put o.dst v) (.inRegion ops rest :: k) := by
  rw [Frame.finish_atR, ho]; rfl
theorem stepX_val (ho : ops[i]? = some o) (hw : Region.wanted o (yielded ops a.tmps) = true) (hsem : o.semAt b.roundOf a.eval = execOp a.eval o) {nx : Next} {v : Value} (hr : (execOp a.eval o).run P w = .ok nx w') (hn : nxVal nx = some v) :
    step P (lone (b.atR a (.inRegion ops (i :: rest) :: k)) cs w) = .next (lone (b.atR (a.put o.dst v) (.inRegion ops rest :: k)) cs w') := by
  have hg := stepGR_op (P := P) (b := b) (k := k) (cs := cs) (w := w) (rest := rest) ho hw
  rw [hsem] at hg
  refine step_lone_go ?_
  rw [hg, ← fin_op ho]
  cases nx <;> first | (cases hn; simp [stepG.apply, hr]) | cases hn
theorem stepX_enter (ho : ops[i]? = some o) (hw : Region.wanted o (yielded ops a.tmps) = true) (hsem : o.semAt b.roundOf a.eval = execOp a.eval o) {f : FuncId} {args : Array Value} (hr : (execOp a.eval o).run P w = .ok (.enter f args) w') :
    step P (lone (b.atR a (.inRegion ops (i :: rest) :: k)) cs w) = .next (lone (Frame.enter P f args .normal) (b.atR a (.inRegion ops (i :: rest) :: k) :: cs) w') := by
  have hg := stepGR_op (P := P) (b := b) (k := k) (cs := cs) (w := w) (rest := rest) ho hw
  rw [hsem] at hg
  refine step_lone_go ?_
  rw [hg]
  simp [stepG.apply, hr, Frame.atR]
theorem stepX_round (ho : ops[i]? = some o) (hw : Region.wanted o (yielded ops a.tmps) = true) (hsem : o.semAt b.roundOf a.eval = execOp a.eval o) {l : Nat} {f : FuncId} {tmps : Array Value} {assign body : Code} (hr : (execOp a.eval o).run P w = .ok (.round l f tmps assign body) w') :
    step P (lone (b.atR a (.inRegion ops (i :: rest) :: k)) cs w) = .next (lone (Frame.round l f tmps assign body .normal) (b.atR a (.inRegion ops (i :: rest) :: k) :: cs) w') := by
  have hg := stepGR_op (P := P) (b := b) (k := k) (cs := cs) (w := w) (rest := rest) ho hw
  rw [hsem] at hg
  refine step_lone_go ?_
  rw [hg]
  simp [stepG.apply, hr, Frame.atR]
theorem stepX_defer (ho : ops[i]? = some o) (hw : Region.wanted o (yielded ops a.tmps) = true) (hb : b.roundOf = none) {d : Deferred} (hr : (execOp a.eval o).run P w = .ok (.defer d) w') :
    step P (lone (b.atR a (.inRegion ops (i :: rest) :: k)) cs w) = .next (lone (b.atR ({ a with defers := d :: a.defers }.put o.dst undef) (.inRegion ops rest :: k)) cs w') := by
  have hg := stepGR_op (P := P) (b := b) (k := k) (cs := cs) (w := w) (rest := rest) ho hw
  rw [hb, Oper.semAt_none] at hg
  refine step_lone_go ?_
  rw [hg]
  have : ({ b.atR a (.inRegion ops (i :: rest) :: k) with defers := d :: a.defers } : Frame).finish undef = b.atR ({ a with defers := d :: a.defers }.put o.dst undef) (.inRegion ops rest :: k) := by
    have := fin_op (b := b) (a := { a with defers := d :: a.defers }) (k := k) (rest := rest) ho undef
    exact this
  simp only [stepG.apply, Sem.runT_eq, hr, GStep.bare_after]
  exact congrArg (fun fr => GStep.go { frame := fr, callers := cs, status := .running, dying := none } w') this
theorem stepX_panic (ho : ops[i]? = some o) (hw : Region.wanted o (yielded ops a.tmps) = true) (hsem : o.semAt b.roundOf a.eval = execOp a.eval o) {v : Value} (hr : (execOp a.eval o).run P w = .halt (.panic v) w') :
    step P (lone (b.atR a (.inRegion ops (i :: rest) :: k)) cs w) = .next (lone { b.atR a (.inRegion ops (i :: rest) :: k) with mode := .panicking [{ v, recovered := false }] } cs w') := by
  have hg := stepGR_op (P := P) (b := b) (k := k) (cs := cs) (w := w) (rest := rest) ho hw
  rw [hsem] at hg
  refine step_lone_go ?_
  rw [hg, ← Frame.raise_atR]
  simp [stepG.apply, hr]
theorem stepX_recover (ho : ops[i]? = some o) (hw : Region.wanted o (yielded ops a.tmps) = true) (hb : b.roundOf = none) (hr : (execOp a.eval o).run P w = .ok .recover w') :
    step P (lone (b.atR a (.inRegion ops (i :: rest) :: k)) cs w) = .next (match tryRecover (b.atR a (.inRegion ops (i :: rest) :: k)) cs with
      | some (v, cs') => lone (b.atR (a.put o.dst v) (.inRegion ops rest :: k)) cs' w'
      | none => lone (b.atR (a.put o.dst .nilIface) (.inRegion ops rest :: k)) cs w') := by
  have hg := stepGR_op (P := P) (b := b) (k := k) (cs := cs) (w := w) (rest := rest) ho hw
  rw [hb, Oper.semAt_none] at hg
  have hro : (b.atR a (.inRegion ops (i :: rest) :: k)).roundOf = none := hb
  cases ht : tryRecover (b.atR a (.inRegion ops (i :: rest) :: k)) cs with
  | none =>
    refine step_lone_go ?_
    rw [hg, ← fin_op ho]
    simp [stepG.apply, hr, hro, ht]
  | some x =>
    obtain ⟨v, cs'⟩ := x
    refine step_lone_go ?_
    rw [hg, ← fin_op ho]
    simp [stepG.apply, hr, hro, ht]
theorem step_panics {fr c : Frame} {cs : List Frame} {w : World} {chain : List PanicEntry} (hm : fr.mode = .panicking chain) (hd : fr.defers = []) (hc : calm fr.todo ∨ ∃ fn, P.funcs[fr.fn]? = some fn) :
    step P (lone fr (c :: cs) w) = .next (lone (c.raise chain) cs w) := by
  have hcat : fr.catches P = false := by
    unfold Frame.catches
    rcases hc with hc | ⟨fn, hf⟩
    · split
      · rename_i h1 h2; exact absurd h2 (hc _ _ _ _ _)
      · rfl
    · split
      · rename_i h1 h2; rw [hf] at h1; cases h1
      · rfl
  exact step_lone_go (by simp [stepG, unwind, hm, hd, hcat])
end steps
end Go.Eng

/- Engine 16: one operation, and operations one behind the other, in the machine. -/
namespace Go.Eng
set_option linter.unusedVariables false
set_option linter.unusedSimpArgs false

/-- the code relation of a program -/
def CodeOf (P : Program) : CodeR := fun c ac => compCode P c = some ac

section
variable {CR : CodeR} {P : Program} {ρ : Rho} {W : AW} {w : World}

theorem TR.put {tm : Tr AVal} {tmps : Array Value} {sz : Nat} (h : TR ρ tm tmps) (hs : tmps.size = sz) (d : Nat) {v : AVal} (hv : okv ρ v) : TR ρ (tput tm sz d v) (tmps.setIfInBounds d (cv ρ v)) := by
  intro t
  unfold tput
  cases hle : Nat.ble sz d with
  | true =>
    have := Nat.le_of_ble_eq_true hle
    have e : tmps.setIfInBounds d (cv ρ v) = tmps := by
      apply Array.ext (by simp)
      intro j h1 h2
      rw [Array.getElem_setIfInBounds]
      split
      · rename_i e; subst e; omega
      · rfl
    rw [e]; exact h t
  | false =>
    have hlt : d < tmps.size := by
      rcases Nat.lt_or_ge d sz with h1 | h1
      · omega
      · rw [Nat.ble_eq_true_of_le h1] at hle; cases hle
    simp only [cond_false]
    by_cases htd : t = d
    · subst htd
      rw [Tr.get_set_same]
      simp [Array.getD_eq_getD_getElem?, Array.getElem?_setIfInBounds, hlt, hv]
    · rw [Tr.get_set_ne _ _ htd]
      have := h t
      simp only [Array.getD_eq_getD_getElem?, Array.getElem?_setIfInBounds] at this ⊢
      rw [if_neg (Ne.symm htd)]
      exact this
theorem TR.get {tm : Tr AVal} {tmps : Array Value} (h : TR ρ tm tmps) (t : Nat) : tmps.getD t undef = cv ρ (tget tm t) ∧ okv ρ (tget tm t) := h t

theorem SR.put {rnd : Option Nat} {s : ASt} {b : Frame} {a : Act} {cs : List Frame} (h : SR CR ρ rnd s b a cs w) (dst : Option Nat) {v : AVal} (hv : okv ρ v) : SR CR ρ rnd (s.put dst v) b (a.put dst (cv ρ v)) cs w := by
  cases dst with
  | none => exact h
  | some d => exact ⟨h.tm.put h.sz d hv, by simp [Act.put, ASt.put, h.sz], h.df, h.up, h.W, h.rnd⟩
theorem ASt.put_sz (s : ASt) (dst : Option Nat) (v : AVal) : (s.put dst v).sz = s.sz := by cases dst <;> rfl
theorem ASt.put_up (s : ASt) (dst : Option Nat) (v : AVal) : (s.put dst v).up = s.up := by cases dst <;> rfl
theorem ASt.put_W (s : ASt) (dst : Option Nat) (v : AVal) : (s.put dst v).W = s.W := by cases dst <;> rfl
theorem ASt.put_df (s : ASt) (dst : Option Nat) (v : AVal) : (s.put dst v).df = s.df := by cases dst <;> rfl

theorem evR_of {tm : Tr AVal} {a : Act} (h : TR ρ tm a.tmps) : EvR ρ (aev tm) a.eval := by
  intro o x hx
  cases o with
  | tmp t => cases hx; exact h t
  | const v =>
    obtain ⟨y, hy, rfl⟩ := map_some hx
    have := av?_spec hy ρ
    exact ⟨this.1.symm, this.2⟩
  | func f => cases hx; exact ⟨by simp [Act.eval, aev, cv, cvs], trivial, trivial⟩
  | global g => cases hx

theorem wanted_eq {rnd : Option Nat} {s : ASt} {b : Frame} {a : Act} {cs : List Frame} (h : SR CR ρ rnd s b a cs w) {ops : Array Oper} {o : Oper} {ao : AOper} (hg : compGuard ops o.guard = some ao.guard) :
    Region.wanted o (yielded ops a.tmps) = awanted s ao := by
  unfold Region.wanted awanted
  cases hog : o.guard with
  | none =>
    rw [hog] at hg
    simp only [compGuard, Option.some.injEq] at hg
    rw [← hg]
  | some jb =>
    obtain ⟨j, want⟩ := jb
    rw [hog] at hg
    simp only [compGuard] at hg
    split at hg
    · rename_i t ht
      simp only [Option.some.injEq] at hg
      rw [← hg]
      simp only [yielded, ht, Option.bind_some]
      have htr := (h.tm.get t).1
      cases hget : a.tmps[t]? with
      | none =>
        have e : a.tmps.getD t undef = undef := by simp [Array.getD_eq_getD_getElem?, hget]
        rw [e] at htr
        cases hv : tget s.tm t with
        | bool b => rw [hv] at htr; simp [cv, undef] at htr
        | _ => rfl
      | some x =>
        have e : a.tmps.getD t undef = x := by simp [Array.getD_eq_getD_getElem?, hget]
        rw [e] at htr
        subst htr
        cases hv : tget s.tm t <;> simp [cv]
    · cases hg

theorem WR.getLoop (h : WR CR ρ W w) {g : Nat} (hg : (ρ g).isSome = true) {L : ALoop} (hW : W.get g = .loop L) : ∃ r, w.heap[ρ.blk g]? = some (.loop r) ∧ LR CR ρ L r := by
  obtain ⟨b, s, hρ, hb, _⟩ := rho_of hg
  obtain ⟨_, o, ho, hB⟩ := h.blk g b s hρ
  rw [hW] at hB
  obtain ⟨r, rfl, hl⟩ := hB
  exact ⟨r, by rw [hb]; exact ho, hl⟩
theorem WR.setLoop (h : WR CR ρ W w) {g : Nat} (hg : (ρ g).isSome = true) {L L' : ALoop} (hW : W.get g = .loop L) {r : Loop} (hr : LR CR ρ L' r) :
    WR CR ρ (W.set g (.loop L')) (wset w (ρ.blk g) (.loop r)) ∧ Ext ρ W w ρ (W.set g (.loop L')) (wset w (ρ.blk g) (.loop r)) := by
  obtain ⟨r0, ho, _⟩ := h.getLoop hg hW
  obtain ⟨b, s, hρ, hb, _⟩ := rho_of hg
  rw [hb] at ho ⊢
  exact h.setObj hρ (by rw [hW]; rfl) ⟨r, rfl, hr⟩ trivial
theorem run_getLoop (P : Program) {l : Nat} {r : Loop} (h : w.heap[l]? = some (.loop r)) : (Instr.getLoop l).run P w = .ok r w := by
  have : (getObj l).run P w = .ok (.loop r) w := by simp [getObj, Sem.run, h]
  simp [Instr.getLoop, this]
theorem run_setObj (P : Program) {l : Nat} {o o' : Obj} (h : w.heap[l]? = some o) (hc : ∀ c e f, o ≠ .cells c e f) : (setObj l o').run P w = .ok () (wset w l o') := by
  simp only [Go.setObj, Sem.run, h]
  cases o <;> first | exact absurd rfl (hc _ _ _) | rfl
theorem run_beginRound (P : Program) {l : Nat} {r : Loop} (h : w.heap[l]? = some (.loop r)) (hs : r.state = .ready) : (Instr.beginRound l).run P w = .ok () (wset w l (.loop { r with state := .busy })) := by
  simp only [Instr.beginRound, Sem.run_bind, run_getLoop P h, Result.andThen_ok, run_setObj P h (by simp), hs, Sem.run_pure]
theorem run_endRound (P : Program) {l : Nat} {r : Loop} (jump : Option Code) (h : w.heap[l]? = some (.loop r)) :
    (Instr.endRound l jump).run P w = .ok (.bool jump.isNone) (wset w l (.loop { r with state := if jump.isNone then .ready else .done, pending := jump })) := by
  simp only [Instr.endRound, Sem.run_bind, run_getLoop P h, Result.andThen_ok, run_setObj P h (by simp), Sem.run_pure]
theorem run_endLoop (P : Program) {l : Nat} {r : Loop} (h : w.heap[l]? = some (.loop r)) (hs : r.state ≠ .busy) : (Instr.endLoop l).run P w = .ok r.pending (wset w l (.loop { r with state := .exhausted })) := by
  have : (r.state == .busy) = false := by cases hr : r.state <;> first | rfl | exact absurd hr hs
  simp only [Instr.endLoop, Sem.run_bind, run_getLoop P h, Result.andThen_ok, this, Bool.false_eq_true, if_false, run_setObj P h (by simp), Sem.run_pure]

theorem setParams_spec {sz : Nat} : ∀ (ps : List Nat) (vs : List AVal) (tm : Tr AVal) (tmps : Array Value), TR ρ tm tmps → tmps.size = sz → okvs ρ vs →
    TR ρ (setParams sz ps vs tm) ((ps.zip (cvs ρ vs)).foldl (fun tmps (x : Nat × Value) => tmps.setIfInBounds x.1 x.2) tmps) ∧ ((ps.zip (cvs ρ vs)).foldl (fun tmps (x : Nat × Value) => tmps.setIfInBounds x.1 x.2) tmps).size = sz
  | [], vs, tm, tmps, h, hs, _ => by cases vs <;> exact ⟨h, hs⟩
  | t :: ps, [], tm, tmps, h, hs, _ => ⟨h, hs⟩
  | t :: ps, v :: vs, tm, tmps, h, hs, hok => by
    simp only [setParams, cvs, List.zip_cons_cons, List.foldl_cons]
    exact setParams_spec ps vs _ _ (h.put hs t hok.1) (by simpa using hs) hok.2
end
end Go.Eng

/- Engine 17: one operation, rounds among them, and operations one behind the other. -/
namespace Go.Eng
set_option linter.unusedVariables false
set_option linter.unusedSimpArgs false
section
variable {CR : CodeR} {P : Program} {ρ : Rho} {W : AW} {w : World} {r : Rec}

theorem exitTo_blk {id : Nat} : ∀ {pre : List Item} {k : List Item}, noBlk id pre → exitTo id (pre ++ .inBlock id :: k) = some k
  | [], k, _ => by simp [exitTo]
  | x :: pre, k, h => by
    have ih := exitTo_blk (k := k) (fun y hy => h y (List.mem_cons_of_mem _ hy))
    cases x with
    | inBlock j =>
      have : (j == id) = false := by simpa using h (.inBlock j) (by simp) j rfl
      simp [exitTo, this, ih]
    | _ => simpa [exitTo] using ih
theorem exitTo_none {id : Nat} : ∀ {pre : List Item}, noBlk id pre → exitTo id pre = none
  | [], _ => rfl
  | x :: pre, h => by
    have ih := exitTo_none (fun y hy => h y (List.mem_cons_of_mem _ hy))
    cases x with
    | inBlock j =>
      have : (j == id) = false := by simpa using h (.inBlock j) (by simp) j rfl
      simp [exitTo, this, ih]
    | _ => simpa [exitTo] using ih

theorem xround_sim (HR : RecSim CR P r) {l : Nat} {args : List AVal} {outs : List (ACR × AW)} (hx : xround r l args W = some outs) (hW : WR CR ρ W w) (hargs : okvs ρ args) (hl : (ρ l).isSome = true) (c : Frame) (cs : List Frame) :
    ∃ rl, w.heap[ρ.blk l]? = some (.loop rl) ∧ rl.params.size = args.length ∧
      ∃ out ∈ outs, Comes1 P (lone (Frame.round (ρ.blk l) rl.fn ((rl.params.zip (cvs ρ args).toArray).foldl (fun tmps (t, a) => tmps.setIfInBounds t a) rl.tmps) rl.assign rl.body .normal) (c :: cs) w)
        (fun m => ∃ ρ' w', Ext ρ W w ρ' out.2 w' ∧ WR CR ρ' out.2 w' ∧ match out.1 with
          | .ret v => okv ρ' v ∧ m = lone (c.finish (cv ρ' v)) cs w'
          | .panic ch => ∃ ch', PR ρ' ch ch' ∧ m = lone (c.raise ch') cs w') := by
  unfold xround at hx
  split at hx
  case h_2 => cases hx
  rename_i L hWl
  obtain ⟨rl, ho, hLR⟩ := hW.getLoop hl hWl
  cases hlen : Nat.beq L.params.length args.length <;> rw [hlen] at hx
  · cases hx
  have hlen' := Nat.eq_of_beq_eq_true hlen
  simp only [cond_true] at hx
  obtain ⟨q1, q2, q3, q4, q5, q6, q7, q8, q9⟩ := hLR
  have hsz : rl.params.size = args.length := by rw [← hlen', ← q5]; simp
  refine ⟨rl, ho, hsz, ?_⟩
  obtain ⟨outs1, h1, hmem1⟩ := bindR_mem hx
  have hfold : ((rl.params.zip (cvs ρ args).toArray).foldl (fun tmps (t, a) => tmps.setIfInBounds t a) rl.tmps) = (L.params.zip (cvs ρ args)).foldl (fun tmps (x : Nat × Value) => tmps.setIfInBounds x.1 x.2) rl.tmps := by
    rw [← q5, ← Array.foldl_toList]
    simp
  have hps := setParams_spec (sz := L.size) L.params args L.tm rl.tmps q3 q4 hargs
  rw [← hfold] at hps
  generalize ((rl.params.zip (cvs ρ args).toArray).foldl (fun tmps (t, a) => tmps.setIfInBounds t a) rl.tmps) = tmps' at *
  let br : Frame := { fn := rl.fn, tmps := #[], todo := [], defers := [], mode := .run, kind := .normal, roundOf := some (ρ.blk l) }
  have hS : SR CR ρ (some l) { tm := setParams L.size L.params args L.tm, sz := L.size, df := [], up := none, W := W } br { tmps := tmps', defers := [] } (c :: cs) w :=
    ⟨hps.1, hps.2, trivial, rfl, hW, ⟨rfl, hl, rfl⟩⟩
  obtain ⟨x, hxm, m1, hs1, hp1⟩ := HR.code _ _ _ _ h1 rl.assign q6 ρ br _ [.beginRound, .code rl.body] (c :: cs) w hS
  obtain ⟨outs2, h2, hmem2⟩ := hmem1 x hxm
  obtain ⟨ρ1, a1, cs1, w1, hE1, hS1, hC1, hup1, hsz1, hat1⟩ := hp1
  have hstart : Frame.round (ρ.blk l) rl.fn tmps' rl.assign rl.body .normal = br.atR { tmps := tmps', defers := [] } ([.code rl.assign] ++ [.beginRound, .code rl.body]) := rfl
  rw [hstart]
  have hcs1 : cs1 = c :: cs := hC1
  subst hcs1
  split at h2
  case h_2 => cases h2
  rename_i hx1
  rw [hx1] at hat1
  have hat1' : m1 = lone (br.atR a1 [.beginRound, .code rl.body]) (c :: cs) w1 := hat1
  subst hat1'
  split at h2
  case h_2 => cases h2
  rename_i L1 hWl1
  split at h2
  case h_2 => cases h2
  rename_i hst1
  have hl1 : (ρ1 l).isSome = true := hE1.le.some hl
  have hblk1 : ρ1.blk l = ρ.blk l := hE1.le.blk hl
  obtain ⟨r1, ho1, hLR1⟩ := hS1.W.getLoop hl1 hWl1
  have hset := hS1.W.setLoop hl1 hWl1 (L' := { L1 with st := .busy }) (r := { r1 with state := .busy }) ⟨rfl, hLR1.2⟩
  have hbegin := run_beginRound P ho1 (by rw [hLR1.1, hst1])
  rw [hblk1] at hset hbegin
  obtain ⟨outs3, h3, hmem3⟩ := bindR_mem h2
  have hS2 := hS1.le ρ1.le_refl hset.1
  obtain ⟨y, hym, m2, hs2, hp2⟩ := HR.code _ _ _ _ h3 rl.body q7 ρ1 br a1 [] (c :: cs) _ hS2
  obtain ⟨outs4, h4, hmem4⟩ := hmem3 y hym
  obtain ⟨ρ2, a2, cs2, w2, hE2, hS3, hC2, hup2, hsz2, hat2⟩ := hp2
  have hup1' : x.2.up = none := by
    cases hu : x.2.up with
    | none => rfl
    | some q => rw [hu] at hup1; cases hup1
  have hcs2 : cs2 = c :: cs := by
    have : CS x.2.up (c :: cs) cs2 := hC2
    rw [hup1'] at this
    exact this
  subst hcs2
  have hE12 := (hE1.trans hset.2).trans hE2
  have hl2 : (ρ2 l).isSome = true := hE2.le.some hl1
  have hblk2 : ρ2.blk l = ρ.blk l := (hE2.le.blk hl1).trans hblk1
  have reach : ∀ K, Comes1 P m2 K → Comes1 P (lone (br.atR { tmps := tmps', defers := [] } ([.code rl.assign] ++ [.beginRound, .code rl.body])) (c :: cs) w) K := by
    intro K hK
    refine Comes1.steps hs1 (Comes1.step (stepR_beginRound rfl hbegin) (Comes1.steps ?_ hK))
    simpa using hs2
  -- how the round ends
  have fin : ∀ (e : AEx) (j : Option AJump) (L2 : ALoop), y.1 = e → jumpEx e = some j → y.2.W.get l = .loop L2 →
      Comes1 P m2 (fun m => ∃ ρ' w', Ext ρ W w ρ' (y.2.W.set l (.loop { L2 with st := bif j.isNone then .ready else .done, pending := j })) w' ∧
        WR CR ρ' (y.2.W.set l (.loop { L2 with st := bif j.isNone then .ready else .done, pending := j })) w' ∧ okv ρ' (.bool j.isNone) ∧ m = lone (c.finish (cv ρ' (.bool j.isNone))) cs w') := by
    intro e j L2 he hj hWl2
    obtain ⟨r2, ho2, hLR2⟩ := hS3.W.getLoop hl2 hWl2
    have hset2 := hS3.W.setLoop hl2 hWl2 (L' := { L2 with st := bif j.isNone then .ready else .done, pending := j })
      (r := { r2 with state := if (j.map jumpCode).isNone then .ready else .done, pending := j.map jumpCode }) ⟨by cases j <;> rfl, rfl, hLR2.2.2⟩
    have hend := run_endRound P (j.map jumpCode) ho2
    rw [hblk2] at hset2 hend
    have hv : (Value.bool (j.map jumpCode).isNone) = cv ρ2 (.bool j.isNone) := by cases j <;> simp [cv]
    rw [hv] at hend
    rw [he] at hat2
    refine Comes1.step (m1 := lone (c.finish (cv ρ2 (.bool j.isNone))) cs _) ?_ (.here ⟨ρ2, _, hE12.trans hset2.2, hset2.1, trivial, rfl⟩)
    cases e with
    | nrm =>
      cases hj
      have : m2 = lone (br.atR a2 []) (c :: cs) w2 := hat2
      subst this
      exact stepR_round_end rfl rfl hend
    | exit id =>
      cases hj
      obtain ⟨pre, hpre, rfl⟩ := hat2
      exact stepR_round_exit rfl rfl (by simpa using exitTo_none hpre) hend
    | ret =>
      cases hj
      obtain ⟨k', rfl⟩ := hat2
      exact stepR_round_ret rfl rfl hend
    | panic ch => cases hj
  split at h4
  · rename_i ch he
    split at h4
    case h_2 => cases h4
    rename_i hdf
    cases h4
    refine ⟨(.panic ch, y.2.W), hmem2 _ (hmem4 _ (by simp)), reach _ ?_⟩
    rw [he] at hat2
    obtain ⟨todo, ch', hcalm, hPR, rfl⟩ := hat2
    have hdfr : a2.defers = [] := by
      have := hS3.df
      rw [hdf] at this
      cases hd : a2.defers with
      | nil => rfl
      | cons d ds => rw [hd] at this; exact this.elim
    exact Comes1.step (step_panics (chain := ch') rfl hdfr (.inl hcalm)) (.here ⟨ρ2, w2, hE12, hS3.W, ch', hPR, rfl⟩)
  · rename_i e hne
    split at h4
    · rename_i j L2 hj hWl2
      cases h4
      have hfin := fin y.1 j L2 rfl hj hWl2
      exact ⟨(.ret (.bool j.isNone), y.2.W.set l (.loop { L2 with st := bif j.isNone then .ready else .done, pending := j })), hmem2 _ (hmem4 _ (by simp)), reach _ hfin⟩
    · cases h4

theorem SR.withW {rnd : Option Nat} {s : ASt} {b : Frame} {a : Act} {cs : List Frame} {ρ' : Rho} {W' : AW} {w' : World} (h : SR CR ρ rnd s b a cs w) (hle : ρ.le ρ') (hW : WR CR ρ' W' w') (dst : Option Nat) {v : AVal} (hv : okv ρ' v) :
    SR CR ρ' rnd { s.put dst v with W := W' } b (a.put dst (cv ρ' v)) cs w' := by
  have := (h.le hle hW).put dst hv
  cases dst <;> exact this

theorem xone_sim (HR : RecSim CR P r) {ops : Array Oper} {i : Nat} {o : Oper} {ao : AOper} {alts : List Nat} (ho : ops[i]? = some o) (hc : compOper P ops o alts = some ao) {rnd : Option Nat} {s : ASt} {outs : List (AEx × ASt)} (hx : xone r rnd ao s = some outs) (rest : List Nat)
    (b : Frame) (a : Act) (k : List Item) (cs : List Frame) (hS : SR CR ρ rnd s b a cs w) :
    ∃ out ∈ outs, Comes1 P (lone (b.atR a (.inRegion ops (i :: rest) :: k)) cs w) (Post CR ρ rnd s w b (.inRegion ops rest :: k) cs out) := by
  unfold compOper at hc
  split at hc
  case h_2 => cases hc
  rename_i op g hop hg
  cases hc
  have hwant := wanted_eq hS (ao := { dst := o.dst, op := op, guard := g, alts := alts }) hg
  unfold xone at hx
  cases hwt : awanted s { dst := o.dst, op := op, guard := g, alts := alts } with
  | false =>
    rw [hwt] at hx hwant
    cases hx
    refine ⟨_, List.mem_singleton.2 rfl, Comes1.step (stepR_op_skip (by simp [ho, hwant])) (.here ?_)⟩
    have hdst : (ops[i]?).bind (·.dst) = o.dst := by simp [ho]
    rw [hdst]
    have hS' := hS.put o.dst (v := aundef) trivial
    exact ⟨ρ, a.put o.dst undef, cs, w, by rw [ASt.put_W]; exact Ext.refl _ _ _, hS', CS.refl_of hS.up, by rw [ASt.put_up], ASt.put_sz _ _ _, rfl⟩
  | true =>
    rw [hwt] at hx hwant
    simp only [cond_true] at hx
    split at hx
    · cases hx
    rename_i outs0 hx0
    obtain ⟨out0, hm0, hO⟩ := xop_sim hop (evR_of hS.tm) (fun v => rfl) hS.W hx0
    obtain ⟨outs1, hx1, hmem⟩ := bindL_mem hx out0 hm0
    have hsem : o.semAt b.roundOf a.eval = execOp a.eval o := by
      cases rnd with
      | none => have : b.roundOf = none := hS.rnd; rw [this]; rfl
      | some l =>
        refine Oper.semAt_eq _ _ _ (fun c hdef => ?_)
        rw [hdef] at hop
        simp only [compOp] at hop
        split at hop
        · obtain ⟨f', hf', rfl⟩ := map_some hop
          simp only [xop_eq, xopS] at hx0
          split at hx0
          · cases hx0
            obtain rfl : out0 = _ := by simpa using hm0
            cases hx1
          · cases hx0
        · cases hop
    cases out0 with
    | val v W' =>
      cases hx1
      obtain ⟨ρ', w', nx, hrun, hnx, hok, hW', hE⟩ := hO
      refine ⟨_, hmem _ (List.mem_singleton.2 rfl), Comes1.step (stepX_val ho hwant hsem hrun hnx) (.here ?_)⟩
      exact ⟨ρ', _, cs, w', hE, hS.withW hE.le hW' o.dst hok, CS.refl_of hS.up, by rw [ASt.put_up], ASt.put_sz _ _ _, rfl⟩
    | enter f args =>
      obtain ⟨outs2, hcall, hmem2⟩ := bindR_mem hx1
      obtain ⟨hok, hrun⟩ := hO
      obtain ⟨fn, hfn, hbody, hname⟩ := HR.enters _ _ _ _ _ hcall
      have hrun' := hrun fn hfn hbody hname
      obtain ⟨c, hcm, ρ', fr, cs', w', hsteps, hend⟩ := HR.call _ _ _ _ _ hcall ρ w (b.atR a (.inRegion ops (i :: rest) :: k) :: cs) .normal hok hS.W rfl
      obtain ⟨outs3, hx3, hmem3⟩ := hmem2 c hcm
      have hcs' : cs' = b.atR a (.inRegion ops (i :: rest) :: k) :: cs := hend.hcs
      subst hcs'
      have hr := hend.hr
      split at hx3
      · rename_i v hv
        cases hx3
        rw [hv] at hr
        obtain ⟨hmode, hokv, fn', hfn', hres⟩ := hr
        refine ⟨_, hmem _ (hmem3 _ (List.mem_singleton.2 rfl)), Comes1.step (stepX_enter ho hwant hsem hrun') (Comes1.steps hsteps (Comes1.step (step_leave_returned (v := cv ρ' v) ⟨hmode, hend.hdf, hend.hkind, fn', hfn', hres⟩) ?_))⟩
        rw [fin_op ho]
        refine .here ⟨ρ', _, cs, w', hend.hext, hS.withW hend.hext.le hend.hW o.dst hokv, CS.refl_of hS.up, by rw [ASt.put_up], ASt.put_sz _ _ _, rfl⟩
      · rename_i ch hch
        cases hx3
        rw [hch] at hr
        obtain ⟨ch', hmode, hPR, fn', hfn'⟩ := hr
        refine ⟨_, hmem _ (hmem3 _ (List.mem_singleton.2 rfl)), Comes1.step (stepX_enter ho hwant hsem hrun') (Comes1.steps hsteps (Comes1.step (step_panics hmode hend.hdf (.inr ⟨fn', hfn'⟩)) ?_))⟩
        rw [Frame.raise_atR]
        refine .here ⟨ρ', a, cs, w', hend.hext, hS.le hend.hext.le hend.hW, CS.refl_of hS.up, rfl, rfl, _, ch', ?_, hPR, rfl⟩
        intro d wr r s k; simp
    | round l args =>
      obtain ⟨outs2, hround, hmem2⟩ := bindR_mem hx1
      obtain ⟨hok, hl, hrun⟩ := hO
      obtain ⟨rl, hheap, hsz, c, hcm, m1, hs1, ρ', w', hE, hW', hres⟩ := xround_sim HR hround hS.W hok hl (b.atR a (.inRegion ops (i :: rest) :: k)) cs
      have hrun' := hrun rl hheap hsz
      obtain ⟨outs3, hx3, hmem3⟩ := hmem2 c hcm
      split at hx3
      · rename_i v hv
        cases hx3
        rw [hv] at hres
        obtain ⟨hokv, rfl⟩ := hres
        refine ⟨_, hmem _ (hmem3 _ (List.mem_singleton.2 rfl)), Comes1.step (stepX_round ho hwant hsem hrun') (Comes1.steps hs1 ?_)⟩
        rw [fin_op ho]
        exact .here ⟨ρ', _, cs, w', hE, hS.withW hE.le hW' o.dst hokv, CS.refl_of hS.up, by rw [ASt.put_up], ASt.put_sz _ _ _, rfl⟩
      · rename_i ch hch
        cases hx3
        rw [hch] at hres
        obtain ⟨ch', hPR, rfl⟩ := hres
        refine ⟨_, hmem _ (hmem3 _ (List.mem_singleton.2 rfl)), Comes1.step (stepX_round ho hwant hsem hrun') (Comes1.steps hs1 ?_)⟩
        rw [Frame.raise_atR]
        refine .here ⟨ρ', a, cs, w', hE, hS.le hE.le hW', CS.refl_of hS.up, rfl, rfl, _, ch', ?_, hPR, rfl⟩
        intro d wr r s k; simp
    | defer d =>
      cases rnd with
      | some l => cases hx1
      | none =>
        cases hx1
        obtain ⟨d', hrun, hd⟩ := hO
        have hb : b.roundOf = none := hS.rnd
        refine ⟨_, hmem _ (List.mem_singleton.2 rfl), Comes1.step (stepX_defer ho hwant hb hrun) (.here ?_)⟩
        have hS' := hS.put o.dst (v := aundef) trivial
        refine ⟨ρ, _, cs, w, by rw [ASt.put_W]; exact Ext.refl _ _ _, ?_, CS.refl_of hS.up, by rw [ASt.put_up], ASt.put_sz _ _ _, rfl⟩
        have e : ({ a with defers := d' :: a.defers } : Act).put o.dst undef = { a.put o.dst undef with defers := d' :: a.defers } := by cases o.dst <;> rfl
        rw [e]
        have hd2 : (a.put o.dst undef).defers = a.defers := by cases o.dst <;> rfl
        exact ⟨hS'.tm, hS'.sz, ⟨hd, hS.df⟩, hS'.up, hS'.W, hS'.rnd⟩
    | recover =>
      cases rnd with
      | some l => cases hx1
      | none =>
        have hb : b.roundOf = none := hS.rnd
        have hrun : (execOp a.eval o).run P w = .ok .recover w := hO
        have hstep := stepX_recover (b := b) (a := a) (k := k) (cs := cs) (rest := rest) ho hwant hb hrun
        have hkind : (b.atR a (.inRegion ops (i :: rest) :: k)).kind = b.kind := rfl
        -- none to be recovered
        have nothing : tryRecover (b.atR a (.inRegion ops (i :: rest) :: k)) cs = none → outs1 = [(.nrm, s.put o.dst .if0)] → ∃ out ∈ outs, Comes1 P (lone (b.atR a (.inRegion ops (i :: rest) :: k)) cs w) (Post CR ρ none s w b (.inRegion ops rest :: k) cs out) := by
          intro ht ho1
          subst ho1
          rw [ht] at hstep
          refine ⟨_, hmem _ (List.mem_singleton.2 rfl), Comes1.step hstep (.here ?_)⟩
          have hS' := hS.put o.dst (v := .if0) trivial
          exact ⟨ρ, _, cs, w, by rw [ASt.put_W]; exact Ext.refl _ _ _, hS', CS.refl_of hS.up, by rw [ASt.put_up], ASt.put_sz _ _ _, rfl⟩
        have hup := hS.up
        simp only [xout] at hx1
        split at hx1
        · rename_i v older hu
          cases hx1
          rw [hu] at hup
          obtain ⟨hkd, c, cs0, rfl, hM⟩ := hup
          cases hcm : c.mode with
          | panicking ch' =>
            rw [hcm] at hM
            obtain ⟨hch, hokc⟩ := hM
            rw [List.map_cons] at hch
            have ht : tryRecover (b.atR a (.inRegion ops (i :: rest) :: k)) (c :: cs0) = some (cv ρ v, { c with mode := .panicking ({ v := cv ρ v, recovered := true } :: older.map (fun x => { v := cv ρ x.1, recovered := x.2, goexit := false })) } :: cs0) := by
              rw [tryRecover_deferred (by rw [hkind]; exact hkd)]
              simp [recoverD, hcm, hch]
            rw [ht] at hstep
            refine ⟨_, hmem _ (List.mem_singleton.2 rfl), Comes1.step hstep (.here ?_)⟩
            have hokv : okv ρ v := hokc (v, false) (by simp)
            have hS' := hS.put o.dst hokv
            refine ⟨ρ, _, _, w, by rw [ASt.put_W]; exact Ext.refl _ _ _, ?_, by rw [hu]; exact ⟨c, cs0, _, rfl, rfl⟩, by rw [hu]; rfl, ASt.put_sz _ _ _, rfl⟩
            refine ⟨hS'.tm, hS'.sz, hS'.df, ⟨hkd, _, cs0, rfl, ?_, ?_⟩, hS'.W, hS'.rnd⟩
            · simp
            · intro x hx
              rcases List.mem_cons.1 hx with rfl | hx
              · exact hokv
              · exact hokc x (by simp [hx])
          | run => rw [hcm] at hM; exact hM.elim
          | returning => rw [hcm] at hM; exact hM.elim
        · rename_i hnot
          cases hx1
          refine nothing ?_ rfl
          cases hu : s.up with
          | none =>
            rw [hu] at hup
            have hk : b.kind = .normal := hup
            unfold tryRecover
            rw [hkind, hk]
          | some m =>
            rw [hu] at hup
            obtain ⟨hkd, c, cs0, rfl, hM⟩ := hup
            rw [tryRecover_deferred (by rw [hkind]; exact hkd)]
            cases hcm : c.mode with
            | run => simp [recoverD, hcm]
            | returning => simp [recoverD, hcm]
            | panicking ch' =>
              rw [hcm] at hM
              cases m with
              | panicking ch =>
                obtain ⟨hch, _⟩ := hM
                subst hch
                cases ch with
                | nil => simp [recoverD, hcm]
                | cons x older =>
                  obtain ⟨v, q⟩ := x
                  cases q with
                  | true => simp [recoverD, hcm]
                  | false => exact absurd hu (hnot v older)
              | run => exact hM.elim
              | returning => exact hM.elim
    | panic v =>
      cases hx1
      obtain ⟨hrun, hok⟩ := hO
      refine ⟨_, hmem _ (List.mem_singleton.2 rfl), Comes1.step (stepX_panic ho hwant hsem hrun) (.here ?_)⟩
      refine ⟨ρ, a, cs, w, Ext.refl _ _ _, hS, CS.refl_of hS.up, rfl, rfl, _, _, ?_, ⟨rfl, by simpa using hok⟩, rfl⟩
      intro d wr r s k; simp

/-- a region in its order -/
theorem xops_sim (HR : RecSim CR P r) {ops : Array Oper} : ∀ (os : List Oper) (as : List AOper) (i : Nat), (∀ j, os[j]? = ops[i + j]?) → compOpers P ops os = some as → ∀ {rnd : Option Nat} {s : ASt} {outs : List (AEx × ASt)}, xops r rnd as s = some outs →
    ∀ (ρ : Rho) (b : Frame) (a : Act) (k : List Item) (cs : List Frame) (w : World), SR CR ρ rnd s b a cs w →
    ∃ out ∈ outs, Comes1 P (lone (b.atR a (.inRegion ops (List.range' i os.length) :: k)) cs w) (Post CR ρ rnd s w b k cs out)
  | [], as, i, _, hc, rnd, s, outs, hx, ρ, b, a, k, cs, w, hS => by
    cases hc; cases hx
    exact ⟨_, List.mem_singleton.2 rfl, Comes1.step stepR_region_end (.here ⟨ρ, a, cs, w, Ext.refl _ _ _, hS, CS.refl_of hS.up, rfl, rfl, rfl⟩)⟩
  | o :: os, as, i, hops, hc, rnd, s, outs, hx, ρ, b, a, k, cs, w, hS => by
    unfold compOpers at hc
    split at hc
    case h_2 => cases hc
    rename_i ao as' hco hcs
    cases hc
    simp only [xops] at hx
    obtain ⟨outs1, h1, hmem1⟩ := bindR_mem hx
    have ho : ops[i]? = some o := by have := hops 0; simpa using this.symm
    rw [List.length_cons, List.range'_succ]
    obtain ⟨x, hxm, m1, hs1, ρ1, a1, cs1, w1, hE1, hS1, hC1, hu1, hz1, hat1⟩ := xone_sim HR ho hco h1 (List.range' (i + 1) os.length) b a k cs hS
    obtain ⟨outs2, h2, hmem2⟩ := hmem1 x hxm
    split at h2
    · rename_i he
      rw [he] at hat1
      have hat1' : m1 = lone (b.atR a1 (.inRegion ops (List.range' (i + 1) os.length) :: k)) cs1 w1 := hat1
      subst hat1'
      obtain ⟨out, hom, hcomes⟩ := xops_sim HR os as' (i + 1) (fun j => by have := hops (j + 1); rw [List.getElem?_cons_succ] at this; rw [this]; congr 1; omega) hcs h2 ρ1 b a1 k cs1 w1 hS1
      refine ⟨out, hmem2 _ hom, Comes1.steps hs1 ?_⟩
      obtain ⟨m2, hs2, ρ2, a2, cs2, w2, hE2, hS2, hC2, hu2, hz2, hat2⟩ := hcomes
      exact ⟨m2, hs2, ρ2, a2, cs2, w2, hE1.trans hE2, hS2, hC1.trans hu1 hC2, hu2.trans hu1, hz2.trans hz1, hat2⟩
    · rename_i hne
      cases h2
      refine ⟨x, hmem2 _ (by simp), m1, hs1, ρ1, a1, cs1, w1, hE1, hS1, hC1, hu1, hz1, ?_⟩
      cases he : x.1 with
      | nrm => exact absurd he hne
      | exit id =>
        rw [he] at hat1
        obtain ⟨pre, hpre, rfl⟩ := hat1
        refine ⟨pre ++ [.inRegion ops (List.range' (i + 1) os.length)], ?_, by simp⟩
        intro y hy j hj
        rcases List.mem_append.1 hy with hy | hy
        · exact hpre y hy j hj
        · obtain rfl : y = _ := by simpa using hy
          cases hj
      | ret => rw [he] at hat1; exact hat1
      | panic ch => rw [he] at hat1; exact hat1
end
end Go.Eng

/- Engine 18: code in the machine. -/
namespace Go.Eng
set_option linter.unusedVariables false
set_option linter.unusedSimpArgs false

/-- what is owed for regions that draw their order (Engine 20) -/
def DrawSim (P : Program) (r : Rec) : Prop :=
  ∀ (id : Nat) (ops : Array Oper) (ac : ACode), compDraw P ops = some ac → ∀ rnd s outs, xcode r rnd ac s = some outs → SimAt (CodeOf P) P rnd s outs [.code (.region id ops true)]

section
variable {P : Program} {ρ : Rho} {W : AW} {w : World} {r : Rec}

theorem At.widen {b : Frame} {x : Item} {kn : List Item} {e : AEx} {a : Act} {cs : List Frame} {m : Machine} (h : At b (x :: kn) e ρ a cs w m) (hne : e ≠ .nrm) (hx : ∀ j, x = .inBlock j → e ≠ .exit j) : At b kn e ρ a cs w m := by
  cases e with
  | nrm => exact absurd rfl hne
  | exit id =>
    obtain ⟨pre, hp, rfl⟩ := h
    refine ⟨pre ++ [x], ?_, by simp⟩
    intro y hy j hj
    rcases List.mem_append.1 hy with hy | hy
    · exact hp y hy j hj
    · obtain rfl : y = x := by simpa using hy
      intro e; subst e
      exact hx j hj rfl
  | ret => exact h
  | panic ch => exact h

/-- behind a first part a second one -/
theorem Post.then {CR : CodeR} {rnd : Option Nat} {s : ASt} {b : Frame} {kn : List Item} {cs : List Frame} {ρ1 : Rho} {s1 : ASt} {cs1 : List Frame} {w1 : World} {out : AEx × ASt} {m : Machine}
    (hE : Ext ρ s.W w ρ1 s1.W w1) (hC : CS s.up cs cs1) (hu : s1.up.isSome = s.up.isSome) (hz : s1.sz = s.sz) (h : Post CR ρ1 rnd s1 w1 b kn cs1 out m) : Post CR ρ rnd s w b kn cs out m := by
  obtain ⟨ρ2, a2, cs2, w2, hE2, hS2, hC2, hu2, hz2, hat2⟩ := h
  exact ⟨ρ2, a2, cs2, w2, hE.trans hE2, hS2, hC.trans hu hC2, hu2.trans hu, hz2.trans hz, hat2⟩

theorem run_enterLoop_out (P : Program) (fn : FuncId) (tmps : Array Value) (ps : Array Tmp) (assign body : Code) :
    (Instr.enterLoop fn tmps ps assign body none).run P w = .ok (w.heap.size + 1, [{ target := .collected w.heap.size, args := #[] }])
      (wpush (wpush w (.deferred (some []))) (.loop { state := .ready, pending := none, fn, tmps, params := ps, assign, body, defers := w.heap.size })) := by
  simp [Instr.enterLoop, wpush]
  rfl
theorem run_enterLoop_in (P : Program) (fn : FuncId) (tmps : Array Value) (ps : Array Tmp) (assign body : Code) {l : Nat} {rl : Loop} (h : w.heap[l]? = some (.loop rl)) :
    (Instr.enterLoop fn tmps ps assign body (some l)).run P w = .ok (w.heap.size, [])
      (wpush w (.loop { state := .ready, pending := none, fn, tmps, params := ps, assign, body, defers := rl.defers })) := by
  simp [Instr.enterLoop, run_getLoop P h, wpush]

theorem xrange_sim (HR : RecSim (CodeOf P) P r) {f : Operand} {f' : AO} (hf : compO f = some f') {ps : Array Tmp} {assign body : Code} {assign' body' : ACode} (hass : compCode P assign = some assign') (hbody : compCode P body = some body')
    {rnd : Option Nat} {s : ASt} {outs : List (AEx × ASt)} (hx : xrange r rnd f' ps.toList assign' body' s = some outs) : SimAt (CodeOf P) P rnd s outs [.code (.rangeFunc f ps assign body)] := by
  intro ρ b a kn cs w hS
  unfold xrange at hx
  split at hx
  case h_2 => cases hx
  rename_i g first captured hg
  have hev := (evR_of hS.tm) f f' hf
  rw [hg] at hev
  obtain ⟨hfv, hokf, hokc⟩ := hev
  simp only [cv] at hfv
  -- behind the entry of the loop
  have rest : ∀ (W1 : AW) (dfs : Nat) (df' : List ADefer) (ρ1 : Rho) (w1 : World) (mark : List Deferred), WR (CodeOf P) ρ1 W1 w1 → Ext ρ s.W w ρ1 W1 w1 → (ρ1 dfs).isSome = true → DR ρ1 df' (mark ++ a.defers) →
      (Instr.enterLoop b.fn a.tmps ps assign body b.roundOf).run P w = .ok (w1.heap.size, mark) (wpush w1 (.loop { state := .ready, pending := none, fn := b.fn, tmps := a.tmps, params := ps, assign, body, defers := ρ1.blk dfs })) →
      (bindR (r.call none g (first ++ [.yield W1.n] ++ captured) (W1.push (.loop { st := .ready, pending := none, tm := s.tm, size := s.sz, params := ps.toList, assign := assign', body := body', defers := dfs }))) fun c =>
        match c.r with
        | .panic ch => some [(.panic ch, { s with W := c.W, df := df' })]
        | .ret _ => match c.W.get W1.n with
          | .loop L => match L.st with
            | .busy => none
            | _ => some [(exOfJump L.pending, { s with W := c.W.set W1.n (.loop { L with st := .exhausted }), df := df' })]
          | _ => none) = some outs →
      ∃ out ∈ outs, Comes1 P (lone (b.atR a ([.code (.rangeFunc f ps assign body)] ++ kn)) cs w) (Post (CodeOf P) ρ rnd s w b kn cs out) := by
    intro W1 dfs df' ρ1 w1 mark hW1 hE1 hdfs hDR henter hx
    obtain ⟨outs1, hcall, hmem⟩ := bindR_mem hx
    have hLR : LR (CodeOf P) ρ1 { st := .ready, pending := none, tm := s.tm, size := s.sz, params := ps.toList, assign := assign', body := body', defers := dfs }
        { state := .ready, pending := none, fn := b.fn, tmps := a.tmps, params := ps, assign, body, defers := ρ1.blk dfs } :=
      ⟨rfl, rfl, hS.tm.le hE1.le, hS.sz, rfl, hass, hbody, rfl, hdfs⟩
    have hpush := hW1.push (s := 0) (blk := .loop { st := .ready, pending := none, tm := s.tm, size := s.sz, params := ps.toList, assign := assign', body := body', defers := dfs }) ⟨_, rfl, hLR⟩ (by simp)
    generalize hρ2 : ρ1.upd W1.n w1.heap.size 0 = ρ2 at hpush
    have hE2 := hE1.trans hpush.2
    have hlid : (ρ2 W1.n).isSome = true := by rw [← hρ2]; simp [Rho.upd_same]
    have hlblk : ρ2.blk W1.n = w1.heap.size := by rw [← hρ2, blk_upd]
    have hokargs : okvs ρ2 (first ++ [.yield W1.n] ++ captured) := okvs_append.2 ⟨okvs_append.2 ⟨okvs_le hE2.le _ hokf, hlid, trivial⟩, okvs_le hE2.le _ hokc⟩
    obtain ⟨fn, hfn, hb, hname⟩ := HR.enters _ _ _ _ _ hcall
    let a2 : Act := { a with defers := mark ++ a.defers }
    obtain ⟨c, hcm, ρ3, fr, cs3, w3, hsteps, hend⟩ := HR.call _ _ _ _ _ hcall ρ2 _ (b.atR a2 (.inRangeFunc w1.heap.size :: kn) :: cs) .normal hokargs hpush.1 rfl
    have hcs3 : cs3 = b.atR a2 (.inRangeFunc w1.heap.size :: kn) :: cs := hend.hcs
    subst hcs3
    have hres : (resolve a.eval (rangeCall f w1.heap.size) 0).run P (wpush w1 (.loop { state := .ready, pending := none, fn := b.fn, tmps := a.tmps, params := ps, assign, body, defers := ρ1.blk dfs })) =
        .ok { target := .fn (.func g) (cvs ρ captured).toArray, args := (cvs ρ first).toArray ++ #[.func (.yield w1.heap.size) #[] #[]] } (wpush w1 (.loop { state := .ready, pending := none, fn := b.fn, tmps := a.tmps, params := ps, assign, body, defers := ρ1.blk dfs })) := by
      have e1 : resolve a.eval (rangeCall f w1.heap.size) 0 = Deferred.ofValue (a.eval f) #[.func (.yield w1.heap.size) #[] #[]] := by
        simp only [resolve, List.map_toArray, List.map_cons, List.map_nil]
        rfl
      rw [e1, hfv]
      rfl
    have hinv : (invoke (.fn (.func g) (cvs ρ captured).toArray) ((cvs ρ first).toArray ++ #[.func (.yield w1.heap.size) #[] #[]])).run P (wpush w1 (.loop { state := .ready, pending := none, fn := b.fn, tmps := a.tmps, params := ps, assign, body, defers := ρ1.blk dfs })) =
        .ok (.enter g (cvs ρ2 (first ++ [.yield W1.n] ++ captured)).toArray) (wpush w1 (.loop { state := .ready, pending := none, fn := b.fn, tmps := a.tmps, params := ps, assign, body, defers := ρ1.blk dfs })) := by
      simp only [invoke, callFunc, Sem.run_bind, run_program, Result.andThen_ok, hfn, hname, Bool.false_eq_true, if_false]
      rw [if_neg (by cases hbb : fn.body <;> simp_all)]
      simp [cvs_append, cvs, cv, hlblk, cvs_le hE2.le _ hokf, cvs_le hE2.le _ hokc]
    have hstep := stepR_rangeFunc (P := P) (b := b) (a := a) (k := kn) (cs := cs) henter hres hinv
    have hE3 := hE2.trans hend.hext
    have hS3 : SR (CodeOf P) ρ3 rnd { s with W := c.W, df := df' } b a2 cs w3 :=
      ⟨hS.tm.le hE3.le, hS.sz, hDR.le (Rho.le_trans hpush.2.le hend.hext.le), hS.up.le hE3.le, hend.hW, (hS.le hE3.le hend.hW).rnd⟩
    have hr := hend.hr
    obtain ⟨outs2, hx2, hmem2⟩ := hmem c hcm
    split at hx2
    · rename_i ch hch
      cases hx2
      rw [hch] at hr
      obtain ⟨ch', hmode, hPR, fn', hfn'⟩ := hr
      refine ⟨_, hmem2 _ (List.mem_singleton.2 rfl), Comes1.step hstep (Comes1.steps hsteps (Comes1.step (step_panics hmode hend.hdf (.inr ⟨fn', hfn'⟩)) ?_))⟩
      rw [Frame.raise_atR]
      refine .here ⟨ρ3, a2, cs, w3, hE3, hS3, CS.refl_of hS.up, rfl, rfl, _, ch', by intro d wr r s k; simp, hPR, rfl⟩
    · rename_i v hv
      rw [hv] at hr
      obtain ⟨hmode, hokv, fn', hfn', hres'⟩ := hr
      split at hx2
      case h_2 => cases hx2
      rename_i L hL
      have hl3 : (ρ3 W1.n).isSome = true := hend.hext.le.some hlid
      have hblk3 : ρ3.blk W1.n = w1.heap.size := (hend.hext.le.blk hlid).trans hlblk
      obtain ⟨r3, ho3, hLR3⟩ := hend.hW.getLoop hl3 hL
      have hset := hend.hW.setLoop hl3 hL (L' := { L with st := .exhausted }) (r := { r3 with state := .exhausted }) ⟨rfl, hLR3.2⟩
      have hbusy : L.st ≠ .busy → outs2 = [(exOfJump L.pending, { s with W := c.W.set W1.n (.loop { L with st := .exhausted }), df := df' })] := by
        intro hb'
        cases hst : L.st <;> rw [hst] at hx2 hb' <;> first | (simp only [Option.some.injEq] at hx2; exact hx2.symm) | exact absurd rfl hb'
      have hnb : L.st ≠ .busy := by intro e; rw [e] at hx2; cases hx2
      have ho2 := hbusy hnb
      subst ho2
      have hendl := run_endLoop P ho3 (by rw [hLR3.1]; exact hnb)
      rw [hblk3] at hset hendl
      have hpend : r3.pending = L.pending.map jumpCode := hLR3.2.1
      refine ⟨_, hmem2 _ (List.mem_singleton.2 rfl), Comes1.step hstep (Comes1.steps hsteps (Comes1.step (step_leave_returned (v := cv ρ3 v) ⟨hmode, hend.hdf, hend.hkind, fn', hfn', hres'⟩) ?_))⟩
      rw [finish_atR_inRangeFunc]
      refine Comes1.step (stepR_endRangeFunc hendl) (.here ?_)
      refine ⟨ρ3, a2, cs, _, hE3.trans hset.2, ?_, CS.refl_of hS.up, rfl, rfl, ?_⟩
      · exact ⟨hS3.tm, hS3.sz, hS3.df, hS3.up, hset.1, hS3.rnd⟩
      · rw [hpend]
        cases hp : L.pending with
        | none => rfl
        | some j => cases j with
          | exit id => exact ⟨[], (by intro x hx; cases hx), rfl⟩
          | ret => exact ⟨kn, rfl⟩
  cases rnd with
  | none =>
    have hb : b.roundOf = none := hS.rnd
    have hp := hS.W.push (s := 0) (blk := .deferred true) (o := .deferred (some [])) rfl (by simp)
    refine rest _ s.W.n (.collected s.W.n :: s.df) _ _ [{ target := .collected w.heap.size, args := #[] }] hp.1 hp.2 (by simp [Rho.upd_same]) ?_ ?_ hx
    · exact ⟨⟨by simp [Rho.upd_same], by rw [blk_upd], rfl⟩, hS.df.le hp.2.le⟩
    · rw [hb, run_enterLoop_out, blk_upd]
      simp
  | some l =>
    obtain ⟨hb, hl, hup⟩ := hS.rnd
    simp only at hx
    split at hx
    · cases hx
    · rename_i W1 dfs df' heq
      split at heq
      · rename_i L hL
        simp only [Option.some.injEq, Prod.mk.injEq] at heq
        obtain ⟨rfl, rfl, rfl⟩ := heq
        obtain ⟨rl, ho, hLR⟩ := hS.W.getLoop hl hL
        refine rest _ L.defers s.df ρ w [] hS.W (Ext.refl _ _ _) hLR.2.2.2.2.2.2.2.2 hS.df ?_ hx
        rw [hb, run_enterLoop_in P _ _ _ _ _ ho, hLR.2.2.2.2.2.2.2.1]
      · cases heq

theorem xcode_sim (HR : RecSim (CodeOf P) P r) (HD : DrawSim P r) : ∀ (c : Code) (ac : ACode), compCode P c = some ac → ∀ (rnd : Option Nat) (s : ASt) (outs : List (AEx × ASt)), xcode r rnd ac s = some outs → SimAt (CodeOf P) P rnd s outs [.code c] := by
  intro c
  induction c with
  | skip =>
    intro ac hc rnd s outs hx ρ b a kn cs w hS
    cases hc; cases hx
    exact ⟨_, List.mem_singleton.2 rfl, Comes1.step stepR_skip (.here ⟨ρ, a, cs, w, Ext.refl _ _ _, hS, CS.refl_of hS.up, rfl, rfl, rfl⟩)⟩
  | region id ops draw =>
    intro ac hc rnd s outs hx
    cases draw with
    | true => exact HD id ops ac hc rnd s outs hx
    | false =>
      intro ρ b a kn cs w hS
      obtain ⟨l, hl, rfl⟩ := map_some (show (compOpers P ops ops.toList).map (fun l => ACode.region l .seq) = some ac from hc)
      obtain ⟨out, hom, hcomes⟩ := xops_sim HR ops.toList l 0 (fun j => by simp) hl hx ρ b a kn cs w hS
      refine ⟨out, hom, Comes1.step stepR_region ?_⟩
      rw [List.range_eq_range']
      simpa using hcomes
  | seq x y ihx ihy =>
    intro ac hc rnd s outs hx ρ b a kn cs w hS
    simp only [compCode] at hc
    split at hc
    case h_2 => cases hc
    rename_i x' y' h1 h2
    cases hc
    simp only [xcode] at hx
    obtain ⟨outs1, hx1, hmem1⟩ := bindR_mem hx
    obtain ⟨o1, ho1, m1, hs1, hp1⟩ := ihx x' h1 rnd s outs1 hx1 ρ b a (.code y :: kn) cs w hS
    obtain ⟨outs2, hx2, hmem2⟩ := hmem1 o1 ho1
    have hs1' : Steps P (lone (b.atR a ([.code (.seq x y)] ++ kn)) cs w) m1 := .head stepR_seq hs1
    obtain ⟨ρ1, a1, cs1, w1, hE1, hS1, hC1, hu1, hz1, hat1⟩ := hp1
    split at hx2
    · rename_i he
      rw [he] at hat1
      have hm1 : m1 = lone (b.atR a1 (.code y :: kn)) cs1 w1 := hat1
      subst hm1
      obtain ⟨o2, ho2, m2, hs2, hp2⟩ := ihy y' h2 rnd o1.2 outs2 hx2 ρ1 b a1 kn cs1 w1 hS1
      exact ⟨o2, hmem2 _ ho2, m2, hs1'.trans hs2, Post.then hE1 hC1 hu1 hz1 hp2⟩
    · rename_i hne
      cases hx2
      exact ⟨o1, hmem2 _ (List.mem_singleton.2 rfl), m1, hs1', ρ1, a1, cs1, w1, hE1, hS1, hC1, hu1, hz1, hat1.widen (fun e => hne e) (by simp)⟩
  | cond c x y ihx ihy =>
    intro ac hc rnd s outs hx ρ b a kn cs w hS
    simp only [compCode] at hc
    split at hc
    case h_2 => cases hc
    rename_i c' x' y' h0 h1 h2
    cases hc
    have hev := (evR_of hS.tm) c c' h0
    simp only [xcode] at hx
    split at hx
    · rename_i ht
      rw [ht] at hev
      obtain ⟨o, ho, hcomes⟩ := ihx x' h1 rnd s outs hx ρ b a kn cs w hS
      exact ⟨o, ho, Comes1.step (stepR_cond (t := true) hev.1) hcomes⟩
    · rename_i ht
      rw [ht] at hev
      obtain ⟨o, ho, hcomes⟩ := ihy y' h2 rnd s outs hx ρ b a kn cs w hS
      exact ⟨o, ho, Comes1.step (stepR_cond (t := false) hev.1) hcomes⟩
    · cases hx
  | block id x ih =>
    intro ac hc rnd s outs hx ρ b a kn cs w hS
    simp only [compCode] at hc
    obtain ⟨x', h1, rfl⟩ := map_some hc
    simp only [xcode] at hx
    obtain ⟨outs1, hx1, hmem1⟩ := bindR_mem hx
    obtain ⟨o1, ho1, m1, hs1, hp1⟩ := ih x' h1 rnd s outs1 hx1 ρ b a (.inBlock id :: kn) cs w hS
    obtain ⟨outs2, hx2, hmem2⟩ := hmem1 o1 ho1
    have hs1' : Steps P (lone (b.atR a ([.code (.block id x)] ++ kn)) cs w) m1 := .head stepR_block hs1
    obtain ⟨ρ1, a1, cs1, w1, hE1, hS1, hC1, hu1, hz1, hat1⟩ := hp1
    split at hx2
    · rename_i id' he
      cases hx2
      refine ⟨_, hmem2 _ (List.mem_singleton.2 rfl), ?_⟩
      rw [he] at hat1
      cases hid : Nat.beq id' id with
      | true =>
        have := Nat.eq_of_beq_eq_true hid
        subst this
        obtain ⟨pre, hpre, rfl⟩ := hat1
        refine Comes1.steps hs1' (Comes1.step (stepR_exit (exitTo_blk hpre)) (.here ?_))
        exact ⟨ρ1, a1, cs1, w1, hE1, hS1, hC1, hu1, hz1, rfl⟩
      | false =>
        have hne : id' ≠ id := fun e => by rw [e, Nat.beq_refl] at hid; cases hid
        exact ⟨m1, hs1', ρ1, a1, cs1, w1, hE1, hS1, hC1, hu1, hz1, hat1.widen (by simp) (fun j hj => by cases hj; simpa using hne)⟩
    · rename_i hne
      cases hx2
      refine ⟨o1, hmem2 _ (List.mem_singleton.2 rfl), ?_⟩
      cases he : o1.1 with
      | nrm =>
        rw [he] at hat1
        have hm1 : m1 = lone (b.atR a1 (.inBlock id :: kn)) cs1 w1 := hat1
        subst hm1
        exact Comes1.steps hs1' (Comes1.step stepR_inBlock (.here ⟨ρ1, a1, cs1, w1, hE1, hS1, hC1, hu1, hz1, by rw [he]; rfl⟩))
      | exit id' => exact absurd he (hne id')
      | ret => exact ⟨m1, hs1', ρ1, a1, cs1, w1, hE1, hS1, hC1, hu1, hz1, hat1.widen (by rw [he]; simp) (fun j _ => by rw [he]; simp)⟩
      | panic ch => exact ⟨m1, hs1', ρ1, a1, cs1, w1, hE1, hS1, hC1, hu1, hz1, hat1.widen (by rw [he]; simp) (fun j _ => by rw [he]; simp)⟩
  | loop x ih =>
    intro ac hc rnd s outs hx ρ b a kn cs w hS
    simp only [compCode] at hc
    obtain ⟨x', h1, rfl⟩ := map_some hc
    simp only [xcode] at hx
    obtain ⟨outs1, hx1, hmem1⟩ := bindR_mem hx
    obtain ⟨o1, ho1, m1, hs1, hp1⟩ := ih x' h1 rnd s outs1 hx1 ρ b a (.inLoop x :: kn) cs w hS
    obtain ⟨outs2, hx2, hmem2⟩ := hmem1 o1 ho1
    have hs1' : Steps P (lone (b.atR a ([.code (.loop x)] ++ kn)) cs w) m1 := .head stepR_loop hs1
    obtain ⟨ρ1, a1, cs1, w1, hE1, hS1, hC1, hu1, hz1, hat1⟩ := hp1
    split at hx2
    · rename_i he
      rw [he] at hat1
      have hm1 : m1 = lone (b.atR a1 (.inLoop x :: kn)) cs1 w1 := hat1
      subst hm1
      obtain ⟨o2, ho2, m2, hs2, hp2⟩ := HR.loop rnd x' o1.2 outs2 hx2 x h1 ρ1 b a1 kn cs1 w1 hS1
      exact ⟨o2, hmem2 _ ho2, m2, hs1'.trans hs2, Post.then hE1 hC1 hu1 hz1 hp2⟩
    · rename_i hne
      cases hx2
      exact ⟨o1, hmem2 _ (List.mem_singleton.2 rfl), m1, hs1', ρ1, a1, cs1, w1, hE1, hS1, hC1, hu1, hz1, hat1.widen (fun e => hne e) (by simp)⟩
  | rangeFunc f ps x y ihx ihy =>
    intro ac hc rnd s outs hx
    simp only [compCode] at hc
    split at hc
    case h_2 => cases hc
    rename_i f' x' y' h0 h1 h2
    cases hc
    exact xrange_sim HR h0 h1 h2 hx
  | exit id =>
    intro ac hc rnd s outs hx ρ b a kn cs w hS
    cases hc; cases hx
    exact ⟨_, List.mem_singleton.2 rfl, .here ⟨ρ, a, cs, w, Ext.refl _ _ _, hS, CS.refl_of hS.up, rfl, rfl, [], (by intro x hx; cases hx), rfl⟩⟩
  | ret =>
    intro ac hc rnd s outs hx ρ b a kn cs w hS
    cases hc; cases hx
    exact ⟨_, List.mem_singleton.2 rfl, .here ⟨ρ, a, cs, w, Ext.refl _ _ _, hS, CS.refl_of hS.up, rfl, rfl, kn, rfl⟩⟩
  | scope x => intro ac hc; cases hc
  | label l => intro ac hc; cases hc
  | goto l => intro ac hc; cases hc
  | refuse y => intro ac hc; cases hc

/-- a loop, again -/
theorem xloop_sim (HR : RecSim (CodeOf P) P r) (HD : DrawSim P r) (c : Code) (ac : ACode) (hc : compCode P c = some ac) (rnd : Option Nat) (s : ASt) (outs : List (AEx × ASt)) (hx : xcode r rnd (.loop ac) s = some outs) : SimAt (CodeOf P) P rnd s outs [.inLoop c] := by
  intro ρ b a kn cs w hS
  simp only [xcode] at hx
  obtain ⟨outs1, hx1, hmem1⟩ := bindR_mem hx
  obtain ⟨o1, ho1, m1, hs1, hp1⟩ := xcode_sim HR HD c ac hc rnd s outs1 hx1 ρ b a (.inLoop c :: kn) cs w hS
  obtain ⟨outs2, hx2, hmem2⟩ := hmem1 o1 ho1
  have hs1' : Steps P (lone (b.atR a ([.inLoop c] ++ kn)) cs w) m1 := .head stepR_inLoop hs1
  obtain ⟨ρ1, a1, cs1, w1, hE1, hS1, hC1, hu1, hz1, hat1⟩ := hp1
  split at hx2
  · rename_i he
    rw [he] at hat1
    have hm1 : m1 = lone (b.atR a1 (.inLoop c :: kn)) cs1 w1 := hat1
    subst hm1
    obtain ⟨o2, ho2, m2, hs2, hp2⟩ := HR.loop rnd ac o1.2 outs2 hx2 c hc ρ1 b a1 kn cs1 w1 hS1
    exact ⟨o2, hmem2 _ ho2, m2, hs1'.trans hs2, Post.then hE1 hC1 hu1 hz1 hp2⟩
  · rename_i hne
    cases hx2
    exact ⟨o1, hmem2 _ (List.mem_singleton.2 rfl), m1, hs1', ρ1, a1, cs1, w1, hE1, hS1, hC1, hu1, hz1, hat1.widen (fun e => hne e) (by simp)⟩
end
end Go.Eng

/- Engine 19: calls, and the whole run. -/
namespace Go.Eng
set_option linter.unusedVariables false
set_option linter.unusedSimpArgs false
section
variable {P : Program} {ρ : Rho} {W : AW} {w : World} {r : Rec}

theorem MR.settle {m : AMode} {m' : FrameMode} (h : MR ρ m m') : MR ρ (asettle m) (Go.settle m') := by
  cases m with
  | run => cases m' <;> first | exact h.elim | trivial
  | returning => cases m' <;> first | exact h.elim | trivial
  | panicking ch =>
    cases m' with
    | run => exact h.elim
    | returning => exact h.elim
    | panicking ch' =>
      obtain ⟨rfl, hok⟩ := h
      cases ch with
      | nil => exact ⟨rfl, hok⟩
      | cons x older =>
        obtain ⟨v, q⟩ := x
        cases q with
        | false => exact ⟨rfl, hok⟩
        | true =>
          have hd : ∀ l : List (AVal × Bool), (l.map (fun x => ({ v := cv ρ x.1, recovered := x.2, goexit := false } : PanicEntry))).dropWhile (fun x => !x.goexit) = [] := by
            intro l
            induction l with
            | nil => rfl
            | cons y l ih => simpa using ih
          simp only [asettle, Go.settle, List.map_cons, hd]
          trivial
theorem MR.raised {m : AMode} {m' : FrameMode} (h : MR ρ m m') {ch : List (AVal × Bool)} {ch' : List PanicEntry} (hp : PR ρ ch ch') : MR ρ (araised m ch) (Go.raised m' ch') := by
  cases m with
  | run => cases m' <;> first | exact h.elim | exact hp
  | returning => cases m' <;> first | exact h.elim | exact hp
  | panicking old =>
    cases m' with
    | run => exact h.elim
    | returning => exact h.elim
    | panicking old' =>
      refine ⟨?_, ?_⟩
      · rw [hp.1, h.1]; simp
      · intro x hx
        rcases List.mem_append.1 hx with hx | hx
        · exact hp.2 x hx
        · exact h.2 x hx

/-- a result variable's value -/
def resOf (tmps : Array Value) : ResultVar → Sem Value
  | .tmp t => pure (tmps.getD t undef)
  | .cell a t => do loadVar t (← asAddr (tmps.getD a undef))
theorem results_spec {tm : Tr AVal} {tmps : Array Value} (htm : TR ρ tm tmps) (hW : WR (CodeOf P) ρ W w) : ∀ (rs : List ResultVar) (as : List ARes) (vs : List AVal), compRes P rs = some as → xresults tm W as = some vs →
    (rs.mapM (resOf tmps)).run P w = .ok (cvs ρ vs) w ∧ okvs ρ vs
  | [], as, vs, hc, hx => by cases hc; cases hx; exact ⟨by simp [cvs], trivial⟩
  | x :: rs, as, vs, hc, hx => by
    unfold compRes at hc
    split at hc
    case h_2 => cases hc
    rename_i r0 rs0 h1 h2
    cases hc
    unfold xresults at hx
    split at hx
    case h_2 => cases hx
    rename_i v vs0 h3 h4
    cases hx
    have ih := results_spec htm hW rs rs0 vs0 h2 h4
    have hone : (resOf tmps x).run P w = .ok (cv ρ v) w ∧ okv ρ v := by
      cases x with
      | tmp t =>
        cases h1
        cases h3
        have := htm.get t
        exact ⟨by rw [← this.1]; rfl, this.2⟩
      | cell a t =>
        simp only at h1
        split at h1
        · rename_i n hagg hsz
          cases h1
          simp only at h3
          split at h3
          case h_2 => cases h3
          rename_i g o hg
          split at h3
          case h_2 => cases h3
          rename_i cs e esz own tip anc hcs
          cases hle : Nat.ble (o + n) cs.length <;> rw [hle] at h3
          · cases h3
          cases h3
          have hle' := Nat.le_of_ble_eq_true hle
          have := htm.get a
          rw [hg] at this
          obtain ⟨b, s, hρ, hb, _⟩ := rho_of this.2
          obtain ⟨hok, c', rest, ho, hcc, _⟩ := hW.cells hρ hcs
          refine ⟨?_, okvs_take _ (okvs_drop _ hok)⟩
          simp only [resOf, this.1, cv, asAddr, Sem.run_bind, Sem.run_pure, Result.andThen_ok, loadVar, run_isAgg' hagg, if_true, run_sizeOf' hsz, hb, run_loadCells P ho hcc (i := o) (n := n) (by simpa using hle'), cvs_take, cvs_drop]
        · rename_i hagg
          cases h1
          simp only at h3
          split at h3
          case h_2 => cases h3
          rename_i g o hg
          split at h3
          case h_2 => cases h3
          rename_i cs e esz own tip anc hcs
          have := htm.get a
          rw [hg] at this
          obtain ⟨b, s, hρ, hb, _⟩ := rho_of this.2
          obtain ⟨hok, c', rest, ho, hcc, _⟩ := hW.cells hρ hcs
          have hlt : o < cs.length := (List.getElem?_eq_some_iff.1 h3).1
          have hcell := cell_at ho hcc (i := o) (by simpa using hlt)
          have he : (cvs ρ cs)[o]'(by simpa using hlt) = cv ρ v := by
            have := cvs_get ρ h3
            rw [List.getElem?_eq_getElem (by simpa using hlt)] at this
            exact Option.some.inj this
          rw [he] at hcell
          refine ⟨?_, okvs_get hok h3⟩
          simp only [resOf, this.1, cv, asAddr, Sem.run_bind, Sem.run_pure, Result.andThen_ok, loadVar, run_isAgg' hagg, Bool.false_eq_true, if_false, hb, run_load_at P hcell]
        · cases h1
    refine ⟨?_, hone.2, ih.2⟩
    rw [List.mapM_cons]
    simp only [Sem.run_bind, hone.1, Result.andThen_ok, ih.1, Sem.run_pure, cvs]
theorem run_results {fn : Func} {tm : Tr AVal} {tmps : Array Value} (htm : TR ρ tm tmps) (hW : WR (CodeOf P) ρ W w) {as : List ARes} {vs : List AVal} (hc : compRes P fn.results.toList = some as) (hx : xresults tm W as = some vs) :
    (results fn tmps).run P w = .ok (cv ρ (oneOrTup vs)) w ∧ okv ρ (oneOrTup vs) := by
  have h := results_spec htm hW fn.results.toList as vs hc hx
  constructor
  · have he : results fn tmps = (do
        let vs ← fn.results.mapM (resOf tmps)
        pure (if h : vs.size = 1 then vs[0] else .tuple vs)) := rfl
    rw [he, Array.mapM_eq_mapM_toList]
    simp only [Sem.run_bind, Sem.run_map, h.1, Result.andThen_ok, Sem.run_pure]
    match vs with
    | [] => simp [oneOrTup, cv, cvs]
    | [v] => simp [oneOrTup, cvs]
    | v :: u :: vs => simp [oneOrTup, cv, cvs]
  · match vs, h.2 with
    | [], _ => trivial
    | [v], h => exact h.1
    | v :: u :: vs, h => exact h

theorem xunwind_sim (HR : RecSim (CodeOf P) P r) {fn : Func} {res : List ARes} (hres : compRes P fn.results.toList = some res) {tm : Tr AVal} {up : Option AMode} :
    ∀ (ds : List ADefer) (m : AMode) (W : AW) (outs : List COut), xunwind r res tm up ds m W = some outs → ∀ (ρ : Rho) (fr : Frame) (cs : List Frame) (w : World), P.funcs[fr.fn]? = some fn → DR ρ ds fr.defers → MR ρ m fr.mode → fr.mode ≠ .run →
      TR ρ tm fr.tmps → WR (CodeOf P) ρ W w → UR ρ up fr.kind cs →
      ∃ out ∈ outs, ∃ ρ' fr' cs' w', Steps P (lone fr cs w) (lone fr' cs' w') ∧ CallEnd (CodeOf P) P ρ up W w fr.kind fr.fn cs out ρ' fr' cs' w'
  | [], m, W, outs, hx, ρ, fr, cs, w, hfn, hdr, hmr, hrun, htm, hW, hup => by
    have hd : fr.defers = [] := by
      cases hd : fr.defers with
      | nil => rfl
      | cons d ds => rw [hd] at hdr; exact hdr.elim
    cases m with
    | run => cases hx
    | returning =>
      simp only [xunwind] at hx
      split at hx
      · rename_i vs hvs
        cases hx
        have hr := run_results (fn := fn) htm hW hres hvs
        have hm : fr.mode = .returning := by
          cases hm : fr.mode <;> rw [hm] at hmr <;> first | rfl | exact hmr.elim
        exact ⟨_, List.mem_singleton.2 rfl, ρ, fr, cs, w, .refl _ _, Ext.refl _ _ _, hW, hup, CS.refl_of hup, rfl, rfl, rfl, hd, hm, hr.2, fn, hfn, hr.1⟩
      · cases hx
    | panicking ch =>
      cases hx
      cases hm : fr.mode with
      | panicking ch' =>
        rw [hm] at hmr
        exact ⟨_, List.mem_singleton.2 rfl, ρ, fr, cs, w, .refl _ _, Ext.refl _ _ _, hW, hup, CS.refl_of hup, rfl, rfl, rfl, hd, ch', hm, hmr, fn, hfn⟩
      | run => rw [hm] at hmr; exact hmr.elim
      | returning => rw [hm] at hmr; exact hmr.elim
  | .collected b :: ds, m, W, outs, hx, ρ, fr, cs, w, hfn, hdr, hmr, hrun, htm, hW, hup => by
    simp only [xunwind] at hx
    split at hx
    case h_2 => cases hx
    rename_i hWb
    cases hd : fr.defers with
    | nil => rw [hd] at hdr; exact hdr.elim
    | cons d ds' =>
      rw [hd] at hdr
      obtain ⟨⟨hb, ht, _⟩, hdr'⟩ := hdr
      obtain ⟨bb, s, hρ, hbb, _⟩ := rho_of hb
      obtain ⟨_, o, ho, hB⟩ := hW.blk b bb s hρ
      rw [hWb] at hB
      have hB' : o = .deferred (some []) := hB
      subst hB'
      have hset := hW.setObj hρ (by rw [hWb]; rfl) (blk' := .deferred false) (o' := .deferred none) rfl trivial
      have htake : (Instr.takeDeferred (ρ.blk b)).run P w = .ok [] (wset w bb (.deferred none)) := by
        have hget : (getObj bb).run P w = .ok (.deferred (some [])) w := by simp [getObj, Sem.run, ho]
        rw [hbb]
        simp only [Instr.takeDeferred, Sem.run_bind, hget, Result.andThen_ok, run_setObj P ho (by simp), Sem.run_pure]
      have hstep := step_collected (P := P) (cs := cs) hrun hd ht htake
      obtain ⟨out, hom, ρ', fr', cs', w', hs, hend⟩ := xunwind_sim HR hres ds m _ outs hx ρ { fr with defers := [] ++ ds' } cs _ hfn (by simpa using hdr') hmr hrun htm hset.1 hup
      exact ⟨out, hom, ρ', fr', cs', w', .head hstep hs, ⟨hset.2.trans hend.hext, hend.hW, hend.hup, hend.hcs, hend.hsame, hend.hkind, hend.hfn, hend.hdf, hend.hr⟩⟩
  | .call f args :: ds, m, W, outs, hx, ρ, fr, cs, w, hfn, hdr, hmr, hrun, htm, hW, hup => by
    simp only [xunwind] at hx
    obtain ⟨outs1, hcall, hmem⟩ := bindR_mem hx
    cases hd : fr.defers with
    | nil => rw [hd] at hdr; exact hdr.elim
    | cons d ds' =>
      rw [hd] at hdr
      obtain ⟨⟨hok, captured, pre, ht, hpre, hargs⟩, hdr'⟩ := hdr
      obtain ⟨gn, hgn, hbody, hname⟩ := HR.enters _ _ _ _ _ hcall
      have hinv : (invoke d.target d.args).run P w = .ok (.enter f (cvs ρ args).toArray) w := by
        rw [ht, hpre]
        simp only [invoke, callFunc, Sem.run_bind, run_program, Result.andThen_ok, hgn, hname, Bool.false_eq_true, if_false]
        rw [if_neg (by cases hbb : gn.body <;> simp_all), hargs]
        rfl
      have hstep := step_defer (P := P) (cs := cs) hrun hd ht hinv
      obtain ⟨c, hcm, ρ1, fr1, cs1, w1, hs1, hend1⟩ := HR.call _ _ _ _ _ hcall ρ w ({ fr with defers := ds' } :: cs) .deferred hok hW ⟨rfl, _, _, rfl, hmr⟩
      obtain ⟨outs2, hx2, hmem2⟩ := hmem c hcm
      split at hx2
      · cases hx2
      · cases hx2
      rename_i m' hnrun hm'
      have hup1 := hend1.hup
      rw [hm'] at hup1
      obtain ⟨_, c1, rest1, rfl, hM⟩ := hup1
      have hcs1 := hend1.hcs
      obtain ⟨c0, rest0, m0, hc0, hc1⟩ := hcs1
      cases hc0
      cases hc1
      have hr := hend1.hr
      split at hx2
      · rename_i v hv
        rw [hv] at hr
        obtain ⟨hmode, hokv, fn', hfn', hres'⟩ := hr
        have hstep2 := step_going_returned (P := P) (c := { fr with defers := ds', mode := m0 }) (cs := cs) hend1.hkind ⟨hmode, hend1.hdf, fn', hfn', hres'⟩
        have hms := hM.settle
        have hnr : Go.settle m0 ≠ .run := by
          cases m0 with
          | run =>
            cases m' with
            | run => exact absurd rfl hnrun
            | returning => exact hM.elim
            | panicking ch => exact hM.elim
          | returning => simp [Go.settle]
          | panicking ch =>
            unfold Go.settle
            split <;> (try split) <;> simp_all
        obtain ⟨out, hom, ρ', fr', cs', w', hs, hend⟩ := xunwind_sim HR hres ds _ _ outs2 hx2 ρ1 { fr with defers := ds', mode := Go.settle m0 } cs w1 hfn (hdr'.le hend1.hext.le) hms hnr (htm.le hend1.hext.le) hend1.hW (hup.le hend1.hext.le)
        exact ⟨out, hmem2 _ hom, ρ', fr', cs', w', .head hstep (hs1.trans (.head hstep2 hs)), ⟨hend1.hext.trans hend.hext, hend.hW, hend.hup, hend.hcs, hend.hsame, hend.hkind, hend.hfn, hend.hdf, hend.hr⟩⟩
      · rename_i ch hch
        rw [hch] at hr
        obtain ⟨ch', hmode, hPR, fn', hfn'⟩ := hr
        have hstep2 := step_panics (P := P) (w := w1) (c := { fr with defers := ds', mode := m0 }) (cs := cs) hmode hend1.hdf (.inr ⟨fn', hfn'⟩)
        rw [Frame.raise_mode] at hstep2
        have hms := hM.raised hPR
        have hnr : Go.raised m0 ch' ≠ .run := by unfold Go.raised; split <;> simp
        obtain ⟨out, hom, ρ', fr', cs', w', hs, hend⟩ := xunwind_sim HR hres ds _ _ outs2 hx2 ρ1 { fr with defers := ds', mode := Go.raised m0 ch' } cs w1 hfn (hdr'.le hend1.hext.le) hms hnr (htm.le hend1.hext.le) hend1.hW (hup.le hend1.hext.le)
        exact ⟨out, hmem2 _ hom, ρ', fr', cs', w', .head hstep (hs1.trans (.head hstep2 hs)), ⟨hend1.hext.trans hend.hext, hend.hW, hend.hup, hend.hcs, hend.hsame, hend.hkind, hend.hfn, hend.hdf, hend.hr⟩⟩

theorem trOf_get : ∀ (args : List AVal) (i : Nat) (t : Tr AVal) (k : Nat), (trOf i args t).get k = if i ≤ k ∧ k < i + args.length then args[k - i]? else t.get k
  | [], i, t, k => by rw [if_neg (by simp)]; rfl
  | v :: vs, i, t, k => by
    simp only [trOf]
    rw [trOf_get vs (i + 1) _ k]
    by_cases h1 : i + 1 ≤ k ∧ k < i + 1 + vs.length
    · rw [if_pos h1, if_pos (by simp; omega)]
      have : k - i = (k - (i + 1)) + 1 := by omega
      rw [this, List.getElem?_cons_succ]
    · rw [if_neg h1]
      by_cases hk : k = i
      · subst hk
        rw [Tr.get_set_same, if_pos (by simp)]
        simp
      · rw [Tr.get_set_ne _ _ hk, if_neg (by simp; omega)]

theorem xcall_sim (HR : RecSim (CodeOf P) P r) {AP : Nat → Option AFunc} (hAP : ∀ f F, AP f = some F → compFunc P f = some F) {up : Option AMode} {f : Nat} {args : List AVal} {outs : List COut} (hx : xcall AP r up f args W = some outs) :
    (∃ fn, P.funcs[f]? = some fn ∧ fn.body.isSome = true ∧ (fn.name == "runtime.NumGoroutine") = false) ∧
    ∀ (ρ : Rho) (w : World) (cs : List Frame) (kind : CallKind), okvs ρ args → WR (CodeOf P) ρ W w → UR ρ up kind cs →
      ∃ out ∈ outs, ∃ ρ' fr cs' w', Steps P (lone (Frame.enter P f (cvs ρ args).toArray kind) cs w) (lone fr cs' w') ∧ CallEnd (CodeOf P) P ρ up W w kind f cs out ρ' fr cs' w' := by
  unfold xcall at hx
  split at hx
  · cases hx
  rename_i F hF
  have hcomp := hAP f F hF
  unfold compFunc at hcomp
  split at hcomp
  · cases hcomp
  rename_i fn hfn
  cases hname : (fn.name == "runtime.NumGoroutine") <;> rw [hname] at hcomp
  case true => cases hcomp
  simp only [cond_false] at hcomp
  split at hcomp
  · cases hcomp
  rename_i c hbody
  split at hcomp
  case h_2 => cases hcomp
  rename_i res ac hres hcode
  cases hcomp
  refine ⟨⟨fn, hfn, by rw [hbody]; rfl, hname⟩, ?_⟩
  intro ρ w cs kind hok hW hup
  obtain ⟨outs1, hx1, hmem1⟩ := bindR_mem hx
  let b : Frame := { fn := f, tmps := #[], todo := [], defers := [], mode := .run, kind := kind }
  let tmps : Array Value := (cvs ρ args).toArray ++ Array.replicate (fn.ntmps - (cvs ρ args).toArray.size) undef
  have hS : SR (CodeOf P) ρ none { tm := trOf 0 args .nil, sz := args.length + (fn.ntmps - args.length), df := [], up := up, W := W } b { tmps := tmps, defers := [] } cs w := by
    refine ⟨?_, by simp [tmps], trivial, hup, hW, rfl⟩
    intro t
    rw [trOf_get]
    by_cases ht : t < args.length
    · rw [if_pos (by omega), Nat.sub_zero, List.getElem?_eq_getElem ht]
      refine ⟨?_, (okvs_all ρ args).1 hok _ (List.getElem_mem ht)⟩
      have : tmps[t]? = some (cv ρ args[t]) := by
        simp only [tmps]
        rw [Array.getElem?_append_left (by simpa using ht)]
        simp [cvs_map, ht]
      simp [Array.getD_eq_getD_getElem?, this]
    · rw [if_neg (by omega), Tr.get_nil]
      refine ⟨?_, trivial⟩
      have : tmps.getD t undef = undef := by
        simp only [tmps, Array.getD_eq_getD_getElem?]
        rw [Array.getElem?_append_right (by simpa using ht)]
        rw [Array.getElem?_replicate]
        split <;> rfl
      rw [this]; rfl
  have hstart : Frame.enter P f (cvs ρ args).toArray kind = b.atR { tmps := tmps, defers := [] } ([.code c] ++ []) := by
    simp [Frame.enter, hfn, hbody, Frame.atR, b, tmps]
  rw [hstart]
  obtain ⟨x, hxm, m1, hs1, ρ1, a1, cs1, w1, hE1, hS1, hC1, hu1, hz1, hat1⟩ := HR.code _ _ _ _ hx1 c hcode ρ b _ [] cs w hS
  obtain ⟨outs2, hx2, hmem2⟩ := hmem1 x hxm
  -- the frame on its way out
  have fin : ∀ (m : AMode) (fr : Frame), xunwind r res x.2.tm x.2.up x.2.df m x.2.W = some outs2 → Steps P m1 (lone fr cs1 w1) → fr.fn = f → fr.kind = kind → fr.defers = a1.defers → fr.tmps = a1.tmps → MR ρ1 m fr.mode → fr.mode ≠ .run →
      ∃ out ∈ outs, ∃ ρ' fr cs' w', Steps P (lone (b.atR { tmps := tmps, defers := [] } ([.code c] ++ [])) cs w) (lone fr cs' w') ∧ CallEnd (CodeOf P) P ρ up W w kind f cs out ρ' fr cs' w' := by
    intro m fr hxu hst h1 h2 h3 h4 h5 h6
    obtain ⟨out, hom, ρ', fr', cs', w', hs, hend⟩ := xunwind_sim HR hres x.2.df m x.2.W outs2 hxu ρ1 fr cs1 w1 (by rw [h1]; exact hfn) (by rw [h3]; exact hS1.df) h5 h6 (by rw [h4]; exact hS1.tm) hS1.W (by rw [h2]; exact hS1.up)
    refine ⟨out, hmem2 _ hom, ρ', fr', cs', w', hs1.trans (hst.trans hs), hE1.trans hend.hext, hend.hW, ?_, hC1.trans hu1 hend.hcs, hend.hsame.trans hu1, hend.hkind.trans h2, hend.hfn.trans h1, hend.hdf, hend.hr⟩
    have := hend.hup
    rw [h2] at this
    exact this
  split at hx2
  · rename_i he
    rw [he] at hat1
    have hm1 : m1 = lone (b.atR a1 []) cs1 w1 := hat1
    subst hm1
    exact fin .returning { b.atR a1 [] with mode := .returning } hx2 (.one (stepR_end rfl)) rfl rfl rfl rfl trivial (by simp)
  · rename_i he
    rw [he] at hat1
    obtain ⟨k', rfl⟩ := hat1
    exact fin .returning { b.atR a1 (.code .ret :: k') with mode := .returning } hx2 (.one (stepR_ret rfl)) rfl rfl rfl rfl trivial (by simp)
  · rename_i ch he
    rw [he] at hat1
    obtain ⟨todo, ch', hcalm, hPR, rfl⟩ := hat1
    exact fin (.panicking ch) { b.atR a1 todo with mode := .panicking ch' } hx2 (.refl _ _) rfl rfl rfl rfl hPR (by simp)
  · cases hx2

theorem exec_sim {AP : Nat → Option AFunc} (hAP : ∀ f F, AP f = some F → compFunc P f = some F) (HD : ∀ r, RecSim (CodeOf P) P r → DrawSim P r) : ∀ n, RecSim (CodeOf P) P (exec AP n)
  | 0 => ⟨(by intro rnd ac s outs h; cases h), (by intro rnd ab s outs h; cases h), (by intro up f args W outs h; cases h), (by intro up f args W outs h; cases h)⟩
  | n + 1 => by
    have ih := exec_sim hAP HD n
    refine ⟨?_, ?_, ?_, ?_⟩
    · intro rnd ac s outs h c hc
      exact xcode_sim ih (HD _ ih) c ac hc rnd s outs h
    · intro rnd ab s outs h c hc
      exact xloop_sim ih (HD _ ih) c ab hc rnd s outs h
    · intro up f args W outs h
      exact (xcall_sim ih hAP h).2
    · intro up f args W outs h
      exact (xcall_sim ih hAP h).1
end
end Go.Eng

/- Engine 20: operations by what they do to the world; what an operation looks at. -/
namespace Go.Eng
set_option linter.unusedVariables false
set_option linter.unusedSimpArgs false
section
variable {CR : CodeR} {P : Program} {ρ : Rho} {W : AW} {w : World} {a : Act} {o : Oper} {outs : List AOut} {ev ev' : AO → AVal}

theorem ao_congr (hc : ∀ v, ev (.c v) = ev' (.c v)) {x : AO} (h : ∀ t ∈ aoTmp x, ev (.t t) = ev' (.t t)) : ev x = ev' x := by
  cases x with
  | t n => exact h n (by simp [aoTmp])
  | c v => exact hc v
theorem aos_congr (hc : ∀ v, ev (.c v) = ev' (.c v)) : ∀ {xs : List AO}, (∀ t ∈ aoTmps xs, ev (.t t) = ev' (.t t)) → aevs ev xs = aevs ev' xs
  | [], _ => rfl
  | x :: xs, h => by
    simp only [aevs]
    rw [ao_congr hc (x := x) (fun t ht => h t (by simp [aoTmps, ht])), aos_congr hc (xs := xs) (fun t ht => h t (by simp [aoTmps, ht]))]
theorem lay_congr (hc : ∀ v, ev (.c v) = ev' (.c v)) : ∀ {ps : List (Nat × Nat × AO)} {cs : List AVal}, (∀ t ∈ psTmps ps, ev (.t t) = ev' (.t t)) → layParts ev cs ps = layParts ev' cs ps
  | [], _, _ => rfl
  | (i, n, x) :: ps, cs, h => by
    unfold layParts
    rw [ao_congr hc (x := x) (fun t ht => h t (by simp [psTmps, ht]))]
    simp only [lay_congr hc (ps := ps) (fun t ht => h t (by simp [psTmps, ht]))]
theorem bounds_congr (hc : ∀ v, ev (.c v) = ev' (.c v)) {lo hi mx : Option AO} {len cap : Nat} (h : ∀ t ∈ aooTmp lo ++ (aooTmp hi ++ aooTmp mx), ev (.t t) = ev' (.t t)) : abBounds ev len cap lo hi mx = abBounds ev' len cap lo hi mx := by
  have h1 : ∀ m, abLo ev m lo = abLo ev' m lo := by
    intro m
    cases lo with
    | none => rfl
    | some x => simp only [abLo, ao_congr hc (x := x) (fun t ht => h t (by simp [aooTmp, ht]))]
  have h2 : ∀ m t, abHi ev len m t hi = abHi ev' len m t hi := by
    intro m t
    cases hi with
    | none => rfl
    | some x => simp only [abHi, ao_congr hc (x := x) (fun t ht => h t (by simp [aooTmp, ht]))]
  have h3 : abMx ev cap mx = abMx ev' cap mx := by
    cases mx with
    | none => rfl
    | some x => simp only [abMx, ao_congr hc (x := x) (fun t ht => h t (by simp [aooTmp, ht]))]
  simp only [abBounds, h1, h2, h3]

theorem xop_congr (hc : ∀ v, ev (.c v) = ev' (.c v)) {op : AOp} (h : ∀ t ∈ op.tmps, ev (.t t) = ev' (.t t)) : xop ev W op = xop ev' W op := by
  have one : ∀ x, (∀ t ∈ aoTmp x, t ∈ op.tmps) → ev x = ev' x := fun x hx => ao_congr hc (fun t ht => h t (hx t ht))
  have many : ∀ xs, (∀ t ∈ aoTmps xs, t ∈ op.tmps) → aevs ev xs = aevs ev' xs := fun x hx => aos_congr hc (fun t ht => h t (hx t ht))
  cases op <;> simp only [AOp.tmps] at h one many
  case pick a b c => simp only [xop_eq, xopS, one a (by simp_all), one b (by simp_all), one c (by simp_all)]
  case alloc => rfl
  case mkMap r =>
    cases r with
    | none => rfl
    | some x => simp only [xop_eq, xopS, one x (by simp_all [aooTmp])]
  case recover => rfl
  case build z ps => simp only [xop_eq, xopS, lay_congr hc h]
  case buildSlice e len esz z ps => simp only [xop_eq, xopS, lay_congr hc h]
  case mkFunc f as bs => simp only [xop_eq, xopS, many as (by simp_all), many bs (by simp_all)]
  case slice sz x lo hi mx => simp only [xop_eq, xopS, one x (by simp_all), bounds_congr hc (lo := lo) (hi := hi) (mx := mx) (fun t ht => h t (List.mem_append.2 (.inr ht)))]
  case sliceArr n sz x lo hi mx => simp only [xop_eq, xopS, one x (by simp_all), bounds_congr hc (lo := lo) (hi := hi) (mx := mx) (fun t ht => h t (List.mem_append.2 (.inr ht)))]
  case callF f as => simp only [xop_eq, xopS, many as (by simp_all)]
  case maxmin b as => simp only [xop_eq, xopS, many as (by simp_all)]
  case callV f as => simp only [xop_eq, xopS, one f (by simp_all), many as (by simp_all)]
  case defer f as => simp only [xop_eq, xopS, one f (by simp_all), many as (by simp_all)]
  case sliceStr => rfl
  case add64 x y k => simp only [xop_eq, xopS, one x (by simp_all), one y (by simp_all), one k (by simp_all)]
  case lookup ks agg z m k ok => simp only [xop_eq, xopS, one m (by simp_all), one k (by simp_all)]
  case mapUpdate ks agg m k v => simp only [xop_eq, xopS, one m (by simp_all), one k (by simp_all), one v (by simp_all)]
  case mapEntry ks agg z m k => simp only [xop_eq, xopS, one m (by simp_all), one k (by simp_all)]
  case entryStore m k v => simp only [xop_eq, xopS, one m (by simp_all), one k (by simp_all), one v (by simp_all)]
  case delete ks agg m k => simp only [xop_eq, xopS, one m (by simp_all), one k (by simp_all)]
  all_goals first
    | (rename_i x; simp only [xop_eq, xopS, one x (by simp_all)]; done)
    | (rename_i x _; simp only [xop_eq, xopS, one x (by simp_all)]; done)
    | (rename_i x y; simp only [xop_eq, xopS, one x (by simp_all), one y (by simp_all)]; done)
    | (rename_i _ _ x y; simp only [xop_eq, xopS, one x (by simp_all), one y (by simp_all)]; done)
    | skip
end
end Go.Eng

/- Engine 21: operations by what they do to the world. -/
namespace Go.Eng
set_option linter.unusedVariables false
set_option linter.unusedSimpArgs false
section
variable {CR : CodeR} {P : Program} {ρ : Rho} {W : AW} {w : World} {a : Act} {o : Oper} {outs : List AOut} {ev : AO → AVal}

/-- what is the same in every world -/
def Same (ev : AO → AVal) (W : AW) (op : AOp) (outs : List AOut) : Prop := ∃ v, outs = [.val v W] ∧ ∀ W', xop ev W' op = some [.val v W']
theorem xop_len {k : LK} {x : AO} (h : (AOp.len k x).cls = .pure) (hx : xop ev W (.len k x) = some outs) : Same ev W (.len k x) outs := by
  cases k with
  | sl =>
    simp only [xop_eq, xopS] at hx
    split at hx <;> first | (cases hx; exact ⟨_, rfl, fun W' => by simp_all [xop_eq, xopS]⟩) | (cases hx; done) | simp_all
  | str =>
    simp only [xop_eq, xopS] at hx
    split at hx <;> first | (cases hx; exact ⟨_, rfl, fun W' => by simp_all [xop_eq, xopS]⟩) | (cases hx; done) | simp_all
  | mp => cases h
theorem xop_index {len n : Nat} {agg : Bool} {x i : AO} (hx : xop ev W (.index len n agg x i) = some outs) : Same ev W (.index len n agg x i) outs := by
  simp only [xop_eq, xopS] at hx
  split at hx
  · rename_i cs k j h1 h2
    split at hx
    · rename_i hb
      cases agg <;> simp only [cond_true, cond_false] at hx
      · split at hx
        · rename_i v hv; cases hx; exact ⟨_, rfl, fun W' => by simp [xop_eq, xopS, h1, h2, hb, hv]⟩
        · cases hx
      · cases hx; exact ⟨_, rfl, fun W' => by simp [xop_eq, xopS, h1, h2, hb]⟩
    · cases hx
  · cases hx
theorem xop_field {off n : Nat} {agg : Bool} {x : AO} (hx : xop ev W (.field off n agg x) = some outs) : Same ev W (.field off n agg x) outs := by
  simp only [xop_eq, xopS] at hx
  split at hx
  · rename_i cs h1
    cases agg <;> simp only [cond_true, cond_false] at hx
    · split at hx
      · rename_i v hv; cases hx; exact ⟨_, rfl, fun W' => by simp [xop_eq, xopS, h1, hv]⟩
      · cases hx
    · cases hx; exact ⟨_, rfl, fun W' => by simp [xop_eq, xopS, h1]⟩
  · cases hx
theorem xop_assert {t : Nat} {zero : AVal} {ok : Bool} {x : AO} (hx : xop ev W (.assert t zero ok x) = some outs) : Same ev W (.assert t zero ok x) outs := by
  simp only [xop_eq, xopS] at hx
  split at hx
  · rename_i u v h1
    cases hb : Nat.beq u t <;> rw [hb] at hx <;> cases ok <;> simp only [cond_true, cond_false] at hx <;> first | (cases hx; done) | (cases hx; exact ⟨_, rfl, fun W' => by simp [xop_eq, xopS, h1, hb]⟩)
  · rename_i h1
    cases ok <;> simp only [cond_true, cond_false] at hx <;> first | (cases hx; done) | (cases hx; exact ⟨_, rfl, fun W' => by simp [xop_eq, xopS, h1]⟩)
  · cases hx
theorem xop_sliceS {sz : Nat} {x : AO} {lo hi mx : Option AO} (hx : xop ev W (.slice sz x lo hi mx) = some outs) : Same ev W (.slice sz x lo hi mx) outs := by
  simp only [xop_eq, xopS] at hx
  split at hx
  · rename_i g o len cap op h1
    split at hx
    · rename_i l h m h2
      cases hb : ((op && mx.isNone) && Nat.beq m l && !Nat.beq l 0) <;> rw [hb] at hx <;> simp only [cond_true, cond_false] at hx <;> first | (cases hx; done) | (cases hx; exact ⟨_, rfl, fun W' => by simp only [xop_eq, xopS, h1, h2, hb, cond_false, cond_true]⟩)
    · cases hx
  · rename_i h1
    split at hx
    · rename_i l h m h2; cases hx; exact ⟨_, rfl, fun W' => by simp only [xop_eq, xopS, h1, h2]⟩
    · cases hx
  · cases hx
theorem xop_eqs {ks : List SK} {neg : Bool} {x y : AO} (hx : xop ev W (.eqs ks neg x y) = some outs) : Same ev W (.eqs ks neg x y) outs := by
  simp only [xop_eq, xopS] at hx
  split at hx
  · rename_i xs ys h1 h2
    cases hb : (Nat.beq xs.length ks.length && Nat.beq ys.length ks.length) <;> rw [hb] at hx <;> simp only [cond_true, cond_false] at hx
    · cases hx
    · split at hx
      · rename_i b h3; cases hx; exact ⟨_, rfl, fun W' => by simp only [xop_eq, xopS, h1, h2, hb, h3, cond_true]⟩
      · cases hx
  · cases hx
theorem xop_pure {op : AOp} (h : op.cls = .pure) (hx : xop ev W op = some outs) : Same ev W op outs := by
  cases op <;> first | (exact xop_len h hx) | (exact xop_index hx) | (exact xop_field hx) | (exact xop_assert hx) | (exact xop_sliceS hx) | (exact xop_eqs hx) | skip
  all_goals simp only [AOp.cls] at h
  all_goals first
    | (cases h; done)
    | skip
  all_goals
    simp only [xop_eq, xopS] at hx
    (repeat' split at hx) <;> first
      | (cases hx; done)
      | (cases hx; exact ⟨_, rfl, fun W' => by simp_all [xop_eq, xopS]⟩)
      | skip
end
end Go.Eng

/- Engine 22: quiet operations, and those that make a block, wherever they come. -/
namespace Go.Eng
set_option linter.unusedVariables false
set_option linter.unusedSimpArgs false
section
variable {CR : CodeR} {P : Program} {ρ : Rho} {W : AW} {w : World} {a : Act} {o : Oper} {outs : List AOut} {ev : AO → AVal}

theorem sim_call_quiet (c : Call) (hop : o.op = .call c) {ao : AOp} (hc : compOp P o.op = some ao) (hcls : ao.cls = .pure ∨ ao.cls = .read) (hev : EvR ρ ev a.eval) (hevc : ∀ v, ev (.c v) = v) (hW : WR CR ρ W w) (hx : xop ev W ao = some outs) : SimQ P ρ W w a o outs := by
  rw [hop] at hc
  simp only [compOp] at hc
  split at hc
  · rename_i f args hcal hargs
    split at hc
    · rename_i g hf
      split at hc
      · rename_i hadd
        split at hc
        · cases hc; exact sim_add64 c f g hop hcal hf hadd hargs hevc hev hW hx
        · cases hc
      · cases hc; simp [AOp.cls] at hcls
    · cases hc; simp [AOp.cls] at hcls
    · cases hc
  · rename_i x hcal hargs
    split at hc
    · rename_i t ht
      split at hc
      · rename_i n e hu; cases hc; exact sim_lenC c hop hcal hargs ht hu hW hx
      · rename_i e hu; cases hc; exact sim_len c hop hcal hargs ht (k := .sl) ⟨e, hu⟩ hev hW hx
      · rename_i hu; cases hc; exact sim_len c hop hcal hargs ht (k := .str) hu hev hW hx
      · rename_i q e hu; cases hc; exact sim_len c hop hcal hargs ht (k := .mp) ⟨q, e, hu⟩ hev hW hx
      · cases hc
    · cases hc
  · rename_i s x hcal hargs
    (repeat' split at hc) <;> first | (cases hc; done) | (cases hc; simp [AOp.cls] at hcls)
  · rename_i d s hcal hargs
    (repeat' split at hc) <;> first | (cases hc; done) | (obtain ⟨_, _, rfl⟩ := map_some hc; simp [AOp.cls] at hcls)
  · rename_i x hcal hargs
    (repeat' split at hc) <;> first | (cases hc; done) | (obtain ⟨_, _, rfl⟩ := map_some hc; simp [AOp.cls] at hcls)
  · (repeat' split at hc) <;> first | (cases hc; done) | (cases hc; simp [AOp.cls] at hcls; done)
  · rename_i xs hcal hargs; cases hc; exact sim_maxmin true c hop hcal hargs hev hW hx
  · rename_i xs hcal hargs; cases hc; exact sim_maxmin false c hop hcal hargs hev hW hx
  · cases hc; simp [AOp.cls] at hcls
  · cases hc

theorem xop_quiet {ao : AOp} (hc : compOp P o.op = some ao) (hcls : ao.cls = .pure ∨ ao.cls = .read) (hev : EvR ρ ev a.eval) (hevc : ∀ v, ev (.c v) = v) (hW : WR CR ρ W w) (hx : xop ev W ao = some outs) : SimQ P ρ W w a o outs := by
  cases hop : o.op with
  | move x => exact sim_move x (.inl hop) hc hev hW hx
  | assign x => exact sim_move x (.inr hop) hc hev hW hx
  | pick c x y => exact sim_pick c x y hop hc hev hW hx
  | build t ps => exact sim_build t ps hop hc hev hW hx
  | load t x => exact sim_load t x hop hc hev hW hx
  | nilCheck x => exact sim_nilCheck x hop hc hev hW hx
  | binOp op xt x y yt => exact sim_binOp op xt yt x y hop hc hev hW hx
  | unOp op t x => exact sim_unOp op t x hop hc hev hW hx
  | convert s d x => exact sim_convert s d x hop hc hev hW hx
  | makeInterface t x => exact sim_makeInterface t x hop hc hev hW hx
  | makeFunc fn f cs =>
    cases fn with
    | func f' => exact sim_makeFunc f' f cs hop hc hev hW hx
    | _ => rw [hop] at hc; cases hc
  | slice t x lo hi mx => exact sim_slice t x lo hi mx hop hc hev hW hx
  | fieldAddr t x f => exact sim_fieldAddr t x f hop hc hev hW hx
  | field t x f => exact sim_field t x f hop hc hev hW hx
  | indexAddr t x i => exact sim_indexAddr t x i hop hc hev hW hx
  | index t x i => exact sim_index t x i hop hc hev hW hx
  | typeAssert x xt t ok => exact sim_typeAssert x xt t ok hop hc hev hW hx
  | extract x i => exact sim_extract x i hop hc hev hW hx
  | call c => exact sim_call_quiet c hop hc hcls hev hevc hW hx
  | lookup t m k ok => exact sim_lookup t m k ok hop hc hev hW hx
  | entry x => exact sim_entry x hop hc hev hW hx
  | next x is =>
    exfalso
    rw [hop] at hc
    cases is with
    | true => cases hc
    | false => obtain ⟨_, _, rfl⟩ := map_some hc; simp [AOp.cls] at hcls
  | makeMap t r =>
    exfalso
    rw [hop] at hc
    cases r <;> simp only [compOp] at hc <;> (repeat' split at hc) <;> first | (cases hc; done) | (cases hc; simp [AOp.cls] at hcls; done)
  | mapUpdate t m k v =>
    exfalso
    rw [hop] at hc
    simp only [compOp, compUpdate] at hc
    (repeat' split at hc) <;> first | (cases hc; done) | (cases hc; simp [AOp.cls] at hcls; done)
  | insert t m k v =>
    exfalso
    rw [hop] at hc
    simp only [compOp, compUpdate] at hc
    (repeat' split at hc) <;> first | (cases hc; done) | (cases hc; simp [AOp.cls] at hcls; done)
  | _ =>
    exfalso
    rw [hop] at hc
    simp only [compOp] at hc
    first
      | (cases hc; done)
      | (obtain ⟨_, _, rfl⟩ := map_some hc; simp [AOp.cls] at hcls; done)
      | ((repeat' split at hc) <;> first | (cases hc; done) | (cases hc; simp [AOp.cls] at hcls; done) | (obtain ⟨_, _, rfl⟩ := map_some hc; simp [AOp.cls] at hcls; done))

theorem xop_fresh {ao : AOp} (hc : compOp P o.op = some ao) (hcls : ao.cls = .alloc) (hev : EvR ρ ev a.eval) (hW : WR CR ρ W w) (hx : xop ev W ao = some outs) : SimA CR P ρ W w a o outs := by
  cases hop : o.op with
  | alloc e => exact sim_alloc e hop hc hev hW hx
  | box e x => exact sim_box e x hop hc hev hW hx
  | buildSlice t l ps => exact sim_buildSlice t l ps hop hc hev hW hx
  | makeSlice t l c => exact sim_makeSlice t l c hop hc hev hW hx
  | makeMap t r => exact sim_makeMap t r hop hc hev hW hx
  | next x is =>
    exfalso
    rw [hop] at hc
    cases is with
    | true => cases hc
    | false => obtain ⟨_, _, rfl⟩ := map_some hc; simp [AOp.cls] at hcls
  | mapUpdate t m k v =>
    exfalso
    rw [hop] at hc
    simp only [compOp, compUpdate] at hc
    (repeat' split at hc) <;> first | (cases hc; done) | (cases hc; simp [AOp.cls] at hcls; done)
  | insert t m k v =>
    exfalso
    rw [hop] at hc
    simp only [compOp, compUpdate] at hc
    (repeat' split at hc) <;> first | (cases hc; done) | (cases hc; simp [AOp.cls] at hcls; done)
  | makeFunc fn f cs =>
    exfalso
    rw [hop] at hc
    cases fn <;> simp only [compOp] at hc <;> (repeat' split at hc) <;> first | (cases hc; done) | (cases hc; simp [AOp.cls] at hcls; done)
  | binOp op xt x y yt =>
    exfalso
    rw [hop] at hc
    simp only [compOp] at hc
    (repeat' split at hc) <;> first | (cases hc; done) | (cases hc; simp [AOp.cls] at hcls; done)
  | call c =>
    exfalso
    rw [hop] at hc
    simp only [compOp] at hc
    (repeat' split at hc) <;> first | (cases hc; done) | (cases hc; simp [AOp.cls] at hcls; done) | (obtain ⟨_, _, rfl⟩ := map_some hc; simp [AOp.cls] at hcls; done)
  | _ =>
    exfalso
    rw [hop] at hc
    simp only [compOp] at hc
    first
      | (cases hc; done)
      | (obtain ⟨_, _, rfl⟩ := map_some hc; simp [AOp.cls] at hcls; done)
      | ((repeat' split at hc) <;> first | (cases hc; done) | (cases hc; simp [AOp.cls] at hcls; done) | (obtain ⟨_, _, rfl⟩ := map_some hc; simp [AOp.cls] at hcls; done))

/-- what an operation that makes a block tells hangs on the next block's number alone -/
theorem xop_alloc {op : AOp} (h : op.cls = .alloc) (hx : xop ev W op = some outs) : ∃ v blk, outs = [.val v (W.push blk)] ∧ True ∧ ∀ W' : AW, W'.n = W.n → xop ev W' op = some [.val v (W'.push blk)] := by
  cases op with
  | mkSlice e esz bytes z l c =>
    simp only [xop_eq, xopS] at hx
    split at hx
    · rename_i k l' k' c' h1 h2
      cases hb : decide (0 ≤ l' ∧ l' ≤ c' ∧ c' ≤ 1048576) <;> rw [hb] at hx <;> simp only [cond_true, cond_false] at hx
      · cases hx
      · cases hx; exact ⟨_, _, rfl, trivial, fun W' hn => by simp only [xop_eq, xopS, h1, h2, hb, hn, cond_true]⟩
    · cases hx
  | alloc e z => simp only [xop_eq, xopS] at hx; cases hx; exact ⟨_, _, rfl, trivial, fun W' hn => by simp only [xop_eq, xopS, hn]⟩
  | box e x => simp only [xop_eq, xopS] at hx; cases hx; exact ⟨_, _, rfl, trivial, fun W' hn => by simp only [xop_eq, xopS, hn]⟩
  | buildSlice e len esz z ps =>
    simp only [xop_eq, xopS] at hx
    split at hx
    · rename_i cs h1; cases hx; exact ⟨_, _, rfl, trivial, fun W' hn => by simp only [xop_eq, xopS, h1, hn]⟩
    · cases hx
  | mkMap r =>
    simp only [xop_eq, xopS] at hx
    split at hx
    · rename_i h1; cases hx; exact ⟨_, _, rfl, trivial, fun W' hn => by simp only [xop_eq, xopS, hn]⟩
    · rename_i x
      split at hx
      · rename_i h2; cases hx; exact ⟨_, _, rfl, trivial, fun W' hn => by simp only [xop_eq, xopS, h2, hn]⟩
      · cases hx
  | len k x => cases k <;> simp [AOp.cls] at h
  | _ => simp [AOp.cls] at h
end
end Go.Eng

/- Engine 23: worlds with blocks that are not there yet, or are not told yet; relations that are cut. -/
namespace Go.Eng
set_option linter.unusedVariables false
set_option linter.unusedSimpArgs false
variable {CR : CodeR} {ρ : Rho} {W : AW} {w : World}

theorem wpush_keep {w : World} {o x : Obj} {k : Nat} (h : w.heap[k]? = some x) : (wpush w o).heap[k]? = some x := by
  rw [wpush_get, if_neg (Nat.ne_of_lt (lt_of_get h))]; exact h

/-- a block of the world of which nothing is told -/
theorem WR.more (h : WR CR ρ W w) (o : Obj) : WR CR ρ W (wpush w o) where
  blk g b s e := by
    obtain ⟨h1, o', h2, h3⟩ := h.blk g b s e
    exact ⟨h1, o', wpush_keep h2, h3⟩
  share := h.share
  it := trivial

/-- a block that is told of, but is not there -/
theorem WR.skip (h : WR CR ρ W w) (blk : ABlk) : WR CR ρ (W.push blk) w where
  blk g b s e := by
    obtain ⟨h1, o', h2, h3⟩ := h.blk g b s e
    exact ⟨by simp; omega, o', h2, by rw [AW.get_push_ne _ _ (Nat.ne_of_lt h1)]; exact h3⟩
  share g1 g2 b s1 s2 hne e1 e2 := by
    have l1 := (h.blk _ _ _ e1).1
    have l2 := (h.blk _ _ _ e2).1
    exact (h.share g1 g2 b s1 s2 hne e1 e2).congr (.inl (AW.get_push_ne _ _ (Nat.ne_of_lt l1))) (.inl (AW.get_push_ne _ _ (Nat.ne_of_lt l2)))
  it := trivial

/-- a block that is told of comes to be there -/
theorem WR.found (h : WR CR ρ W w) {g b : Nat} {o : Obj} (hg : ρ g = none) (hn : g < W.n) (ho : w.heap[b]? = some o) (hB : BR CR ρ 0 (W.get g) o) (hi : True) (hb : ∀ k s, ρ k ≠ some (b, s)) :
    WR CR (ρ.upd g b 0) W w := by
  have hle := Rho.le_upd (b := b) (s := 0) hg
  refine ⟨?_, ?_, ?_⟩
  · intro k b' s e
    by_cases hk : k = g
    · subst hk; rw [Rho.upd_same] at e; cases e
      exact ⟨hn, o, ho, hB.le hle⟩
    · rw [Rho.upd_ne _ _ _ hk] at e
      obtain ⟨h1, o', h2, h3⟩ := h.blk k b' s e
      exact ⟨h1, o', h2, h3.le hle⟩
  · intro g1 g2 b' s1 s2 hne e1 e2
    by_cases h1 : g1 = g
    · subst h1
      rw [Rho.upd_same] at e1; cases e1
      rw [Rho.upd_ne _ _ _ (Ne.symm hne)] at e2
      exact absurd e2 (hb _ _)
    · by_cases h2 : g2 = g
      · subst h2
        rw [Rho.upd_same] at e2; cases e2
        rw [Rho.upd_ne _ _ _ h1] at e1
        exact absurd e1 (hb _ _)
      · rw [Rho.upd_ne _ _ _ h1] at e1
        rw [Rho.upd_ne _ _ _ h2] at e2
        exact h.share g1 g2 b' s1 s2 hne e1 e2
  · trivial

/-- a relation, but for what is not below n -/
def Rho.cut (ρ : Rho) (n : Nat) : Rho := fun g => if g < n then ρ g else none
theorem Rho.cut_lt {g n : Nat} (h : g < n) : ρ.cut n g = ρ g := by simp [Rho.cut, h]
theorem Rho.cut_ge {g n : Nat} (h : n ≤ g) : ρ.cut n g = none := by simp [Rho.cut, Nat.not_lt.2 h]
theorem Rho.cut_le (ρ : Rho) (n : Nat) : (ρ.cut n).le ρ := by
  intro g x h
  unfold Rho.cut at h
  split at h
  · exact h
  · cases h
theorem Rho.cut_mono {n m : Nat} (h : n ≤ m) : (ρ.cut n).le (ρ.cut m) := by
  intro g x hg
  unfold Rho.cut at *
  split at hg
  · rename_i hl; rw [if_pos (Nat.lt_of_lt_of_le hl h)]; exact hg
  · cases hg
theorem Rho.cut_some {g n : Nat} {x : Nat × Nat} (h : ρ.cut n g = some x) : g < n ∧ ρ g = some x := by
  unfold Rho.cut at h
  split at h
  · rename_i hl; exact ⟨hl, h⟩
  · cases h
theorem Rho.le.cut {ρ ρ' : Rho} (h : ρ.le ρ') (n : Nat) : (ρ.cut n).le (ρ'.cut n) := by
  intro g x hg
  obtain ⟨h1, h2⟩ := Rho.cut_some hg
  rw [Rho.cut_lt h1]; exact h g x h2
theorem Rho.cut_cut {n m : Nat} (h : n ≤ m) : (ρ.cut m).cut n = ρ.cut n := by
  funext g
  by_cases hl : g < n
  · rw [Rho.cut_lt hl, Rho.cut_lt hl, Rho.cut_lt (by omega)]
  · rw [Rho.cut_ge (by omega), Rho.cut_ge (by omega)]
theorem WR.cut_self (h : WR CR ρ W w) : ρ.cut W.n = ρ := by
  funext g
  cases e : ρ g with
  | none => unfold Rho.cut; split <;> simp [e]
  | some x => rw [Rho.cut_lt (h.blk g x.1 x.2 e).1]; exact e

theorem blt_lt {a b : Nat} (h : Nat.blt a b = true) : a < b := Nat.le_of_ble_eq_true h
mutual
theorem okv_cut {n m : Nat} : ∀ v, okv (ρ.cut m) v → vbelow n v = true → okv (ρ.cut n) v
  | .ptr b _, h, k => by
    show (ρ.cut n b).isSome = true
    have : b < n := blt_lt k
    rw [Rho.cut_lt this]
    obtain ⟨x, hx⟩ := Option.isSome_iff_exists.1 (show (ρ.cut m b).isSome = true from h)
    rw [(Rho.cut_some hx).2]; rfl
  | .sl b _ _ _ _, h, k => by
    show (ρ.cut n b).isSome = true
    have : b < n := blt_lt k
    rw [Rho.cut_lt this]
    obtain ⟨x, hx⟩ := Option.isSome_iff_exists.1 (show (ρ.cut m b).isSome = true from h)
    rw [(Rho.cut_some hx).2]; rfl
  | .slT b _ _, h, k => by
    show (ρ.cut n b).isSome = true
    have : b < n := blt_lt k
    rw [Rho.cut_lt this]
    obtain ⟨x, hx⟩ := Option.isSome_iff_exists.1 (show (ρ.cut m b).isSome = true from h)
    rw [(Rho.cut_some hx).2]; rfl
  | .map b, h, k => by
    show (ρ.cut n b).isSome = true
    have : b < n := blt_lt k
    rw [Rho.cut_lt this]
    obtain ⟨x, hx⟩ := Option.isSome_iff_exists.1 (show (ρ.cut m b).isSome = true from h)
    rw [(Rho.cut_some hx).2]; rfl
  | .yield b, h, k => by
    show (ρ.cut n b).isSome = true
    have : b < n := blt_lt k
    rw [Rho.cut_lt this]
    obtain ⟨x, hx⟩ := Option.isSome_iff_exists.1 (show (ρ.cut m b).isSome = true from h)
    rw [(Rho.cut_some hx).2]; rfl
  | .fn _ a b, h, k => by
    have k' : (vsbelow n a && vsbelow n b) = true := k
    simp only [Bool.and_eq_true] at k'
    exact ⟨okvs_cut a h.1 k'.1, okvs_cut b h.2 k'.2⟩
  | .iface _ v, h, k => okv_cut v h k
  | .agg cs, h, k => okvs_cut cs h k
  | .tup cs, h, k => okvs_cut cs h k
  | .bool _, _, _ | .int _ _, _, _ | .str _, _, _ | .ptr0, _, _ | .sl0, _, _ | .map0, _, _ | .fn0, _, _ | .if0, _, _ => trivial
theorem okvs_cut {n m : Nat} : ∀ l, okvs (ρ.cut m) l → vsbelow n l = true → okvs (ρ.cut n) l
  | [], _, _ => trivial
  | v :: vs, h, k => by
    have k' : (vbelow n v && vsbelow n vs) = true := k
    simp only [Bool.and_eq_true] at k'
    exact ⟨okv_cut v h.1 k'.1, okvs_cut vs h.2 k'.2⟩
end

end Go.Eng

/- Engine 24: operations that are carried out where but their own temporaries are known. -/
namespace Go.Eng
set_option linter.unusedVariables false
set_option linter.unusedSimpArgs false

def evr (ts : List Nat) (tm : Tr AVal) : AO → AVal
  | .t t => if t ∈ ts then tget tm t else aundef
  | .c v => v
def onlyT (ts : List Nat) (a : Act) : Act := { a with tmps := (Array.range a.tmps.size).map fun t => if t ∈ ts then a.tmps.getD t undef else undef }
theorem onlyT_getD (ts : List Nat) (a : Act) (t : Nat) : (onlyT ts a).tmps.getD t undef = if t ∈ ts then a.tmps.getD t undef else undef := by
  unfold onlyT
  simp only [Array.getD_eq_getD_getElem?, Array.getElem?_map]
  by_cases h : t < a.tmps.size
  · simp [h]
  · simp [h]

section
variable {CR : CodeR} {P : Program} {ρ : Rho} {W : AW} {w : World} {a : Act} {o : Oper} {outs : List AOut} {tm : Tr AVal}

theorem evr_EvR {ts : List Nat} (h : ∀ t ∈ ts, a.tmps.getD t undef = cv ρ (tget tm t) ∧ okv ρ (tget tm t)) : EvR ρ (evr ts tm) (onlyT ts a).eval := by
  intro x y hx
  cases x with
  | tmp t =>
    cases hx
    show (onlyT ts a).tmps.getD t undef = _ ∧ _
    rw [onlyT_getD]
    simp only [evr]
    by_cases ht : t ∈ ts
    · rw [if_pos ht, if_pos ht]; exact h t ht
    · rw [if_neg ht, if_neg ht]; exact ⟨rfl, trivial⟩
  | const v =>
    obtain ⟨z, hz, rfl⟩ := map_some hx
    have := av?_spec hz ρ
    exact ⟨this.1.symm, this.2⟩
  | func f => cases hx; exact ⟨by simp [Act.eval, evr, cv, cvs], trivial, trivial⟩
  | global g => cases hx
theorem xop_evr (op : AOp) : xop (evr op.tmps tm) W op = xop (aev tm) W op :=
  xop_congr (ev := evr op.tmps tm) (ev' := aev tm) (fun _ => rfl) (fun t ht => by show (if t ∈ op.tmps then tget tm t else aundef) = _; rw [if_pos ht]; rfl)
theorem compOp_noSelect {P : Program} {op : Op} {ao : AOp} (h : compOp P op = some ao) : ∀ cs b, op ≠ .select cs b := by
  rintro cs b rfl
  cases h
theorem exec_only {ao : AOper} (hok : opTmpsOk o ao = true) (hc : compOp P o.op = some ao.op) : execOp (onlyT ao.op.tmps a).eval o = execOp a.eval o := by
  refine execOp_congr o (compOp_noSelect hc) fun x hx => ?_
  cases x with
  | tmp t =>
    show (onlyT ao.op.tmps a).tmps.getD t undef = a.tmps.getD t undef
    rw [onlyT_getD, if_pos]
    have := List.all_eq_true.1 hok (.tmp t) (Array.mem_toList_iff.2 hx)
    simpa using this
  | _ => rfl

variable {ao : AOper} (hok : opTmpsOk o ao = true) (hc : compOp P o.op = some ao.op) (hW : WR CR ρ W w)
  (htm : ∀ t ∈ ao.op.tmps, a.tmps.getD t undef = cv ρ (tget tm t) ∧ okv ρ (tget tm t))
include hok hc hW htm
theorem opQ (hcls : ao.op.cls = .pure ∨ ao.op.cls = .read) (hx : xop (aev tm) W ao.op = some outs) : SimQ P ρ W w a o outs := by
  rw [← xop_evr] at hx
  have := xop_quiet hc hcls (evr_EvR htm) (fun _ => rfl) hW hx
  unfold SimQ at *
  rw [exec_only hok hc] at this
  exact this
theorem opA (hcls : ao.op.cls = .alloc) (hx : xop (aev tm) W ao.op = some outs) : SimA CR P ρ W w a o outs := by
  rw [← xop_evr] at hx
  have := xop_fresh hc hcls (evr_EvR htm) hW hx
  unfold SimA at *
  rw [exec_only hok hc] at this
  exact this
theorem op1 (hx : xop (aev tm) W ao.op = some outs) : Sim1 CR P ρ W w a o outs := by
  rw [← xop_evr] at hx
  obtain ⟨out, hm, hO⟩ := xop_sim hc (evr_EvR htm) (fun _ => rfl) hW hx
  refine ⟨out, hm, ?_⟩
  cases out <;> simp only [OutR, exec_only hok hc] at hO ⊢ <;> exact hO
omit hW hc hok htm

theorem wanted_at {ops : Array Oper} (hg : compGuard ops o.guard = some ao.guard) (ht : ∀ t w, ao.guard = some (t, w) → a.tmps.getD t undef = cv ρ (tget tm t)) {s : ASt} (hs : s.tm = tm) :
    Region.wanted o (yielded ops a.tmps) = awanted s ao := by
  unfold Region.wanted awanted
  cases hog : o.guard with
  | none =>
    rw [hog] at hg
    simp only [compGuard, Option.some.injEq] at hg
    rw [← hg]
  | some jb =>
    obtain ⟨j, want⟩ := jb
    rw [hog] at hg
    simp only [compGuard] at hg
    split at hg
    · rename_i t ht'
      simp only [Option.some.injEq] at hg
      have htr := ht t want hg.symm
      rw [← hg]
      simp only [yielded, ht', Option.bind_some, hs]
      cases hget : a.tmps[t]? with
      | none =>
        have e : a.tmps.getD t undef = undef := by simp [Array.getD_eq_getD_getElem?, hget]
        rw [e] at htr
        cases hv : tget tm t with
        | bool b => rw [hv] at htr; simp [cv, undef] at htr
        | _ => rfl
      | some x =>
        have e : a.tmps.getD t undef = x := by simp [Array.getD_eq_getD_getElem?, hget]
        rw [e] at htr
        subst htr
        cases hv : tget tm t <;> simp [cv]
    · cases hg

/-- an operation that turns the world, in the machine: no more of the state is looked at than is said -/
theorem xout_sim {r : Rec} (HR : RecSim CR P r) {ops : Array Oper} {i : Nat} (ho : ops[i]? = some o) {rnd : Option Nat} {b : Frame} (hwant : Region.wanted o (yielded ops a.tmps) = true) (hsem : o.semAt b.roundOf a.eval = execOp a.eval o)
    {s : ASt} (hW : WR CR ρ s.W w) {out : AOut} (hO : OutR CR P ρ s.W w a o out) {outs : List (AEx × ASt)} (hx : xout r rnd o.dst s out = some outs) (hnd : ∀ d, out ≠ .defer d) (hnr : out ≠ .recover) (rest : List Nat) (k : List Item) (cs : List Frame) :
    ∃ x ∈ outs, (x.1 = .nrm → ∃ ρ' v w' W', x.2 = { s.put o.dst v with W := W' } ∧ Ext ρ s.W w ρ' W' w' ∧ WR CR ρ' W' w' ∧ okv ρ' v ∧
      Steps P (lone (b.atR a (.inRegion ops (i :: rest) :: k)) cs w) (lone (b.atR (a.put o.dst (cv ρ' v)) (.inRegion ops rest :: k)) cs w')) := by
  cases out with
  | val v W' =>
    cases hx
    obtain ⟨ρ', w', nx, hrun, hnx, hok, hW', hE⟩ := hO
    refine ⟨_, List.mem_singleton.2 rfl, fun _ => ⟨ρ', v, w', W', rfl, hE, hW', hok, .one (stepX_val ho hwant hsem hrun hnx)⟩⟩
  | enter f args =>
    obtain ⟨outs2, hcall, hmem2⟩ := bindR_mem hx
    obtain ⟨hok, hrun⟩ := hO
    obtain ⟨fn, hfn, hbody, hname⟩ := HR.enters _ _ _ _ _ hcall
    have hrun' := hrun fn hfn hbody hname
    obtain ⟨c, hcm, ρ', fr, cs', w', hsteps, hend⟩ := HR.call _ _ _ _ _ hcall ρ w (b.atR a (.inRegion ops (i :: rest) :: k) :: cs) .normal hok hW rfl
    obtain ⟨outs3, hx3, hmem3⟩ := hmem2 c hcm
    have hcs' : cs' = b.atR a (.inRegion ops (i :: rest) :: k) :: cs := hend.hcs
    subst hcs'
    have hr := hend.hr
    split at hx3
    · rename_i v hv
      cases hx3
      rw [hv] at hr
      obtain ⟨hmode, hokv, fn', hfn', hres⟩ := hr
      refine ⟨_, hmem3 _ (List.mem_singleton.2 rfl), fun _ => ⟨ρ', v, w', c.W, rfl, hend.hext, hend.hW, hokv, ?_⟩⟩
      refine .head (stepX_enter ho hwant hsem hrun') (hsteps.trans (.one ?_))
      have := step_leave_returned (P := P) (v := cv ρ' v) (c := b.atR a (.inRegion ops (i :: rest) :: k)) (cs := cs) ⟨hmode, hend.hdf, hend.hkind, fn', hfn', hres⟩
      rw [fin_op ho] at this
      exact this
    · rename_i ch hch
      cases hx3
      exact ⟨_, hmem3 _ (List.mem_singleton.2 rfl), fun h => by cases h⟩
  | round l args =>
    obtain ⟨outs2, hround, hmem2⟩ := bindR_mem hx
    obtain ⟨hok, hl, hrun⟩ := hO
    obtain ⟨rl, hheap, hsz, c, hcm, m1, hs1, ρ', w', hE, hW', hres⟩ := xround_sim HR hround hW hok hl (b.atR a (.inRegion ops (i :: rest) :: k)) cs
    have hrun' := hrun rl hheap hsz
    obtain ⟨outs3, hx3, hmem3⟩ := hmem2 c hcm
    split at hx3
    · rename_i v hv
      cases hx3
      rw [hv] at hres
      obtain ⟨hokv, rfl⟩ := hres
      refine ⟨_, hmem3 _ (List.mem_singleton.2 rfl), fun _ => ⟨ρ', v, w', c.2, rfl, hE, hW', hokv, ?_⟩⟩
      rw [fin_op ho] at hs1
      exact .head (stepX_round ho hwant hsem hrun') hs1
    · rename_i ch hch
      cases hx3
      exact ⟨_, hmem3 _ (List.mem_singleton.2 rfl), fun h => by cases h⟩
  | defer d => exact absurd rfl (hnd d)
  | recover => exact absurd rfl hnr
  | panic v =>
    cases hx
    exact ⟨_, List.mem_singleton.2 rfl, fun h => by cases h⟩
end
end Go.Eng

/- Engine 25: what is known of a region that draws, and of its run in the order of the text. -/
namespace Go.Eng
set_option linter.unusedVariables false
set_option linter.unusedSimpArgs false

theorem mem_dedup {x : Nat} : ∀ {l : List Nat}, x ∈ dedup l ↔ x ∈ l
  | [] => Iff.rfl
  | y :: l => by
    have ih := mem_dedup (x := x) (l := l)
    unfold dedup
    cases h : l.contains y with
    | true =>
      simp only [cond_true, ih, List.mem_cons]
      constructor
      · exact .inr
      · rintro (rfl | h')
        · simpa using h
        · exact h'
    | false => simp only [cond_false, List.mem_cons, ih]
def direct (o : Oper) : List Nat := (o.after.toList.filter (Region.binds .any)).map (·.on)
theorem mem_direct {o : Oper} {x : Nat} : x ∈ direct o ↔ ∃ e ∈ o.after, Region.binds .any e = true ∧ e.on = x := by
  simp only [direct, List.mem_map, List.mem_filter, Array.mem_toList_iff]
  exact ⟨fun ⟨e, ⟨h1, h2⟩, h3⟩ => ⟨e, h1, h2, h3⟩, fun ⟨e, h1, h2, h3⟩ => ⟨e, ⟨h1, h2⟩, h3⟩⟩
theorem befores_prefix : ∀ (os : List Oper) (acc : List (List Nat)) (j : Nat), j < acc.length → (befores os acc).getD j [] = acc.getD j []
  | [], _, _, _ => rfl
  | o :: os, acc, j, h => by
    rw [befores, befores_prefix os _ j (by simp; omega)]
    simp only [List.getD_eq_getElem?_getD]
    rw [List.getElem?_append_left h]
theorem flatMap_congr' {α β : Type} {f g : α → List β} : ∀ {l : List α}, (∀ x ∈ l, f x = g x) → l.flatMap f = l.flatMap g
  | [], _ => rfl
  | x :: l, h => by rw [List.flatMap_cons, List.flatMap_cons, h x (by simp), flatMap_congr' (fun y hy => h y (by simp [hy]))]
theorem befores_at : ∀ (os : List Oper) (acc : List (List Nat)) (j : Nat) (o : Oper), os[j]? = some o → (∀ x ∈ direct o, x < acc.length + j) →
    (befores os acc).getD (acc.length + j) [] = dedup (direct o ++ (direct o).flatMap fun x => (befores os acc).getD x [])
  | [], _, _, _, h, _ => by cases h
  | o :: os, acc, 0, o', h, hd => by
    cases h
    have hpre := befores_prefix os (acc ++ [dedup (direct o ++ (direct o).flatMap fun j => acc.getD j [])]) 
    rw [befores]
    show (befores os (acc ++ [dedup (direct o ++ (direct o).flatMap fun j => acc.getD j [])])).getD _ _ = dedup (direct o ++ (direct o).flatMap fun x => (befores os (acc ++ [dedup (direct o ++ (direct o).flatMap fun j => acc.getD j [])])).getD x [])
    rw [hpre _ (by simp)]
    have e : ((direct o).flatMap fun x => (befores os (acc ++ [dedup (direct o ++ (direct o).flatMap fun j => acc.getD j [])])).getD x []) = (direct o).flatMap fun j => acc.getD j [] := by
      refine flatMap_congr' fun x hx => ?_
      have hl := hd x hx
      rw [hpre _ (by simp; omega)]
      simp only [List.getD_eq_getElem?_getD]
      rw [List.getElem?_append_left (by simpa using hl)]
    rw [e]
    simp
  | o :: os, acc, j + 1, o', h, hd => by
    rw [befores]
    have := befores_at os (acc ++ [dedup (direct o ++ (direct o).flatMap fun j => acc.getD j [])]) j o' (by simpa using h) (fun x hx => by have := hd x hx; simp; omega)
    simp only [List.length_append, List.length_singleton] at this
    rw [show acc.length + (j + 1) = acc.length + 1 + j by omega]
    exact this

theorem compOpers_at {P : Program} {ops : Array Oper} : ∀ {os : List Oper} {as : List AOper}, compOpers P ops os = some as → as.length = os.length ∧ ∀ (i : Nat) (a : AOper), as[i]? = some a → ∃ o, os[i]? = some o ∧ compOper P ops o [] = some a
  | [], as, h => by cases h; exact ⟨rfl, fun i a h => by simp at h⟩
  | o :: os, as, h => by
    unfold compOpers at h
    split at h
    · rename_i a as' h1 h2
      cases h
      have ih := compOpers_at h2
      refine ⟨by simp [ih.1], fun i b hb => ?_⟩
      cases i with
      | zero => cases hb; exact ⟨o, rfl, h1⟩
      | succ i => exact ih.2 i b (by simpa using hb)
    · cases h
theorem tmpsOk_at : ∀ {os : List Oper} {as : List AOper}, tmpsOk os as = true → ∀ (i : Nat) (o : Oper) (a : AOper), os[i]? = some o → as[i]? = some a → opTmpsOk o a = true
  | [], _, _, _, _, _, h, _ => by simp at h
  | o :: os, [], h, _, _, _, _, _ => by simp [tmpsOk] at h
  | o :: os, a :: as, h, i, o', a', h1, h2 => by
    simp only [tmpsOk, Bool.and_eq_true] at h
    cases i with
    | zero => cases h1; cases h2; exact h.1
    | succ i => exact tmpsOk_at h.2 i o' a' (by simpa using h1) (by simpa using h2)
theorem setAlts_at {as : List AOper} {bs : List (List Nat)} : ∀ {k : Nat} {l : List AOper} {i : Nat} {a : AOper}, (setAlts as bs k l)[i]? = some a → ∃ a0, l[i]? = some a0 ∧ a = { a0 with alts := altsOf as bs (k + i) }
  | _, [], i, a, h => by simp [setAlts] at h
  | k, x :: l, i, a, h => by
    cases i with
    | zero => simp only [setAlts, List.getElem?_cons_zero, Option.some.injEq] at h; exact ⟨x, rfl, h.symm⟩
    | succ i =>
      simp only [setAlts, List.getElem?_cons_succ] at h
      obtain ⟨a0, h1, h2⟩ := setAlts_at h
      exact ⟨a0, by simpa using h1, by rw [h2]; congr 2; omega⟩
theorem setAlts_length {as : List AOper} {bs : List (List Nat)} : ∀ {k : Nat} {l : List AOper}, (setAlts as bs k l).length = l.length
  | _, [] => rfl
  | k, x :: l => by simp [setAlts, setAlts_length (l := l)]

/-- what is known of a region that draws: of its code -/
structure RC (P : Program) (ops : Array Oper) (l : List AOper) (B : Nat → List Nat) : Prop where
  len : l.length = ops.size
  op : ∀ (i : Nat) (ao : AOper), l[i]? = some ao → ∃ o, ops[i]? = some o ∧ compOp P o.op = some ao.op ∧ compGuard ops o.guard = some ao.guard ∧ ao.dst = o.dst ∧ opTmpsOk o ao = true ∧ ao.op.cls ≠ .bad ∧ compOper P ops o ao.alts = some ao
  pair : ∀ (i j : Nat) (a b : AOper), i < j → l[i]? = some a → l[j]? = some b → i ∈ B j ∨ (conflict a b = false ∧ ¬(a.op.cls = .heavy ∧ b.op.cls = .heavy))
  lt : ∀ (i : Nat) (o : Oper), ops[i]? = some o → ∀ x ∈ direct o, x < i
  bef : ∀ (i : Nat) (o : Oper), ops[i]? = some o → ∀ x, x ∈ B i ↔ x ∈ direct o ∨ ∃ y ∈ direct o, x ∈ B y
  alts : ∀ (i : Nat) (a : AOper), l[i]? = some a → a.op.cls = .read → ∀ q, q ≤ l.length → (q < l.length → ∃ b, l[q]? = some b ∧ b.op.cls = .heavy) →
    (∀ (j : Nat) (b : AOper), l[j]? = some b → b.op.cls = .heavy → (j < q → i ∉ B j) ∧ (q ≤ j → j ∉ B i)) → q ∈ a.alts

theorem compDraw_spec {P : Program} {ops : Array Oper} {ac : ACode} (h : compDraw P ops = some ac) :
    ∃ l dm B, ac = .region l dm ∧ RC P ops l B ∧ (dm = .draw ∨ (dm = .sink ∧ 1 ≤ l.length ∧ ∀ i, i < l.length - 1 → i ∈ B (l.length - 1))) := by
  unfold compDraw at h
  split at h
  · cases h
  rename_i as has
  obtain ⟨hlen, hat⟩ := compOpers_at has
  simp only at h
  cases hb : (edgesOk ops.toList && tmpsOk ops.toList as && pairsOk as (befores ops.toList []) && as.all (fun a => decide (a.op.cls ≠ .bad))) <;> rw [hb] at h
  · cases h
  simp only [cond_true, Option.some.injEq] at h
  subst h
  simp only [Bool.and_eq_true] at hb
  obtain ⟨⟨⟨hedge, htmps⟩, hpairs⟩, hbad⟩ := hb
  generalize hbs : befores ops.toList [] = bs at *
  have hl : (setAlts as bs 0 as).length = ops.size := by rw [setAlts_length, hlen]; simp
  have hlt : ∀ i o, ops[i]? = some o → ∀ x ∈ direct o, x < i := by
    intro i o ho x hx
    obtain ⟨e, he, hbind, rfl⟩ := mem_direct.1 hx
    have hi : i < ops.toList.length := by
      have := (Array.getElem?_eq_some_iff.1 ho).1
      simpa using this
    have := List.all_eq_true.1 hedge i (List.mem_range.2 hi)
    simp only [Array.getElem?_toList, ho] at this
    have := List.all_eq_true.1 this e (Array.mem_toList_iff.2 he)
    rw [hbind] at this
    simp only [Bool.not_true, Bool.false_or] at this
    exact blt_lt this
  have hB : ∀ i o, ops[i]? = some o → ∀ x, x ∈ bs.getD i [] ↔ x ∈ direct o ∨ ∃ y ∈ direct o, x ∈ bs.getD y [] := by
    intro i o ho x
    have := befores_at ops.toList [] i o (by rw [Array.getElem?_toList]; exact ho) (by simpa using hlt i o ho)
    simp only [List.length_nil, Nat.zero_add] at this
    rw [hbs] at this
    rw [this, mem_dedup, List.mem_append, List.mem_flatMap]
  refine ⟨_, _, fun j => bs.getD j [], rfl, ⟨hl, ?_, ?_, hlt, hB, ?_⟩, ?_⟩
  · intro i ao hi
    obtain ⟨a0, h1, rfl⟩ := setAlts_at hi
    obtain ⟨o, ho, hc⟩ := hat i a0 h1
    have ho' : ops[i]? = some o := by rw [← Array.getElem?_toList]; exact ho
    have hok := tmpsOk_at htmps i o a0 ho h1
    have hnb : a0.op.cls ≠ .bad := by simpa using List.all_eq_true.1 hbad a0 (List.mem_of_getElem? h1)
    unfold compOper at hc
    split at hc
    · rename_i op g q1 q2
      cases hc
      exact ⟨o, ho', q1, q2, rfl, hok, hnb, by simp [compOper, q1, q2]⟩
    · cases hc
  · intro i j a b hij hi hj
    obtain ⟨a0, h1, rfl⟩ := setAlts_at hi
    obtain ⟨b0, h2, rfl⟩ := setAlts_at hj
    have hjl : j < as.length := (List.getElem?_eq_some_iff.1 h2).1
    have := List.all_eq_true.1 (List.all_eq_true.1 hpairs j (List.mem_range.2 hjl)) i (List.mem_range.2 hij)
    simp only [h1, h2, Bool.or_eq_true, Bool.and_eq_true, Bool.not_eq_true'] at this
    rcases this with h3 | ⟨h3, h4⟩
    · exact .inl (by simpa using h3)
    · refine .inr ⟨h3, ?_⟩
      simpa using h4
  · intro i a hi hcls q hq hqh hall2
    obtain ⟨a0, h1, rfl⟩ := setAlts_at hi
    have hal : as.length = (setAlts as bs 0 as).length := by rw [setAlts_length]
    have hsub : ∀ (j : Nat) (a1 : AOper), as[j]? = some a1 → (setAlts as bs 0 as)[j]? = some { a1 with alts := altsOf as bs j } := by
      intro j a1 hj
      have hjl : j < (setAlts as bs 0 as).length := by rw [← hal]; exact (List.getElem?_eq_some_iff.1 hj).1
      obtain ⟨a2, h2, h3⟩ := setAlts_at (k := 0) (List.getElem?_eq_getElem hjl)
      rw [hj] at h2; cases h2
      rw [List.getElem?_eq_getElem hjl, h3, Nat.zero_add]
    show q ∈ altsOf as bs (0 + i)
    rw [Nat.zero_add]
    unfold altsOf
    rw [h1]
    simp only [show a0.op.cls = .read from hcls, if_true]
    rw [List.mem_filter]
    refine ⟨List.mem_range.2 (by omega), ?_⟩
    rw [Bool.and_eq_true, Bool.or_eq_true, List.all_eq_true]
    refine ⟨?_, fun j hj => ?_⟩
    · rcases Nat.lt_or_ge q (setAlts as bs 0 as).length with hlt' | hge
      · obtain ⟨b, hb1, hb2⟩ := hqh hlt'
        obtain ⟨b0, hb3, rfl⟩ := setAlts_at hb1
        exact .inl (by simp only [hb3]; simpa using hb2)
      · exact .inr (by rw [show q = as.length by omega]; exact Nat.beq_refl _)
    · rw [Bool.or_eq_true]
      cases hj2 : as[j]? with
      | none => exact .inl (by simp)
      | some b0 =>
        by_cases hh : b0.op.cls = .heavy
        · refine .inr ?_
          have hx := hall2 j _ (hsub j b0 hj2) hh
          cases hbl : Nat.blt j q with
          | true => simpa using hx.1 (blt_lt hbl)
          | false =>
            have : q ≤ j := by
              rcases Nat.lt_or_ge j q with h5 | h5
              · have : Nat.blt j q = true := Nat.ble_eq_true_of_le h5
                rw [hbl] at this; cases this
              · exact h5
            simpa using hx.2 this
        · exact .inl (by simp [hh])
  · rw [setAlts_length]
    cases hs : ((List.range (as.length - 1)).all (fun i => (bs.getD (as.length - 1) []).contains i) && Nat.ble 1 as.length) with
    | false => exact .inl rfl
    | true =>
      simp only [Bool.and_eq_true] at hs
      refine .inr ⟨rfl, Nat.le_of_ble_eq_true hs.2, fun i hi => ?_⟩
      have := List.all_eq_true.1 hs.1 i (List.mem_range.2 hi)
      simpa using this
end Go.Eng

/- Engine 26: a region's run in the order of the text. -/
namespace Go.Eng
set_option linter.unusedVariables false
set_option linter.unusedSimpArgs false

theorem xop_calm {ev : AO → AVal} {W : AW} {op : AOp} {outs : List AOut} (h : op.cls ≠ .bad) (hx : xop ev W op = some outs) : ∀ out ∈ outs, (∀ d, out ≠ .defer d) ∧ out ≠ .recover := by
  by_cases hp : op.cls = .pure
  · obtain ⟨v, rfl, _⟩ := xop_pure hp hx
    intro out ho
    obtain rfl : out = _ := by simpa using ho
    exact ⟨fun d => by simp, by simp⟩
  by_cases ha : op.cls = .alloc
  · obtain ⟨v, blk, rfl, _⟩ := xop_alloc ha hx
    intro out ho
    obtain rfl : out = _ := by simpa using ho
    exact ⟨fun d => by simp, by simp⟩
  cases op with
  | len k x =>
    cases k <;> simp [AOp.cls] at hp
    simp only [xop_eq, xopS] at hx
    (repeat' split at hx) <;> first | (cases hx; done) | (cases hx; intro out ho; obtain rfl : out = _ := (by simpa using ho); exact ⟨fun d => by simp, by simp⟩) | simp_all
  | store n a x =>
    simp only [xop_eq, xopS] at hx
    split at hx
    · cases hb : Nat.beq (acells (ev x)).length n <;> rw [hb] at hx <;> simp only [cond_true, cond_false] at hx
      · cases hx
      · split at hx
        · cases hx; intro out ho; obtain rfl : out = _ := (by simpa using ho); exact ⟨fun d => by simp, by simp⟩
        · cases hx
    · cases hx
  | loadN n a =>
    simp only [xop_eq, xopS] at hx
    split at hx
    · split at hx
      · rename_i cs _ _ _ _ _ _
        cases hb : Nat.ble (_ + n) cs.length <;> rw [hb] at hx <;> simp only [cond_true, cond_false] at hx
        · cases hx
        · cases hx; intro out ho; obtain rfl : out = _ := (by simpa using ho); exact ⟨fun d => by simp, by simp⟩
      · cases hx
    · cases hx
  | append e sz bytes z s x =>
    have key : ∀ out ∈ outs, ∃ v W', out = .val v W' := by
      simp only [xop_eq, xopS, Bool.cond_eq_ite] at hx
      (repeat' split at hx) <;> first | (cases hx; done) | (cases hx; intro out ho; obtain rfl : out = _ := (by simpa using ho); exact ⟨_, _, rfl⟩)
    intro out ho
    obtain ⟨v, W', rfl⟩ := key out ho
    exact ⟨fun d => by simp, by simp⟩
  | copy sz d s =>
    simp only [xop_eq, xopS] at hx
    split at hx <;> first | (cases hx; intro out ho; obtain rfl : out = _ := (by simpa using ho); exact ⟨fun d => by simp, by simp⟩; done) | skip
    · split at hx
      · revert hx
        cases Nat.ble _ _ <;> simp only [cond_true, cond_false] <;> intro hx
        · cases hx
        · split at hx
          · cases hx; intro out ho; obtain rfl : out = _ := (by simpa using ho); exact ⟨fun d => by simp, by simp⟩
          · cases hx
      · cases hx
    · cases hx
  | clear z x =>
    simp only [xop_eq, xopS] at hx
    split at hx
    · cases hx; intro out ho; obtain rfl : out = _ := (by simpa using ho); exact ⟨fun d => by simp, by simp⟩
    · revert hx
      cases Nat.beq _ 0 <;> simp only [cond_true, cond_false] <;> intro hx
      · split at hx
        · cases hx; intro out ho; obtain rfl : out = _ := (by simpa using ho); exact ⟨fun d => by simp, by simp⟩
        · cases hx
      · cases hx; intro out ho; obtain rfl : out = _ := (by simpa using ho); exact ⟨fun d => by simp, by simp⟩
    · cases hx
  | load1 a =>
    simp only [xop_eq, xopS] at hx
    (repeat' split at hx) <;> first | (cases hx; done) | (cases hx; intro out ho; obtain rfl : out = _ := (by simpa using ho); exact ⟨fun d => by simp, by simp⟩)
  | callF f as => cases hx; intro out ho; obtain rfl : out = _ := (by simpa using ho); exact ⟨fun d => by simp, by simp⟩
  | callV f as =>
    simp only [xop_eq, xopS] at hx
    split at hx <;> first | (cases hx; done) | (cases hx; intro out ho; obtain rfl : out = _ := (by simpa using ho); exact ⟨fun d => by simp, by simp⟩)
  | lookup ks agg z m k ok =>
    simp only [xop_eq, xopS, Bool.cond_eq_ite] at hx
    (repeat' split at hx) <;> first | (cases hx; done) | (cases hx; intro out ho; obtain rfl : out = _ := (by simpa using ho); exact ⟨fun d => by simp, by simp⟩)
  | entry x =>
    simp only [xop_eq, xopS] at hx
    (repeat' split at hx) <;> first | (cases hx; done) | (cases hx; intro out ho; obtain rfl : out = _ := (by simpa using ho); exact ⟨fun d => by simp, by simp⟩)
  | mapUpdate ks agg m k v =>
    simp only [xop_eq, xopS] at hx
    (repeat' split at hx) <;> first | (cases hx; done) | (cases hx; intro out ho; obtain rfl : out = _ := (by simpa using ho); exact ⟨fun d => by simp, by simp⟩)
  | mapEntry ks agg z m k =>
    simp only [xop_eq, xopS] at hx
    (repeat' split at hx) <;> first | (cases hx; done) | (cases hx; intro out ho; obtain rfl : out = _ := (by simpa using ho); exact ⟨fun d => by simp, by simp⟩)
  | entryStore m k v =>
    simp only [xop_eq, xopS, Bool.cond_eq_ite] at hx
    (repeat' split at hx) <;> first | (cases hx; done) | (cases hx; intro out ho; obtain rfl : out = _ := (by simpa using ho); exact ⟨fun d => by simp, by simp⟩)
  | delete ks agg m k =>
    simp only [xop_eq, xopS, Bool.cond_eq_ite] at hx
    (repeat' split at hx) <;> first | (cases hx; done) | (cases hx; intro out ho; obtain rfl : out = _ := (by simpa using ho); exact ⟨fun d => by simp, by simp⟩)
  | range x =>
    simp only [xop_eq, xopS] at hx
    (repeat' split at hx) <;> first | (cases hx; done) | (cases hx; intro out ho; obtain rfl : out = _ := (by simpa using ho); exact ⟨fun d => by simp, by simp⟩)
  | next x =>
    simp only [xop_eq, xopS] at hx
    split at hx
    case h_2 => cases hx
    unfold anext at hx
    split at hx
    · cases hx; intro out ho; obtain rfl : out = _ := (by simpa using ho); exact ⟨fun d => by simp, by simp⟩
    · split at hx
      · simp only [Bool.cond_eq_ite] at hx
        split at hx
        · cases hx
        · cases hx
          intro out ho
          rcases List.mem_append.1 ho with ho | ho
          · split at ho
            · obtain rfl : out = _ := (by simpa using ho)
              exact ⟨fun d => by simp, by simp⟩
            · cases ho
          · obtain ⟨y, _, rfl⟩ := List.mem_map.1 ho
            exact ⟨fun d => by simp, by simp⟩
      · cases hx
    · cases hx
  | _ => first | exact absurd rfl hp | exact absurd rfl ha | exact absurd rfl h

theorem bindL_mem' {α β : Type} {f : α → Option (List β)} : ∀ {l : List α} {r : List β}, bindL l f = some r → ∀ y ∈ r, ∃ x ∈ l, ∃ r1, f x = some r1 ∧ y ∈ r1
  | [], r, h, y, hy => by cases h; cases hy
  | [x], r, h, y, hy => ⟨x, by simp, r, h, hy⟩
  | x :: x2 :: xs, r, h, y, hy => by
    simp only [bindL] at h
    split at h
    · rename_i a b h1 h2
      cases h
      rcases List.mem_append.1 hy with hy | hy
      · exact ⟨x, by simp, a, h1, hy⟩
      · obtain ⟨z, hz, r1, q1, q2⟩ := bindL_mem' (l := x2 :: xs) h2 y hy
        exact ⟨z, by simp [hz], r1, q1, q2⟩
    · cases h
theorem bindR_mem' {α β : Type} {x : Option (List α)} {f : α → Option (List β)} {r : List β} (h : bindR x f = some r) : ∀ y ∈ r, ∃ z, ∃ r1, f z = some r1 ∧ y ∈ r1 := by
  cases x with
  | none => cases h
  | some l =>
    intro y hy
    obtain ⟨z, _, r1, h1, h2⟩ := bindL_mem' (show bindL l f = some r from h) y hy
    exact ⟨z, r1, h1, h2⟩

/-- what an operation leaves of the state: but its temporary and the world all is as it was -/
theorem xone_shape {r : Rec} {rnd : Option Nat} {ao : AOper} {s s' : ASt} (h : ao.op.cls ≠ .bad) (hx : xone r rnd ao s = some [(.nrm, s')]) : ∃ v W', s' = { s.put ao.dst v with W := W' } := by
  unfold xone at hx
  cases hw : awanted s ao <;> rw [hw] at hx <;> simp only [cond_true, cond_false] at hx
  · cases hx
    exact ⟨aundef, s.W, by cases ao.dst <;> rfl⟩
  · split at hx
    · cases hx
    rename_i outs ho
    have hc := xop_calm h ho
    obtain ⟨out, hm, r1, h1, h2⟩ := bindL_mem' hx _ (List.mem_singleton.2 rfl)
    have hcalm := hc out hm
    cases out with
    | val v W' =>
      cases h1
      simp only [List.mem_singleton, Prod.mk.injEq, true_and] at h2
      exact ⟨v, W', h2⟩
    | enter f args =>
      obtain ⟨c, r2, h3, h4⟩ := bindR_mem' h1 _ h2
      split at h3
      · cases h3; simp only [List.mem_singleton, Prod.mk.injEq, true_and] at h4; exact ⟨_, _, h4⟩
      · cases h3; simp at h4
    | round l args =>
      obtain ⟨c, r2, h3, h4⟩ := bindR_mem' h1 _ h2
      split at h3
      · cases h3; simp only [List.mem_singleton, Prod.mk.injEq, true_and] at h4; exact ⟨_, _, h4⟩
      · cases h3; simp at h4
    | defer d => exact absurd rfl (hcalm.1 d)
    | recover => exact absurd rfl hcalm.2
    | panic v => cases h1; simp at h2

/-- the state ahead of an operation -/
def stAt (sts : List ASt) (fin : ASt) (j : Nat) : ASt := (sts[j]?).getD fin
theorem worldAt_eq (sts : List ASt) (fin : ASt) (q : Nat) : worldAt sts fin q = (stAt sts fin q).W := by
  unfold worldAt stAt
  cases sts[q]? <;> rfl
theorem xtrace_spec {r : Rec} {rnd : Option Nat} : ∀ {l : List AOper} {s : ASt} {sts : List ASt} {fin : ASt}, xtrace r rnd l s = some (sts, fin) →
    sts.length = l.length ∧ stAt sts fin 0 = s ∧ stAt sts fin l.length = fin ∧
    ∀ (i : Nat) (ao : AOper), l[i]? = some ao → xone r rnd ao (stAt sts fin i) = some [(.nrm, stAt sts fin (i + 1))] ∧ (stAt sts fin i).W.n ≤ (stAt sts fin (i + 1)).W.n
  | [], s, sts, fin, h => by cases h; exact ⟨rfl, rfl, rfl, fun i ao h => by simp at h⟩
  | o :: os, s, sts, fin, h => by
    unfold xtrace at h
    split at h
    · rename_i s' h1
      cases hb : Nat.ble s.W.n s'.W.n <;> rw [hb] at h <;> simp only [cond_true, cond_false] at h
      · cases h
      split at h
      · rename_i l' fin' h2
        simp only [Option.some.injEq, Prod.mk.injEq] at h
        obtain ⟨rfl, rfl⟩ := h
        obtain ⟨ih1, ih2, ih3, ih4⟩ := xtrace_spec h2
        refine ⟨by simp [ih1], rfl, by simpa [stAt] using ih3, fun i ao hi => ?_⟩
        cases i with
        | zero =>
          cases hi
          have e : stAt (s :: l') fin' (0 + 1) = s' := by simpa [stAt] using ih2
          rw [e]
          exact ⟨h1, Nat.le_of_ble_eq_true hb⟩
        | succ i =>
          have := ih4 i ao (by simpa using hi)
          simpa [stAt] using this
      · cases h
    · cases h
theorem drawOk_spec {sts0 : List ASt} {fin : ASt} : ∀ {l : List AOper} {sts : List ASt}, drawOk sts0 fin l sts = true → ∀ (i : Nat) (ao : AOper) (s : ASt), l[i]? = some ao → sts[i]? = some s → awanted s ao = true → sameAlts ao s sts0 fin ao.alts = true
  | [], _, _, i, _, _, h, _, _ => by simp at h
  | o :: os, [], _, i, _, _, _, h, _ => by simp at h
  | o :: os, s :: ss, h, i, ao, s', h1, h2, hw => by
    simp only [drawOk, Bool.and_eq_true] at h
    cases i with
    | zero => cases h1; cases h2; rw [hw] at h; exact h.1
    | succ i => exact drawOk_spec h.2 i ao s' (by simpa using h1) (by simpa using h2) hw
theorem sameAlts_spec {o : AOper} {s : ASt} {sts : List ASt} {fin : ASt} : ∀ {qs : List Nat}, sameAlts o s sts fin qs = true → ∀ q ∈ qs,
    ∃ v W1 W2, xop (aev s.tm) s.W o.op = some [.val v W1] ∧ xop (aev s.tm) (stAt sts fin q).W o.op = some [.val v W2] ∧ vbelow s.W.n v = true ∧ ∀ t ∈ o.op.tmps, vbelow (stAt sts fin q).W.n (tget s.tm t) = true
  | [], _, q, hq => by cases hq
  | q' :: qs, h, q, hq => by
    simp only [sameAlts, Bool.and_eq_true, worldAt_eq] at h
    obtain ⟨h1, h2, h3⟩ := h
    rcases List.mem_cons.1 hq with rfl | hq
    · split at h1
      · rename_i v W1 v' W2 e1 e2
        simp only [Bool.and_eq_true] at h1
        have := AVal.same_eq _ _ h1.1
        subst this
        exact ⟨v, W1, W2, e1, e2, h1.2, fun t ht => List.all_eq_true.1 h2 t ht⟩
      · cases h1
    · exact sameAlts_spec h3 q hq
end Go.Eng

/- Engine 27: what holds of a region that draws, whatever order is drawn. -/
namespace Go.Eng
set_option linter.unusedVariables false
set_option linter.unusedSimpArgs false

/-- a region that draws, and its run in the order of the text -/
structure TC (P : Program) (r : Rec) (rnd : Option Nat) (ops : Array Oper) (l : List AOper) (B : Nat → List Nat) (s : ASt) (S : Nat → ASt) (n0 : Nat) : Prop where
  nle : n0 ≤ l.length
  rc : RC P ops l B
  s0 : S 0 = s
  tr : ∀ (i : Nat) (ao : AOper), i < n0 → l[i]? = some ao → xone r rnd ao (S i) = some [(.nrm, S (i + 1))] ∧ (S i).W.n ≤ (S (i + 1)).W.n
  ok : ∀ (i : Nat) (ao : AOper), i < n0 → l[i]? = some ao → ao.op.cls = .read → awanted (S i) ao = true → ∀ q, q ≤ n0 → (q < n0 → ∃ b, l[q]? = some b ∧ b.op.cls = .heavy) →
    (∀ (j : Nat) (b : AOper), j < n0 → l[j]? = some b → b.op.cls = .heavy → (j < q → i ∉ B j) ∧ (q ≤ j → j ∉ B i)) →
    ∃ v W1 W2, xop (aev (S i).tm) (S i).W ao.op = some [.val v W1] ∧ xop (aev (S i).tm) (S q).W ao.op = some [.val v W2] ∧ vbelow (S i).W.n v = true ∧ ∀ t ∈ ao.op.tmps, vbelow (S q).W.n (tget (S i).tm t) = true

section
variable {P : Program} {r : Rec} {rnd : Option Nat} {ops : Array Oper} {l : List AOper} {B : Nat → List Nat} {s : ASt} {S : Nat → ASt} {n0 : Nat}

def isHeavy (l : List AOper) (n0 i : Nat) : Prop := i < n0 ∧ ∃ ao, l[i]? = some ao ∧ ao.op.cls = .heavy
def isAlloc (l : List AOper) (n0 : Nat) (S : Nat → ASt) (i : Nat) : Prop := i < n0 ∧ ∃ ao, l[i]? = some ao ∧ ao.op.cls = .alloc ∧ awanted (S i) ao = true

theorem TC.get (h : TC P r rnd ops l B s S n0) {i : Nat} (hi : i < n0) : ∃ ao, l[i]? = some ao := ⟨_, List.getElem?_eq_getElem (Nat.lt_of_lt_of_le hi h.nle)⟩
theorem TC.mono (h : TC P r rnd ops l B s S n0) {i j : Nat} (hij : i ≤ j) (hj : j ≤ n0) : (S i).W.n ≤ (S j).W.n := by
  induction j with
  | zero => rw [show i = 0 by omega]; exact Nat.le_refl _
  | succ j ih =>
    rcases Nat.lt_or_ge i (j + 1) with h1 | h1
    · obtain ⟨ao, hao⟩ := h.get (i := j) (by omega)
      exact Nat.le_trans (ih (by omega) (by omega)) (h.tr j ao (by omega) hao).2
    · rw [show i = j + 1 by omega]; exact Nat.le_refl _
theorem TC.shape (h : TC P r rnd ops l B s S n0) {i : Nat} {ao : AOper} (hi : i < n0) (hao : l[i]? = some ao) : ∃ v, S (i + 1) = { (S i).put ao.dst v with W := (S (i + 1)).W } := by
  obtain ⟨o, _, _, _, _, _, hb, _⟩ := h.rc.op i ao hao
  obtain ⟨v, W', e⟩ := xone_shape hb (h.tr i ao hi hao).1
  exact ⟨v, by rw [e]⟩
theorem TC.rest (h : TC P r rnd ops l B s S n0) : ∀ {i : Nat}, i ≤ n0 → (S i).sz = s.sz ∧ (S i).df = s.df ∧ (S i).up = s.up
  | 0, _ => by rw [h.s0]; exact ⟨rfl, rfl, rfl⟩
  | i + 1, hi => by
    obtain ⟨ao, hao⟩ := h.get (i := i) (by omega)
    obtain ⟨v, e⟩ := h.shape (by omega) hao
    have ih := h.rest (i := i) (by omega)
    rw [e]
    exact ⟨by rw [← ih.1]; exact ASt.put_sz _ _ _, by rw [← ih.2.1]; exact ASt.put_df _ _ _, by rw [← ih.2.2]; exact ASt.put_up _ _ _⟩
theorem tget_put {s : ASt} {d t : Nat} {v : AVal} : tget (s.put (some d) v).tm t = if t = d ∧ d < s.sz then v else tget s.tm t := by
  unfold ASt.put tput tget
  cases h : Nat.ble s.sz d with
  | true =>
    have := Nat.le_of_ble_eq_true h
    simp only [h, cond_true]
    rw [if_neg (by omega)]
  | false =>
    have : d < s.sz := by
      rcases Nat.lt_or_ge d s.sz with h1 | h1
      · exact h1
      · rw [Nat.ble_eq_true_of_le h1] at h; cases h
    simp only [h, cond_false, Tr.get_set]
    by_cases e : t = d
    · rw [if_pos e, if_pos ⟨e, this⟩]; rfl
    · rw [if_neg e, if_neg (fun h => e h.1)]
theorem TC.tm_ne (h : TC P r rnd ops l B s S n0) {i : Nat} {ao : AOper} (hi : i < n0) (hao : l[i]? = some ao) {t : Nat} (ht : ao.dst ≠ some t) : tget (S (i + 1)).tm t = tget (S i).tm t := by
  obtain ⟨v, e⟩ := h.shape hi hao
  rw [e]
  show tget ((S i).put ao.dst v).tm t = _
  cases hd : ao.dst with
  | none => rfl
  | some d =>
    rw [tget_put, if_neg]
    rintro ⟨rfl, _⟩
    exact ht hd
theorem TC.tm_span (h : TC P r rnd ops l B s S n0) {t i : Nat} : ∀ {j : Nat}, i ≤ j → j ≤ n0 → (∀ (k : Nat) (ao : AOper), i ≤ k → k < j → l[k]? = some ao → ao.dst ≠ some t) → tget (S j).tm t = tget (S i).tm t
  | 0, hij, _, _ => by rw [show i = 0 by omega]
  | j + 1, hij, hj, hn => by
    rcases Nat.lt_or_ge i (j + 1) with h1 | h1
    · obtain ⟨ao, hao⟩ := h.get (i := j) (by omega)
      rw [h.tm_ne (by omega) hao (hn j ao (by omega) (by omega) hao)]
      exact h.tm_span (by omega) (by omega) (fun k ao hk hk2 => hn k ao hk (by omega))
    · rw [show i = j + 1 by omega]

/-- of an operation that makes a block -/
theorem TC.alloc (h : TC P r rnd ops l B s S n0) {i : Nat} {ao : AOper} (hi : i < n0) (hao : l[i]? = some ao) (hc : ao.op.cls = .alloc) (hw : awanted (S i) ao = true) :
    ∃ v blk, S (i + 1) = { (S i).put ao.dst v with W := (S i).W.push blk } ∧ (True) ∧ ∀ W' : AW, W'.n = (S i).W.n → xop (aev (S i).tm) W' ao.op = some [.val v (W'.push blk)] := by
  have hx := (h.tr i ao hi hao).1
  unfold xone at hx
  rw [hw] at hx
  simp only [cond_true] at hx
  split at hx
  · cases hx
  rename_i outs ho
  obtain ⟨v, blk, rfl, hit, hall⟩ := xop_alloc hc ho
  refine ⟨v, blk, ?_, hit, hall⟩
  simp only [bindL, xout, Option.some.injEq, List.cons.injEq, Prod.mk.injEq, true_and, and_true] at hx
  exact hx.symm
/-- of an operation that turns nothing -/
theorem TC.quiet (h : TC P r rnd ops l B s S n0) {i : Nat} {ao : AOper} (hi : i < n0) (hao : l[i]? = some ao) {v : AVal} {W' : AW} (hx : xop (aev (S i).tm) (S i).W ao.op = some [.val v W']) (hw : awanted (S i) ao = true) :
    S (i + 1) = { (S i).put ao.dst v with W := W' } := by
  have hx' := (h.tr i ao hi hao).1
  unfold xone at hx'
  rw [hw, hx] at hx'
  simp only [cond_true, bindL, xout, Option.some.injEq, List.cons.injEq, Prod.mk.injEq, true_and, and_true] at hx'
  exact hx'.symm
theorem TC.idle (h : TC P r rnd ops l B s S n0) {i : Nat} {ao : AOper} (hi : i < n0) (hao : l[i]? = some ao) (hw : awanted (S i) ao = false) : S (i + 1) = (S i).put ao.dst aundef := by
  have hx := (h.tr i ao hi hao).1
  unfold xone at hx
  rw [hw] at hx
  simp only [cond_false, Option.some.injEq, List.cons.injEq, Prod.mk.injEq, true_and, and_true] at hx
  exact hx.symm
/-- the world ahead of, and behind, an operation that is no heavy one and makes no block -/
theorem TC.sameW (h : TC P r rnd ops l B s S n0) {i : Nat} (hi : i < n0) (hh : ¬ isHeavy l n0 i) (ha : ¬ isAlloc l n0 S i) : (S (i + 1)).W = (S i).W := by
  obtain ⟨ao, hao⟩ := h.get hi
  cases hw : awanted (S i) ao with
  | false => rw [h.idle hi hao hw]; exact ASt.put_W _ _ _
  | true =>
    obtain ⟨o, ho, hcomp, _, _, _, hb, _⟩ := h.rc.op i ao hao
    cases hx : xop (aev (S i).tm) (S i).W ao.op with
    | none =>
      have := (h.tr i ao hi hao).1
      unfold xone at this
      rw [hw, hx] at this
      cases this
    | some outs =>
      cases hc : ao.op.cls with
      | pure =>
        obtain ⟨v, rfl, _⟩ := xop_pure hc hx
        rw [h.quiet hi hao hx hw]
      | read =>
        obtain ⟨v, rfl⟩ : ∃ v, outs = [.val v (S i).W] := by
          generalize ao.op = op at *
          cases op with
          | len k x =>
            cases k <;> simp [AOp.cls] at hc
            simp only [xop_eq, xopS] at hx
            (repeat' split at hx) <;> first | (cases hx; done) | (cases hx; exact ⟨_, rfl⟩) | simp_all
          | load1 a =>
            simp only [xop_eq, xopS] at hx
            (repeat' split at hx) <;> first | (cases hx; done) | (cases hx; exact ⟨_, rfl⟩)
          | loadN n a =>
            simp only [xop_eq, xopS, Bool.cond_eq_ite] at hx
            (repeat' split at hx) <;> first | (cases hx; done) | (cases hx; exact ⟨_, rfl⟩)
          | lookup ks agg z m k ok =>
            simp only [xop_eq, xopS, Bool.cond_eq_ite] at hx
            (repeat' split at hx) <;> first | (cases hx; done) | (cases hx; exact ⟨_, rfl⟩)
          | entry x =>
            simp only [xop_eq, xopS] at hx
            (repeat' split at hx) <;> first | (cases hx; done) | (cases hx; exact ⟨_, rfl⟩)
          | _ => simp [AOp.cls] at hc
        rw [h.quiet hi hao hx hw]
      | alloc => exact absurd ⟨hi, ao, hao, hc, hw⟩ ha
      | heavy => exact absurd ⟨hi, ao, hao, hc⟩ hh
      | bad => exact absurd hc hb

variable {ρ0 : Rho} {w0 : World} {a0 : Act}
/-- whatever part has been carried out (E), up to whichever of the operations that turn the world (p) -/
structure Inv (CR : CodeR) (l : List AOper) (B : Nat → List Nat) (s : ASt) (S : Nat → ASt) (n0 : Nat) (ρ0 : Rho) (w0 : World) (a0 : Act) (E : Nat → Prop) (p : Nat) (ρ : Rho) (a : Act) (w : World) : Prop where
  pn : p ≤ n0
  closed : ∀ i, E i → i < n0 ∧ ∀ x ∈ B i, E x
  heavy : ∀ i, isHeavy l n0 i → (E i ↔ i < p)
  wr : WR CR (ρ.cut (S p).W.n) (S p).W w
  dom : ∀ g x, ρ g = some x → g < (S p).W.n ∨ ∃ i, p ≤ i ∧ E i ∧ isAlloc l n0 S i ∧ g = (S i).W.n
  pend : ∀ i, p ≤ i → E i → isAlloc l n0 S i → ∃ b obj, ρ (S i).W.n = some (b, 0) ∧ w.heap[b]? = some obj ∧ BR CR (ρ.cut (S i).W.n) 0 ((S (i + 1)).W.get (S i).W.n) obj ∧ ∀ g s, g ≠ (S i).W.n → ρ g ≠ some (b, s)
  late : ∀ i, i < p → ¬ E i → isAlloc l n0 S i → (S p).W.get (S i).W.n = (S (i + 1)).W.get (S i).W.n ∧ ρ (S i).W.n = none
  tm : ∀ t j, j ≤ n0 → (∀ (i : Nat) (ao : AOper), i < n0 → l[i]? = some ao → ao.dst = some t → (E i ↔ i < j)) → a.tmps.getD t undef = cv ρ (tget (S j).tm t) ∧ okv (ρ.cut (S j).W.n) (tget (S j).tm t)
  sz : a.tmps.size = s.sz
  df : a.defers = a0.defers
  ext : Ext ρ0 s.W w0 ρ (S p).W w

theorem TC.allocN (h : TC P r rnd ops l B s S n0) {i : Nat} (ha : isAlloc l n0 S i) : (S (i + 1)).W.n = (S i).W.n + 1 := by
  obtain ⟨hi, ao, hao, hc, hw⟩ := ha
  obtain ⟨v, blk, e, _⟩ := h.alloc hi hao hc hw
  rw [e]; exact AW.push_n _ _
theorem TC.alloc_lt (h : TC P r rnd ops l B s S n0) {i j : Nat} (ha : isAlloc l n0 S i) (hij : i < j) (hj : j ≤ n0) : (S i).W.n < (S j).W.n := by
  have h1 := h.allocN ha
  have h2 := h.mono (show i + 1 ≤ j by omega) hj
  omega
theorem TC.alloc_inj (h : TC P r rnd ops l B s S n0) {i j : Nat} (hi : isAlloc l n0 S i) (hj : isAlloc l n0 S j) (e : (S i).W.n = (S j).W.n) : i = j := by
  rcases Nat.lt_trichotomy i j with h1 | h1 | h1
  · have := h.alloc_lt hi h1 (Nat.le_of_lt hj.1); omega
  · exact h1
  · have := h.alloc_lt hj h1 (Nat.le_of_lt hi.1); omega

variable {CR : CodeR} {E : Nat → Prop} {p : Nat} {ρ : Rho} {a : Act} {w : World}
theorem Inv.lt (h : Inv CR l B s S n0 ρ0 w0 a0 E p ρ a w) {g b k : Nat} (hg : ρ g = some (b, k)) : b < w.heap.size := by
  rcases h.dom g _ hg with h1 | ⟨i, h1, h2, h3, rfl⟩
  · exact h.wr.lt (show ρ.cut (S p).W.n g = some (b, k) by rw [Rho.cut_lt h1]; exact hg)
  · obtain ⟨b', obj, q1, q2, _⟩ := h.pend i h1 h2 h3
    rw [hg] at q1; cases q1
    exact lt_of_get q2
/-- what is not there yet -/
theorem Inv.fresh (h : Inv CR l B s S n0 ρ0 w0 a0 E p ρ a w) (T : TC P r rnd ops l B s S n0) {i : Nat} (ha : isAlloc l n0 S i) (hE : ¬ E i) : ρ (S i).W.n = none := by
  rcases Nat.lt_or_ge i p with h1 | h1
  · exact (h.late i h1 hE ha).2
  · cases hg : ρ (S i).W.n with
    | none => rfl
    | some x =>
      exfalso
      rcases h.dom _ _ hg with h2 | ⟨j, h2, h3, h4, h5⟩
      · have := T.mono h1 (Nat.le_of_lt ha.1); omega
      · have := T.alloc_inj ha h4 h5
        subst this
        exact hE h3
/-- nothing need be told of the blocks where nothing is read -/
theorem Inv.dead (h : Inv CR l B s S n0 ρ0 w0 a0 E p ρ a w) (n : Nat) : WR CR (ρ.cut n) { h := .nil, n := n } w where
  blk g b k hg := by
    obtain ⟨h1, h2⟩ := Rho.cut_some hg
    have := h.lt h2
    exact ⟨h1, _, Array.getElem?_eq_getElem this, trivial⟩
  share g1 g2 b s1 s2 _ _ _ := .inl rfl
  it := trivial

/-- past an operation that is no heavy one -/
theorem Inv.pass (h : Inv CR l B s S n0 ρ0 w0 a0 E p ρ a w) (T : TC P r rnd ops l B s S n0) (hp : p < n0) (hh : ¬ isHeavy l n0 p) : Inv CR l B s S n0 ρ0 w0 a0 E (p + 1) ρ a w := by
  have hheavy : ∀ i, isHeavy l n0 i → (E i ↔ i < p + 1) := fun i hi => by
    have hne : i ≠ p := by rintro rfl; exact hh hi
    rw [h.heavy i hi]; omega
  by_cases ha : isAlloc l n0 S p
  · obtain ⟨hp', ao, hao, hc, hw⟩ := ha
    have ha : isAlloc l n0 S p := ⟨hp', ao, hao, hc, hw⟩
    obtain ⟨v, blk, e, hit, _⟩ := T.alloc hp hao hc hw
    have eW : (S (p + 1)).W = (S p).W.push blk := by rw [e]
    have eN : (S (p + 1)).W.n = (S p).W.n + 1 := by rw [eW]; exact AW.push_n _ _
    have hget : (S (p + 1)).W.get (S p).W.n = blk := by rw [eW]; exact AW.get_push_same _ _
    have hlate : ∀ i, i < p → ¬ E i → isAlloc l n0 S i → (S (p + 1)).W.get (S i).W.n = (S (i + 1)).W.get (S i).W.n ∧ ρ (S i).W.n = none := fun i hi hE hal => by
      obtain ⟨q1, q2⟩ := h.late i hi hE hal
      refine ⟨?_, q2⟩
      rw [eW, AW.get_push_ne _ _ (by have := T.alloc_lt hal hi (by omega); omega)]
      exact q1
    have hext : Ext ρ0 s.W w0 ρ (S (p + 1)).W w :=
      ⟨h.ext.le, Nat.le_trans h.ext.n (by omega), h.ext.dom, h.ext.sz, h.ext.out, h.ext.img, fun g hg hn => by
        rw [eW, AW.get_push_ne _ _ (by have := h.ext.n; omega)]; exact h.ext.keep g hg hn, h.ext.os, h.ext.output⟩
    by_cases hE : E p
    · obtain ⟨b, obj, q1, q2, q3, q4⟩ := h.pend p (Nat.le_refl _) hE ha
      have ecut : ρ.cut (S (p + 1)).W.n = (ρ.cut (S p).W.n).upd (S p).W.n b 0 := by
        funext g
        rcases Nat.lt_trichotomy g (S p).W.n with h1 | h1 | h1
        · rw [Rho.upd_ne _ _ _ (by omega), Rho.cut_lt h1, Rho.cut_lt (by omega)]
        · subst h1; rw [Rho.upd_same, Rho.cut_lt (by omega)]; exact q1
        · rw [Rho.upd_ne _ _ _ (by omega), Rho.cut_ge (by omega), Rho.cut_ge (by omega)]
      have hwr : WR CR (ρ.cut (S (p + 1)).W.n) (S (p + 1)).W w := by
        rw [ecut, eW]
        refine (h.wr.skip blk).found (Rho.cut_ge (Nat.le_refl _)) (by simp) q2 (by rw [AW.get_push_same]; rw [hget] at q3; exact q3) trivial ?_
        intro k s' hk
        obtain ⟨k1, k2⟩ := Rho.cut_some hk
        exact q4 k s' (by omega) k2
      refine ⟨hp, h.closed, hheavy, hwr, ?_, ?_, ?_, h.tm, h.sz, h.df, hext⟩
      · intro g x hg
        rcases h.dom g x hg with h1 | ⟨i, h1, h2, h3, h4⟩
        · exact .inl (by omega)
        · rcases Nat.eq_or_lt_of_le h1 with h5 | h5
          · exact .inl (by rw [h4, ← h5]; omega)
          · exact .inr ⟨i, h5, h2, h3, h4⟩
      · intro i hi hEi hal; exact h.pend i (by omega) hEi hal
      · intro i hi hEi hal
        have hne : i ≠ p := by rintro rfl; exact hEi hE
        exact hlate i (by omega) hEi hal
    · have hnone := h.fresh T ha hE
      have ecut : ρ.cut (S (p + 1)).W.n = ρ.cut (S p).W.n := by
        funext g
        rcases Nat.lt_trichotomy g (S p).W.n with h1 | h1 | h1
        · rw [Rho.cut_lt h1, Rho.cut_lt (by omega)]
        · subst h1; rw [Rho.cut_lt (by omega), Rho.cut_ge (by omega)]; exact hnone
        · rw [Rho.cut_ge (by omega), Rho.cut_ge (by omega)]
      refine ⟨hp, h.closed, hheavy, by rw [ecut, eW]; exact h.wr.skip blk, ?_, ?_, ?_, h.tm, h.sz, h.df, hext⟩
      · intro g x hg
        rcases h.dom g x hg with h1 | ⟨i, h1, h2, h3, h4⟩
        · exact .inl (by omega)
        · have hne : i ≠ p := by rintro rfl; exact hE h2
          exact .inr ⟨i, by omega, h2, h3, h4⟩
      · intro i hi hEi hal; exact h.pend i (by omega) hEi hal
      · intro i hi hEi hal
        by_cases hip : i = p
        · subst hip; exact ⟨rfl, hnone⟩
        · exact hlate i (by omega) hEi hal
  · have eW := T.sameW hp hh ha
    refine ⟨hp, h.closed, hheavy, by rw [eW]; exact h.wr, ?_, ?_, ?_, h.tm, h.sz, h.df, by rw [eW]; exact h.ext⟩
    · intro g x hg
      rw [eW]
      rcases h.dom g x hg with h1 | ⟨i, h1, h2, h3, h4⟩
      · exact .inl h1
      · have hne : i ≠ p := by rintro rfl; exact ha h3
        exact .inr ⟨i, by omega, h2, h3, h4⟩
    · intro i hi hEi hal; exact h.pend i (by omega) hEi hal
    · intro i hi hEi hal
      have hne : i ≠ p := by rintro rfl; exact ha hal
      rw [eW]
      exact h.late i (by omega) hEi hal
theorem Inv.passTo (h : Inv CR l B s S n0 ρ0 w0 a0 E p ρ a w) (T : TC P r rnd ops l B s S n0) : ∀ {q : Nat}, p ≤ q → q ≤ n0 → (∀ j, p ≤ j → j < q → ¬ isHeavy l n0 j) → Inv CR l B s S n0 ρ0 w0 a0 E q ρ a w
  | 0, hpq, _, _ => by rw [show p = 0 by omega] at h; exact h
  | q + 1, hpq, hq, hn => by
    rcases Nat.lt_or_ge p (q + 1) with h1 | h1
    · exact (h.passTo T (q := q) (by omega) (by omega) (fun j h1 h2 => hn j h1 (by omega))).pass T (by omega) (hn q (by omega) (by omega))
    · rw [show q + 1 = p by omega]; exact h
/-- up to the next operation that turns the world -/
theorem Inv.next (T : TC P r rnd ops l B s S n0) : ∀ (k p : Nat), n0 - p = k → Inv CR l B s S n0 ρ0 w0 a0 E p ρ a w → ∃ q, q ≤ n0 ∧ (q < n0 → isHeavy l n0 q) ∧ Inv CR l B s S n0 ρ0 w0 a0 E q ρ a w := by
  intro k
  induction k with
  | zero => intro p hk h; exact ⟨p, h.pn, fun hp => by omega, h⟩
  | succ k ih =>
    intro p hk h
    by_cases hh : isHeavy l n0 p
    · exact ⟨p, h.pn, fun _ => hh, h⟩
    · exact ih (p + 1) (by omega) (h.pass T (by omega) hh)
end
end Go.Eng

/- Engine 28: one more operation of a region that draws. -/
namespace Go.Eng
set_option linter.unusedVariables false
set_option linter.unusedSimpArgs false
section
variable {P : Program} {r : Rec} {rnd : Option Nat} {ops : Array Oper} {l : List AOper} {B : Nat → List Nat} {s : ASt} {S : Nat → ASt} {n0 : Nat}
variable {ρ0 : Rho} {w0 : World} {a0 : Act} {CR : CodeR} {E : Nat → Prop} {p : Nat} {ρ : Rho} {a : Act} {w : World}

theorem conflict_left {a b : AOper} {t : Nat} (h : a.dst = some t) (hb : t ∈ b.names) : conflict a b = true := by
  unfold conflict; rw [h]; simp [hb]
theorem conflict_right {a b : AOper} {t : Nat} (h : b.dst = some t) (ha : t ∈ a.names) : conflict a b = true := by
  unfold conflict; rw [h]; simp [ha]

/-- of an operation's own temporaries: who has written them -/
theorem Inv.own (h : Inv CR l B s S n0 ρ0 w0 a0 E p ρ a w) (T : TC P r rnd ops l B s S n0) {i : Nat} {ao : AOper} (hi : i < n0) (hao : l[i]? = some ao) (hE : ¬ E i) (hB : ∀ x ∈ B i, E x) {t : Nat} (ht : t ∈ ao.names) :
    ∀ (k : Nat) (ak : AOper), k < n0 → l[k]? = some ak → ak.dst = some t → (E k ↔ k < i) := by
  intro k ak hk hak hd
  rcases Nat.lt_trichotomy k i with h1 | h1 | h1
  · refine ⟨fun _ => h1, fun _ => ?_⟩
    rcases T.rc.pair k i ak ao h1 hak hao with h2 | ⟨h2, _⟩
    · exact hB k h2
    · rw [conflict_left hd ht] at h2; cases h2
  · subst h1; exact ⟨fun h2 => absurd h2 hE, fun h2 => absurd h2 (Nat.lt_irrefl _)⟩
  · refine ⟨fun h3 => ?_, fun h3 => by omega⟩
    exfalso
    rcases T.rc.pair i k ao ak h1 hao hak with h2 | ⟨h2, _⟩
    · exact hE ((h.closed k h3).2 i h2)
    · rw [conflict_right hd ht] at h2; cases h2
theorem put_getD {a : Act} {d : Option Nat} {v : Value} {t : Nat} (h : d ≠ some t) : (a.put d v).tmps.getD t undef = a.tmps.getD t undef := by
  cases d with
  | none => rfl
  | some d =>
    have hne : d ≠ t := fun e => h (by rw [e])
    simp [Act.put, Array.getD_eq_getD_getElem?, Array.getElem?_setIfInBounds_ne hne]

theorem Inv.tmPut (h : Inv CR l B s S n0 ρ0 w0 a0 E p ρ a w) (T : TC P r rnd ops l B s S n0) {i : Nat} {ao : AOper} (hi : i < n0) (hao : l[i]? = some ao) (hE : ¬ E i) (hB : ∀ x ∈ B i, E x)
    {ρ' : Rho} (hle : ρ.le ρ') {v : AVal} {W1 : AW} (hS : S (i + 1) = { (S i).put ao.dst v with W := W1 }) (hv : okv (ρ'.cut (S (i + 1)).W.n) v) :
    ∀ t j, j ≤ n0 → (∀ (k : Nat) (ak : AOper), k < n0 → l[k]? = some ak → ak.dst = some t → ((E k ∨ k = i) ↔ k < j)) →
      (a.put ao.dst (cv ρ' v)).tmps.getD t undef = cv ρ' (tget (S j).tm t) ∧ okv (ρ'.cut (S j).W.n) (tget (S j).tm t) := by
  intro t j hj hcut
  by_cases hd : ao.dst = some t
  · have hij : i < j := (hcut i ao hi hao hd).1 (.inr rfl)
    have hspan : tget (S j).tm t = tget (S (i + 1)).tm t := T.tm_span hij hj (fun k ak hk hkj hak hdk => by
      have hEk : E k := ((hcut k ak (by omega) hak hdk).2 hkj).resolve_right (by omega)
      rcases T.rc.pair i k ao ak hk hao hak with h2 | ⟨h2, _⟩
      · exact hE ((h.closed k hEk).2 i h2)
      · rw [conflict_left (t := t) hd (by simp [AOper.names, hdk])] at h2; cases h2)
    have hval : tget (S (i + 1)).tm t = if t = t ∧ t < (S i).sz then v else tget (S i).tm t := by
      rw [hS]
      show tget ((S i).put ao.dst v).tm t = _
      rw [hd, tget_put]
    have hszi := (T.rest (i := i) (by omega)).1
    rw [hspan, hval]
    by_cases hsz : t < (S i).sz
    · rw [if_pos ⟨rfl, hsz⟩]
      refine ⟨?_, okv_le (Rho.cut_mono (T.mono hij hj)) _ hv⟩
      have : t < a.tmps.size := by rw [h.sz, ← hszi]; exact hsz
      rw [hd]
      simp [Act.put, Array.getD_eq_getD_getElem?, this]
    · rw [if_neg (fun h => hsz h.2)]
      obtain ⟨q1, q2⟩ := h.tm t i (by omega) (h.own T hi hao hE hB (by simp [AOper.names, hd]))
      have : ¬ t < a.tmps.size := by rw [h.sz, ← hszi]; exact hsz
      have e : (a.put ao.dst (cv ρ' v)).tmps.getD t undef = a.tmps.getD t undef := by
        rw [hd]
        simp [Act.put, Array.getD_eq_getD_getElem?, this]
      rw [e, q1, cv_le hle _ (okv_le (Rho.cut_le _ _) _ q2)]
      exact ⟨rfl, okv_le (Rho.le_trans (hle.cut _) (Rho.cut_mono (T.mono (by omega) hj))) _ q2⟩
  · obtain ⟨q1, q2⟩ := h.tm t j hj (fun k ak hk hak hdk => by
      have hne : k ≠ i := by rintro rfl; rw [hao] at hak; cases hak; exact hd hdk
      rw [← hcut k ak hk hak hdk]
      exact ⟨.inl, fun h => h.resolve_right hne⟩)
    rw [put_getD hd, q1, cv_le hle _ (okv_le (Rho.cut_le _ _) _ q2)]
    exact ⟨rfl, okv_le (hle.cut _) _ q2⟩
theorem put_size (a : Act) (d : Option Nat) (v : Value) : (a.put d v).tmps.size = a.tmps.size := by cases d <;> simp [Act.put]
theorem put_defers (a : Act) (d : Option Nat) (v : Value) : (a.put d v).defers = a.defers := by cases d <;> rfl

theorem Inv.closed' (h : Inv CR l B s S n0 ρ0 w0 a0 E p ρ a w) {i : Nat} (hi : i < n0) (hB : ∀ x ∈ B i, E x) : ∀ j, (E j ∨ j = i) → j < n0 ∧ ∀ x ∈ B j, (E x ∨ x = i) := by
  rintro j (hj | rfl)
  · exact ⟨(h.closed j hj).1, fun x hx => .inl ((h.closed j hj).2 x hx)⟩
  · exact ⟨hi, fun x hx => .inl (hB x hx)⟩

/-- behind an operation that left the world alone -/
theorem Inv.still (h : Inv CR l B s S n0 ρ0 w0 a0 E p ρ a w) (T : TC P r rnd ops l B s S n0) {i : Nat} {ao : AOper} (hi : i < n0) (hao : l[i]? = some ao) (hE : ¬ E i) (hB : ∀ x ∈ B i, E x)
    (hna : ¬ isAlloc l n0 S i) {v : AVal} (hS : S (i + 1) = { (S i).put ao.dst v with W := (S i).W }) (hv : okv (ρ.cut (S (i + 1)).W.n) v) {p' : Nat}
    (hp : (¬ isHeavy l n0 i ∧ p' = p) ∨ (isHeavy l n0 i ∧ p = i ∧ p' = i + 1)) : Inv CR l B s S n0 ρ0 w0 a0 (fun j => E j ∨ j = i) p' ρ (a.put ao.dst (cv ρ v)) w := by
  have eW : (S p').W = (S p).W := by
    rcases hp with ⟨_, rfl⟩ | ⟨_, rfl, rfl⟩
    · rfl
    · rw [hS]
  have hpp : ∀ j, isAlloc l n0 S j → (p' ≤ j ↔ p ≤ j) := by
    intro j hj
    rcases hp with ⟨_, rfl⟩ | ⟨_, rfl, rfl⟩
    · exact Iff.rfl
    · have : j ≠ p := by rintro rfl; exact hna hj
      omega
  refine ⟨?_, h.closed' hi hB, ?_, by rw [eW]; exact h.wr, ?_, ?_, ?_, h.tmPut T hi hao hE hB ρ.le_refl hS hv, by rw [put_size]; exact h.sz, by rw [put_defers]; exact h.df, by rw [eW]; exact h.ext⟩
  · rcases hp with ⟨_, rfl⟩ | ⟨_, rfl, rfl⟩
    · exact h.pn
    · exact hi
  · intro j hj
    rcases hp with ⟨hn, rfl⟩ | ⟨_, rfl, rfl⟩
    · have : j ≠ i := by rintro rfl; exact hn hj
      rw [← h.heavy j hj]
      exact ⟨fun h => h.resolve_right this, .inl⟩
    · rw [h.heavy j hj]; omega
  · intro g x hg
    rw [eW]
    rcases h.dom g x hg with h1 | ⟨j, h1, h2, h3, h4⟩
    · exact .inl h1
    · exact .inr ⟨j, (hpp j h3).2 h1, .inl h2, h3, h4⟩
  · intro j hj hEj hal
    have : j ≠ i := by rintro rfl; exact hna hal
    exact h.pend j ((hpp j hal).1 hj) (hEj.resolve_right this) hal
  · intro j hj hEj hal
    rw [eW]
    exact h.late j (by have := hpp j hal; omega) (fun e => hEj (.inl e)) hal

/-- behind an operation that made a block -/
theorem Inv.made (h : Inv CR l B s S n0 ρ0 w0 a0 E p ρ a w) (T : TC P r rnd ops l B s S n0) {i : Nat} {ao : AOper} (hi : i < n0) (hao : l[i]? = some ao) (hE : ¬ E i) (hB : ∀ x ∈ B i, E x)
    (ha : isAlloc l n0 S i) (hh : ¬ isHeavy l n0 i) {v : AVal} {blk : ABlk} {obj : Obj} (hS : S (i + 1) = { (S i).put ao.dst v with W := (S i).W.push blk }) (hit : blk ≠ .dead)
    (hv : okv ((ρ.cut (S i).W.n).upd (S i).W.n w.heap.size 0) v) (hbr : BR CR (ρ.cut (S i).W.n) 0 blk obj) :
    Inv CR l B s S n0 ρ0 w0 a0 (fun j => E j ∨ j = i) p (ρ.upd (S i).W.n w.heap.size 0) (a.put ao.dst (cv (ρ.upd (S i).W.n w.heap.size 0) v)) (wpush w obj) := by
  have hnone := h.fresh T ha hE
  have hle : ρ.le (ρ.upd (S i).W.n w.heap.size 0) := Rho.le_upd hnone
  have eN : (S (i + 1)).W.n = (S i).W.n + 1 := T.allocN ha
  have hblk : (S (i + 1)).W.get (S i).W.n = blk := by rw [hS]; exact AW.get_push_same _ _
  have ecut : (ρ.upd (S i).W.n w.heap.size 0).cut (S (i + 1)).W.n = (ρ.cut (S i).W.n).upd (S i).W.n w.heap.size 0 := by
    funext g
    rcases Nat.lt_trichotomy g (S i).W.n with h1 | h1 | h1
    · rw [Rho.cut_lt (by omega), Rho.upd_ne _ _ _ (by omega), Rho.upd_ne _ _ _ (by omega), Rho.cut_lt h1]
    · subst h1; rw [Rho.cut_lt (by omega), Rho.upd_same, Rho.upd_same]
    · rw [Rho.cut_ge (by omega), Rho.upd_ne _ _ _ (by omega), Rho.cut_ge (by omega)]
  have hNj : ∀ j, isAlloc l n0 S j → j ≠ i → (S j).W.n ≠ (S i).W.n := fun j hj hne e => hne (T.alloc_inj hj ha e)
  have hext : Ext ρ0 s.W w0 (ρ.upd (S i).W.n w.heap.size 0) (S p).W (wpush w obj) := by
    refine ⟨Rho.le_trans h.ext.le hle, h.ext.n, ?_, by have := h.ext.sz; simp; omega, ?_, ?_, h.ext.keep, h.ext.os, h.ext.output.1, fun a => (frz_wpush (hbr.calm hit) a).trans (h.ext.output.2 a)⟩
    · intro g hg
      by_cases e : g = (S i).W.n
      · subst e
        have := T.mono (Nat.zero_le i) (Nat.le_of_lt hi)
        rw [T.s0] at this
        exact .inr this
      · rw [Rho.upd_ne _ _ _ e] at hg; exact h.ext.dom g hg
    · intro b hb ho
      rw [wpush_get, if_neg (by have := h.ext.sz; omega)]
      exact h.ext.out b hb ho
    · intro g b k hg hb
      by_cases e : g = (S i).W.n
      · subst e; rw [Rho.upd_same] at hg; cases hg
        have := h.ext.sz; omega
      · rw [Rho.upd_ne _ _ _ e] at hg; exact h.ext.img g b k hg hb
  have hclosed := h.closed' hi hB
  have hheavy : ∀ j, isHeavy l n0 j → ((E j ∨ j = i) ↔ j < p) := by
    intro j hj
    have : j ≠ i := by rintro rfl; exact hh hj
    rw [← h.heavy j hj]
    exact ⟨fun h => h.resolve_right this, .inl⟩
  have htm := h.tmPut T hi hao hE hB hle hS (by rw [ecut]; exact hv)
  have hpend : ∀ j, p ≤ j → (E j ∨ j = i) → isAlloc l n0 S j → ∃ b o', (ρ.upd (S i).W.n w.heap.size 0) (S j).W.n = some (b, 0) ∧ (wpush w obj).heap[b]? = some o' ∧ BR CR ((ρ.upd (S i).W.n w.heap.size 0).cut (S j).W.n) 0 ((S (j + 1)).W.get (S j).W.n) o' ∧ ∀ g s, g ≠ (S j).W.n → (ρ.upd (S i).W.n w.heap.size 0) g ≠ some (b, s) := by
    intro j hj hEj hal
    by_cases e : j = i
    · subst e
      refine ⟨w.heap.size, obj, Rho.upd_same _ _ _ _, by rw [wpush_get]; simp, by rw [hblk]; exact hbr.le (hle.cut _), fun g k hg hk => ?_⟩
      rw [Rho.upd_ne _ _ _ hg] at hk
      exact absurd (h.lt hk) (Nat.lt_irrefl _)
    · obtain ⟨b, o', q1, q2, q3, q4⟩ := h.pend j hj (hEj.resolve_right e) hal
      refine ⟨b, o', hle _ _ q1, wpush_keep q2, q3.le (hle.cut _), fun g k hg hk => ?_⟩
      by_cases e2 : g = (S i).W.n
      · subst e2; rw [Rho.upd_same] at hk; cases hk
        exact absurd (lt_of_get q2) (Nat.lt_irrefl _)
      · rw [Rho.upd_ne _ _ _ e2] at hk; exact q4 g k hg hk
  have hlate : ∀ j, j < p → ¬ (E j ∨ j = i) → isAlloc l n0 S j → (S p).W.get (S j).W.n = (S (j + 1)).W.get (S j).W.n ∧ (ρ.upd (S i).W.n w.heap.size 0) (S j).W.n = none := by
    intro j hj hEj hal
    obtain ⟨q1, q2⟩ := h.late j hj (fun e => hEj (.inl e)) hal
    exact ⟨q1, by rw [Rho.upd_ne _ _ _ (hNj j hal (fun e => hEj (.inr e)))]; exact q2⟩
  rcases Nat.lt_or_ge i p with hip | hip
  · have hlt := T.alloc_lt ha hip h.pn
    have ecp : (ρ.upd (S i).W.n w.heap.size 0).cut (S p).W.n = (ρ.cut (S p).W.n).upd (S i).W.n w.heap.size 0 := by
      funext g
      by_cases e : g = (S i).W.n
      · subst e; rw [Rho.cut_lt hlt, Rho.upd_same, Rho.upd_same]
      · rw [Rho.upd_ne _ _ _ e]
        unfold Rho.cut
        rw [Rho.upd_ne _ _ _ e]
    obtain ⟨q1, q2⟩ := h.late i hip hE ha
    refine ⟨h.pn, hclosed, hheavy, ?_, ?_, hpend, hlate, htm, by rw [put_size]; exact h.sz, by rw [put_defers]; exact h.df, hext⟩
    · rw [ecp]
      refine (h.wr.more obj).found (o := obj) (by rw [Rho.cut_lt hlt]; exact q2) hlt (by rw [wpush_get]; simp) (by rw [q1, hblk]; exact hbr.le (Rho.cut_mono (Nat.le_of_lt hlt))) trivial ?_
      intro k s' hk
      exact absurd (h.wr.lt hk) (Nat.lt_irrefl _)
    · intro g x hg
      by_cases e : g = (S i).W.n
      · exact .inl (by omega)
      · rw [Rho.upd_ne _ _ _ e] at hg
        rcases h.dom g x hg with h1 | ⟨j, h1, h2, h3, h4⟩
        · exact .inl h1
        · exact .inr ⟨j, h1, .inl h2, h3, h4⟩
  · have hge := T.mono hip (Nat.le_of_lt hi)
    have ecp : (ρ.upd (S i).W.n w.heap.size 0).cut (S p).W.n = ρ.cut (S p).W.n := by
      funext g
      unfold Rho.cut
      split
      · rw [Rho.upd_ne _ _ _ (by omega)]
      · rfl
    refine ⟨h.pn, hclosed, hheavy, by rw [ecp]; exact h.wr.more obj, ?_, hpend, hlate, htm, by rw [put_size]; exact h.sz, by rw [put_defers]; exact h.df, hext⟩
    intro g x hg
    by_cases e : g = (S i).W.n
    · exact .inr ⟨i, hip, .inr rfl, ha, e⟩
    · rw [Rho.upd_ne _ _ _ e] at hg
      rcases h.dom g x hg with h1 | ⟨j, h1, h2, h3, h4⟩
      · exact .inl h1
      · exact .inr ⟨j, h1, .inl h2, h3, h4⟩

/-- behind an operation that turned the world -/
theorem Inv.turned {i : Nat} (h : Inv CR l B s S n0 ρ0 w0 a0 E i ρ a w) (T : TC P r rnd ops l B s S n0) {ao : AOper} (hi : i < n0) (hao : l[i]? = some ao) (hE : ¬ E i) (hB : ∀ x ∈ B i, E x)
    (hh : isHeavy l n0 i) {v : AVal} {W1 : AW} (hS : S (i + 1) = { (S i).put ao.dst v with W := W1 }) {ρ1 : Rho} {w' : World} (hX : Ext (ρ.cut (S i).W.n) (S i).W w ρ1 W1 w') (hW : WR CR ρ1 W1 w') (hv : okv ρ1 v) :
    ∃ ρ', ρ1.le ρ' ∧ Inv CR l B s S n0 ρ0 w0 a0 (fun j => E j ∨ j = i) (i + 1) ρ' (a.put ao.dst (cv ρ' v)) w' := by
  have eW : (S (i + 1)).W = W1 := by rw [hS]
  subst eW
  have hna : ¬ isAlloc l n0 S i := by
    rintro ⟨_, ao', h1, h2, _⟩
    obtain ⟨_, ao2, h3, h4⟩ := hh
    rw [h1] at h3; cases h3; rw [h2] at h4; cases h4
  let ρ' : Rho := fun g => if g < (S (i + 1)).W.n then ρ1 g else ρ g
  have lt1 : ∀ {g x}, ρ1 g = some x → g < (S (i + 1)).W.n := fun {g x} e => (hW.blk g x.1 x.2 e).1
  have hlo : ∀ {g}, g < (S (i + 1)).W.n → ρ' g = ρ1 g := fun {g} e => if_pos e
  have hhi : ∀ {g}, (S (i + 1)).W.n ≤ g → ρ' g = ρ g := fun {g} e => if_neg (Nat.not_lt.2 e)
  have hn := hX.n
  have hle1 : ρ1.le ρ' := fun g x e => by rw [hlo (lt1 e)]; exact e
  have hpg : ∀ g x, ρ g = some x → g < (S i).W.n ∨ ∃ j, i + 1 ≤ j ∧ E j ∧ isAlloc l n0 S j ∧ g = (S j).W.n := by
    intro g x hg
    rcases h.dom g x hg with h1 | ⟨j, h1, h2, h3, h4⟩
    · exact .inl h1
    · have : j ≠ i := by rintro rfl; exact hna h3
      exact .inr ⟨j, by omega, h2, h3, h4⟩
  have hle : ρ.le ρ' := by
    intro g x hg
    rcases hpg g x hg with h1 | ⟨j, h1, h2, h3, h4⟩
    · rw [hlo (by omega)]
      exact hX.le g x (by rw [Rho.cut_lt h1]; exact hg)
    · rw [hhi (by rw [h4]; exact T.mono h1 (Nat.le_of_lt h3.1))]; exact hg
  have ecut : ρ'.cut (S (i + 1)).W.n = ρ1 := by
    funext g
    rcases Nat.lt_or_ge g (S (i + 1)).W.n with h1 | h1
    · rw [Rho.cut_lt h1, hlo h1]
    · rw [Rho.cut_ge h1]
      cases e : ρ1 g with
      | none => rfl
      | some x => exact absurd (lt1 e) (by omega)
  refine ⟨ρ', hle1, hi, h.closed' hi hB, ?_, by rw [ecut]; exact hW, ?_, ?_, ?_, h.tmPut T hi hao hE hB hle hS (by rw [ecut]; exact hv), by rw [put_size]; exact h.sz, by rw [put_defers]; exact h.df, ?_⟩
  · intro j hj
    rw [h.heavy j hj]; omega
  · intro g x hg
    rcases Nat.lt_or_ge g (S (i + 1)).W.n with h1 | h1
    · exact .inl h1
    · rw [hhi h1] at hg
      rcases hpg g x hg with h2 | ⟨j, q1, q2, q3, q4⟩
      · omega
      · exact .inr ⟨j, q1, .inl q2, q3, q4⟩
  · intro j hj hEj hal
    have hne : j ≠ i := by omega
    obtain ⟨b, obj, q1, q2, q3, q4⟩ := h.pend j (by omega) (hEj.resolve_right hne) hal
    have hNj := T.mono hj (Nat.le_of_lt hal.1)
    refine ⟨b, obj, hle _ _ q1, ?_, q3.le (hle.cut _), ?_⟩
    · rw [hX.out b (lt_of_get q2) (fun g k e => by
        obtain ⟨e1, e2⟩ := Rho.cut_some e
        exact q4 g k (by omega) e2)]
      exact q2
    · intro g k hg hk
      rcases Nat.lt_or_ge g (S (i + 1)).W.n with h1 | h1
      · rw [hlo h1] at hk
        obtain ⟨g0, s0, e⟩ := hX.img g b k hk (lt_of_get q2)
        obtain ⟨e1, e2⟩ := Rho.cut_some e
        exact q4 g0 s0 (by omega) e2
      · rw [hhi h1] at hk; exact q4 g k hg hk
  · intro j hj hEj hal
    have hne : j ≠ i := fun e => hEj (.inr e)
    obtain ⟨q1, q2⟩ := h.late j (by omega) (fun e => hEj (.inl e)) hal
    have hlt := T.alloc_lt hal (show j < i by omega) (by omega)
    have hcn : ρ.cut (S i).W.n (S j).W.n = none := by rw [Rho.cut_lt hlt]; exact q2
    refine ⟨(hX.keep _ hlt hcn).trans q1, ?_⟩
    rw [hlo (by omega)]
    cases e : ρ1 (S j).W.n with
    | none => rfl
    | some x =>
      rcases hX.dom (S j).W.n (by rw [e]; rfl) with h1 | h1
      · rw [hcn] at h1; cases h1
      · omega
  · refine ⟨Rho.le_trans h.ext.le hle, Nat.le_trans h.ext.n hn, ?_, Nat.le_trans h.ext.sz hX.sz, ?_, ?_, ?_, hX.os.trans h.ext.os, hX.output.1.trans h.ext.output.1, fun a => (hX.output.2 a).trans (h.ext.output.2 a)⟩
    · intro g hg
      rcases Nat.lt_or_ge g (S (i + 1)).W.n with h1 | h1
      · rw [hlo h1] at hg
        rcases hX.dom g hg with h2 | h2
        · obtain ⟨x, hx⟩ := Option.isSome_iff_exists.1 h2
          exact h.ext.dom g (by rw [(Rho.cut_some hx).2]; rfl)
        · exact .inr (Nat.le_trans h.ext.n h2)
      · rw [hhi h1] at hg; exact h.ext.dom g hg
    · intro b hb ho
      rw [hX.out b (Nat.lt_of_lt_of_le hb h.ext.sz) (fun g k e => by
        obtain ⟨g0, s0, e0⟩ := h.ext.img g b k (Rho.cut_some e).2 hb
        exact ho g0 s0 e0)]
      exact h.ext.out b hb ho
    · intro g b k hg hb
      rcases Nat.lt_or_ge g (S (i + 1)).W.n with h1 | h1
      · rw [hlo h1] at hg
        obtain ⟨g0, s0, e⟩ := hX.img g b k hg (Nat.lt_of_lt_of_le hb h.ext.sz)
        exact h.ext.img g0 b s0 (Rho.cut_some e).2 hb
      · rw [hhi h1] at hg; exact h.ext.img g b k hg hb
    · intro g hg hn0
      have hgi : g < (S i).W.n := Nat.lt_of_lt_of_le hg h.ext.n
      refine (hX.keep g hgi ?_).trans (h.ext.keep g hg hn0)
      rw [Rho.cut_lt hgi]
      cases e : ρ g with
      | none => rfl
      | some x =>
        rcases h.ext.dom g (by rw [e]; rfl) with h1 | h1
        · rw [hn0] at h1; cases h1
        · omega
end
end Go.Eng

/- Engine 29: regions that draw their order. -/
namespace Go.Eng
set_option linter.unusedVariables false
set_option linter.unusedSimpArgs false
section
variable {P : Program} {r : Rec} {rnd : Option Nat} {ops : Array Oper} {l : List AOper} {B : Nat → List Nat} {s : ASt} {S : Nat → ASt} {n0 : Nat}
variable {ρ0 : Rho} {w0 : World} {a0 : Act} {CR : CodeR} {E : Nat → Prop} {p : Nat} {ρ : Rho} {a : Act} {w : World}

theorem compOp_noDefer {op : Op} {ao : AOp} (h : compOp P op = some ao) (hb : ao.cls ≠ .bad) : ∀ c, op ≠ .defer c := by
  rintro c rfl
  simp only [compOp] at h
  split at h
  · obtain ⟨f, _, rfl⟩ := map_some h
    exact hb rfl
  · cases h

theorem Inv.step (HR : RecSim CR P r) (T : TC P r rnd ops l B s S n0) (h : Inv CR l B s S n0 ρ0 w0 a0 E p ρ a w) {i : Nat} (hi : i < n0) (hE : ¬ E i) (hB : ∀ x ∈ B i, E x) (b : Frame) (rest : List Nat) (k : List Item) (cs : List Frame) :
    ∃ p' ρ' a' w', Inv CR l B s S n0 ρ0 w0 a0 (fun j => E j ∨ j = i) p' ρ' a' w' ∧
      step P (lone (b.atR a (.inRegion ops (i :: rest) :: k)) cs w) = step P (lone (b.atR a (.inRegion ops (i :: rest) :: k)) cs w) ∧
      Steps P (lone (b.atR a (.inRegion ops (i :: rest) :: k)) cs w) (lone (b.atR a' (.inRegion ops rest :: k)) cs w') := by
  obtain ⟨ao, hao⟩ := T.get hi
  obtain ⟨o, ho, hcomp, hguard, hdst, hok, hbad, _⟩ := T.rc.op i ao hao
  have hown := fun {t} ht => h.tm t i (Nat.le_of_lt hi) (h.own T hi hao hE hB (t := t) ht)
  have htm : ∀ t ∈ ao.op.tmps, a.tmps.getD t undef = cv ρ (tget (S i).tm t) ∧ okv (ρ.cut (S i).W.n) (tget (S i).tm t) := fun t ht => hown (by simp [AOper.names, ht])
  have hwant : Region.wanted o (yielded ops a.tmps) = awanted (S i) ao := by
    refine wanted_at (ρ := ρ) hguard (fun t w' ht => (hown ?_).1) rfl
    simp [AOper.names, ht]
  have hsem : o.semAt b.roundOf a.eval = execOp a.eval o := Oper.semAt_eq _ _ _ (compOp_noDefer hcomp hbad)
  -- heavy ones: those before are done, this is the next
  have hlevel : isHeavy l n0 i → Inv CR l B s S n0 ρ0 w0 a0 E i ρ a w := by
    intro hh
    have hpi : p ≤ i := by
      rcases Nat.lt_or_ge i p with h1 | h1
      · exact absurd ((h.heavy i hh).2 h1) hE
      · exact h1
    refine h.passTo T hpi (Nat.le_of_lt hi) (fun j hj hji hhj => ?_)
    have hEj : ¬ E j := fun e => by have := (h.heavy j hhj).1 e; omega
    obtain ⟨_, aj, haj, hcj⟩ := hhj
    obtain ⟨_, ai, hai, hci⟩ := hh
    rcases T.rc.pair j i aj ai hji haj hai with h2 | ⟨_, h2⟩
    · exact hEj (hB j h2)
    · exact h2 ⟨hcj, hci⟩
  cases hw : awanted (S i) ao with
  | false =>
    rw [hw] at hwant
    have hS := T.idle hi hao hw
    have hS' : S (i + 1) = { (S i).put ao.dst aundef with W := (S i).W } := by
      rw [hS]; cases ao.dst <;> rfl
    have hna : ¬ isAlloc l n0 S i := by
      rintro ⟨_, ao', h1, _, h2⟩
      rw [hao] at h1; cases h1; rw [hw] at h2; cases h2
    have hstep := stepR_op_skip (P := P) (b := b) (a := a) (k := k) (cs := cs) (w := w) (ops := ops) (i := i) (rest := rest) (by simp [ho, hwant])
    have hbind : (ops[i]?).bind (·.dst) = ao.dst := by simp [ho, hdst]
    rw [hbind] at hstep
    by_cases hh : isHeavy l n0 i
    · exact ⟨_, _, _, _, (hlevel hh).still T hi hao hE hB hna hS' trivial (.inr ⟨hh, rfl, rfl⟩), rfl, .one hstep⟩
    · exact ⟨_, _, _, _, h.still T hi hao hE hB hna hS' trivial (.inl ⟨hh, rfl⟩), rfl, .one hstep⟩
  | true =>
    rw [hw] at hwant
    have hx0 := (T.tr i ao hi hao).1
    unfold xone at hx0
    rw [hw] at hx0
    simp only [cond_true] at hx0
    have hmonoN := (T.tr i ao hi hao).2
    cases hcls : ao.op.cls with
    | bad => exact absurd hcls hbad
    | pure =>
      split at hx0
      · cases hx0
      rename_i outs hxo
      obtain ⟨v, rfl, hall⟩ := xop_pure hcls hxo
      have hS := T.quiet hi hao hxo hw
      obtain ⟨v', e1, hrun, hokv⟩ := opQ (a := a) (o := o) hok hcomp (h.dead (S i).W.n) (fun t ht => ⟨by rw [← cv_le (Rho.cut_le ρ _) _ (htm t ht).2]; exact (htm t ht).1, (htm t ht).2⟩) (.inl hcls) (hall _)
      cases e1
      have hna : ¬ isAlloc l n0 S i := by
        rintro ⟨_, ao', h1, h2, _⟩
        rw [hao] at h1; cases h1; rw [hcls] at h2; cases h2
      have hnh : ¬ isHeavy l n0 i := by
        rintro ⟨_, ao', h1, h2⟩
        rw [hao] at h1; cases h1; rw [hcls] at h2; cases h2
      have hstep := stepX_val (P := P) (b := b) (a := a) (k := k) (cs := cs) (rest := rest) ho hwant hsem hrun rfl
      rw [← hdst, ← cv_le (Rho.cut_le ρ _) _ hokv] at hstep
      exact ⟨_, _, _, _, h.still T hi hao hE hB hna hS (okv_le (Rho.cut_mono hmonoN) _ hokv) (.inl ⟨hnh, rfl⟩), rfl, .one hstep⟩
    | read =>
      have hna : ¬ isAlloc l n0 S i := by
        rintro ⟨_, ao', h1, h2, _⟩
        rw [hao] at h1; cases h1; rw [hcls] at h2; cases h2
      have hnh : ¬ isHeavy l n0 i := by
        rintro ⟨_, ao', h1, h2⟩
        rw [hao] at h1; cases h1; rw [hcls] at h2; cases h2
      obtain ⟨q, hq, hqh, hI⟩ := Inv.next T _ p rfl h
      obtain ⟨v, W1, W2, e1, e2, hvb, htb⟩ := T.ok i ao hi hao hcls hw q hq (fun hlt => (hqh hlt).2) (fun j bj hj hbj hhj => by
        have hjh : isHeavy l n0 j := ⟨hj, bj, hbj, hhj⟩
        refine ⟨fun hlt hm => ?_, fun hge hm => ?_⟩
        · exact hE ((hI.closed j ((hI.heavy j hjh).2 hlt)).2 i hm)
        · have := (hI.heavy j hjh).1 (hB j hm); omega)
      have hS := T.quiet hi hao e1 hw
      have htq : ∀ t ∈ ao.op.tmps, a.tmps.getD t undef = cv (ρ.cut (S q).W.n) (tget (S i).tm t) ∧ okv (ρ.cut (S q).W.n) (tget (S i).tm t) := by
        intro t ht
        have hq := okv_cut _ (htm t ht).2 (htb t ht)
        exact ⟨by rw [← cv_le (Rho.cut_le ρ _) _ hq]; exact (htm t ht).1, hq⟩
      obtain ⟨v', e3, hrun, hokv⟩ := opQ (a := a) (o := o) hok hcomp hI.wr htq (.inr hcls) e2
      obtain ⟨v2, e4, _⟩ : ∃ v2, W1 = (S i).W ∧ True := ⟨v, by
        have := T.sameW hi hnh hna
        rw [hS] at this
        exact this, trivial⟩
      subst e4
      simp only [List.cons.injEq, AOut.val.injEq, and_true] at e3
      obtain ⟨rfl, _⟩ := e3
      have hstep := stepX_val (P := P) (b := b) (a := a) (k := k) (cs := cs) (rest := rest) ho hwant hsem hrun rfl
      rw [← hdst, ← cv_le (Rho.cut_le ρ _) _ hokv] at hstep
      exact ⟨_, _, _, _, h.still T hi hao hE hB hna hS (okv_le (Rho.cut_mono hmonoN) _ (okv_cut _ hokv hvb)) (.inl ⟨hnh, rfl⟩), rfl, .one hstep⟩
    | alloc =>
      have ha : isAlloc l n0 S i := ⟨hi, ao, hao, hcls, hw⟩
      have hnh : ¬ isHeavy l n0 i := by
        rintro ⟨_, ao', h1, h2⟩
        rw [hao] at h1; cases h1; rw [hcls] at h2; cases h2
      obtain ⟨v, blk, hS, hit, hall⟩ := T.alloc hi hao hcls hw
      obtain ⟨v', blk', obj, e1, hrun, hokv, hbr, hit'⟩ := opA (a := a) (o := o) hok hcomp (h.dead (S i).W.n) (fun t ht => ⟨by rw [← cv_le (Rho.cut_le ρ _) _ (htm t ht).2]; exact (htm t ht).1, (htm t ht).2⟩) hcls (hall _ rfl)
      simp only [List.cons.injEq, AOut.val.injEq, and_true] at e1
      obtain ⟨rfl, e1⟩ := e1
      have hblk : blk = blk' := by
        have h1 : (({ h := .nil, n := (S i).W.n } : AW).push blk).get (S i).W.n = blk := AW.get_push_same _ _
        have h2 : (({ h := .nil, n := (S i).W.n } : AW).push blk').get (S i).W.n = blk' := AW.get_push_same _ _
        rw [← h1, ← h2, e1]
      subst hblk
      have hI := h.made T hi hao hE hB ha hnh hS hit' hokv hbr
      have hstep := stepX_val (P := P) (b := b) (a := a) (k := k) (cs := cs) (rest := rest) ho hwant hsem hrun rfl
      have hle : ((ρ.cut (S i).W.n).upd (S i).W.n w.heap.size 0).le (ρ.upd (S i).W.n w.heap.size 0) := by
        intro g x hg
        by_cases e : g = (S i).W.n
        · subst e; rw [Rho.upd_same] at *; exact hg
        · rw [Rho.upd_ne _ _ _ e] at *; exact Rho.cut_le _ _ _ _ hg
      rw [← hdst, ← cv_le hle _ hokv] at hstep
      exact ⟨_, _, _, _, hI, rfl, .one hstep⟩
    | heavy =>
      have hh : isHeavy l n0 i := ⟨hi, ao, hao, hcls⟩
      have hI := hlevel hh
      split at hx0
      · cases hx0
      rename_i outs hxo
      have hcalm := xop_calm hbad hxo
      obtain ⟨out, hm, hO⟩ := op1 (a := a) (o := o) hok hcomp hI.wr (fun t ht => ⟨by rw [← cv_le (Rho.cut_le ρ _) _ (htm t ht).2]; exact (htm t ht).1, (htm t ht).2⟩) hxo
      obtain ⟨r1, hr1, hsub⟩ := bindL_mem hx0 out hm
      rw [hdst] at hr1
      obtain ⟨x, hxm, hx⟩ := xout_sim HR ho hwant hsem hI.wr hO hr1 (hcalm out hm).1 (hcalm out hm).2 rest k cs
      have := hsub x hxm
      obtain rfl : x = (.nrm, S (i + 1)) := by simpa using this
      obtain ⟨ρ1, v, w', W', hS, hX, hW', hokv, hsteps⟩ := hx rfl
      rw [← hdst] at hS hsteps
      obtain ⟨ρ', hle, hI'⟩ := hI.turned T hi hao hE hB hh hS hX hW' hokv
      rw [← cv_le hle _ hokv] at hsteps
      exact ⟨_, _, _, _, hI', rfl, hsteps⟩
end
end Go.Eng

/- Engine 30: regions that draw their order, whole; and the whole run. -/
namespace Go.Eng
set_option linter.unusedVariables false
set_option linter.unusedSimpArgs false
section
variable {P : Program} {r : Rec} {rnd : Option Nat} {ops : Array Oper} {l : List AOper} {B : Nat → List Nat} {s : ASt} {S : Nat → ASt} {n0 : Nat}
variable {ρ0 : Rho} {w0 : World} {a0 : Act} {CR : CodeR} {E : Nat → Prop} {p : Nat} {ρ : Rho} {a : Act} {w : World}

def Ed (n0 : Nat) (listed : Array Bool) : Nat → Prop := fun i => i < n0 ∧ listed.getD i false = true

theorem RC.B_lt (h : RC P ops l B) : ∀ (k i x : Nat), i ≤ k → i < ops.size → x ∈ B i → x < i := by
  intro k
  induction k with
  | zero =>
    intro i x hi hs hx
    obtain rfl : i = 0 := by omega
    have ho : ops[0]? = some ops[0] := Array.getElem?_eq_getElem hs
    rcases (h.bef 0 _ ho x).1 hx with h1 | ⟨y, h1, _⟩
    · exact h.lt 0 _ ho x h1
    · exact absurd (h.lt 0 _ ho y h1) (by omega)
  | succ k ih =>
    intro i x hi hs hx
    have ho : ops[i]? = some ops[i] := Array.getElem?_eq_getElem hs
    rcases (h.bef i _ ho x).1 hx with h1 | ⟨y, h1, h2⟩
    · exact h.lt i _ ho x h1
    · have hy := h.lt i _ ho y h1
      have := ih y x (by omega) (by omega) h2
      omega

theorem getD_both {listed : Array Bool} {j : Nat} (h : j < listed.size) : listed.getD j true = listed.getD j false := by
  simp [Array.getD_eq_getD_getElem?, Array.getElem?_eq_getElem h]
theorem go_succ (fuel t : Nat) (listed : Array Bool) : Region.linearise.go .any ops (fuel + 1) t listed [] =
    match (Region.ready .any ops listed)[t % (Region.ready .any ops listed).length]? with
    | some i => i :: Region.linearise.go .any ops fuel (t / (Region.ready .any ops listed).length) (listed.setIfInBounds i true) []
    | none => [] := by
  simp only [Region.linearise.go]
  change (match (Region.ready .any ops listed)[t % (Region.ready .any ops listed).length]? with
      | some i => Region.linearise.go .any ops fuel (t / (Region.ready .any ops listed).length) (listed.setIfInBounds i true) [i]
      | none => [].reverse) = _
  split
  · rw [linearise_go_acc]; rfl
  · rfl
theorem go_full {listed : Array Bool} (hs : listed.size = ops.size) (h : ∀ i, i < ops.size → listed.getD i false = true) (fuel t : Nat) : Region.linearise.go .any ops fuel t listed [] = [] := by
  cases fuel with
  | zero => simp [Region.linearise.go]
  | succ fuel =>
    rw [go_succ]
    have : Region.ready .any ops listed = [] := by
      refine List.eq_nil_iff_forall_not_mem.2 fun j hj => ?_
      obtain ⟨h1, o, ho, _⟩ := mem_ready.1 hj
      have hlt := (Array.getElem?_eq_some_iff.1 ho).1
      rw [getD_both (by omega), h j hlt] at h1
      cases h1
    rw [this]; rfl
theorem ready_least (hlt : ∀ (i : Nat) (o : Oper), ops[i]? = some o → ∀ x ∈ direct o, x < i) {listed : Array Bool} (hs : listed.size = ops.size) : ∀ (k i : Nat), i ≤ k → i < ops.size → listed.getD i false = false → ∃ j, j ∈ Region.ready .any ops listed := by
  intro k
  induction k with
  | zero =>
    intro i hi hsz hl
    refine ⟨i, mem_ready.2 ⟨by rw [getD_both (by omega)]; exact hl, ops[i], Array.getElem?_eq_getElem hsz, fun e he hb => ?_⟩⟩
    have := hlt i _ (Array.getElem?_eq_getElem hsz) e.on (mem_direct.2 ⟨e, he, hb, rfl⟩)
    omega
  | succ k ih =>
    intro i hi hsz hl
    by_cases hall : ∀ x ∈ direct ops[i], listed.getD x false = true
    · exact ⟨i, mem_ready.2 ⟨by rw [getD_both (by omega)]; exact hl, ops[i], Array.getElem?_eq_getElem hsz, fun e he hb => hall e.on (mem_direct.2 ⟨e, he, hb, rfl⟩)⟩⟩
    · simp only [Classical.not_forall] at hall
      obtain ⟨x, hx, hxl⟩ := hall
      have := hlt i _ (Array.getElem?_eq_getElem hsz) x hx
      exact ih x (by omega) (by omega) (by simpa using hxl)
theorem ready_pick {listed : Array Bool} {t j : Nat} (h : j ∈ Region.ready .any ops listed) : ∃ i, (Region.ready .any ops listed)[t % (Region.ready .any ops listed).length]? = some i ∧ i ∈ Region.ready .any ops listed := by
  have hpos : 0 < (Region.ready .any ops listed).length := List.length_pos_of_mem h
  have hlt := Nat.mod_lt t hpos
  exact ⟨_, List.getElem?_eq_getElem hlt, List.getElem_mem hlt⟩
theorem count_set {listed : Array Bool} {i : Nat} (hi : i < listed.size) (h : listed.getD i false = false) : (listed.setIfInBounds i true).toList.countP (! ·) + 1 = listed.toList.countP (! ·) := by
  have hl : i < listed.toList.length := by simpa using hi
  have hv : listed.toList[i] = false := by
    simpa [Array.getD_eq_getD_getElem?, Array.getElem?_eq_getElem hi] using h
  have hpos : 0 < listed.toList.countP (! ·) := List.countP_pos_iff.2 ⟨listed.toList[i], List.getElem_mem hl, by rw [hv]; rfl⟩
  rw [Array.toList_setIfInBounds, List.countP_set hl]
  simp only [hv, Bool.not_false, Bool.not_true, if_true, Bool.false_eq_true, if_false]
  omega

theorem listed_set {listed : Array Bool} {i : Nat} (hi : i < listed.size) (j : Nat) : (listed.setIfInBounds i true).getD j false = true ↔ (listed.getD j false = true ∨ j = i) := by
  by_cases e : j = i
  · subst e
    simp [Array.getD_eq_getD_getElem?, hi]
  · rw [getD_set_ne false (Ne.symm e)]
    simp [e]

theorem drawLoop (HR : RecSim CR P r) (T : TC P r rnd ops l B s S n0) (hn : n0 = l.length ∨ (n0 + 1 = l.length ∧ ∀ i, i < n0 → i ∈ B n0)) (b : Frame) (k : List Item) (cs : List Frame) :
    ∀ (fuel t : Nat) (listed : Array Bool) (p : Nat) (ρ : Rho) (a : Act) (w : World), listed.size = ops.size → listed.toList.countP (! ·) ≤ fuel → (n0 + 1 = l.length → listed.getD n0 false = false) →
      Inv CR l B s S n0 ρ0 w0 a0 (Ed n0 listed) p ρ a w →
      ∃ fuel' t' listed' p' ρ' a' w', (∀ i, i < n0 → listed'.getD i false = true) ∧ listed'.size = ops.size ∧ listed'.toList.countP (! ·) ≤ fuel' ∧ (n0 + 1 = l.length → listed'.getD n0 false = false) ∧
        Inv CR l B s S n0 ρ0 w0 a0 (Ed n0 listed') p' ρ' a' w' ∧
        Steps P (lone (b.atR a (.inRegion ops (Region.linearise.go .any ops fuel t listed []) :: k)) cs w) (lone (b.atR a' (.inRegion ops (Region.linearise.go .any ops fuel' t' listed' []) :: k)) cs w') := by
  have hlen := T.rc.len
  intro fuel
  induction fuel with
  | zero =>
    intro t listed p ρ a w hs hc hlast h
    refine ⟨0, t, listed, p, ρ, a, w, fun i hi => ?_, hs, hc, hlast, h, .refl _ _⟩
    have hi' : i < listed.size := by have := T.nle; omega
    have hmem : listed[i] ∈ listed.toList := by simp
    have hz : listed.toList.countP (! ·) = 0 := by omega
    have := List.countP_eq_zero.1 hz _ hmem
    simp only [Array.getD_eq_getD_getElem?, Array.getElem?_eq_getElem hi', Option.getD_some]
    simpa using this
  | succ fuel ih =>
    intro t listed p ρ a w hs hc hlast h
    by_cases hall : ∀ i, i < n0 → listed.getD i false = true
    · exact ⟨fuel + 1, t, listed, p, ρ, a, w, hall, hs, hc, hlast, h, .refl _ _⟩
    · simp only [Classical.not_forall] at hall
      obtain ⟨i0, hi0, hl0⟩ := hall
      have hnle := T.nle
      obtain ⟨j, hj⟩ := ready_least T.rc.lt hs i0 i0 (Nat.le_refl _) (by omega) (by simpa using hl0)
      obtain ⟨i, hpick, hmem⟩ := ready_pick (t := t) hj
      rw [go_succ, hpick]
      obtain ⟨hun, o, ho, hdir⟩ := mem_ready.1 hmem
      have hisz := (Array.getElem?_eq_some_iff.1 ho).1
      rw [getD_both (by omega)] at hun
      have hsub : ∀ x ∈ B i, x < n0 → Ed n0 listed x := by
        intro x hx hxn
        rcases (T.rc.bef i o ho x).1 hx with h1 | ⟨y, h1, h2⟩
        · obtain ⟨e, he, hb, rfl⟩ := mem_direct.1 h1
          exact ⟨hxn, hdir e he hb⟩
        · have hyl := T.rc.lt i o ho y h1
          obtain ⟨e, he, hb, rfl⟩ := mem_direct.1 h1
          exact (h.closed e.on ⟨by omega, hdir e he hb⟩).2 x h2
      have hin : i < n0 := by
        rcases hn with h1 | ⟨h1, h2⟩
        · omega
        · rcases Nat.lt_or_ge i n0 with h3 | h3
          · exact h3
          · obtain rfl : i = n0 := by omega
            exact absurd (hsub i0 (h2 i0 hi0) hi0).2 hl0
      have hE : ¬ Ed n0 listed i := fun e => by rw [e.2] at hun; cases hun
      have hB : ∀ x ∈ B i, Ed n0 listed x := fun x hx => hsub x hx (by have := T.rc.B_lt i i x (Nat.le_refl _) hisz hx; omega)
      obtain ⟨p1, ρ1, a1, w1, hI, _, hst⟩ := h.step HR T hin hE hB b (Region.linearise.go .any ops fuel (t / (Region.ready .any ops listed).length) (listed.setIfInBounds i true) []) k cs
      have hEd : (fun j => Ed n0 listed j ∨ j = i) = Ed n0 (listed.setIfInBounds i true) := by
        funext j
        refine propext ?_
        simp only [Ed, listed_set (show i < listed.size by omega)]
        constructor
        · rintro (⟨h1, h2⟩ | rfl)
          · exact ⟨h1, .inl h2⟩
          · exact ⟨hin, .inr rfl⟩
        · rintro ⟨h1, h2 | h2⟩
          · exact .inl ⟨h1, h2⟩
          · exact .inr h2
      rw [hEd] at hI
      have hcs := count_set (show i < listed.size by omega) hun
      obtain ⟨f', t', l', p', ρ', a', w', q1, q2, q3, q4, q5, q6⟩ := ih (t / (Region.ready .any ops listed).length) (listed.setIfInBounds i true) p1 ρ1 a1 w1 (by simpa using hs) (by omega)
        (fun hl => by rw [getD_set_ne false (by omega)]; exact hlast hl) hI
      exact ⟨f', t', l', p', ρ', a', w', q1, q2, q3, q4, q5, hst.trans q6⟩

theorem Inv.start (T : TC P r rnd ops l B s S n0) {b : Frame} {cs : List Frame} (hS : SR CR ρ rnd s b a cs w) {E : Nat → Prop} (hE : ∀ i, ¬ E i) : Inv CR l B s S n0 ρ w a E 0 ρ a w where
  pn := Nat.zero_le _
  closed i hi := absurd hi (hE i)
  heavy i _ := ⟨fun h => absurd h (hE i), fun h => by omega⟩
  wr := by rw [T.s0, hS.W.cut_self]; exact hS.W
  dom g x hg := .inl (by rw [T.s0]; exact (hS.W.blk g x.1 x.2 hg).1)
  pend i _ hi := absurd hi (hE i)
  late i hi := absurd hi (Nat.not_lt_zero _)
  tm t j hj hcut := by
    have hspan : tget (S j).tm t = tget (S 0).tm t := T.tm_span (Nat.zero_le j) hj (fun k ak _ hkj hak hd => hE k ((hcut k ak (by omega) hak hd).2 hkj))
    have h0 := hS.tm.get t
    rw [hspan, T.s0]
    refine ⟨h0.1, ?_⟩
    have := T.mono (Nat.zero_le j) hj
    rw [T.s0] at this
    have e := hS.W.cut_self
    exact okv_le (Rho.cut_mono this) _ (by rw [e]; exact h0.2)
  sz := hS.sz
  df := rfl
  ext := by rw [T.s0]; exact Ext.refl _ _ _

theorem Inv.done (T : TC P r rnd ops l B s S n0) {b : Frame} {cs : List Frame} {ρ' : Rho} {a' : Act} {w' : World} {E : Nat → Prop} (hS : SR CR ρ rnd s b a cs w) (hE : ∀ i, i < n0 → E i) (h : Inv CR l B s S n0 ρ w a E p ρ' a' w') :
    Ext ρ s.W w ρ' (S n0).W w' ∧ SR CR ρ' rnd (S n0) b a' cs w' := by
  have h := h.passTo T h.pn (Nat.le_refl _) (fun j h1 h2 hh => by have := (h.heavy j hh).1 (hE j h2); omega)
  have hcut : ρ'.cut (S n0).W.n = ρ' := by
    funext g
    unfold Rho.cut
    split
    · rfl
    · rename_i hg
      cases e : ρ' g with
      | none => rfl
      | some x =>
        rcases h.dom g x e with h1 | ⟨i, h1, h2, _⟩
        · exact absurd h1 hg
        · have := (h.closed i h2).1; omega
  obtain ⟨q1, q2, q3⟩ := T.rest (Nat.le_refl n0)
  refine ⟨h.ext, ⟨fun t => ?_, by rw [q1]; exact h.sz, by rw [q2, h.df]; exact hS.df.le h.ext.le, by rw [q3]; exact hS.up.le h.ext.le, by have := h.wr; rw [hcut] at this; exact this, ?_⟩⟩
  · have := h.tm t n0 (Nat.le_refl _) (fun i ai hi _ _ => ⟨fun _ => hi, fun _ => hE i hi⟩)
    rw [hcut] at this
    exact this
  · have := hS.rnd
    cases rnd with
    | none => exact this
    | some l => exact ⟨by rw [h.ext.le.blk this.2.1]; exact this.1, h.ext.le.some this.2.1, by rw [q3]; exact this.2.2⟩

theorem unsnoc_eq {α : Type} : ∀ {l : List α} {i : List α} {x : α}, unsnoc l = some (i, x) → l = i ++ [x]
  | [], _, _, h => by cases h
  | [o], i, x, h => by cases h; rfl
  | o :: o2 :: os, i, x, h => by
    simp only [unsnoc] at h
    split at h
    · rename_i l' o' h2
      cases h
      have := unsnoc_eq (l := o2 :: os) h2
      rw [this]; rfl
    · cases h

theorem TC.of (hrc : RC P ops l B) {i0 : List AOper} {tail : List AOper} (hl : l = i0 ++ tail) (ht : tail.length ≤ 1) {sts : List ASt} {fin : ASt} (hx : xtrace r rnd i0 s = some (sts, fin)) (hd : drawOk sts fin i0 sts = true) :
    TC P r rnd ops l B s (stAt sts fin) i0.length ∧ stAt sts fin i0.length = fin := by
  obtain ⟨h1, h2, h3, h4⟩ := xtrace_spec hx
  have hget : ∀ (i : Nat) (ao : AOper), i < i0.length → l[i]? = some ao → i0[i]? = some ao := by
    intro i ao hi h
    rw [hl, List.getElem?_append_left hi] at h; exact h
  have hlen : l.length = i0.length + tail.length := by rw [hl]; simp
  refine ⟨⟨by omega, hrc, h2, fun i ao hi h => h4 i ao (hget i ao hi h), ?_⟩, h3⟩
  intro i ao hi hao hcls hw q hq hqh hall
  have hst : sts[i]? = some (stAt sts fin i) := by
    unfold stAt
    rw [List.getElem?_eq_getElem (by omega)]; rfl
  have hsame := drawOk_spec hd i ao _ (hget i ao hi hao) hst hw
  have hoff : ∀ (j : Nat), i0.length ≤ j → j ∉ B i := fun j hj hm => by
    have := hrc.B_lt i i j (Nat.le_refl _) (by have := hrc.len; omega) hm
    omega
  have fin' : ∀ q', q' ∈ ao.alts → stAt sts fin q' = stAt sts fin q → ∃ v W1 W2, xop (aev (stAt sts fin i).tm) (stAt sts fin i).W ao.op = some [.val v W1] ∧ xop (aev (stAt sts fin i).tm) (stAt sts fin q).W ao.op = some [.val v W2] ∧ vbelow (stAt sts fin i).W.n v = true ∧ ∀ t ∈ ao.op.tmps, vbelow (stAt sts fin q).W.n (tget (stAt sts fin i).tm t) = true := by
    intro q' hm e
    have := sameAlts_spec hsame q' hm
    rw [e] at this
    exact this
  rcases Nat.lt_or_ge q i0.length with hlt | hge
  · refine fin' q (hrc.alts i ao hao hcls q (by omega) (fun _ => hqh hlt) (fun j bj hbj hcj => ?_)) rfl
    rcases Nat.lt_or_ge j i0.length with h5 | h5
    · exact hall j bj h5 hbj hcj
    · exact ⟨fun h6 => by omega, fun _ => hoff j h5⟩
  · obtain rfl : q = i0.length := by omega
    by_cases hlast : ∃ b, l[i0.length]? = some b ∧ b.op.cls = .heavy
    · obtain ⟨bl, hbl, hcl⟩ := hlast
      have hsz := (List.getElem?_eq_some_iff.1 hbl).1
      refine fin' i0.length (hrc.alts i ao hao hcls _ (by omega) (fun _ => ⟨bl, hbl, hcl⟩) (fun j bj hbj hcj => ?_)) rfl
      rcases Nat.lt_or_ge j i0.length with h5 | h5
      · exact hall j bj h5 hbj hcj
      · exact ⟨fun h6 => by omega, fun _ => hoff j h5⟩
    · refine fin' l.length (hrc.alts i ao hao hcls _ (Nat.le_refl _) (fun h => absurd h (Nat.lt_irrefl _)) (fun j bj hbj hcj => ?_)) ?_
      · have hjl := (List.getElem?_eq_some_iff.1 hbj).1
        have h5 : j < i0.length := by
          rcases Nat.lt_or_ge j i0.length with h5 | h5
          · exact h5
          · exfalso
            refine hlast ⟨bj, ?_, hcj⟩
            rw [show i0.length = j by omega]; exact hbj
        exact ⟨fun _ => (hall j bj h5 hbj hcj).1 h5, fun h6 => by omega⟩
      · rw [h3]
        unfold stAt
        rw [List.getElem?_eq_none (by omega)]; rfl

theorem drawn_WR (h : WR CR ρ s.W w) (d : Nat) : WR CR ρ s.W { w with drawn := d } := ⟨h.blk, h.share, h.it⟩
theorem drawn_Ext {W : AW} (d : Nat) : Ext ρ W w ρ W { w with drawn := d } :=
  ⟨ρ.le_refl, Nat.le_refl _, fun _ h => .inl h, Nat.le_refl _, fun _ _ _ => rfl, fun g b s h _ => ⟨g, s, h⟩, fun _ _ _ => rfl, rfl, rfl, fun _ => rfl⟩

theorem draw_sim (hm : P.follows .mixedOrders = true) (HR : RecSim (CodeOf P) P r) : DrawSim P r := by
  intro id ops ac hc rnd s outs hx ρ b a kn cs w hS
  obtain ⟨l, dm, B, rfl, hrc, hdm⟩ := compDraw_spec hc
  have hstep := stepR_region_draw (P := P) (b := b) (a := a) (k := kn) (cs := cs) (w := w) (ops := ops) (id := id)
  generalize w.tape w.drawn (.order b.fn id) = t at hstep
  simp only [Region.schedule, hm, Bool.true_or, if_true] at hstep
  have hS1 : SR (CodeOf P) ρ rnd s b a cs { w with drawn := w.drawn + 1 } := ⟨hS.tm, hS.sz, hS.df, hS.up, drawn_WR hS.W _, hS.rnd⟩
  have hrep : ∀ i, ¬ ((Array.replicate ops.size false).getD i false = true) := by
    intro i
    simp [Array.getD_eq_getD_getElem?, Array.getElem?_replicate]
    split <;> simp
  have hcount : (Array.replicate ops.size false).toList.countP (! ·) ≤ ops.size := by
    have := List.countP_le_length (p := (! ·)) (l := (Array.replicate ops.size false).toList)
    simpa using this
  have run : ∀ (i0 tail : List AOper), l = i0 ++ tail → tail.length ≤ 1 → (tail = [] ∨ (i0.length + 1 = l.length ∧ ∀ i, i < i0.length → i ∈ B i0.length)) → ∀ s', xdraw r rnd i0 s = some s' →
      ∃ fuel' t' listed' ρ' a' w', (∀ i, i < i0.length → listed'.getD i false = true) ∧ listed'.size = ops.size ∧ listed'.toList.countP (! ·) ≤ fuel' ∧ (i0.length + 1 = l.length → listed'.getD i0.length false = false) ∧
        Ext ρ s.W w ρ' s'.W w' ∧ SR (CodeOf P) ρ' rnd s' b a' cs w' ∧ s'.up = s.up ∧ s'.sz = s.sz ∧
        Steps P (lone (b.atR a (.code (.region id ops true) :: kn)) cs w) (lone (b.atR a' (.inRegion ops (Region.linearise.go .any ops fuel' t' listed' []) :: kn)) cs w') := by
    intro i0 tail hl ht hn s' hxd
    unfold xdraw at hxd
    split at hxd
    · cases hxd
    rename_i sts fin htr
    cases hd : drawOk sts fin i0 sts <;> rw [hd] at hxd
    · cases hxd
    simp only [cond_true, Option.some.injEq] at hxd
    subst hxd
    obtain ⟨T, hfin⟩ := TC.of hrc hl ht htr hd
    have hlen : l.length = i0.length + tail.length := by rw [hl]; simp
    have hn' : i0.length = l.length ∨ (i0.length + 1 = l.length ∧ ∀ i, i < i0.length → i ∈ B i0.length) := by
      rcases hn with rfl | h
      · exact .inl (by simpa using hlen.symm)
      · exact .inr h
    have h0 : Inv (CodeOf P) l B s (stAt sts fin) i0.length ρ { w with drawn := w.drawn + 1 } a (Ed i0.length (Array.replicate ops.size false)) 0 ρ a { w with drawn := w.drawn + 1 } :=
      Inv.start T hS1 (fun i h => hrep i h.2)
    obtain ⟨f', t', l', p', ρ', a', w', q1, q2, q3, q4, q5, q6⟩ := drawLoop HR T hn' b kn cs ops.size t (Array.replicate ops.size false) 0 ρ a _ (by simp) hcount (fun _ => by simpa using hrep i0.length) h0
    obtain ⟨hE, hSR⟩ := q5.done T hS1 (fun i hi => ⟨hi, q1 i hi⟩)
    obtain ⟨u1, u2, u3⟩ := T.rest (Nat.le_refl i0.length)
    rw [hfin] at hE hSR u1 u3
    exact ⟨f', t', l', ρ', a', w', q1, q2, q3, q4, (drawn_Ext _).trans hE, hSR, u3, u1, .head hstep q6⟩
  have hlsz := hrc.len
  rcases hdm with rfl | ⟨rfl, hpos, hlast⟩
  · simp only [xcode] at hx
    split at hx
    · rename_i s' hxd
      cases hx
      obtain ⟨f', t', l', ρ', a', w', q1, q2, q3, q4, hE, hSR, hup, hsz, hst⟩ := run l [] (by simp) (by simp) (.inl rfl) s' hxd
      rw [go_full q2 (fun i hi => q1 i (by omega))] at hst
      refine ⟨_, List.mem_singleton.2 rfl, Comes1.steps hst (Comes1.step stepR_region_end (.here ?_))⟩
      exact ⟨ρ', a', cs, w', hE, hSR, CS.refl_of hS.up, by rw [hup], hsz, rfl⟩
    · cases hx
  · simp only [xcode] at hx
    split at hx
    case h_2 => cases hx
    rename_i init last hun
    have hl := unsnoc_eq hun
    split at hx
    case h_2 => cases hx
    rename_i s' hxd
    have hlen : l.length = init.length + 1 := by rw [hl]; simp
    have hil : l.length - 1 = init.length := by omega
    rw [hil] at hlast
    obtain ⟨f', t', l', ρ', a', w', q1, q2, q3, q4, hE, hSR, hup, hsz, hst⟩ := run init [last] hl (by simp) (.inr ⟨by omega, hlast⟩) s' hxd
    have hlat : l[init.length]? = some last := by rw [hl]; simp
    obtain ⟨o, ho, hcomp, hguard, hdst, hok, hbad, hco⟩ := hrc.op _ _ hlat
    have hun' := q4 (by omega)
    have hready : init.length ∈ Region.ready .any ops l' := by
      refine mem_ready.2 ⟨by rw [getD_both (by omega)]; exact hun', o, ho, fun e he hb => q1 _ ?_⟩
      exact hrc.lt _ o ho e.on (mem_direct.2 ⟨e, he, hb, rfl⟩)
    have hf : ∃ f, f' = f + 1 := by
      cases f' with
      | zero =>
        exfalso
        have hz : l'.toList.countP (! ·) = 0 := by omega
        have hi' : init.length < l'.size := by omega
        have := List.countP_eq_zero.1 hz l'[init.length] (by simp)
        rw [Array.getD_eq_getD_getElem?, Array.getElem?_eq_getElem hi'] at hun'
        simp at hun' this
        rw [hun'] at this; cases this
      | succ f => exact ⟨f, rfl⟩
    obtain ⟨f, rfl⟩ := hf
    obtain ⟨i, hpick, hmem⟩ := ready_pick (t := t') hready
    rw [go_succ, hpick] at hst
    have hi : i = init.length := by
      obtain ⟨h1, o', ho', _⟩ := mem_ready.1 hmem
      have hlt := (Array.getElem?_eq_some_iff.1 ho').1
      rcases Nat.lt_or_ge i init.length with h2 | h2
      · rw [getD_both (by omega), q1 i h2] at h1; cases h1
      · omega
    subst hi
    simp only at hst
    rw [go_full (by simpa using q2) (fun j hj => by
      rw [listed_set (by omega)]
      rcases Nat.lt_or_ge j init.length with h2 | h2
      · exact .inl (q1 j h2)
      · exact .inr (by omega))] at hst
    obtain ⟨out, hom, m, hs1, hp1⟩ := xone_sim HR ho hco hx [] b a' kn cs hSR
    obtain ⟨ρ2, a2, cs2, w2, hE2, hS2, hC2, hu2, hz2, hat2⟩ := hp1
    have hup' : s'.up.isSome = s.up.isSome := by rw [hup]
    have hC : CS s.up cs cs2 := by rw [← hup]; exact hC2
    cases he : out.1 with
    | nrm =>
      rw [he] at hat2
      have hm2 : m = lone (b.atR a2 (.inRegion ops [] :: kn)) cs2 w2 := hat2
      subst hm2
      refine ⟨out, hom, Comes1.steps hst (Comes1.steps hs1 (Comes1.step stepR_region_end (.here ?_)))⟩
      exact ⟨ρ2, a2, cs2, w2, hE.trans hE2, hS2, hC, hu2.trans hup', hz2.trans hsz, by rw [he]; rfl⟩
    | _ =>
      refine ⟨out, hom, m, hst.trans hs1, ρ2, a2, cs2, w2, hE.trans hE2, hS2, hC, hu2.trans hup', hz2.trans hsz, hat2.widen (by rw [he]; simp) (by intro j hj; cases hj)⟩

/-- the abstract run tells what the machine does -/
theorem exec_run {AP : Nat → Option AFunc} (hm : P.follows .mixedOrders = true) (hAP : ∀ f F, AP f = some F → compFunc P f = some F) (n : Nat) : RecSim (CodeOf P) P (exec AP n) :=
  exec_sim hAP (fun r hr => draw_sim hm hr) n
end
end Go.Eng

/- Engine 31: a closed call. -/
namespace Go.Eng
open Go.RowKit (Grown)
set_option linter.unusedVariables false
set_option linter.unusedSimpArgs false
variable {P : Program}
def allTrue : Option (List COut) → Bool
  | some l => l.all fun c => match c.r with
    | .ret (.bool true) => true
    | _ => false
  | _ => false
theorem grown_of {CR : CodeR} {ρ' : Rho} {W W' : AW} {w w' : World} (h : Ext (fun _ => none) W w ρ' W' w') : Grown w w' := by
  refine ⟨⟨h.os, h.output.1, fun i hi => ?_⟩, h.output.2, h.sz⟩
  have e := h.out i hi (fun _ _ => by simp)
  rw [e]
  cases hw : w.heap[i]? with
  | none => rfl
  | some o => cases o <;> simp
theorem calls_closed {AP : Nat → Option AFunc} (hm : P.follows .mixedOrders = true) (hAP : ∀ f F, AP f = some F → compFunc P f = some F) {n f : Nat} (h : allTrue ((exec AP n).call none f [] { h := .nil, n := 0 }) = true) (w : World) :
    Calls P f #[] w fun e w' => e = .returned (.bool true) ∧ Grown w w' := by
  have HR := exec_run (P := P) hm hAP n
  unfold allTrue at h
  split at h
  case h_2 => cases h
  rename_i outs hrun
  intro cs
  have hW0 : WR (CodeOf P) (fun _ => none) { h := .nil, n := 0 } w := ⟨(fun g b s e => nomatch e), (fun g1 g2 b s1 s2 _ e => nomatch e), trivial⟩
  obtain ⟨out, hom, ρ', fr, cs', w', hst, hend⟩ := HR.call _ _ _ _ _ hrun (fun _ => none) w cs .normal trivial hW0 rfl
  have hcs : cs' = cs := hend.hcs
  subst hcs
  have ho := List.all_eq_true.1 h out hom
  have hr := hend.hr
  split at ho
  · rename_i hret
    rw [hret] at hr
    obtain ⟨hmode, _, fn, hfn, hres⟩ := hr
    refine ⟨.returned (.bool true), w', fr, ⟨rfl, grown_of (CR := CodeOf P) hend.hext⟩, hst, hend.hfn, hmode, hend.hdf, hend.hkind, fn, hfn, hres⟩
  · cases ho
end Go.Eng

/- Engine 32: a run in parts; what is garbage may be forgotten between them. -/
namespace Go.Eng
set_option linter.unusedVariables false
set_option linter.unusedSimpArgs false
variable {P : Program}
theorem compCode_seq {c : Code} {a b : ACode} (h : compCode P c = some (.seq a b)) : ∃ x y, c = .seq x y ∧ compCode P x = some a ∧ compCode P y = some b := by
  cases c with
  | seq x y =>
    simp only [compCode] at h
    split at h
    · rename_i a' b' h1 h2; cases h; exact ⟨x, y, rfl, h1, h2⟩
    · cases h
  | region id ops d =>
    cases d with
    | false => simp only [compCode] at h; obtain ⟨_, _, h⟩ := map_some h; cases h
    | true => obtain ⟨l, dm, B, h1, _⟩ := compDraw_spec (show compDraw P ops = some (.seq a b) from h); cases h1
  | cond c x y => simp only [compCode] at h; split at h <;> cases h
  | block id x => simp only [compCode] at h; obtain ⟨_, _, h⟩ := map_some h; cases h
  | loop x => simp only [compCode] at h; obtain ⟨_, _, h⟩ := map_some h; cases h
  | rangeFunc f ps x y => simp only [compCode] at h; split at h <;> cases h
  | _ => cases h

theorem SimAt.seq {rnd : Option Nat} {s s1 : ASt} {outs : List (AEx × ASt)} {x y : Code} (h1 : SimAt (CodeOf P) P rnd s [(.nrm, s1)] [.code x]) (h2 : SimAt (CodeOf P) P rnd s1 outs [.code y]) : SimAt (CodeOf P) P rnd s outs [.code (.seq x y)] := by
  intro ρ b a kn cs w hS
  obtain ⟨o1, ho1, m1, hs1, hp1⟩ := h1 ρ b a (.code y :: kn) cs w hS
  obtain rfl : o1 = _ := by simpa using ho1
  have hs1' : Steps P (lone (b.atR a ([.code (.seq x y)] ++ kn)) cs w) m1 := .head stepR_seq hs1
  obtain ⟨ρ1, a1, cs1, w1, hE1, hS1, hC1, hu1, hz1, hat1⟩ := hp1
  have hm1 : m1 = lone (b.atR a1 (.code y :: kn)) cs1 w1 := hat1
  subst hm1
  obtain ⟨o2, ho2, m2, hs2, hp2⟩ := h2 ρ1 b a1 kn cs1 w1 hS1
  exact ⟨o2, ho2, m2, hs1'.trans hs2, Post.then hE1 hC1 hu1 hz1 hp2⟩

/-- more may be forgotten: blocks that are dead, at or above a number -/
theorem WR.forget {CR : CodeR} {ρ : Rho} {W W' : AW} {w : World} (h : WR CR ρ W w) (hn : W'.n = W.n) (hg : ∀ g, W'.get g = W.get g ∨ W'.get g = .dead) : WR CR ρ W' w where
  blk g b s e := by
    obtain ⟨h1, o, h2, h3⟩ := h.blk g b s e
    refine ⟨by rw [hn]; exact h1, o, h2, ?_⟩
    rcases hg g with h4 | h4
    · rw [h4]; exact h3
    · rw [h4]; trivial
  share g1 g2 b s1 s2 hne e1 e2 := (h.share g1 g2 b s1 s2 hne e1 e2).congr (hg g1) (hg g2)
  it := trivial
end Go.Eng

/- Engine 33: a closed function's run in parts. -/
namespace Go.Eng
open Go.RowKit (Grown)
set_option linter.unusedVariables false
set_option linter.unusedSimpArgs false
variable {P : Program}
/-- all of w0 is as it was, and what is told lies beyond it -/
structure Far (w0 w : World) (ρ : Rho) : Prop where
  sz : w0.heap.size ≤ w.heap.size
  same : ∀ b, b < w0.heap.size → w.heap[b]? = w0.heap[b]?
  img : ∀ g b s, ρ g = some (b, s) → w0.heap.size ≤ b
  os : w.os = w0.os
  output : w.output = w0.output
  frz : ∀ a, w.frozen? a = w0.frozen? a
theorem Far.ext {w0 w w' : World} {ρ ρ' : Rho} {W W' : AW} (h : Far w0 w ρ) (k : Ext ρ W w ρ' W' w') : Far w0 w' ρ' where
  sz := Nat.le_trans h.sz k.sz
  same b hb := (k.out b (Nat.lt_of_lt_of_le hb h.sz) (fun g s e => by have := h.img g b s e; omega)).trans (h.same b hb)
  img g b s e := by
    rcases Nat.lt_or_ge b w0.heap.size with h1 | h1
    · obtain ⟨g0, s0, e0⟩ := k.img g b s e (Nat.lt_of_lt_of_le h1 h.sz)
      exact h.img g0 b s0 e0
    · exact h1
  os := k.os.trans h.os
  output := k.output.1.trans h.output
  frz a := (k.output.2 a).trans (h.frz a)
theorem Far.grown {w0 w : World} {ρ : Rho} (h : Far w0 w ρ) : Grown w0 w := by
  refine ⟨⟨h.os, h.output, fun i hi => ?_⟩, h.frz, h.sz⟩
  rw [h.same i hi]
  cases hw : w0.heap[i]? with
  | none => rfl
  | some o => cases o <;> simp
theorem Far.start (w : World) : Far w w (fun _ => none) := ⟨Nat.le_refl _, fun _ _ => rfl, (fun _ _ _ e => nomatch e), rfl, rfl, fun _ => rfl⟩

def good (res : List ARes) (o : AEx × ASt) : Bool := (match o.1 with
  | .nrm => true
  | .ret => true
  | _ => false) && (match o.2.df with
  | [] => true
  | _ => false) && (match xresults o.2.tm o.2.W res with
  | some [.bool true] => true
  | _ => false)
/-- a run in parts -/
inductive Chain (P : Program) (res : List ARes) : ASt → Code → Prop where
  | last {s : ASt} {c : Code} {outs : List (AEx × ASt)} (h : SimAt (CodeOf P) P none s outs [.code c]) (hg : outs.all (good res) = true) : Chain P res s c
  | part {s : ASt} {x y : Code} {outs : List (AEx × ASt)} (h : SimAt (CodeOf P) P none s outs [.code x]) (hn : ∀ o ∈ outs, o.1 = .nrm) (k : ∀ o ∈ outs, Chain P res o.2 y) : Chain P res s (.seq x y)
  | swap {s s' : ASt} {c : Code} (hs : ∀ ρ b a cs w, s.up = none → SR (CodeOf P) ρ none s b a cs w → ∃ ρ', SR (CodeOf P) ρ' none s' b a cs w ∧ (∀ j x, ρ' j = some x → ∃ g, ρ g = some x) ∧ s'.up = none) (k : Chain P res s' c) : Chain P res s c
  | forget {s : ASt} {c : Code} {W' : AW} (hn : W'.n = s.W.n) (hW : ∀ g, W'.get g = s.W.get g ∨ W'.get g = .dead) (k : Chain P res { s with W := W' } c) : Chain P res s c

theorem Chain.runs {res : List ARes} {s : ASt} {c : Code} (h : Chain P res s c) : ∀ (w0 : World) (ρ : Rho) (b : Frame) (a : Act) (kn : List Item) (cs : List Frame) (w : World), s.up = none → Far w0 w ρ → SR (CodeOf P) ρ none s b a cs w →
    ∃ o : AEx × ASt, good res o = true ∧ ∃ ρ' a' w', Far w0 w' ρ' ∧ SR (CodeOf P) ρ' none o.2 b a' cs w' ∧ o.2.up = none ∧ ∃ m, At b kn o.1 ρ' a' cs w' m ∧ Steps P (lone (b.atR a (.code c :: kn)) cs w) m := by
  induction h with
  | last h hg =>
    intro w0 ρ b a kn cs w hup hF hS
    obtain ⟨o, ho, m, hst, ρ', a', cs', w', hE, hS', hC, hu, hz, hat⟩ := h ρ b a kn cs w hS
    have hcs : cs' = cs := by
      have : CS _ cs cs' := hC
      rw [hup] at this; exact this
    subst hcs
    refine ⟨o, List.all_eq_true.1 hg o ho, ρ', a', w', hF.ext hE, hS', ?_, m, hat, hst⟩
    cases hu2 : o.2.up with
    | none => rfl
    | some q => rw [hu2, hup] at hu; cases hu
  | swap hs k ih =>
    intro w0 ρ b a kn cs w hup hF hS
    obtain ⟨ρ', h1, h2, h3⟩ := hs ρ b a cs w hup hS
    exact ih w0 ρ' b a kn cs w h3 ⟨hF.sz, hF.same, fun g b s e => by obtain ⟨g0, e0⟩ := h2 g _ e; exact hF.img g0 b s e0, hF.os, hF.output, hF.frz⟩ h1
  | forget hn hW k ih =>
    intro w0 ρ b a kn cs w hup hF hS
    exact ih w0 ρ b a kn cs w hup hF (hS.le ρ.le_refl (hS.W.forget hn hW))
  | part h hn k ih =>
    intro w0 ρ b a kn cs w hup hF hS
    rename_i s x y outs
    obtain ⟨o, ho, m, hst, ρ', a', cs', w', hE, hS', hC, hu, hz, hat⟩ := h ρ b a (.code y :: kn) cs w hS
    have hcs : cs' = cs := by
      have : CS _ cs cs' := hC
      rw [hup] at this; exact this
    subst hcs
    rw [hn o ho] at hat
    have hm : m = lone (b.atR a' (.code y :: kn)) cs' w' := hat
    subst hm
    have hup1 : o.2.up = none := by
      cases hu2 : o.2.up with
      | none => rfl
      | some q => simp only [hu2, hup] at hu; cases hu
    obtain ⟨o2, q1, ρ2, a2, w2, q2, q3, q4, m2, q5, q6⟩ := ih o ho w0 ρ' b a' kn cs' w' hup1 (hF.ext hE) hS'
    have hs1' : Steps P (lone (b.atR a (.code (.seq x y) :: kn)) cs' w) (lone (b.atR a' (.code y :: kn)) cs' w') := .head stepR_seq (by simpa using hst)
    exact ⟨o2, q1, ρ2, a2, w2, q2, q3, q4, m2, q5, hs1'.trans q6⟩

/-- what a closed function's call comes to, whatever the world -/
structure Sum (P : Program) (f : Nat) (v : AVal) : Prop where
  fn : ∃ fn, P.funcs[f]? = some fn ∧ fn.body.isSome = true ∧ (fn.name == "runtime.NumGoroutine") = false
  run : ∀ (w : World) (cs : List Frame), ∃ fr w', Steps P (lone (Frame.enter P f #[] .normal) cs w) (lone fr cs w') ∧ Far w w' (fun _ => none) ∧ fr.kind = .normal ∧ fr.fn = f ∧ fr.defers = [] ∧ fr.mode = .returning ∧
    ∃ fn, P.funcs[fr.fn]? = some fn ∧ ∀ ρ, okv ρ v ∧ (results fn fr.tmps).run P w' = .ok (cv ρ v) w'

theorem chain_sum {f : Nat} {F : AFunc} (hcomp : compFunc P f = some F)
    (H : ∀ c, compCode P c = some F.body → Chain P F.res { tm := .nil, sz := F.ntmps, df := [], up := none, W := { h := .nil, n := 0 } } c) : Sum P f (.bool true) := by
  unfold compFunc at hcomp
  split at hcomp
  · cases hcomp
  rename_i fn hfn
  cases hname : (fn.name == "runtime.NumGoroutine") <;> rw [hname] at hcomp
  case true => cases hcomp
  simp only [cond_false] at hcomp
  split at hcomp
  · cases hcomp
  rename_i c hbody
  split at hcomp
  case h_2 => cases hcomp
  rename_i res ac hres hcode
  cases hcomp
  refine ⟨⟨fn, hfn, by rw [hbody]; rfl, hname⟩, ?_⟩
  intro w cs
  have hch := H c hcode
  let b : Frame := { fn := f, tmps := #[], todo := [], defers := [], mode := .run, kind := .normal }
  let tmps : Array Value := Array.replicate fn.ntmps undef
  have hW0 : WR (CodeOf P) (fun _ => none) { h := .nil, n := 0 } w := ⟨(fun g b s e => nomatch e), (fun g1 g2 b s1 s2 _ e => nomatch e), trivial⟩
  have hS : SR (CodeOf P) (fun _ => none) none { tm := .nil, sz := fn.ntmps, df := [], up := none, W := { h := .nil, n := 0 } } b { tmps := tmps, defers := [] } cs w := by
    refine ⟨?_, by simp [tmps], trivial, rfl, hW0, rfl⟩
    intro t
    rw [Tr.get_nil]
    refine ⟨?_, trivial⟩
    simp only [tmps, Array.getD_eq_getD_getElem?]
    rw [Array.getElem?_replicate]
    split <;> rfl
  have hstart : Frame.enter P f #[] .normal = b.atR { tmps := tmps, defers := [] } (.code c :: []) := by
    simp [Frame.enter, hfn, hbody, Frame.atR, b, tmps]
  obtain ⟨o, hgood, ρ', a', w', hF, hS', hup, m, hat, hst⟩ := hch.runs w _ b _ [] cs w rfl (Far.start w) hS
  rw [← hstart] at hst
  simp only [good, Bool.and_eq_true] at hgood
  obtain ⟨⟨g1, g2⟩, g3⟩ := hgood
  have hdf : o.2.df = [] := by
    split at g2
    · assumption
    · cases g2
  have hvs : xresults o.2.tm o.2.W res = some [.bool true] := by
    split at g3
    · assumption
    · cases g3
  have hda : a'.defers = [] := by
    have := hS'.df
    rw [hdf] at this
    cases hd : a'.defers with
    | nil => rfl
    | cons d ds => rw [hd] at this; exact this.elim
  have hr := run_results (fn := fn) hS'.tm hS'.W hres hvs
  have fin : ∀ fr : Frame, Steps P m (lone fr cs w') → fr.fn = f → fr.kind = .normal → fr.defers = a'.defers → fr.tmps = a'.tmps → fr.mode = .returning →
      ∃ fr w1, Steps P (lone (Frame.enter P f #[] .normal) cs w) (lone fr cs w1) ∧ Far w w1 (fun _ => none) ∧ fr.kind = .normal ∧ fr.fn = f ∧ fr.defers = [] ∧ fr.mode = .returning ∧
        ∃ fn, P.funcs[fr.fn]? = some fn ∧ ∀ ρ, okv ρ (.bool true) ∧ (results fn fr.tmps).run P w1 = .ok (cv ρ (.bool true)) w1 := by
    intro fr h1 h2 h3 h4 h5 h6
    refine ⟨fr, w', hst.trans h1, ⟨hF.sz, hF.same, (fun _ _ _ e => nomatch e), hF.os, hF.output, hF.frz⟩, h3, h2, by rw [h4, hda], h6, fn, by rw [h2]; exact hfn, fun ρ => ⟨trivial, ?_⟩⟩
    rw [h5]
    have := hr.1
    simpa [oneOrTup, cv] using this
  split at g1
  · rename_i he
    rw [he] at hat
    have hm1 : m = lone (b.atR a' []) cs w' := hat
    subst hm1
    exact fin { b.atR a' [] with mode := .returning } (.one (stepR_end rfl)) rfl rfl rfl rfl rfl
  · rename_i he
    rw [he] at hat
    obtain ⟨k', rfl⟩ := hat
    exact fin { b.atR a' (.code .ret :: k') with mode := .returning } (.one (stepR_ret rfl)) rfl rfl rfl rfl rfl
  · cases g1
theorem Sum.calls {f : Nat} (h : Sum P f (.bool true)) (w : World) : Calls P f #[] w fun e w' => e = .returned (.bool true) ∧ Grown w w' := by
  intro cs
  obtain ⟨fr, w', h1, h2, h3, h4, h5, h6, fn, h7, h8⟩ := h.run w cs
  exact ⟨.returned (.bool true), w', fr, ⟨rfl, h2.grown⟩, h1, h4, h6, h5, h3, fn, h7, by simpa [cv] using (h8 (fun _ => none)).2⟩
theorem calls_chain {f : Nat} {F : AFunc} (hcomp : compFunc P f = some F)
    (H : ∀ c, compCode P c = some F.body → Chain P F.res { tm := .nil, sz := F.ntmps, df := [], up := none, W := { h := .nil, n := 0 } } c) (w : World) :
    Calls P f #[] w fun e w' => e = .returned (.bool true) ∧ Grown w w' := (chain_sum hcomp H).calls w
end Go.Eng

/- Engine 34: states that are told but for their garbage. -/
namespace Go.Eng
set_option linter.unusedVariables false
set_option linter.unusedSimpArgs false
variable {P : Program}
/-- but the blocks that are told of -/
def keepB (W : AW) : List Nat → Tr ABlk → Tr ABlk
  | [], t => t
  | g :: gs, t => keepB W gs (t.set g (W.get g))
def pruned (live : List Nat) (s : ASt) : ASt := { s with W := { h := keepB s.W live .nil, n := s.W.n } }
theorem keepB_get (W : AW) (k : Nat) : ∀ (live : List Nat) (t : Tr ABlk), ((t.get k).getD .dead = W.get k ∨ (t.get k).getD .dead = .dead) → ((keepB W live t).get k).getD .dead = W.get k ∨ ((keepB W live t).get k).getD .dead = .dead
  | [], t, h => h
  | g :: gs, t, h => by
    rw [keepB]
    refine keepB_get W k gs _ ?_
    rw [Tr.get_set]
    by_cases e : k = g
    · rw [if_pos e, e]; exact .inl rfl
    · rw [if_neg e]; exact h
def headC : ACode → ACode
  | .seq a _ => a
  | c => c
def tailC : ACode → ACode
  | .seq _ b => b
  | c => c
def nthC : Nat → ACode → ACode
  | 0, c => c
  | n + 1, c => nthC n (tailC c)
/-- each outcome, pruned -/
def prunedAll : List (List Nat) → List (AEx × ASt) → List (AEx × ASt)
  | l :: ls, (e, s) :: os => (e, pruned l s) :: prunedAll ls os
  | _, os => os
theorem prunedAll_mem : ∀ (ls : List (List Nat)) (os : List (AEx × ASt)) (o : AEx × ASt), o ∈ os → ∃ o' ∈ prunedAll ls os, o'.1 = o.1 ∧ (o' = o ∨ ∃ l, o'.2 = pruned l o.2)
  | [], os, o, h => ⟨o, h, rfl, .inl rfl⟩
  | l :: ls, [], o, h => by cases h
  | l :: ls, (e, s) :: os, o, h => by
    rcases List.mem_cons.1 h with rfl | h
    · exact ⟨_, List.mem_cons_self .., rfl, .inr ⟨l, rfl⟩⟩
    · obtain ⟨o', h1, h2⟩ := prunedAll_mem ls os o h
      exact ⟨o', List.mem_cons_of_mem _ h1, h2⟩
theorem Chain.of_pruned {res : List ARes} {l : List Nat} {s : ASt} {c : Code} (h : Chain P res (pruned l s) c) : Chain P res s c := by
  refine .forget (W' := { h := keepB s.W l .nil, n := s.W.n }) rfl (fun g => ?_) h
  exact keepB_get s.W g l .nil (.inr rfl)

/-- a part, told by the run of the abstract code -/
theorem Chain.step {AP : Nat → Option AFunc} (hm : P.follows .mixedOrders = true) (hAP : ∀ f F, AP f = some F → compFunc P f = some F) {n : Nat} {res : List ARes} {s : ASt} {x y : Code} {a : ACode} (hx : compCode P x = some a)
    {ls : List (List Nat)} {ss : List ASt} (hrun : ((exec AP (n + 1)).code none a s).map (prunedAll ls) = some (ss.map fun t => (.nrm, t))) (k : ∀ t ∈ ss, Chain P res t y) : Chain P res s (.seq x y) := by
  obtain ⟨outs, ho, he⟩ := map_some hrun
  have hsim := (exec_run (P := P) hm hAP (n + 1)).code _ _ _ _ ho x hx
  have key : ∀ o ∈ outs, o.1 = .nrm ∧ Chain P res o.2 y := by
    intro o hom
    obtain ⟨o', h1, h2, h3⟩ := prunedAll_mem ls outs o hom
    rw [he] at h1
    obtain ⟨t, ht, rfl⟩ := List.mem_map.1 h1
    refine ⟨h2.symm, ?_⟩
    rcases h3 with h3 | ⟨l, h3⟩
    · rw [← h3]; exact k t ht
    · have hk := k t ht
      simp only at h3
      rw [h3] at hk
      exact hk.of_pruned
  exact .part hsim (fun o ho => (key o ho).1) (fun o ho => (key o ho).2)
theorem Chain.stop {AP : Nat → Option AFunc} (hm : P.follows .mixedOrders = true) (hAP : ∀ f F, AP f = some F → compFunc P f = some F) {n : Nat} {res : List ARes} {s : ASt} {x : Code} {a : ACode} (hx : compCode P x = some a)
    (hrun : (match (exec AP (n + 1)).code none a s with | some outs => outs.all (good res) | none => false) = true) : Chain P res s x := by
  split at hrun
  · rename_i outs ho
    exact .last ((exec_run (P := P) hm hAP (n + 1)).code _ _ _ _ ho x hx) hrun
  · cases hrun
end Go.Eng

/- Engine 35: chains, linked; tables of functions. -/
namespace Go.Eng
set_option linter.unusedVariables false
set_option linter.unusedSimpArgs false
variable {P : Program}
def isSeqC : ACode → Bool
  | .seq _ _ => true
  | _ => false
theorem seq_parts : ∀ {c : ACode}, isSeqC c = true → c = .seq (headC c) (tailC c)
  | .seq _ _, _ => rfl
theorem nthC_succ : ∀ (n : Nat) (c : ACode), nthC (n + 1) c = tailC (nthC n c)
  | 0, c => rfl
  | n + 1, c => nthC_succ n (tailC c)
/-- the rest of a body, from a part on -/
def Rest (P : Program) (res : List ARes) (body : ACode) (i : Nat) (s : ASt) : Prop := ∀ c, compCode P c = some (nthC i body) → Chain P res s c
theorem Rest.link {AP : Nat → Option AFunc} (hm : P.follows .mixedOrders = true) (hAP : ∀ f F, AP f = some F → compFunc P f = some F) {n i : Nat} {res : List ARes} {body : ACode} {s : ASt} (hs : isSeqC (nthC i body) = true)
    {ls : List (List Nat)} {ss : List ASt} (hrun : ((exec AP (n + 1)).code none (headC (nthC i body)) s).map (prunedAll ls) = some (ss.map fun t => (.nrm, t))) (k : ∀ t ∈ ss, Rest P res body (i + 1) t) : Rest P res body i s := by
  intro c hc
  rw [seq_parts hs] at hc
  obtain ⟨x, y, rfl, hx, hy⟩ := compCode_seq hc
  refine Chain.step hm hAP hx hrun fun t ht => k t ht y ?_
  rw [nthC_succ]; exact hy
theorem Rest.stop {AP : Nat → Option AFunc} (hm : P.follows .mixedOrders = true) (hAP : ∀ f F, AP f = some F → compFunc P f = some F) {n i : Nat} {res : List ARes} {body : ACode} {s : ASt}
    (hrun : (match (exec AP (n + 1)).code none (nthC i body) s with | some outs => outs.all (good res) | none => false) = true) : Rest P res body i s :=
  fun _ hc => Chain.stop hm hAP hc hrun

/-- all that a trie tells is so -/
def Tr.Good {α : Type} (p : Nat → α → Prop) : Tr α → (Nat → Nat) → Prop
  | .nil, _ => True
  | .node v l r, k => (match v with
    | some x => p (k 0) x
    | none => True) ∧ Good p l (fun i => k (2 * i + 1)) ∧ Good p r (fun i => k (2 * i + 2))
theorem Tr.Good.get {α : Type} {p : Nat → α → Prop} : ∀ {t : Tr α} {k : Nat → Nat} {n : Nat} {x : α}, Tr.Good p t k → t.get n = some x → p (k n) x
  | .nil, _, _, _, _, h => by cases h
  | .node v l r, k, n, x, hg, h => by
    obtain ⟨h1, h2, h3⟩ := hg
    by_cases h0 : n = 0
    · subst h0
      have : v = some x := by simpa [Tr.get] using h
      subst this; exact h1
    · have e0 : Nat.beq n 0 = false := Bool.eq_false_iff.2 (fun e => h0 (Nat.eq_of_beq_eq_true e))
      simp only [Tr.get, e0, cond_false] at h
      cases hp : Nat.beq (n % 2) 1 with
      | true =>
        rw [hp] at h
        have := Nat.eq_of_beq_eq_true hp
        have := h2.get h
        rwa [show 2 * (n / 2) + 1 = n by omega] at this
      | false =>
        rw [hp] at h
        have : n % 2 ≠ 1 := fun e => by rw [e] at hp; cases hp
        have := h3.get h
        rwa [show 2 * (n / 2 - 1) + 2 = n by omega] at this
end Go.Eng

/- Engine F1: the same run, told in recursors that the kernel takes fast: tries, heaps, operations. -/
namespace Go.Eng
set_option linter.unusedVariables false
set_option linter.unusedSimpArgs false
noncomputable section
section
variable {α : Type}
def Tr.getF : Tr α → Nat → Option α :=
  @Tr.rec α (fun _ => Nat → Option α) (fun _ => none) (fun v _ _ gl gr n =>
    @Bool.rec (fun _ => Option α) (@Bool.rec (fun _ => Option α) (gr (Nat.sub (Nat.div n 2) 1)) (gl (Nat.div n 2)) (Nat.beq (Nat.mod n 2) 1)) v (Nat.beq n 0))
theorem Tr.getF_eq : ∀ (t : Tr α) (n : Nat), t.getF n = t.get n
  | .nil, n => rfl
  | .node v l r, n => by
    have h : (Tr.node v l r).getF n = @Bool.rec (fun _ => Option α) (@Bool.rec (fun _ => Option α) (r.getF (Nat.sub (Nat.div n 2) 1)) (l.getF (Nat.div n 2)) (Nat.beq (Nat.mod n 2) 1)) v (Nat.beq n 0) := rfl
    rw [h, Tr.get, Tr.getF_eq r, Tr.getF_eq l]
    show _ = bif Nat.beq n 0 then v else bif Nat.beq (Nat.mod n 2) 1 then l.get (Nat.div n 2) else r.get (Nat.sub (Nat.div n 2) 1)
    cases Nat.beq n 0 <;> cases Nat.beq (Nat.mod n 2) 1 <;> rfl
def Tr.put : Tr α → Nat → α → Tr α :=
  @Tr.rec α (fun _ => Nat → α → Tr α) (fun n x => Tr.setF (Nat.succ n) .nil n x) (fun v l r sl sr n x =>
    @Bool.rec (fun _ => Tr α) (@Bool.rec (fun _ => Tr α) (.node v l (sr (Nat.sub (Nat.div n 2) 1) x)) (.node v (sl (Nat.div n 2) x) r) (Nat.beq (Nat.mod n 2) 1)) (.node (some x) l r) (Nat.beq n 0))
theorem Tr.setF_fuel : ∀ (f g : Nat) (t : Tr α) (n : Nat) (x : α), n < f → n < g → Tr.setF f t n x = Tr.setF g t n x := by
  intro f
  induction f with
  | zero => intro g t n x h; omega
  | succ f ih =>
    intro g t n x hf hg
    obtain ⟨g, rfl⟩ : ∃ m, g = m + 1 := ⟨g - 1, by omega⟩
    by_cases h0 : n = 0
    · subst h0
      cases t <;> simp [Tr.setF]
    · have e0 : Nat.beq n 0 = false := Bool.eq_false_iff.2 (fun e => h0 (Nat.eq_of_beq_eq_true e))
      cases t with
      | nil => simp only [Tr.setF, e0, cond_false]; rw [ih g .nil (n / 2) x (by omega) (by omega), ih g .nil (n / 2 - 1) x (by omega) (by omega)]
      | node v l r => simp only [Tr.setF, e0, cond_false]; rw [ih g l (n / 2) x (by omega) (by omega), ih g r (n / 2 - 1) x (by omega) (by omega)]
theorem Tr.put_eq : ∀ (t : Tr α) (n : Nat) (x : α), t.put n x = t.set n x
  | .nil, n, x => rfl
  | .node v l r, n, x => by
    have h : (Tr.node v l r).put n x = @Bool.rec (fun _ => Tr α) (@Bool.rec (fun _ => Tr α) (.node v l (r.put (Nat.sub (Nat.div n 2) 1) x)) (.node v (l.put (Nat.div n 2) x) r) (Nat.beq (Nat.mod n 2) 1)) (.node (some x) l r) (Nat.beq n 0) := rfl
    rw [h, Tr.put_eq r, Tr.put_eq l]
    by_cases h0 : n = 0
    · subst h0; rfl
    · have e0 : Nat.beq n 0 = false := Bool.eq_false_iff.2 (fun e => h0 (Nat.eq_of_beq_eq_true e))
      have e1 : (Tr.node v l r).set n x = bif Nat.beq (Nat.mod n 2) 1 then .node v (l.set (Nat.div n 2) x) r else .node v l (r.set (Nat.sub (Nat.div n 2) 1) x) := by
        simp only [Tr.set, Tr.setF, e0, cond_false]
        rw [Tr.setF_fuel n (n / 2 + 1) l (n / 2) x (by omega) (by omega), Tr.setF_fuel n (n / 2 - 1 + 1) r (n / 2 - 1) x (by omega) (by omega)]
        rfl
      rw [e1, e0]
      cases Nat.beq (Nat.mod n 2) 1 <;> rfl
end
def tgetF (tm : Tr AVal) (t : Nat) : AVal := @Option.rec AVal (fun _ => AVal) aundef (fun v => v) (tm.getF t)
theorem tgetF_eq (tm : Tr AVal) (t : Nat) : tgetF tm t = (tm.get t).getD aundef := by
  unfold tgetF; rw [Tr.getF_eq]; cases tm.get t <;> rfl
def aevR : AO → Tr AVal → AVal := @AO.rec (fun _ => Tr AVal → AVal) (fun n tm => tgetF tm n) (fun v _ => v)
def aevF (tm : Tr AVal) (o : AO) : AVal := aevR o tm
theorem aevF_eq (tm : Tr AVal) : aevF tm = aev tm := by
  funext o; cases o with
  | t n => exact tgetF_eq tm n
  | c v => rfl
def tputO (tm : Tr AVal) (sz : Nat) (dst : Option Nat) (v : AVal) : Tr AVal := @Option.rec Nat (fun _ => Tr AVal) tm (fun d => @Bool.rec (fun _ => Tr AVal) (tm.put d v) tm (Nat.ble sz d)) dst
theorem put_eq (tm : Tr AVal) (sz : Nat) (df : List ADefer) (up : Option AMode) (W W' : AW) (dst : Option Nat) (v : AVal) :
    ({ ASt.put ⟨tm, sz, df, up, W⟩ dst v with W := W' } : ASt) = ⟨tputO tm sz dst v, sz, df, up, W'⟩ := by
  cases dst with
  | none => rfl
  | some d =>
    simp only [ASt.put, tputO, tput, Tr.put_eq]
    cases Nat.ble sz d <;> rfl

def AW.getF (W : AW) (g : Nat) : ABlk := @Option.rec ABlk (fun _ => ABlk) .dead (fun b => b) (W.h.getF g)
theorem AW.getF_eq (W : AW) (g : Nat) : W.getF g = W.get g := by
  unfold AW.getF AW.get; rw [Tr.getF_eq]; cases W.h.get g <;> rfl
def AW.setF (W : AW) (g : Nat) (b : ABlk) : AW := @AW.rec (fun _ => AW) (fun h n => ⟨h.put g b, n⟩) W
theorem AW.setF_eq (W : AW) (g : Nat) (b : ABlk) : W.setF g b = W.set g b := by
  cases W; simp only [AW.setF, AW.set, Tr.put_eq]
def AW.pushF (W : AW) (b : ABlk) : AW := @AW.rec (fun _ => AW) (fun h n => ⟨h.put n b, Nat.succ n⟩) W
theorem AW.pushF_eq (W : AW) (b : ABlk) : W.pushF b = W.push b := by
  cases W; simp only [AW.pushF, AW.push, Tr.put_eq]
def layF : List AVal → Nat → List AVal → List AVal := @List.rec AVal (fun _ => Nat → List AVal → List AVal) (fun _ _ => []) (fun c cs ih i vs =>
  @Nat.rec (fun _ => List AVal) (@List.rec AVal (fun _ => List AVal) (c :: cs) (fun v vs _ => v :: ih 0 vs) vs) (fun i _ => c :: ih i vs) i)
theorem layF_eq : ∀ (cs : List AVal) (i : Nat) (vs : List AVal), layF cs i vs = lay cs i vs
  | [], _, _ => rfl
  | c :: cs, 0, [] => rfl
  | _ :: cs, 0, v :: vs => by show v :: layF cs 0 vs = _; rw [layF_eq]; rfl
  | c :: cs, i + 1, vs => by show c :: layF cs i vs = _; rw [layF_eq]; rfl
def AW.storesF (W : AW) (g i : Nat) (vs : List AVal) : Option AW :=
  match W.getF g with
  | .cells cs e esz own tip anc =>
    bif tip && Nat.ble (i + vs.length) cs.length && vs.all AVal.one then
      bif Nat.ble own i || vs.isEmpty then some (W.setF g (.cells (layF cs i vs) e esz own tip anc))
      else some ((W.kill anc).setF g (.cells (layF cs i vs) e esz 0 tip []))
    else none
  | _ => none
theorem AW.storesF_eq (W : AW) (g i : Nat) (vs : List AVal) : W.storesF g i vs = W.stores g i vs := by
  (  simp only [AW.storesF, AW.stores, AW.getF_eq, AW.setF_eq, layF_eq]) <;> rfl
def AW.grownF (W : AW) (g : Nat) (cs : List AVal) (e esz own : Nat) (anc : List Nat) (vs : List AVal) : AW :=
  (W.setF g (.cells cs e esz own false anc)).pushF (.cells (cs ++ vs) e esz cs.length true (g :: anc))
theorem AW.grownF_eq (W : AW) (g : Nat) (cs : List AVal) (e esz own : Nat) (anc : List Nat) (vs : List AVal) : W.grownF g cs e esz own anc vs = W.grown g cs e esz own anc vs := by
  simp only [AW.grownF, AW.grown, AW.pushF_eq, AW.setF_eq]
def abinI (op : BinOp) (k : IntKind) (a : Int) (k' : IntKind) (b : Int) : Option AVal :=
  match op with
  | .shl => if b < 0 then none else some (.int k (k.wrap (a * 2 ^ (min b.toNat k.bits))))
  | .shr => if b < 0 then none else some (.int k (a.fdiv (2 ^ (min b.toNat k.bits))))
  | op => if k = k' then intBin op k a b else none
def abinF (op : BinOp) (x y : AVal) : Option AVal :=
  match x with
  | .int k a => match y with
    | .int k' b => abinI op k a k' b
    | _ => none
  | .str a => match y with
    | .str b => strBin op a b
    | _ => none
  | _ => none
theorem abinF_eq (op : BinOp) (x y : AVal) : abinF op x y = abin op x y := by
  cases x <;> cases y <;> cases op <;> rfl
def aentriesF (W : AW) (ks : List KC) (agg : Bool) : AVal → Option (List AEntry)
  | .map0 => some []
  | .map r => match W.getF r with
    | .map es _ => bif es.all (fun x => akey ks agg x.1) then some es else none
    | _ => none
  | _ => none
theorem aentriesF_eq (W : AW) (ks : List KC) (agg : Bool) (v : AVal) : aentriesF W ks agg v = aentries W ks agg v := by
  (  cases v <;> simp only [aentriesF, aentries, AW.getF_eq]) <;> rfl
def amapOfF (W : AW) (ks : List KC) (agg : Bool) (k : AVal) : AVal → Option (Nat × List AEntry × Nat)
  | .map r => match W.getF r with
    | .map es clock => bif akey ks agg k && es.all (fun x => akey ks agg x.1) then some (r, es, clock) else none
    | _ => none
  | _ => none
theorem amapOfF_eq (W : AW) (ks : List KC) (agg : Bool) (k v : AVal) : amapOfF W ks agg k v = amapOf W ks agg k v := by
  (  cases v <;> simp only [amapOfF, amapOf, AW.getF_eq]) <;> rfl
def anextF (W : AW) (g : Nat) : Option (List AOut) :=
  match W.getF g with
  | .iter none _ _ _ => some [.val (.tup [.bool false]) W]
  | .iter (some r) since seen stepped => match W.getF r with
    | .map es clock =>
      bif !seen.isEmpty && !es.isEmpty && es.all (fun x => decide (x.2.2 ≥ stepped)) then none else
      let left := es.filter fun x => !seen.contains x.2.2
      let old := left.filter fun x => decide (x.2.2 < since)
      let new := left.filter fun x => decide (x.2.2 ≥ since)
      some ((bif old.isEmpty then [.val (.tup [.bool false]) W] else []) ++ (old ++ new).map fun x => .val (.tup [.bool true, x.1, x.2.1]) (W.setF g (.iter (some r) since (seen ++ [x.2.2]) clock)))
    | _ => none
  | _ => none
theorem anextF_eq (W : AW) (g : Nat) : anextF W g = anext W g := by
  (  simp only [anextF, anext, AW.getF_eq, AW.setF_eq]) <;> rfl
def aentryF (W : AW) (g : Nat) : Option AVal :=
  match W.getF g with
  | .iter (some r) since seen stepped => match W.getF r, seen.getLast? with
    | .map es clock, some stamp => bif Nat.beq clock stepped then match es.find? (fun x => x.2.2 == stamp) with
        | some x => some (.tup [x.1, x.2.1])
        | none => none
      else none
    | _, _ => none
  | _ => none
theorem aentryF_eq (W : AW) (g : Nat) : aentryF W g = aentry W g := by
  (  simp only [aentryF, aentry, AW.getF_eq]) <;> rfl
def fAlloc (ev : AO → AVal) (W : AW) (e : Nat) (z : List AVal) : Option (List AOut) := some [.val (.ptr W.n 0) (W.pushF (.cells z e 0 0 true []))]
theorem fAlloc_eq : fAlloc = xAlloc := by
  funext ev W v0 v1
  simp only [fAlloc, xAlloc, AW.getF_eq, AW.pushF_eq, AW.setF_eq, AW.storesF_eq, AW.grownF_eq, abinF_eq, aentriesF_eq, amapOfF_eq, anextF_eq, aentryF_eq] <;> rfl
def fBox (ev : AO → AVal) (W : AW) (e : Nat) (x : AO) : Option (List AOut) := some [.val (.ptr W.n 0) (W.pushF (.cells (acells (ev x)) e 0 0 true []))]
theorem fBox_eq : fBox = xBox := by
  funext ev W v0 v1
  simp only [fBox, xBox, AW.getF_eq, AW.pushF_eq, AW.setF_eq, AW.storesF_eq, AW.grownF_eq, abinF_eq, aentriesF_eq, amapOfF_eq, anextF_eq, aentryF_eq] <;> rfl
def fBuildSlice (ev : AO → AVal) (W : AW) (e : Nat) (len : Nat) (esz : Nat) (z : List AVal) (ps : List (Nat × Nat × AO)) : Option (List AOut) := match layParts ev z ps with
    | some cs => some [.val (.sl W.n 0 len len false) (W.pushF (.cells cs e esz 0 true []))]
    | none => none
theorem fBuildSlice_eq : fBuildSlice = xBuildSlice := by
  funext ev W v0 v1 v2 v3 v4
  simp only [fBuildSlice, xBuildSlice, AW.getF_eq, AW.pushF_eq, AW.setF_eq, AW.storesF_eq, AW.grownF_eq, abinF_eq, aentriesF_eq, amapOfF_eq, anextF_eq, aentryF_eq] <;> rfl
def fLoad1 (ev : AO → AVal) (W : AW) (a : AO) : Option (List AOut) := match ev a with
    | .ptr g o => match W.getF g with
      | .cells cs _ _ _ _ _ => match cs[o]? with
        | some v => some [.val v W]
        | none => none
      | _ => none
    | _ => none
theorem fLoad1_eq : fLoad1 = xLoad1 := by
  funext ev W v0
  simp only [fLoad1, xLoad1, AW.getF_eq, AW.pushF_eq, AW.setF_eq, AW.storesF_eq, AW.grownF_eq, abinF_eq, aentriesF_eq, amapOfF_eq, anextF_eq, aentryF_eq] <;> rfl
def fLoadN (ev : AO → AVal) (W : AW) (n : Nat) (a : AO) : Option (List AOut) := match ev a with
    | .ptr g o => match W.getF g with
      | .cells cs _ _ _ _ _ => bif Nat.ble (o + n) cs.length then some [.val (.agg ((cs.drop o).take n)) W] else none
      | _ => none
    | _ => none
theorem fLoadN_eq : fLoadN = xLoadN := by
  funext ev W v0 v1
  simp only [fLoadN, xLoadN, AW.getF_eq, AW.pushF_eq, AW.setF_eq, AW.storesF_eq, AW.grownF_eq, abinF_eq, aentriesF_eq, amapOfF_eq, anextF_eq, aentryF_eq] <;> rfl
def fStore (ev : AO → AVal) (W : AW) (n : Nat) (a : AO) (x : AO) : Option (List AOut) := match ev a with
    | .ptr g o => bif Nat.beq (acells (ev x)).length n then
        match W.storesF g o (acells (ev x)) with
        | some W' => some [.val aundef W']
        | none => none
      else none
    | _ => none
theorem fStore_eq : fStore = xStore := by
  funext ev W v0 v1 v2
  simp only [fStore, xStore, AW.getF_eq, AW.pushF_eq, AW.setF_eq, AW.storesF_eq, AW.grownF_eq, abinF_eq, aentriesF_eq, amapOfF_eq, anextF_eq, aentryF_eq] <;> rfl
def fBin (ev : AO → AVal) (W : AW) (op : BinOp) (x : AO) (y : AO) : Option (List AOut) := match abinF op (ev x) (ev y) with
    | some v => some [.val v W]
    | none => none
theorem fBin_eq : fBin = xBin := by
  funext ev W v0 v1 v2
  simp only [fBin, xBin, AW.getF_eq, AW.pushF_eq, AW.setF_eq, AW.storesF_eq, AW.grownF_eq, abinF_eq, aentriesF_eq, amapOfF_eq, anextF_eq, aentryF_eq] <;> rfl
def fLen (ev : AO → AVal) (W : AW) (k : LK) (x : AO) : Option (List AOut) := match k, ev x with
    | .sl, .sl0 => some [.val (.int .i64 0) W]
    | .sl, .sl _ _ n _ _ => some [.val (.int .i64 n) W]
    | .sl, .slT _ _ _ => some [.val (.int .i64 0) W]
    | .str, .str s => some [.val (.int .i64 s.size) W]
    | .mp, .map0 => some [.val (.int .i64 0) W]
    | .mp, .map r => match W.getF r with
      | .map es _ => some [.val (.int .i64 es.length) W]
      | _ => none
    | _, _ => none
theorem fLen_eq : fLen = xLen := by
  funext ev W v0 v1
  simp only [fLen, xLen, AW.getF_eq, AW.pushF_eq, AW.setF_eq, AW.storesF_eq, AW.grownF_eq, abinF_eq, aentriesF_eq, amapOfF_eq, anextF_eq, aentryF_eq] <;> rfl
def fAppend (ev : AO → AVal) (W : AW) (e : Nat) (sz : Nat) (bytes : Nat) (z : List AVal) (s : AO) (x : AO) : Option (List AOut) :=
    match (match ev x with
      | .sl0 => some ([], 0)
      | .slT _ _ _ => some ([], 0)
      | .sl g o n _ _ => match W.getF g with
        | .cells cs _ _ _ _ _ => bif Nat.ble (o + n * sz) cs.length then some ((cs.drop o).take (n * sz), n) else none
        | _ => none
      | _ => none) with
    | none => none
    | some (new, n) =>
      match ev s with
      | .sl0 => bif Nat.beq n 0 then some [.val .sl0 W] else
          bif Nat.ble n 1048576 then some [.val (.sl W.n 0 n n true) (W.pushF (.cells new e sz 0 true []))] else none
      | .sl g o len cap op =>
        bif Nat.ble (len + n) cap then
          match W.storesF g (o + len * sz) new with
          | some W' => some [.val (.sl g o (len + n) cap op) W']
          | none => none
        else bif !Nat.ble (len + n) 1048576 then none else
          match W.getF g with
          | .cells cs e' esz own tip anc =>
            bif op then
              bif Nat.beq o 0 && Nat.beq len cap && Nat.beq (len * sz) cs.length && tip && Nat.beq esz sz && Nat.beq e' e && new.all AVal.one then
                some [.val (.sl W.n 0 (len + n) (len + n) true) (W.grownF g cs e esz own anc new)]
              else none
            else bif Nat.ble (o + len * sz) cs.length then some [.val (.sl W.n 0 (len + n) (len + n) true) (W.pushF (.cells ((cs.drop o).take (len * sz) ++ new) e sz 0 true []))] else none
          | _ => none
      | _ => none
theorem fAppend_eq : fAppend = xAppend := by
  funext ev W v0 v1 v2 v3 v4 v5
  simp only [fAppend, xAppend, AW.getF_eq, AW.pushF_eq, AW.setF_eq, AW.storesF_eq, AW.grownF_eq, abinF_eq, aentriesF_eq, amapOfF_eq, anextF_eq, aentryF_eq] <;> rfl
def fCopy (ev : AO → AVal) (W : AW) (sz : Nat) (d : AO) (s : AO) : Option (List AOut) :=
    match ev d, ev s with
    | .sl0, .sl0 | .sl0, .sl .. | .sl .., .sl0 => some [.val (.int .i64 0) W]
    | .sl g o len _ _, .sl g2 o2 n _ _ =>
      match W.getF g2 with
      | .cells cs _ _ _ _ _ => bif Nat.ble (o2 + Nat.min n len * sz) cs.length then
          match W.storesF g o ((cs.drop o2).take (Nat.min n len * sz)) with
          | some W' => some [.val (.int .i64 (Nat.min n len)) W']
          | none => none
        else none
      | _ => none
    | _, _ => none
theorem fCopy_eq : fCopy = xCopy := by
  funext ev W v0 v1 v2
  simp only [fCopy, xCopy, AW.getF_eq, AW.pushF_eq, AW.setF_eq, AW.storesF_eq, AW.grownF_eq, abinF_eq, aentriesF_eq, amapOfF_eq, anextF_eq, aentryF_eq] <;> rfl
def fClear (ev : AO → AVal) (W : AW) (z : List AVal) (x : AO) : Option (List AOut) :=
    match ev x with
    | .sl0 => some [.val (.tup []) W]
    | .sl g o n _ _ => bif Nat.beq n 0 then some [.val (.tup []) W] else match W.storesF g o (zeroRow z (n * z.length)) with
        | some W' => some [.val (.tup []) W']
        | none => none
    | _ => none
theorem fClear_eq : fClear = xClear := by
  funext ev W v0 v1
  simp only [fClear, xClear, AW.getF_eq, AW.pushF_eq, AW.setF_eq, AW.storesF_eq, AW.grownF_eq, abinF_eq, aentriesF_eq, amapOfF_eq, anextF_eq, aentryF_eq] <;> rfl
def fMkSlice (ev : AO → AVal) (W : AW) (e : Nat) (esz : Nat) (bytes : Nat) (z : List AVal) (l : AO) (c : AO) : Option (List AOut) :=
    match ev l, ev c with
    | .int _ l, .int _ c => bif decide (0 ≤ l ∧ l ≤ c ∧ c ≤ 1048576) then
        some [.val (.sl W.n 0 l.toNat c.toNat false) (W.pushF (.cells (zeroRow z (c.toNat * esz)) e esz 0 true []))] else none
    | _, _ => none
theorem fMkSlice_eq : fMkSlice = xMkSlice := by
  funext ev W v0 v1 v2 v3 v4 v5
  simp only [fMkSlice, xMkSlice, AW.getF_eq, AW.pushF_eq, AW.setF_eq, AW.storesF_eq, AW.grownF_eq, abinF_eq, aentriesF_eq, amapOfF_eq, anextF_eq, aentryF_eq] <;> rfl
def fMkMap (ev : AO → AVal) (W : AW) (r : Option AO) : Option (List AOut) := match r with
    | none => some [.val (.map W.n) (W.pushF (.map [] 0))]
    | some x => match ev x with
      | .int _ _ => some [.val (.map W.n) (W.pushF (.map [] 0))]
      | _ => none
theorem fMkMap_eq : fMkMap = xMkMap := by
  funext ev W v0
  simp only [fMkMap, xMkMap, AW.getF_eq, AW.pushF_eq, AW.setF_eq, AW.storesF_eq, AW.grownF_eq, abinF_eq, aentriesF_eq, amapOfF_eq, anextF_eq, aentryF_eq] <;> rfl
def fLookup (ev : AO → AVal) (W : AW) (ks : List KC) (agg : Bool) (zero : AVal) (m : AO) (k : AO) (ok : Bool) : Option (List AOut) :=
    bif akey ks agg (ev k) then match aentriesF W ks agg (ev m) with
      | none => none
      | some es => match ahits (ev k) es with
        | [] => some [.val (bif ok then .tup [zero, .bool false] else zero) W]
        | [x] => some [.val (bif ok then .tup [x.2.1, .bool true] else x.2.1) W]
        | _ => none
    else none
theorem fLookup_eq : fLookup = xLookup := by
  funext ev W v0 v1 v2 v3 v4 v5
  simp only [fLookup, xLookup, AW.getF_eq, AW.pushF_eq, AW.setF_eq, AW.storesF_eq, AW.grownF_eq, abinF_eq, aentriesF_eq, amapOfF_eq, anextF_eq, aentryF_eq] <;> rfl
def fMapUpdate (ev : AO → AVal) (W : AW) (ks : List KC) (agg : Bool) (m : AO) (k : AO) (v : AO) : Option (List AOut) := match amapOfF W ks agg (ev k) (ev m) with
    | none => none
    | some (r, es, clock) => match ahits (ev k) es with
      | [] => some [.val aundef (W.setF r (.map (es ++ [(ev k, ev v, clock)]) (clock + 1)))]
      | [_] => some [.val aundef (W.setF r (.map (aput (ev k) (ev v) es) clock))]
      | _ => none
theorem fMapUpdate_eq : fMapUpdate = xMapUpdate := by
  funext ev W v0 v1 v2 v3 v4
  simp only [fMapUpdate, xMapUpdate, AW.getF_eq, AW.pushF_eq, AW.setF_eq, AW.storesF_eq, AW.grownF_eq, abinF_eq, aentriesF_eq, amapOfF_eq, anextF_eq, aentryF_eq] <;> rfl
def fMapEntry (ev : AO → AVal) (W : AW) (ks : List KC) (agg : Bool) (zero : AVal) (m : AO) (k : AO) : Option (List AOut) := match amapOfF W ks agg (ev k) (ev m) with
    | none => none
    | some (r, es, clock) => match ahits (ev k) es with
      | [] => some [.val (.tup [zero, .int .i64 clock]) (W.setF r (.map (es ++ [(ev k, zero, clock)]) (clock + 1)))]
      | [x] => some [.val (.tup [x.2.1, .int .i64 x.2.2]) (W.setF r (.map es clock))]
      | _ => none
theorem fMapEntry_eq : fMapEntry = xMapEntry := by
  funext ev W v0 v1 v2 v3 v4
  simp only [fMapEntry, xMapEntry, AW.getF_eq, AW.pushF_eq, AW.setF_eq, AW.storesF_eq, AW.grownF_eq, abinF_eq, aentriesF_eq, amapOfF_eq, anextF_eq, aentryF_eq] <;> rfl
def fEntryStore (ev : AO → AVal) (W : AW) (m : AO) (s : AO) (v : AO) : Option (List AOut) := match ev m, ev s with
    | .map r, .int _ n => match W.getF r with
      | .map es clock => bif decide (0 ≤ n) then match aborn n.toNat (ev v) es with
          | some es' => some [.val aundef (W.setF r (.map es' clock))]
          | none => none
        else none
      | _ => none
    | _, _ => none
theorem fEntryStore_eq : fEntryStore = xEntryStore := by
  funext ev W v0 v1 v2
  simp only [fEntryStore, xEntryStore, AW.getF_eq, AW.pushF_eq, AW.setF_eq, AW.storesF_eq, AW.grownF_eq, abinF_eq, aentriesF_eq, amapOfF_eq, anextF_eq, aentryF_eq] <;> rfl
def fDelete (ev : AO → AVal) (W : AW) (ks : List KC) (agg : Bool) (m : AO) (k : AO) : Option (List AOut) := match ev m with
    | .map0 => bif akey ks agg (ev k) then some [.val aundef W] else none
    | m' => match amapOfF W ks agg (ev k) m' with
      | none => none
      | some (r, es, clock) => match ahits (ev k) es with
        | [] => some [.val aundef (W.setF r (.map es clock))]
        | [_] => some [.val aundef (W.setF r (.map (adel (ev k) es) clock))]
        | _ => none
theorem fDelete_eq : fDelete = xDelete := by
  funext ev W v0 v1 v2 v3
  simp only [fDelete, xDelete, AW.getF_eq, AW.pushF_eq, AW.setF_eq, AW.storesF_eq, AW.grownF_eq, abinF_eq, aentriesF_eq, amapOfF_eq, anextF_eq, aentryF_eq] <;> rfl
def fRange (ev : AO → AVal) (W : AW) (m : AO) : Option (List AOut) := match ev m with
    | .map0 => some [.val (.ptr W.n 0) (W.pushF (.iter none 0 [] 0))]
    | .map r => match W.getF r with
      | .map _ clock => some [.val (.ptr W.n 0) (W.pushF (.iter (some r) clock [] clock))]
      | _ => none
    | _ => none
theorem fRange_eq : fRange = xRange := by
  funext ev W v0
  simp only [fRange, xRange, AW.getF_eq, AW.pushF_eq, AW.setF_eq, AW.storesF_eq, AW.grownF_eq, abinF_eq, aentriesF_eq, amapOfF_eq, anextF_eq, aentryF_eq] <;> rfl
def fNext (ev : AO → AVal) (W : AW) (it : AO) : Option (List AOut) := match ev it with
    | .ptr g 0 => anextF W g
    | _ => none
theorem fNext_eq : fNext = xNext := by
  funext ev W v0
  simp only [fNext, xNext, AW.getF_eq, AW.pushF_eq, AW.setF_eq, AW.storesF_eq, AW.grownF_eq, abinF_eq, aentriesF_eq, amapOfF_eq, anextF_eq, aentryF_eq] <;> rfl
def fEntry (ev : AO → AVal) (W : AW) (it : AO) : Option (List AOut) := match ev it with
    | .ptr g 0 => match aentryF W g with
      | some v => some [.val v W]
      | none => none
    | _ => none
theorem fEntry_eq : fEntry = xEntry := by
  funext ev W v0
  simp only [fEntry, xEntry, AW.getF_eq, AW.pushF_eq, AW.setF_eq, AW.storesF_eq, AW.grownF_eq, abinF_eq, aentriesF_eq, amapOfF_eq, anextF_eq, aentryF_eq] <;> rfl
def xopF : AOp → Tr AVal → AW → Option (List AOut) := @AOp.rec (fun _ => Tr AVal → AW → Option (List AOut))
  (fun v0 tm W => xMove (aevF tm) W v0)
  (fun v0 v1 v2 tm W => xPick (aevF tm) W v0 v1 v2)
  (fun v0 v1 tm W => fAlloc (aevF tm) W v0 v1)
  (fun v0 v1 tm W => fBox (aevF tm) W v0 v1)
  (fun v0 v1 tm W => xBuild (aevF tm) W v0 v1)
  (fun v0 v1 v2 v3 v4 tm W => fBuildSlice (aevF tm) W v0 v1 v2 v3 v4)
  (fun v0 tm W => fLoad1 (aevF tm) W v0)
  (fun v0 v1 tm W => fLoadN (aevF tm) W v0 v1)
  (fun v0 v1 v2 tm W => fStore (aevF tm) W v0 v1 v2)
  (fun v0 tm W => xNilCheck (aevF tm) W v0)
  (fun v0 v1 v2 tm W => fBin (aevF tm) W v0 v1 v2)
  (fun v0 v1 v2 v3 tm W => xEqs (aevF tm) W v0 v1 v2 v3)
  (fun v0 v1 v2 tm W => xEqb (aevF tm) W v0 v1 v2)
  (fun v0 v1 v2 v3 tm W => xIsNil (aevF tm) W v0 v1 v2 v3)
  (fun v0 v1 tm W => xUn (aevF tm) W v0 v1)
  (fun v0 v1 tm W => xConv (aevF tm) W v0 v1)
  (fun v0 v1 tm W => xMkIface (aevF tm) W v0 v1)
  (fun v0 v1 v2 tm W => xMkFunc (aevF tm) W v0 v1 v2)
  (fun v0 tm W => fMkMap (aevF tm) W v0)
  (fun v0 v1 v2 v3 v4 v5 tm W => fMkSlice (aevF tm) W v0 v1 v2 v3 v4 v5)
  (fun v0 v1 v2 v3 v4 tm W => xSlice (aevF tm) W v0 v1 v2 v3 v4)
  (fun v0 v1 v2 tm W => none)
  (fun v0 v1 v2 v3 v4 v5 tm W => xSliceArr (aevF tm) W v0 v1 v2 v3 v4 v5)
  (fun v0 v1 tm W => xFieldAddr (aevF tm) W v0 v1)
  (fun v0 v1 v2 v3 tm W => xField (aevF tm) W v0 v1 v2 v3)
  (fun v0 v1 v2 v3 tm W => xIndexAddrA (aevF tm) W v0 v1 v2 v3)
  (fun v0 v1 v2 tm W => xIndexAddrS (aevF tm) W v0 v1 v2)
  (fun v0 v1 v2 v3 v4 tm W => xIndex (aevF tm) W v0 v1 v2 v3 v4)
  (fun v0 v1 tm W => xIndexStr (aevF tm) W v0 v1)
  (fun v0 v1 v2 v3 v4 v5 tm W => fLookup (aevF tm) W v0 v1 v2 v3 v4 v5)
  (fun v0 v1 v2 v3 v4 tm W => fMapUpdate (aevF tm) W v0 v1 v2 v3 v4)
  (fun v0 v1 v2 v3 v4 tm W => fMapEntry (aevF tm) W v0 v1 v2 v3 v4)
  (fun v0 v1 v2 tm W => fEntryStore (aevF tm) W v0 v1 v2)
  (fun v0 tm W => fRange (aevF tm) W v0)
  (fun v0 tm W => fNext (aevF tm) W v0)
  (fun v0 tm W => fEntry (aevF tm) W v0)
  (fun v0 v1 v2 v3 tm W => xAssert (aevF tm) W v0 v1 v2 v3)
  (fun v0 v1 tm W => xExtract (aevF tm) W v0 v1)
  (fun v0 v1 tm W => xCallF (aevF tm) W v0 v1)
  (fun v0 v1 tm W => xCallV (aevF tm) W v0 v1)
  (fun v0 v1 v2 tm W => xAdd64 (aevF tm) W v0 v1 v2)
  (fun v0 v1 tm W => fLen (aevF tm) W v0 v1)
  (fun v0 v1 tm W => xLenC (aevF tm) W v0 v1)
  (fun v0 v1 v2 v3 v4 v5 tm W => fAppend (aevF tm) W v0 v1 v2 v3 v4 v5)
  (fun v0 v1 v2 tm W => fCopy (aevF tm) W v0 v1 v2)
  (fun v0 v1 tm W => fClear (aevF tm) W v0 v1)
  (fun v0 v1 v2 v3 tm W => fDelete (aevF tm) W v0 v1 v2 v3)
  (fun v0 v1 tm W => xMaxmin (aevF tm) W v0 v1)
  (fun tm W => xRecover (aevF tm) W )
  (fun v0 v1 tm W => xDefer (aevF tm) W v0 v1)
  (fun v0 tm W => xPanic (aevF tm) W v0)
theorem xopF_eq (op : AOp) (tm : Tr AVal) (W : AW) : xopF op tm W = xop (aev tm) W op := by
  cases op <;> simp only [xopF, xop, aevF_eq, fAlloc_eq, fBox_eq, fBuildSlice_eq, fLoad1_eq, fLoadN_eq, fStore_eq, fBin_eq, fLen_eq, fAppend_eq, fCopy_eq, fClear_eq, fMkSlice_eq, fMkMap_eq, fLookup_eq, fMapUpdate_eq, fMapEntry_eq, fEntryStore_eq, fDelete_eq, fRange_eq, fNext_eq, fEntry_eq]
end
end Go.Eng

/- Engine F2: the run in recursors that the kernel takes fast; it is the run. -/
namespace Go.Eng
set_option linter.unusedVariables false
set_option linter.unusedSimpArgs false
section
variable {α β γ : Type}
def both (a b : Option (List β)) : Option (List β) := match a, b with
  | some a, some b => some (a ++ b)
  | _, _ => none
theorem bindL_cons2 (f : α → Option (List β)) (x y : α) (l : List α) : bindL (x :: y :: l) f = both (f x) (bindL (y :: l) f) := rfl
theorem bindL_append (f : α → Option (List β)) : ∀ a b : List α, bindL (a ++ b) f = both (bindL a f) (bindL b f)
  | [], b => by cases h : bindL b f <;> simp [bindL, both, h]
  | [x], [] => by cases h : f x <;> simp [bindL, both, h]
  | [x], y :: b => rfl
  | x :: y :: a, b => by
    show bindL (x :: y :: (a ++ b)) f = _
    rw [bindL_cons2, bindL_cons2]
    have := bindL_append f (y :: a) b
    rw [show y :: (a ++ b) = (y :: a) ++ b from rfl, this]
    cases f x <;> cases bindL (y :: a) f <;> cases bindL b f <;> simp [both]
theorem bindR_both (g : β → Option (List γ)) (a b : Option (List β)) : bindR (both a b) g = both (bindR a g) (bindR b g) := by
  cases a with
  | none => rfl
  | some a =>
    cases b with
    | none => cases h : bindL a g <;> simp [both, bindR, h]
    | some b => exact bindL_append g a b
theorem bindL_assoc (f : α → Option (List β)) (g : β → Option (List γ)) : ∀ l : List α, bindR (bindL l f) g = bindL l (fun x => bindR (f x) g)
  | [] => rfl
  | [x] => rfl
  | x :: y :: l => by rw [bindL_cons2, bindL_cons2, bindR_both, bindL_assoc f g (y :: l)]
theorem bindR_assoc (x : Option (List α)) (f : α → Option (List β)) (g : β → Option (List γ)) : bindR (bindR x f) g = bindR x (fun y => bindR (f y) g) := by
  cases x with
  | none => rfl
  | some l => exact bindL_assoc f g l
theorem bindL_unit : ∀ l : List α, bindL l (fun x => some [x]) = some l
  | [] => rfl
  | [x] => rfl
  | x :: y :: l => by rw [bindL_cons2, bindL_unit (y :: l)]; rfl
theorem bindR_unit (x : Option (List α)) : bindR x (fun x => some [x]) = x := by
  cases x with
  | none => rfl
  | some l => exact bindL_unit l
end

noncomputable section
def bindLF {α β : Type} : List α → (α → Option (List β)) → Option (List β) :=
  @List.rec α (fun _ => (α → Option (List β)) → Option (List β)) (fun _ => some []) (fun x xs ih f => @List.rec α (fun _ => Option (List β)) (f x) (fun _ _ _ => both (f x) (ih f)) xs)
theorem bindLF_eq {α β : Type} : ∀ (l : List α) (f : α → Option (List β)), bindLF l f = bindL l f
  | [], f => rfl
  | [x], f => rfl
  | x :: y :: l, f => by
    show both (f x) (bindLF (y :: l) f) = both (f x) (bindL (y :: l) f)
    rw [bindLF_eq (y :: l) f]
def bindRF {α β : Type} (x : Option (List α)) (f : α → Option (List β)) : Option (List β) := @Option.rec (List α) (fun _ => Option (List β)) none (fun l => bindLF l f) x
theorem bindRF_eq {α β : Type} (x : Option (List α)) (f : α → Option (List β)) : bindRF x f = bindR x f := by
  cases x with
  | none => rfl
  | some l => exact bindLF_eq l f

abbrev RT := Option (List (AEx × ASt))
abbrev KT := Tr AVal → Nat → List ADefer → Option AMode → AW → RT
def thenF (k : ASt → RT) (x : AEx × ASt) : RT := @Prod.rec AEx ASt (fun _ => RT) (fun e s => @AEx.rec (fun _ => RT) (k s) (fun id => some [(.exit id, s)]) (some [(.ret, s)]) (fun ch => some [(.panic ch, s)]) e) x
theorem thenF_eq (k : ASt → RT) : thenF k = fun x => match x.1 with
    | .nrm => k x.2
    | _ => some [x] := by
  funext x; obtain ⟨e, s⟩ := x; cases e <;> rfl

/-- a round -/
def xroundF (r : Rec) (l : Nat) (args : List AVal) (W : AW) : Option (List (ACR × AW)) :=
  match W.getF l with
  | .loop L =>
    bif Nat.beq L.params.length args.length then
      bindRF (r.code (some l) L.assign { tm := setParams L.size L.params args L.tm, sz := L.size, df := [], up := none, W := W }) fun x =>
        match x.1 with
        | .nrm => match x.2.W.getF l with
          | .loop L1 => match L1.st with
            | .ready =>
              bindRF (r.code (some l) L.body ⟨x.2.tm, x.2.sz, x.2.df, x.2.up, x.2.W.setF l (.loop { L1 with st := .busy })⟩) fun y =>
                match y.1 with
                | .panic ch => match y.2.df with
                  | [] => some [(.panic ch, y.2.W)]
                  | _ => none
                | e => match jumpEx e, y.2.W.getF l with
                  | some j, .loop L2 => some [(.ret (.bool j.isNone), y.2.W.setF l (.loop { L2 with st := bif j.isNone then .ready else .done, pending := j }))]
                  | _, _ => none
            | _ => none
          | _ => none
        | _ => none
    else none
  | _ => none
theorem xroundF_eq (r : Rec) (l : Nat) (args : List AVal) (W : AW) : xroundF r l args W = xround r l args W := by
  simp only [xroundF, xround, AW.getF_eq, AW.setF_eq, bindRF_eq] <;> rfl

/-- an operation's outcome, and on -/
def outK : AOut → Rec → Option Nat → Option Nat → (ASt → RT) → KT := @AOut.rec (fun _ => Rec → Option Nat → Option Nat → (ASt → RT) → KT)
  (fun v W' r rnd dst k tm sz df up W => k ⟨tputO tm sz dst v, sz, df, up, W'⟩)
  (fun f args r rnd dst k tm sz df up W => bindRF (r.call none f args W) fun c => @COut.rec (fun _ => RT) (fun cr cW _ => @ACR.rec (fun _ => RT) (fun v => k ⟨tputO tm sz dst v, sz, df, up, cW⟩) (fun ch => some [(.panic ch, ⟨tm, sz, df, up, cW⟩)]) cr) c)
  (fun l args r rnd dst k tm sz df up W => bindRF (xroundF r l args W) fun c => @Prod.rec ACR AW (fun _ => RT) (fun cr cW => @ACR.rec (fun _ => RT) (fun v => k ⟨tputO tm sz dst v, sz, df, up, cW⟩) (fun ch => some [(.panic ch, ⟨tm, sz, df, up, cW⟩)]) cr) c)
  (fun d r rnd dst k tm sz df up W => @Option.rec Nat (fun _ => RT) (k ⟨tputO tm sz dst aundef, sz, d :: df, up, W⟩) (fun _ => none) rnd)
  (fun r rnd dst k tm sz df up W => match rnd with
    | none => match up with
      | some (.panicking ((v, false) :: older)) => k ⟨tputO tm sz dst v, sz, df, some (.panicking ((v, true) :: older)), W⟩
      | _ => k ⟨tputO tm sz dst .if0, sz, df, up, W⟩
    | some _ => none)
  (fun v r rnd dst k tm sz df up W => some [(.panic [(v, false)], ⟨tm, sz, df, up, W⟩)])
theorem put_self (tm : Tr AVal) (sz : Nat) (df : List ADefer) (up : Option AMode) (W : AW) (dst : Option Nat) (v : AVal) :
    ASt.put ⟨tm, sz, df, up, W⟩ dst v = ⟨tputO tm sz dst v, sz, df, up, W⟩ := by
  rw [← put_eq tm sz df up W W dst v]; cases dst <;> rfl
theorem outK_eq (out : AOut) (r : Rec) (rnd dst : Option Nat) (k : ASt → RT) (tm : Tr AVal) (sz : Nat) (df : List ADefer) (up : Option AMode) (W : AW) :
    outK out r rnd dst k tm sz df up W = bindR (xout r rnd dst ⟨tm, sz, df, up, W⟩ out) (thenF k) := by
  cases out with
  | val v W' => simp only [xout, put_eq]; rfl
  | enter f args =>
    show bindRF (r.call none f args W) _ = _
    simp only [xout]
    rw [bindRF_eq, bindR_assoc]
    congr 1; funext c
    obtain ⟨cr, cW, u⟩ := c
    cases cr with
    | ret v => simp only [put_eq]; rfl
    | panic ch => rfl
  | round l args =>
    show bindRF (xroundF r l args W) _ = _
    simp only [xout]
    rw [bindRF_eq, xroundF_eq, bindR_assoc]
    congr 1; funext c
    obtain ⟨cr, cW⟩ := c
    cases cr with
    | ret v => simp only [put_eq]; rfl
    | panic ch => rfl
  | defer d =>
    cases rnd with
    | none =>
      show k ⟨tputO tm sz dst aundef, sz, d :: df, up, W⟩ = _
      simp only [xout]
      have : ({ ASt.put ⟨tm, sz, df, up, W⟩ dst aundef with df := d :: df } : ASt) = ⟨tputO tm sz dst aundef, sz, d :: df, up, W⟩ := by rw [put_self]
      rw [this]; rfl
    | some _ => rfl
  | recover =>
    cases rnd with
    | some _ => rfl
    | none =>
      have other : ∀ u : Option AMode, (some [((.nrm : AEx), ASt.put ⟨tm, sz, df, u, W⟩ dst .if0)] : RT) = some [(.nrm, ⟨tputO tm sz dst .if0, sz, df, u, W⟩)] := fun u => by rw [put_self]
      cases up with
      | none => show k ⟨tputO tm sz dst .if0, sz, df, none, W⟩ = bindR (some [((.nrm : AEx), ASt.put ⟨tm, sz, df, none, W⟩ dst .if0)]) (thenF k); rw [other]; rfl
      | some m =>
        cases m with
        | run => show k ⟨tputO tm sz dst .if0, sz, df, some .run, W⟩ = bindR (some [((.nrm : AEx), ASt.put ⟨tm, sz, df, some .run, W⟩ dst .if0)]) (thenF k); rw [other]; rfl
        | returning => show k ⟨tputO tm sz dst .if0, sz, df, some .returning, W⟩ = bindR (some [((.nrm : AEx), ASt.put ⟨tm, sz, df, some .returning, W⟩ dst .if0)]) (thenF k); rw [other]; rfl
        | panicking ch =>
          cases ch with
          | nil => show k ⟨tputO tm sz dst .if0, sz, df, some (.panicking []), W⟩ = bindR (some [((.nrm : AEx), ASt.put ⟨tm, sz, df, some (.panicking []), W⟩ dst .if0)]) (thenF k); rw [other]; rfl
          | cons x older =>
            obtain ⟨v, b⟩ := x
            cases b with
            | true => show k ⟨tputO tm sz dst .if0, sz, df, some (.panicking ((v, true) :: older)), W⟩ = bindR (some [((.nrm : AEx), ASt.put ⟨tm, sz, df, some (.panicking ((v, true) :: older)), W⟩ dst .if0)]) (thenF k); rw [other]; rfl
            | false =>
              have : ({ ASt.put ⟨tm, sz, df, some (.panicking ((v, false) :: older)), W⟩ dst v with up := some (.panicking ((v, true) :: older)) } : ASt) = ⟨tputO tm sz dst v, sz, df, some (.panicking ((v, true) :: older)), W⟩ := by rw [put_self]
              show k ⟨tputO tm sz dst v, sz, df, some (.panicking ((v, true) :: older)), W⟩ = bindR (some [((.nrm : AEx), ({ ASt.put ⟨tm, sz, df, some (.panicking ((v, false) :: older)), W⟩ dst v with up := some (.panicking ((v, true) :: older)) } : ASt))]) (thenF k)
              rw [this]; rfl
  | panic v => rfl

def wantedF (tm : Tr AVal) (g : Option (Nat × Bool)) : Bool := match g with
  | none => true
  | some (t, want) => match tgetF tm t with
    | .bool b => b == want
    | _ => false
/-- an operation, and on -/
def xoneK : AOper → Rec → Option Nat → (ASt → RT) → ASt → RT := @AOper.rec (fun _ => Rec → Option Nat → (ASt → RT) → ASt → RT)
  (fun dst op g _ r rnd k s => @ASt.rec (fun _ => RT) (fun tm sz df up W =>
    @Bool.rec (fun _ => RT) (k ⟨tputO tm sz dst aundef, sz, df, up, W⟩)
      (@Option.rec (List AOut) (fun _ => RT) none (fun outs => bindLF outs (fun out => outK out r rnd dst k tm sz df up W)) (xopF op tm W)) (wantedF tm g)) s)
theorem xoneK_eq (o : AOper) (r : Rec) (rnd : Option Nat) (k : ASt → RT) (s : ASt) : xoneK o r rnd k s = bindR (xone r rnd o s) (thenF k) := by
  obtain ⟨dst, op, g, al⟩ := o
  obtain ⟨tm, sz, df, up, W⟩ := s
  have hw : wantedF tm g = awanted ⟨tm, sz, df, up, W⟩ ⟨dst, op, g, al⟩ := by
    cases g with
    | none => rfl
    | some p => obtain ⟨t, want⟩ := p; simp only [wantedF, awanted, tgetF_eq]; rfl
  show @Bool.rec (fun _ => RT) (k ⟨tputO tm sz dst aundef, sz, df, up, W⟩) (@Option.rec (List AOut) (fun _ => RT) none (fun outs => bindLF outs (fun out => outK out r rnd dst k tm sz df up W)) (xopF op tm W)) (wantedF tm g) = _
  rw [hw, xopF_eq]
  simp only [xone]
  cases awanted ⟨tm, sz, df, up, W⟩ ⟨dst, op, g, al⟩ with
  | false => simp only [cond_false]; rw [put_self]; rfl
  | true =>
    simp only [cond_true]
    cases xop (aev tm) W op with
    | none => rfl
    | some outs =>
      show bindLF outs (fun out => outK out r rnd dst k tm sz df up W) = _
      rw [bindLF_eq]
      simp only [bindL_assoc]
      congr 1; funext out
      exact outK_eq out r rnd dst k tm sz df up W
def xoneF (o : AOper) (r : Rec) (rnd : Option Nat) (s : ASt) : RT := xoneK o r rnd (fun s => some [(.nrm, s)]) s
theorem xoneF_eq (o : AOper) (r : Rec) (rnd : Option Nat) (s : ASt) : xoneF o r rnd s = xone r rnd o s := by
  unfold xoneF
  rw [xoneK_eq]
  have : thenF (fun s => some [((.nrm : AEx), s)]) = fun x => some [x] := by
    funext x; obtain ⟨e, s⟩ := x; cases e <;> rfl
  rw [this, bindR_unit]
def xopsF : List AOper → Rec → Option Nat → ASt → RT := @List.rec AOper (fun _ => Rec → Option Nat → ASt → RT) (fun _ _ s => some [(.nrm, s)]) (fun o _ ih r rnd s => xoneK o r rnd (fun s => ih r rnd s) s)
theorem xopsF_eq (r : Rec) (rnd : Option Nat) : ∀ (os : List AOper) (s : ASt), xopsF os r rnd s = xops r rnd os s
  | [], s => rfl
  | o :: os, s => by
    show xoneK o r rnd (fun s => xopsF os r rnd s) s = _
    rw [xoneK_eq, show (fun s => xopsF os r rnd s) = xops r rnd os from funext (xopsF_eq r rnd os), thenF_eq]
    rfl

/-! regions that draw -/
def xtraceF : List AOper → Rec → Option Nat → ASt → Option (List ASt × ASt) := @List.rec AOper (fun _ => Rec → Option Nat → ASt → Option (List ASt × ASt)) (fun _ _ s => some ([], s))
  (fun o _ ih r rnd s => match xoneF o r rnd s with
    | some [(.nrm, s')] => bif Nat.ble s.W.n s'.W.n then
        match ih r rnd s' with
        | some (l, fin) => some (s :: l, fin)
        | none => none
      else none
    | _ => none)
theorem xtraceF_eq (r : Rec) (rnd : Option Nat) : ∀ (os : List AOper) (s : ASt), xtraceF os r rnd s = xtrace r rnd os s
  | [], s => rfl
  | o :: os, s => by
    unfold xtrace
    rw [← xoneF_eq o r rnd s]
    have ih := xtraceF_eq r rnd os
    show (match xoneF o r rnd s with
    | some [(.nrm, s')] => bif Nat.ble s.W.n s'.W.n then
        match xtraceF os r rnd s' with
        | some (l, fin) => some (s :: l, fin)
        | none => none
      else none
    | _ => none) = _
    simp only [ih] <;> rfl
def sameAltsF (o : AOper) (s : ASt) (sts : List ASt) (fin : ASt) : List Nat → Bool
  | [] => true
  | q :: qs => (match xopF o.op s.tm s.W, xopF o.op s.tm (worldAt sts fin q) with
    | some [.val v _], some [.val v' _] => AVal.same v v' && vbelow s.W.n v
    | _, _ => false) && ((o.op.tmps.all fun t => vbelow (worldAt sts fin q).n (tgetF s.tm t)) && sameAltsF o s sts fin qs)
theorem sameAltsF_eq (o : AOper) (s : ASt) (sts : List ASt) (fin : ASt) : ∀ l, sameAltsF o s sts fin l = sameAlts o s sts fin l
  | [] => rfl
  | q :: qs => by
    simp only [sameAltsF, sameAlts, xopF_eq, sameAltsF_eq o s sts fin qs, tgetF_eq] <;> rfl
def drawOkF (sts : List ASt) (fin : ASt) : List AOper → List ASt → Bool
  | o :: os, s :: ss => (bif wantedF s.tm o.guard then sameAltsF o s sts fin o.alts else true) && drawOkF sts fin os ss
  | _, _ => true
theorem drawOkF_eq (sts : List ASt) (fin : ASt) : ∀ (os : List AOper) (ss : List ASt), drawOkF sts fin os ss = drawOk sts fin os ss
  | [], _ => by simp [drawOkF, drawOk]
  | _ :: _, [] => rfl
  | o :: os, s :: ss => by
    have hw : wantedF s.tm o.guard = awanted s o := by
      unfold wantedF awanted
      cases o.guard with
      | none => rfl
      | some p => obtain ⟨t, want⟩ := p; simp only [tgetF_eq]; rfl
    simp only [drawOkF, drawOk, sameAltsF_eq, hw, drawOkF_eq sts fin os ss]
def xdrawF (r : Rec) (rnd : Option Nat) (ops : List AOper) (s : ASt) : Option ASt :=
  match xtraceF ops r rnd s with
  | none => none
  | some (sts, fin) => bif drawOkF sts fin ops sts then some fin else none
theorem xdrawF_eq (r : Rec) (rnd : Option Nat) (ops : List AOper) (s : ASt) : xdrawF r rnd ops s = xdraw r rnd ops s := by
  simp only [xdrawF, xdraw, xtraceF_eq, drawOkF_eq] <;> rfl

def regionF (dm : DM) (ops : List AOper) (r : Rec) (rnd : Option Nat) (s : ASt) : RT := match dm with
  | .seq => xopsF ops r rnd s
  | .draw => match xdrawF r rnd ops s with
    | some s' => some [(.nrm, s')]
    | none => none
  | .sink => match unsnoc ops with
    | some (init, last) => match xdrawF r rnd init s with
      | some s' => xoneF last r rnd s'
      | none => none
    | none => none
def condF (x : AVal) (a b : RT) : RT := match x with
  | .bool t => @Bool.rec (fun _ => RT) b a t
  | _ => none
def blockF (id : Nat) (x : AEx × ASt) : RT := @Prod.rec AEx ASt (fun _ => RT) (fun e s => @AEx.rec (fun _ => RT) (some [(.nrm, s)]) (fun id' => some [(bif Nat.beq id' id then .nrm else .exit id', s)]) (some [(.ret, s)]) (fun ch => some [(.panic ch, s)]) e) x
theorem blockF_eq (id : Nat) : blockF id = fun x => match x.1 with
    | .exit id' => some [(bif Nat.beq id' id then .nrm else .exit id', x.2)]
    | _ => some [x] := by
  funext x; obtain ⟨e, s⟩ := x; cases e <;> rfl
def xcodeF : ACode → Rec → Option Nat → ASt → RT := @ACode.rec (fun _ => Rec → Option Nat → ASt → RT)
  (fun _ _ s => some [(.nrm, s)])
  (fun ops dm r rnd s => regionF dm ops r rnd s)
  (fun _ _ iha ihb r rnd s => bindRF (iha r rnd s) (thenF (fun s => ihb r rnd s)))
  (fun c _ _ iha ihb r rnd s => @ASt.rec (fun _ => RT) (fun tm sz df up W => condF (aevF tm c) (iha r rnd ⟨tm, sz, df, up, W⟩) (ihb r rnd ⟨tm, sz, df, up, W⟩)) s)
  (fun id _ ihb r rnd s => bindRF (ihb r rnd s) (blockF id))
  (fun b ihb r rnd s => bindRF (ihb r rnd s) (thenF (fun s => r.code rnd (.loop b) s)))
  (fun f ps assign body _ _ r rnd s => xrange r rnd f ps assign body s)
  (fun id _ _ s => some [(.exit id, s)])
  (fun _ _ s => some [(.ret, s)])
theorem xcodeF_eq (r : Rec) (rnd : Option Nat) : ∀ (c : ACode) (s : ASt), xcodeF c r rnd s = xcode r rnd c s
  | .skip, s => rfl
  | .region ops dm, s => by
    show regionF dm ops r rnd s = _
    cases dm <;> simp only [regionF, xcode, xopsF_eq, xdrawF_eq, xoneF_eq] <;> rfl
  | .seq a b, s => by
    show bindRF (xcodeF a r rnd s) (thenF (fun s => xcodeF b r rnd s)) = _
    rw [bindRF_eq, xcodeF_eq r rnd a, show (fun s => xcodeF b r rnd s) = xcode r rnd b from funext (xcodeF_eq r rnd b), thenF_eq]
    rfl
  | .cond c a b, s => by
    obtain ⟨tm, sz, df, up, W⟩ := s
    show condF (aevF tm c) (xcodeF a r rnd ⟨tm, sz, df, up, W⟩) (xcodeF b r rnd ⟨tm, sz, df, up, W⟩) = _
    rw [xcodeF_eq r rnd a, xcodeF_eq r rnd b, aevF_eq]
    simp only [xcode]
    cases aev tm c with
    | bool t => cases t <;> rfl
    | _ => rfl
  | .block id b, s => by
    show bindRF (xcodeF b r rnd s) (blockF id) = _
    rw [bindRF_eq, xcodeF_eq r rnd b, blockF_eq]
    rfl
  | .loop b, s => by
    show bindRF (xcodeF b r rnd s) (thenF (fun s => r.code rnd (.loop b) s)) = _
    rw [bindRF_eq, xcodeF_eq r rnd b, thenF_eq]
    rfl
  | .rangeFunc f ps assign body, s => rfl
  | .exit id, s => rfl
  | .ret, s => rfl

def trOfF : List AVal → Nat → Tr AVal → Tr AVal := @List.rec AVal (fun _ => Nat → Tr AVal → Tr AVal) (fun _ t => t) (fun v _ ih i t => ih (Nat.succ i) (t.put i v))
theorem trOfF_eq : ∀ (l : List AVal) (i : Nat) (t : Tr AVal), trOfF l i t = trOf i l t
  | [], i, t => rfl
  | v :: vs, i, t => by
    show trOfF vs (i + 1) (t.put i v) = _
    rw [trOfF_eq, Tr.put_eq]; rfl
def xcallF (AP : Nat → Option AFunc) (r : Rec) (up : Option AMode) (f : Nat) (args : List AVal) (W : AW) : Option (List COut) :=
  match AP f with
  | none => none
  | some F => bindRF (r.code none F.body { tm := trOfF args 0 .nil, sz := args.length + (F.ntmps - args.length), df := [], up := up, W := W }) fun x =>
    match x.1 with
    | .nrm => xunwind r F.res x.2.tm x.2.up x.2.df .returning x.2.W
    | .ret => xunwind r F.res x.2.tm x.2.up x.2.df .returning x.2.W
    | .panic ch => xunwind r F.res x.2.tm x.2.up x.2.df (.panicking ch) x.2.W
    | .exit _ => none
theorem xcallF_eq (AP : Nat → Option AFunc) (r : Rec) (up : Option AMode) (f : Nat) (args : List AVal) (W : AW) : xcallF AP r up f args W = xcall AP r up f args W := by
  simp only [xcallF, xcall, bindRF_eq, trOfF_eq] <;> rfl
def execF (AP : Nat → Option AFunc) : Nat → Rec := @Nat.rec (fun _ => Rec) { code := fun _ _ _ => none, call := fun _ _ _ _ => none }
  (fun _ ih => { code := fun rnd c s => xcodeF c ih rnd s, call := xcallF AP ih })
theorem execF_eq (AP : Nat → Option AFunc) : ∀ n, execF AP n = exec AP n
  | 0 => rfl
  | n + 1 => by
    have e : execF AP (n + 1) = { code := fun rnd c s => xcodeF c (execF AP n) rnd s, call := xcallF AP (execF AP n) } := rfl
    rw [e, execF_eq AP n]
    show _ = stepF AP (exec AP n)
    unfold stepF
    congr 1
    · funext rnd c s; exact xcodeF_eq _ _ _ _
    · funext up f args W; exact xcallF_eq _ _ _ _ _ _
theorem getF_fun {α : Type} (t : Tr α) : t.getF = t.get := funext t.getF_eq
end
end Go.Eng
