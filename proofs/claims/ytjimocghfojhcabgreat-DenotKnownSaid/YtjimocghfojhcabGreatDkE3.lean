/- The engine, part 3 of 3: abstract runs tell what the machine does. Without conditions. -/
import Derived.Test.YtjimocghfojhcabGreatDkE2
/- Engine 36: runs in which closed functions' calls are told ahead; states with new numbers for their blocks. -/
namespace Go.Eng
set_option linter.unusedVariables false
set_option linter.unusedSimpArgs false
variable {P : Program}

/-! closed functions' calls, told ahead -/
def addS (S : Nat → Option AVal) (r : Rec) : Rec := { code := r.code, call := fun up f args W => match S f with
  | some v => match up, args with
    | none, [] => some [{ r := .ret v, W := W, up := none }]
    | _, _ => r.call up f args W
  | none => r.call up f args W }
def execS (AP : Nat → Option AFunc) (S : Nat → Option AVal) : Nat → Rec
  | 0 => { code := fun _ _ _ => none, call := fun _ _ _ _ => none }
  | n + 1 => addS S (stepF AP (execS AP S n))
theorem Far.ext_same {ρ : Rho} {W : AW} {w w' : World} (h : Far w w' (fun _ => none)) (hW : WR (CodeOf P) ρ W w) : Ext ρ W w ρ W w' ∧ WR (CodeOf P) ρ W w' := by
  refine ⟨⟨ρ.le_refl, Nat.le_refl _, fun _ h => .inl h, h.sz, fun b hb _ => h.same b hb, fun g b s e _ => ⟨g, s, e⟩, fun _ _ _ => rfl, h.os, h.output, h.frz⟩, ?_⟩
  refine ⟨fun g b s e => ?_, hW.share, trivial⟩
  obtain ⟨h1, o, h2, h3⟩ := hW.blk g b s e
  exact ⟨h1, o, by rw [h.same b (Array.getElem?_eq_some_iff.1 h2).1]; exact h2, h3⟩
theorem RecSim.addS {S : Nat → Option AVal} {r : Rec} (h : RecSim (CodeOf P) P r) (hS : ∀ f v, S f = some v → Sum P f v) : RecSim (CodeOf P) P (addS S r) := by
  have key : ∀ up f args W outs, (Go.Eng.addS S r).call up f args W = some outs → (∃ v, S f = some v ∧ up = none ∧ args = [] ∧ outs = [{ r := .ret v, W := W, up := none }]) ∨ r.call up f args W = some outs := by
    intro up f args W outs hx
    simp only [Go.Eng.addS] at hx
    split at hx
    · rename_i v hv
      split at hx
      · cases hx; exact .inl ⟨v, hv, rfl, rfl, rfl⟩
      · exact .inr hx
    · exact .inr hx
  refine ⟨h.code, h.loop, ?_, ?_⟩
  · intro up f args W outs hx ρ w cs kind hok hW hup
    rcases key _ _ _ _ _ hx with ⟨v, hv, rfl, rfl, rfl⟩ | hx
    · obtain ⟨fr, w', h1, h2, h3, h4, h5, h6, fn, h7, h8⟩ := (hS f v hv).run w cs
      obtain ⟨hE, hW'⟩ := h2.ext_same hW
      have hk : kind = .normal := hup
      subst hk
      exact ⟨_, List.mem_singleton.2 rfl, ρ, fr, cs, w', h1, ⟨hE, hW', rfl, rfl, rfl, h3, h4, h5, ⟨h6, (h8 ρ).1, fn, h7, (h8 ρ).2⟩⟩⟩
    · exact h.call _ _ _ _ _ hx ρ w cs kind hok hW hup
  · intro up f args W outs hx
    rcases key _ _ _ _ _ hx with ⟨v, hv, rfl, rfl, rfl⟩ | hx
    · exact (hS f v hv).fn
    · exact h.enters _ _ _ _ _ hx
theorem step_sim {AP : Nat → Option AFunc} (hm : P.follows .mixedOrders = true) (hAP : ∀ f F, AP f = some F → compFunc P f = some F) {r : Rec} (h : RecSim (CodeOf P) P r) : RecSim (CodeOf P) P (stepF AP r) := by
  refine ⟨?_, ?_, ?_, ?_⟩
  · intro rnd ac s outs hx c hc
    exact xcode_sim h (draw_sim hm h) c ac hc rnd s outs hx
  · intro rnd ab s outs hx c hc
    exact xloop_sim h (draw_sim hm h) c ab hc rnd s outs hx
  · intro up f args W outs hx
    exact (xcall_sim h hAP hx).2
  · intro up f args W outs hx
    exact (xcall_sim h hAP hx).1
theorem execS_run {AP : Nat → Option AFunc} {S : Nat → Option AVal} (hm : P.follows .mixedOrders = true) (hAP : ∀ f F, AP f = some F → compFunc P f = some F) (hS : ∀ f v, S f = some v → Sum P f v) : ∀ n, RecSim (CodeOf P) P (execS AP S n)
  | 0 => ⟨(by intro rnd ac s outs h; cases h), (by intro rnd ab s outs h; cases h), (by intro up f args W outs h; cases h), (by intro up f args W outs h; cases h)⟩
  | n + 1 => (step_sim hm hAP (execS_run hm hAP hS n)).addS hS
noncomputable def execFS (AP : Nat → Option AFunc) (S : Nat → Option AVal) : Nat → Rec := @Nat.rec (fun _ => Rec) { code := fun _ _ _ => none, call := fun _ _ _ _ => none }
  (fun _ ih => { code := fun rnd c s => xcodeF c ih rnd s, call := fun up f args W => match S f with
    | some v => match up, args with
      | none, [] => some [{ r := .ret v, W := W, up := none }]
      | _, _ => xcallF AP ih up f args W
    | none => xcallF AP ih up f args W })
theorem execFS_eq (AP : Nat → Option AFunc) (S : Nat → Option AVal) : ∀ n, execFS AP S n = execS AP S n
  | 0 => rfl
  | n + 1 => by
    have e : execFS AP S (n + 1) = { code := fun rnd c s => xcodeF c (execFS AP S n) rnd s, call := fun up f args W => match S f with
      | some v => match up, args with
        | none, [] => some [{ r := .ret v, W := W, up := none }]
        | _, _ => xcallF AP (execFS AP S n) up f args W
      | none => xcallF AP (execFS AP S n) up f args W } := rfl
    rw [e, execFS_eq AP S n]
    simp only [execS, addS, stepF]
    congr 1
    · funext rnd c s; exact xcodeF_eq _ _ _ _
    · funext up f args W; simp only [xcallF_eq] <;> rfl

/-! new numbers -/
def Tr.map {α β : Type} (f : α → β) : Tr α → Tr β
  | .nil => .nil
  | .node v l r => .node (match v with
    | some x => some (f x)
    | none => none) (l.map f) (r.map f)
def Tr.all {α : Type} (p : α → Bool) : Tr α → Bool
  | .nil => true
  | .node v l r => (match v with
    | some x => p x
    | none => true) && (l.all p && r.all p)
theorem Tr.get_map {α β : Type} (f : α → β) : ∀ (t : Tr α) (n : Nat), (t.map f).get n = (t.get n).map f
  | .nil, n => rfl
  | .node v l r, n => by
    simp only [Tr.map, Tr.get]
    cases Nat.beq n 0 with
    | true => cases v <;> rfl
    | false =>
      cases Nat.beq (n % 2) 1 with
      | true => exact Tr.get_map f l _
      | false => exact Tr.get_map f r _
theorem Tr.all_get {α : Type} {p : α → Bool} : ∀ {t : Tr α} {n : Nat} {x : α}, t.all p = true → t.get n = some x → p x = true
  | .nil, n, x, _, h => by cases h
  | .node v l r, n, x, ha, h => by
    simp only [Tr.all, Bool.and_eq_true] at ha
    simp only [Tr.get] at h
    cases h0 : Nat.beq n 0 with
    | true =>
      rw [h0] at h
      have : v = some x := h
      subst this
      exact ha.1
    | false =>
      rw [h0] at h
      cases h1 : Nat.beq (n % 2) 1 with
      | true => rw [h1] at h; exact Tr.all_get ha.2.1 h
      | false => rw [h1] at h; exact Tr.all_get ha.2.2 h

def pos (π : Tr Nat) (g : Nat) : Nat := (π.get g).getD 0
mutual
def vin (π : Tr Nat) : AVal → Bool
  | .ptr b _ => (π.get b).isSome
  | .sl b _ _ _ _ => (π.get b).isSome
  | .slT b _ _ => (π.get b).isSome
  | .map r => (π.get r).isSome
  | .fn _ a b => vins π a && vins π b
  | .yield l => (π.get l).isSome
  | .iface _ v => vin π v
  | .agg cs => vins π cs
  | .tup vs => vins π vs
  | _ => true
def vins (π : Tr Nat) : List AVal → Bool
  | [] => true
  | v :: vs => vin π v && vins π vs
end
mutual
def rv (π : Tr Nat) : AVal → AVal
  | .ptr b o => .ptr (pos π b) o
  | .sl b o l c op => .sl (pos π b) o l c op
  | .slT b o d => .slT (pos π b) o d
  | .map r => .map (pos π r)
  | .fn f a b => .fn f (rvs π a) (rvs π b)
  | .yield l => .yield (pos π l)
  | .iface t v => .iface t (rv π v)
  | .agg cs => .agg (rvs π cs)
  | .tup vs => .tup (rvs π vs)
  | .bool b => .bool b
  | .int k n => .int k n
  | .str s => .str s
  | .ptr0 => .ptr0
  | .sl0 => .sl0
  | .map0 => .map0
  | .fn0 => .fn0
  | .if0 => .if0
def rvs (π : Tr Nat) : List AVal → List AVal
  | [] => []
  | v :: vs => rv π v :: rvs π vs
end
theorem rvs_length (π : Tr Nat) : ∀ l, (rvs π l).length = l.length
  | [] => rfl
  | v :: vs => by simp [rvs, rvs_length π vs]
def bin (π : Tr Nat) : ABlk → Bool
  | .cells cs _ _ _ _ _ => vins π cs
  | .map es _ => es.all fun x => vin π x.1 && vin π x.2.1
  | .iter (some r) _ _ _ => (π.get r).isSome
  | _ => true
def rb (π : Tr Nat) : ABlk → ABlk
  | .cells cs e z o t a => .cells (rvs π cs) e z o t ((a.filter fun g => (π.get g).isSome).map (pos π))
  | .map es c => .map (es.map fun x => (rv π x.1, rv π x.2.1, x.2.2)) c
  | .iter m a s b => .iter (m.map (pos π)) a s b
  | .loop _ => .dead
  | .deferred l => .deferred l
  | .dead => .dead

section
variable {ρ ρ' : Rho} {π : Tr Nat}
def PosR (π : Tr Nat) (ρ ρ' : Rho) : Prop := ∀ g i, π.get g = some i → ρ' i = ρ g
theorem PosR.pos (h : PosR π ρ ρ') {g : Nat} (hg : (π.get g).isSome = true) : ρ' (pos π g) = ρ g := by
  obtain ⟨i, hi⟩ := Option.isSome_iff_exists.1 hg
  simp only [Go.Eng.pos, hi, Option.getD_some]
  exact h g i hi
mutual
theorem rv_ok (h : PosR π ρ ρ') : ∀ v, vin π v = true → okv ρ v → okv ρ' (rv π v) ∧ cv ρ' (rv π v) = cv ρ v
  | .ptr b o, hi, hv => ⟨show (ρ' (pos π b)).isSome = true by rw [h.pos hi]; exact hv, by simp only [rv, cv, Rho.blk, h.pos (show (π.get b).isSome = true from hi)]⟩
  | .sl b o l c op, hi, hv => ⟨show (ρ' (pos π b)).isSome = true by rw [h.pos hi]; exact hv, by simp only [rv, cv, Rho.blk, Rho.slack, h.pos (show (π.get b).isSome = true from hi)]⟩
  | .slT b o d, hi, hv => ⟨show (ρ' (pos π b)).isSome = true by rw [h.pos hi]; exact hv, by simp [rv, cv, Rho.blk, Rho.slack, h.pos (show (π.get b).isSome = true from hi)]; by_cases e : ((ρ b).getD (0, 0)).snd = 0 <;> simp [e]⟩
  | .map b, hi, hv => ⟨show (ρ' (pos π b)).isSome = true by rw [h.pos hi]; exact hv, by simp only [rv, cv, Rho.blk, h.pos (show (π.get b).isSome = true from hi)]⟩
  | .yield b, hi, hv => ⟨show (ρ' (pos π b)).isSome = true by rw [h.pos hi]; exact hv, by simp only [rv, cv, Rho.blk, h.pos (show (π.get b).isSome = true from hi)]⟩
  | .fn f a b, hi, hv => by
    have hi' : vins π a = true ∧ vins π b = true := by simpa [vin] using hi
    have p := rvs_ok h a hi'.1 hv.1
    have q := rvs_ok h b hi'.2 hv.2
    exact ⟨⟨p.1, q.1⟩, by simp only [rv, cv, p.2, q.2]⟩
  | .iface t v, hi, hv => by
    have p := rv_ok h v hi hv
    exact ⟨p.1, by simp only [rv, cv, p.2]⟩
  | .agg cs, hi, hv => by
    have p := rvs_ok h cs hi hv
    exact ⟨p.1, by simp only [rv, cv, p.2]⟩
  | .tup cs, hi, hv => by
    have p := rvs_ok h cs hi hv
    exact ⟨p.1, by simp only [rv, cv, p.2]⟩
  | .bool _, _, _ | .int _ _, _, _ | .str _, _, _ | .ptr0, _, _ | .sl0, _, _ | .map0, _, _ | .fn0, _, _ | .if0, _, _ => ⟨trivial, by simp only [rv, cv]⟩
theorem rvs_ok (h : PosR π ρ ρ') : ∀ l, vins π l = true → okvs ρ l → okvs ρ' (rvs π l) ∧ cvs ρ' (rvs π l) = cvs ρ l
  | [], _, _ => ⟨trivial, rfl⟩
  | v :: vs, hi, hl => by
    have hi' : vin π v = true ∧ vins π vs = true := by simpa [vins] using hi
    have p := rv_ok h v hi'.1 hl.1
    have q := rvs_ok h vs hi'.2 hl.2
    exact ⟨⟨p.1, q.1⟩, by simp only [rvs, cvs, p.2, q.2]⟩
end
theorem BR.ren {CR : CodeR} (h : PosR π ρ ρ') {s : Nat} {blk : ABlk} {o : Obj} (hi : bin π blk = true) (hB : BR CR ρ s blk o) : BR CR ρ' s (rb π blk) o := by
  cases blk with
  | cells cs e z own t a =>
    obtain ⟨h1, h2, h3, c', rest, h4, h5, h6⟩ := hB
    have p := rvs_ok h cs hi h2
    refine ⟨by rw [rvs_length]; exact h1, p.1, ?_, c', rest, h4, by rw [p.2]; exact h5, h6⟩
    intro x hx
    obtain ⟨g, hg, rfl⟩ := List.mem_map.1 hx
    obtain ⟨hg1, hg2⟩ := List.mem_filter.1 hg
    rw [h.pos hg2]; exact h3 g hg1
  | map es c =>
    obtain ⟨h1, h2⟩ := hB
    have hall : ∀ x ∈ es, vin π x.1 = true ∧ vin π x.2.1 = true := fun x hx => by
      have := List.all_eq_true.1 hi x hx
      simpa using this
    refine ⟨?_, ?_⟩
    · rw [h1]
      congr 2
      rw [List.map_map]
      refine List.map_congr_left fun x hx => ?_
      have p := rv_ok h x.1 (hall x hx).1 (h2 x hx).1
      have q := rv_ok h x.2.1 (hall x hx).2 (h2 x hx).2
      simp only [Function.comp, centry, p.2, q.2]
    · intro x hx
      obtain ⟨y, hy, rfl⟩ := List.mem_map.1 hx
      exact ⟨(rv_ok h y.1 (hall y hy).1 (h2 y hy).1).1, (rv_ok h y.2.1 (hall y hy).2 (h2 y hy).2).1⟩
  | iter m a sn b =>
    obtain ⟨h1, h2⟩ := hB
    cases m with
    | none => exact ⟨by simp, h2⟩
    | some r =>
      have hr : (π.get r).isSome = true := hi
      refine ⟨fun x hx => ?_, ?_⟩
      · have : pos π r = x := by simpa using hx
        subst this
        rw [h.pos hr]; exact h1 r rfl
      · rw [h2]; simp [Rho.blk, h.pos hr]
  | loop l => trivial
  | deferred l => exact hB
  | dead => trivial
end

def mkPi : List Nat → Nat → Tr Nat → Tr Nat
  | [], _, t => t
  | g :: gs, i, t => mkPi gs (i + 1) (t.set g i)
def mkH (π : Tr Nat) (W : AW) : List Nat → Nat → Tr ABlk → Tr ABlk
  | [], _, t => t
  | g :: gs, i, t => mkH π W gs (i + 1) (t.set i (rb π (W.get g)))
theorem mkPi_get : ∀ (l : List Nat) (i : Nat) (t : Tr Nat) (g j : Nat), (mkPi l i t).get g = some j → (i ≤ j ∧ l[j - i]? = some g) ∨ t.get g = some j
  | [], i, t, g, j, h => .inr h
  | x :: l, i, t, g, j, h => by
    rcases mkPi_get l (i + 1) _ g j h with ⟨h1, h2⟩ | h1
    · refine .inl ⟨by omega, ?_⟩
      rw [show j - i = (j - (i + 1)) + 1 by omega]
      simpa using h2
    · rw [Tr.get_set] at h1
      split at h1
      · rename_i e
        cases h1
        exact .inl ⟨Nat.le_refl _, by simp [e]⟩
      · exact .inr h1
theorem mkH_get (π : Tr Nat) (W : AW) : ∀ (l : List Nat) (i : Nat) (t : Tr ABlk) (j : Nat), (mkH π W l i t).get j = if i ≤ j ∧ j < i + l.length then (l[j - i]?).map (fun g => rb π (W.get g)) else t.get j
  | [], i, t, j => by
    have : ¬ (i ≤ j ∧ j < i + ([] : List Nat).length) := by simp
    rw [if_neg this]; rfl
  | x :: l, i, t, j => by
    show (mkH π W l (i + 1) _).get j = _
    rw [mkH_get π W l (i + 1), Tr.get_set]
    by_cases h1 : i + 1 ≤ j ∧ j < i + 1 + l.length
    · rw [if_pos h1, if_pos ⟨by omega, by simp; omega⟩, show j - i = (j - (i + 1)) + 1 by omega]
      simp
    · rw [if_neg h1]
      by_cases h2 : j = i
      · subst h2
        rw [if_pos rfl, if_pos ⟨Nat.le_refl _, by simp⟩]
        simp
      · rw [if_neg h2, if_neg]
        rintro ⟨h3, h4⟩
        simp at h4
        exact h1 ⟨by omega, by omega⟩
def renamed (live : List Nat) (s : ASt) : ASt :=
  { tm := s.tm.map (rv (mkPi live 0 .nil)), sz := s.sz, df := s.df, up := s.up, W := { h := mkH (mkPi live 0 .nil) s.W live 0 .nil, n := live.length } }
def renOk (live : List Nat) (s : ASt) : Bool :=
  (s.tm.all (vin (mkPi live 0 .nil)) && live.all fun g => bin (mkPi live 0 .nil) (s.W.get g)) && (match s.df with
    | [] => true
    | _ => false)
theorem renamed_swap {live : List Nat} {s : ASt} (hok : renOk live s = true) (ρ : Rho) (b : Frame) (a : Act) (cs : List Frame) (w : World) (hup : s.up = none) (hS : SR (CodeOf P) ρ none s b a cs w) :
    ∃ ρ', SR (CodeOf P) ρ' none (renamed live s) b a cs w ∧ (∀ j x, ρ' j = some x → ∃ g, ρ g = some x) ∧ (renamed live s).up = none := by
  simp only [renOk, Bool.and_eq_true] at hok
  obtain ⟨⟨htm, hbl⟩, hdf⟩ := hok
  have hdf' : s.df = [] := by
    split at hdf
    · assumption
    · cases hdf
  generalize hπ : mkPi live 0 .nil = π at *
  have hget : ∀ g j, π.get g = some j → live[j]? = some g := by
    intro g j h
    rw [← hπ] at h
    rcases mkPi_get live 0 .nil g j h with ⟨_, h1⟩ | h1
    · simpa using h1
    · cases h1
  let ρ' : Rho := fun j => match live[j]? with
    | some g => if π.get g = some j then ρ g else none
    | none => none
  have hP : PosR π ρ ρ' := by
    intro g i h
    show (match live[i]? with
      | some g => if π.get g = some i then ρ g else none
      | none => none) = ρ g
    rw [hget g i h]
    simp only [h, if_true]
  have hinv : ∀ j x, ρ' j = some x → ∃ g, live[j]? = some g ∧ π.get g = some j ∧ ρ g = some x := by
    intro j x h
    have h' : (match live[j]? with
      | some g => if π.get g = some j then ρ g else none
      | none => none) = some x := h
    split at h'
    · rename_i g hg
      split at h'
      · rename_i hp; exact ⟨g, hg, hp, h'⟩
      · cases h'
    · cases h'
  have hWget : ∀ j g, live[j]? = some g → (renamed live s).W.get j = rb π (s.W.get g) := by
    intro j g h
    have hj := (List.getElem?_eq_some_iff.1 h).1
    simp only [renamed, AW.get, hπ]
    rw [mkH_get, if_pos ⟨Nat.zero_le _, by omega⟩, Nat.sub_zero, h]
    rfl
  refine ⟨ρ', ?_, fun j x h => by obtain ⟨g, _, _, h3⟩ := hinv j x h; exact ⟨g, h3⟩, hup⟩
  refine ⟨?_, hS.sz, ?_, ?_, ?_, hS.rnd⟩
  · intro t
    have := hS.tm t
    have e : ((renamed live s).tm.get t).getD aundef = rv π ((s.tm.get t).getD aundef) := by
      simp only [renamed, hπ, Tr.get_map]
      cases s.tm.get t <;> rfl
    rw [e]
    have hin : vin π ((s.tm.get t).getD aundef) = true := by
      cases h : s.tm.get t with
      | none => rfl
      | some v => exact Tr.all_get htm h
    have p := rv_ok hP _ hin this.2
    exact ⟨by rw [p.2]; exact this.1, p.1⟩
  · have := hS.df
    rw [hdf'] at this
    show DR ρ' s.df a.defers
    rw [hdf']
    cases hd : a.defers with
    | nil => trivial
    | cons d ds => rw [hd] at this; exact this.elim
  · have := hS.up
    rw [hup] at this
    show UR ρ' s.up b.kind cs
    rw [hup]; exact this
  · refine ⟨?_, ?_, trivial⟩
    · intro j b s' h
      obtain ⟨g, h1, h2, h3⟩ := hinv j _ h
      obtain ⟨_, o, h5, h6⟩ := hS.W.blk g b s' h3
      refine ⟨(List.getElem?_eq_some_iff.1 h1).1, o, h5, ?_⟩
      rw [hWget j g h1]
      exact h6.ren hP (List.all_eq_true.1 hbl g (List.mem_of_getElem? h1))
    · intro j1 j2 b s1 s2 hne h1 h2
      obtain ⟨g1, p1, p2, p3⟩ := hinv j1 _ h1
      obtain ⟨g2, q1, q2, q3⟩ := hinv j2 _ h2
      have hg : g1 ≠ g2 := by
        rintro rfl
        rw [p2] at q2; cases q2; exact hne rfl
      have anc : ∀ x y jx jy, live[jx]? = some x → live[jy]? = some y → π.get x = some jx → Anc s.W x y → Anc (renamed live s).W jx jy := by
        rintro x y jx jy hx hy hpx ⟨cs1, e1, z1, o1, a1, cs2, e2, z2, o2, t2, a2, w1, w2, w3, w4⟩
        refine ⟨_, _, _, _, _, _, _, _, _, _, _, (hWget jx x hx).trans (by rw [w1]; rfl), (hWget jy y hy).trans (by rw [w2]; rfl), by rw [rvs_length]; exact w3, ?_⟩
        refine List.mem_map.2 ⟨x, List.mem_filter.2 ⟨w4, by simp [hpx]⟩, by simp [pos, hpx]⟩
      rcases hS.W.share g1 g2 b s1 s2 hg p3 q3 with h | h | h | h
      · exact .inl ((hWget j1 g1 p1).trans (by rw [h]; rfl))
      · exact .inr (.inl ((hWget j2 g2 q1).trans (by rw [h]; rfl)))
      · exact .inr (.inr (.inl (anc _ _ _ _ p1 q1 p2 h)))
      · exact .inr (.inr (.inr (anc _ _ _ _ q1 p1 q2 h)))

/-- each outcome, with new numbers -/
def renAll : List (List Nat) → List (AEx × ASt) → Option (List (AEx × ASt))
  | l :: ls, (e, s) :: os => bif renOk l s then match renAll ls os with
    | some r => some ((e, renamed l s) :: r)
    | none => none
    else none
  | [], [] => some []
  | _, _ => none
theorem renAll_mem : ∀ {ls : List (List Nat)} {os r : List (AEx × ASt)}, renAll ls os = some r → ∀ o ∈ os, ∃ l, renOk l o.2 = true ∧ (o.1, renamed l o.2) ∈ r
  | l :: ls, (e, s) :: os, r, h, o, ho => by
    simp only [renAll] at h
    cases hr : renOk l s <;> rw [hr] at h
    · cases h
    · simp only [cond_true] at h
      split at h
      · rename_i r' hr'
        cases h
        rcases List.mem_cons.1 ho with rfl | ho
        · exact ⟨l, hr, List.mem_cons_self ..⟩
        · obtain ⟨l', h1, h2⟩ := renAll_mem hr' o ho
          exact ⟨l', h1, List.mem_cons_of_mem _ h2⟩
      · cases h
  | [], [], r, h, o, ho => by cases ho
  | [], _ :: _, r, h, o, ho => by cases h
  | _ :: _, [], r, h, o, ho => by cases ho
theorem Chain.part_of {r : Rec} (HR : RecSim (CodeOf P) P r) {res : List ARes} {s : ASt} {x y : Code} {a : ACode} (hx : compCode P x = some a) {ls : List (List Nat)} {ss : List ASt}
    (hrun : (match r.code none a s with
      | some outs => renAll ls outs
      | none => none) = some (ss.map fun t => (.nrm, t))) (hu : ∀ t ∈ ss, t.up = none) (k : ∀ t ∈ ss, Chain P res t y) : Chain P res s (.seq x y) := by
  split at hrun
  case h_2 => cases hrun
  rename_i outs ho
  have hsim := HR.code _ _ _ _ ho x hx
  have key : ∀ o ∈ outs, o.1 = .nrm ∧ Chain P res o.2 y := by
    intro o hom
    obtain ⟨l, h1, h2⟩ := renAll_mem hrun o hom
    obtain ⟨t, ht, he⟩ := List.mem_map.1 h2
    have e1 : o.1 = .nrm := (congrArg Prod.fst he).symm
    have e2 : renamed l o.2 = t := (congrArg Prod.snd he).symm
    refine ⟨e1, .swap (fun ρ b a cs w hup hS => ?_) (k t ht)⟩
    rw [← e2]
    exact renamed_swap h1 ρ b a cs w hup hS
  exact .part hsim (fun o ho => (key o ho).1) (fun o ho => (key o ho).2)
theorem Rest.part {r : Rec} (HR : RecSim (CodeOf P) P r) {i : Nat} {res : List ARes} {body : ACode} {s : ASt} (hs : isSeqC (nthC i body) = true) {ls : List (List Nat)} {ss : List ASt}
    (hrun : (match r.code none (headC (nthC i body)) s with
      | some outs => renAll ls outs
      | none => none) = some (ss.map fun t => (.nrm, t))) (hu : ∀ t ∈ ss, t.up = none) (k : ∀ t ∈ ss, Rest P res body (i + 1) t) : Rest P res body i s := by
  intro c hc
  rw [seq_parts hs] at hc
  obtain ⟨x, y, rfl, hx, hy⟩ := compCode_seq hc
  refine Chain.part_of HR hx hrun hu fun t ht => k t ht y ?_
  rw [nthC_succ]; exact hy
theorem Rest.last {r : Rec} (HR : RecSim (CodeOf P) P r) {i : Nat} {res : List ARes} {body : ACode} {s : ASt}
    (hrun : (match r.code none (nthC i body) s with
      | some outs => outs.all (good res)
      | none => false) = true) : Rest P res body i s := by
  intro c hc
  split at hrun
  · rename_i outs ho
    exact .last (HR.code _ _ _ _ ho c hc) hrun
  · cases hrun
end Go.Eng

/- Engine 37: parts of a run, reckoned by the kernel. -/
namespace Go.Eng
set_option linter.unusedVariables false
set_option linter.unusedSimpArgs false
variable {P : Program}
def runR (r : Rec) (a : ACode) (s : ASt) (ls : List (List Nat)) : Option (List (AEx × ASt)) := match r.code none a s with
  | some outs => renAll ls outs
  | none => none
def runL (r : Rec) (a : ACode) (s : ASt) (res : List ARes) : Bool := match r.code none a s with
  | some outs => outs.all (good res)
  | none => false
def noUp (ss : List ASt) : Bool := ss.all fun t => t.up.isNone
section
variable {T : Tr AFunc} {ST : Tr AVal}
theorem Rest.partF (hm : P.follows .mixedOrders = true) (hAP : ∀ f F, T.get f = some F → compFunc P f = some F) (hS : ∀ f v, ST.get f = some v → Sum P f v) {n i : Nat} {res : List ARes} {body : ACode} {s : ASt} (hs : isSeqC (nthC i body) = true)
    {ls : List (List Nat)} {ss : List ASt} (hrun : runR (execFS T.getF ST.getF n) (headC (nthC i body)) s ls = some (ss.map fun t => (.nrm, t))) (hu : noUp ss = true) (k : ∀ t ∈ ss, Rest P res body (i + 1) t) : Rest P res body i s := by
  rw [execFS_eq, getF_fun, getF_fun] at hrun
  refine Rest.part (execS_run hm hAP hS n) hs hrun (fun t ht => ?_) k
  have := List.all_eq_true.1 hu t ht
  simpa using this
theorem Rest.lastF (hm : P.follows .mixedOrders = true) (hAP : ∀ f F, T.get f = some F → compFunc P f = some F) (hS : ∀ f v, ST.get f = some v → Sum P f v) {n i : Nat} {res : List ARes} {body : ACode} {s : ASt}
    (hrun : runL (execFS T.getF ST.getF n) (nthC i body) s res = true) : Rest P res body i s := by
  rw [execFS_eq, getF_fun, getF_fun] at hrun
  exact Rest.last (execS_run hm hAP hS n) hrun
theorem Rest.sum {f : Nat} {F : AFunc} (hcomp : compFunc P f = some F) {s : ASt} (hs : s = { tm := .nil, sz := F.ntmps, df := [], up := none, W := { h := .nil, n := 0 } }) (h : Rest P F.res F.body 0 s) : Sum P f (.bool true) := by
  subst hs
  exact chain_sum hcomp h
theorem forall_nil {α : Type} {p : α → Prop} : ∀ t ∈ ([] : List α), p t := fun _ h => nomatch h
theorem forall_cons {α : Type} {p : α → Prop} {x : α} {l : List α} (h : p x) (k : ∀ t ∈ l, p t) : ∀ t ∈ x :: l, p t := List.forall_mem_cons.2 ⟨h, k⟩
end
end Go.Eng
