import PyProof.Rows.All
import Wide.All
import OpenK.AllK
import Wide.FinOn
import HandS.ForMost
import HandS.SortKw
import HandS.Flow
import PyProof.Rows.CountFlat
import KE.SortKeyHeap
import KE.BitLaws
import PySem.Challenge.RW_placedanyhow_k20_whole_any_choices_one_e
set_option Elab.async false
set_option linter.all false
set_option maxRecDepth 100000
set_option maxHeartbeats 4000000
/-! The plain part: cores without alts, their runs, and why all of them end alike. -/
namespace Pa

/-! ### expressions -/
inductive Op where | add | sub | mul | land | lor | eq | ne | lt | le | div | mod
  deriving DecidableEq
def b2n (b : Bool) : Nat := if b then 1 else 0
def Op.calc : Op → Nat → Nat → Option Nat
  | .add, a, b => some ((a + b) % 65536)
  | .sub, a, b => some ((a + 65536 - b) % 65536)
  | .mul, a, b => some ((a * b) % 65536)
  | .land, a, b => some (b2n (decide (a ≠ 0) && decide (b ≠ 0)))
  | .lor, a, b => some (b2n (decide (a ≠ 0) || decide (b ≠ 0)))
  | .eq, a, b => some (b2n (decide (a = b)))
  | .ne, a, b => some (b2n (decide (a ≠ b)))
  | .lt, a, b => some (b2n (decide (a < b)))
  | .le, a, b => some (b2n (decide (a ≤ b)))
  | .div, a, b => if b = 0 then none else some (a / b)
  | .mod, a, b => if b = 0 then none else some (a % b)
theorem b2n_lt (b : Bool) : b2n b < 65536 := by cases b <;> decide
theorem Op.calc_lt {o : Op} {a b v : Nat} (ha : a < 65536) (hb : b < 65536) (h : o.calc a b = some v) : v < 65536 := by
  cases o <;> simp only [Op.calc] at h
  case div =>
    split at h
    · cases h
    · have e := Option.some.inj h
      rw [← e]
      exact Nat.lt_of_le_of_lt (Nat.div_le_self _ _) ha
  case mod =>
    split at h
    · cases h
    · have e := Option.some.inj h
      rw [← e]
      exact Nat.lt_of_le_of_lt (Nat.mod_le _ _) ha
  all_goals
    have e := Option.some.inj h
    rw [← e]
    first
      | exact Nat.mod_lt _ (by decide)
      | exact b2n_lt _
inductive Ex where
  | num (n : Nat) | cell (k : Nat) | att (f n : Nat) (e : Ex) | neg (e : Ex) | inv (e : Ex) | bin (o : Op) (a b : Ex)
def Ex.val (cs : List Nat) : Ex → Option Nat
  | .num n => some n
  | .cell k => some (cs.getD k 0)
  | .att f n e => match e.val cs with
    | none => none
    | some i => if i < n then some (cs.getD (f + i) 0) else none
  | .neg e => match e.val cs with
    | none => none
    | some a => some ((65536 - a) % 65536)
  | .inv e => match e.val cs with
    | none => none
    | some a => some (if a = 0 then 1 else 0)
  | .bin o a b => match a.val cs with
    | none => none
    | some x => match b.val cs with
      | none => none
      | some y => o.calc x y
def Ex.place (cs : List Nat) : Ex → Option Nat
  | .cell k => some k
  | .att f n e => match e.val cs with
    | none => none
    | some i => if i < n then some (f + i) else none
  | _ => none
def Ex.ht : Ex → Nat
  | .num _ => 0
  | .cell _ => 0
  | .att _ _ e => e.ht + 1
  | .neg e => e.ht + 1
  | .inv e => e.ht + 1
  | .bin _ a b => max a.ht b.ht + 1
def ExOk (R : Nat → Prop) : Ex → Prop
  | .num n => n < 65536
  | .cell k => R k
  | .att f n e => (∀ k, f ≤ k → k < f + n → R k) ∧ ExOk R e
  | .neg e => ExOk R e
  | .inv e => ExOk R e
  | .bin _ a b => ExOk R a ∧ ExOk R b
def TgOk (R W : Nat → Prop) : Ex → Prop
  | .cell k => W k
  | .att f n e => (∀ k, f ≤ k → k < f + n → W k) ∧ ExOk R e
  | _ => False
theorem ExOk.mono {R R' : Nat → Prop} (h : ∀ k, R k → R' k) : ∀ {e : Ex}, ExOk R e → ExOk R' e
  | .num _, q => q
  | .cell _, q => h _ q
  | .att _ _ _, q => ⟨fun k a b => h k (q.1 k a b), ExOk.mono h q.2⟩
  | .neg e, q => ExOk.mono (e := e) h q
  | .inv e, q => ExOk.mono (e := e) h q
  | .bin _ _ _, q => ⟨ExOk.mono h q.1, ExOk.mono h q.2⟩
theorem TgOk.mono {R R' W W' : Nat → Prop} (h : ∀ k, R k → R' k) (g : ∀ k, W k → W' k) : ∀ {e : Ex}, TgOk R W e → TgOk R' W' e
  | .num _, q => q.elim
  | .cell _, q => g _ q
  | .att _ _ _, q => ⟨fun k a b => g k (q.1 k a b), ExOk.mono h q.2⟩
  | .neg _, q => q.elim
  | .inv _, q => q.elim
  | .bin _ _ _, q => q.elim
theorem val_congr {R : Nat → Prop} {c d : List Nat} (h : ∀ k, R k → c.getD k 0 = d.getD k 0) : ∀ {e : Ex}, ExOk R e → e.val c = e.val d
  | .num _, _ => rfl
  | .cell k, q => by
    show some (c.getD k 0) = some (d.getD k 0)
    rw [h k q]
  | .att f n e, q => by
    have ih := val_congr h q.2
    simp only [Ex.val, ih]
    cases e.val d with
    | none => rfl
    | some i =>
      show (if i < n then some (c.getD (f + i) 0) else none) = (if i < n then some (d.getD (f + i) 0) else none)
      split
      · rename_i hi
        rw [h (f + i) (q.1 _ (Nat.le_add_right _ _) (Nat.add_lt_add_left hi _))]
      · rfl
  | .neg e, q => by
    have ih := val_congr (e := e) h q
    simp only [Ex.val, ih]
  | .inv e, q => by
    have ih := val_congr (e := e) h q
    simp only [Ex.val, ih]
  | .bin o a b, q => by
    have i1 := val_congr h q.1
    have i2 := val_congr h q.2
    simp only [Ex.val, i1, i2]
theorem place_congr {R W : Nat → Prop} {c d : List Nat} (h : ∀ k, R k → c.getD k 0 = d.getD k 0) : ∀ {e : Ex}, TgOk R W e → e.place c = e.place d
  | .num _, q => q.elim
  | .cell _, _ => rfl
  | .att f n e, q => by
    have ih := val_congr h q.2
    simp only [Ex.place, ih]
  | .neg _, q => q.elim
  | .inv _, q => q.elim
  | .bin _ _ _, q => q.elim
theorem place_W {R W : Nat → Prop} {c : List Nat} {k : Nat} : ∀ {e : Ex}, TgOk R W e → e.place c = some k → W k
  | .num _, q, _ => q.elim
  | .cell _, q, h => by
    have e := Option.some.inj h
    rw [← e]
    exact q
  | .att f n e, q, h => by
    simp only [Ex.place] at h
    cases hv : e.val c with
    | none => rw [hv] at h; cases h
    | some i =>
      rw [hv] at h
      simp only at h
      split at h
      · rename_i hi
        have e := Option.some.inj h
        rw [← e]
        exact q.1 _ (Nat.le_add_right _ _) (Nat.add_lt_add_left hi _)
      · cases h
  | .neg _, q, _ => q.elim
  | .inv _, q, _ => q.elim
  | .bin _ _ _, q, _ => q.elim
theorem getD_lt {cs : List Nat} (h : ∀ w ∈ cs, w < 65536) (k : Nat) : cs.getD k 0 < 65536 := by
  rw [List.getD_eq_getElem?_getD]
  cases e : cs[k]? with
  | none => exact (by decide : 0 < 65536)
  | some w => exact h w (List.mem_of_getElem? e)
theorem val_lt {R : Nat → Prop} {cs : List Nat} (h : ∀ w ∈ cs, w < 65536) : ∀ {e : Ex} {v : Nat}, ExOk R e → e.val cs = some v → v < 65536
  | .num _, v, q, e => by
    have e := Option.some.inj e
    rw [← e]
    exact q
  | .cell k, v, _, e => by
    have e := Option.some.inj e
    rw [← e]
    exact getD_lt h k
  | .att f n e, v, q, hv => by
    simp only [Ex.val] at hv
    cases e1 : e.val cs with
    | none => rw [e1] at hv; cases hv
    | some i =>
      rw [e1] at hv
      simp only at hv
      split at hv
      · have e := Option.some.inj hv
        rw [← e]
        exact getD_lt h _
      · cases hv
  | .neg e, v, q, hv => by
    simp only [Ex.val] at hv
    cases e1 : e.val cs with
    | none => rw [e1] at hv; cases hv
    | some i =>
      rw [e1] at hv
      have e := Option.some.inj hv
      rw [← e]
      exact Nat.mod_lt _ (by decide)
  | .inv e, v, q, hv => by
    simp only [Ex.val] at hv
    cases e1 : e.val cs with
    | none => rw [e1] at hv; cases hv
    | some i =>
      rw [e1] at hv
      have e := Option.some.inj hv
      rw [← e]
      split <;> decide
  | .bin o a b, v, q, hv => by
    simp only [Ex.val] at hv
    cases e1 : a.val cs with
    | none => rw [e1] at hv; cases hv
    | some x =>
      rw [e1] at hv
      simp only at hv
      cases e2 : b.val cs with
      | none => rw [e2] at hv; cases hv
      | some y =>
        rw [e2] at hv
        exact Op.calc_lt (val_lt h q.1 e1) (val_lt h q.2 e2) hv

/-! ### statements -/
inductive Sm where
  | skip | stop | set (t e : Ex) | give (c : Nat) (e : Ex) | take (c : Nat) (t : Ex)
  | seq (ss : List Sm) | par (rows : List (Nat × Sm)) | ite (e : Ex) (a b : Sm) | rep (e : Ex) (n : Nat) (s : Sm)
mutual
/-- the work -/
def Sm.wk : Sm → Nat
  | .skip => 1
  | .stop => 1
  | .set _ _ => 1
  | .give _ _ => 2
  | .take _ _ => 2
  | .seq ss => 1 + wkL ss
  | .par rows => 2 + wkR rows
  | .ite _ a b => 1 + max a.wk b.wk
  | .rep _ n s => 1 + n * (1 + s.wk)
def wkL : List Sm → Nat
  | [] => 0
  | s :: r => s.wk + wkL r
def wkR : List (Nat × Sm) → Nat
  | [] => 0
  | (_, s) :: r => s.wk + wkR r
end
mutual
/-- the number of branches -/
def Sm.nb : Sm → Nat
  | .seq ss => nbL ss
  | .par rows => nbR rows
  | .ite _ a b => a.nb + b.nb
  | .rep _ _ s => s.nb
  | _ => 0
def nbL : List Sm → Nat
  | [] => 0
  | s :: r => s.nb + nbL r
def nbR : List (Nat × Sm) → Nat
  | [] => 0
  | (_, s) :: r => 1 + s.nb + nbR r
end
theorem wkL_append : ∀ a b : List Sm, wkL (a ++ b) = wkL a + wkL b
  | [], b => by simp [wkL]
  | s :: r, b => by
    have ih := wkL_append r b
    simp only [List.cons_append, wkL, ih]
    omega
theorem nbL_append : ∀ a b : List Sm, nbL (a ++ b) = nbL a + nbL b
  | [], b => by simp [nbL]
  | s :: r, b => by
    have ih := nbL_append r b
    simp only [List.cons_append, nbL, ih]
    omega
theorem wkR_append : ∀ a b : List (Nat × Sm), wkR (a ++ b) = wkR a + wkR b
  | [], b => by simp [wkR]
  | (k, s) :: r, b => by
    have ih := wkR_append r b
    simp only [List.cons_append, wkR, ih]
    omega
theorem nbR_append : ∀ a b : List (Nat × Sm), nbR (a ++ b) = nbR a + nbR b
  | [], b => by simp [nbR]
  | (k, s) :: r, b => by
    have ih := nbR_append r b
    simp only [List.cons_append, nbR, ih]
    omega
theorem wk_pos : ∀ s : Sm, 1 ≤ s.wk
  | .skip => by simp [Sm.wk]
  | .stop => by simp [Sm.wk]
  | .set _ _ => by simp [Sm.wk]
  | .give _ _ => by simp [Sm.wk]
  | .take _ _ => by simp [Sm.wk]
  | .seq _ => by simp only [Sm.wk]; omega
  | .par _ => by simp only [Sm.wk]; omega
  | .ite _ _ _ => by simp only [Sm.wk]; omega
  | .rep _ _ _ => by simp only [Sm.wk]; omega

/-- a footprint: the cells read, written, the channels given on, taken from -/
structure Fp where
  R : Nat → Prop
  W : Nat → Prop
  G : Nat → Prop
  T : Nat → Prop
structure Fp.Le (S S' : Fp) : Prop where
  r : ∀ k, S.R k → S'.R k
  w : ∀ k, S.W k → S'.W k
  g : ∀ k, S.G k → S'.G k
  t : ∀ k, S.T k → S'.T k
theorem Fp.Le.refl (S : Fp) : S.Le S := ⟨fun _ h => h, fun _ h => h, fun _ h => h, fun _ h => h⟩
theorem Fp.Le.trans {A B C : Fp} (h : A.Le B) (g : B.Le C) : A.Le C := ⟨fun k q => g.r k (h.r k q), fun k q => g.w k (h.w k q), fun k q => g.g k (h.g k q), fun k q => g.t k (h.t k q)⟩
/-- they may run at the same time -/
structure Compat (S S' : Fp) : Prop where
  wr : ∀ k, S.W k → S'.R k → False
  rw : ∀ k, S.R k → S'.W k → False
  ww : ∀ k, S.W k → S'.W k → False
  gg : ∀ k, S.G k → S'.G k → False
  tt : ∀ k, S.T k → S'.T k → False
theorem Compat.symm {S S' : Fp} (h : Compat S S') : Compat S' S := ⟨fun k a b => h.rw k b a, fun k a b => h.wr k b a, fun k a b => h.ww k b a, fun k a b => h.gg k b a, fun k a b => h.tt k b a⟩
theorem Compat.le {S S' U : Fp} (h : Compat S U) (l : S'.Le S) : Compat S' U := ⟨fun k a b => h.wr k (l.w k a) b, fun k a b => h.rw k (l.r k a) b, fun k a b => h.ww k (l.w k a) b, fun k a b => h.gg k (l.g k a) b, fun k a b => h.tt k (l.t k a) b⟩

/-- an expression fit to be evaluated: its cells, its height -/
structure ExT (S : Fp) (e : Ex) : Prop where
  ok : ExOk S.R e
  ht : e.ht ≤ 6
structure TgT (S : Fp) (e : Ex) : Prop where
  ok : TgOk S.R S.W e
  ht : e.ht ≤ 6
theorem ExT.mono {S S' : Fp} {e : Ex} (l : S.Le S') (h : ExT S e) : ExT S' e := ⟨h.ok.mono l.r, h.ht⟩
theorem TgT.mono {S S' : Fp} {e : Ex} (l : S.Le S') (h : TgT S e) : TgT S' e := ⟨h.ok.mono l.r l.w, h.ht⟩

/-- statement s is well-formed code of thread i (ps: the parent of each thread), of nesting at most D, within the footprint S -/
inductive SmOk (ps : List Nat) : Nat → Nat → Fp → Sm → Prop
  | skip {D i : Nat} {S : Fp} : SmOk ps (D + 1) i S .skip
  | stop {D i : Nat} {S : Fp} : SmOk ps (D + 1) i S .stop
  | set {D i : Nat} {S : Fp} {t e : Ex} : TgT S t → ExT S e → SmOk ps (D + 1) i S (.set t e)
  | give {D i : Nat} {S : Fp} {c : Nat} {e : Ex} : S.G c → ExT S e → SmOk ps (D + 1) i S (.give c e)
  | take {D i : Nat} {S : Fp} {c : Nat} {t : Ex} : S.T c → TgT S t → SmOk ps (D + 1) i S (.take c t)
  | seq {D i : Nat} {S : Fp} {ss : List Sm} : (∀ s, s ∈ ss → SmOk ps D i S s) → SmOk ps (D + 1) i S (.seq ss)
  | par {D i : Nat} {S : Fp} {rows : List (Nat × Sm)} (F : Nat → Fp) : (rows.map (·.1)).Nodup →
      (∀ k s, (k, s) ∈ rows → ps[k]? = some i ∧ i < k ∧ (F k).Le S) → (∀ k s, (k, s) ∈ rows → SmOk ps D k (F k) s) →
      (∀ k l s u, (k, s) ∈ rows → (l, u) ∈ rows → k ≠ l → Compat (F k) (F l)) → SmOk ps (D + 1) i S (.par rows)
  | ite {D i : Nat} {S : Fp} {e : Ex} {a b : Sm} : ExT S e → SmOk ps D i S a → SmOk ps D i S b → SmOk ps (D + 1) i S (.ite e a b)
  | rep {D i : Nat} {S : Fp} {e : Ex} {n : Nat} {s : Sm} : ExT S e → SmOk ps D i S s → SmOk ps (D + 1) i S (.rep e n s)
theorem SmOk.mono {ps ps' : List Nat} (hp : ∀ (k i : Nat), ps[k]? = some i → ps'[k]? = some i) {D i : Nat} {S : Fp} {s : Sm} (h : SmOk ps D i S s) : ∀ {D' : Nat} {S' : Fp}, D ≤ D' → S.Le S' → SmOk ps' D' i S' s := by
  induction h with
  | skip => intro D' S' hd l; obtain ⟨d, rfl⟩ : ∃ d, D' = d + 1 := ⟨D' - 1, by omega⟩; exact .skip
  | stop => intro D' S' hd l; obtain ⟨d, rfl⟩ : ∃ d, D' = d + 1 := ⟨D' - 1, by omega⟩; exact .stop
  | set a b => intro D' S' hd l; obtain ⟨d, rfl⟩ : ∃ d, D' = d + 1 := ⟨D' - 1, by omega⟩; exact .set (a.mono l) (b.mono l)
  | give a b => intro D' S' hd l; obtain ⟨d, rfl⟩ : ∃ d, D' = d + 1 := ⟨D' - 1, by omega⟩; exact .give (l.g _ a) (b.mono l)
  | take a b => intro D' S' hd l; obtain ⟨d, rfl⟩ : ∃ d, D' = d + 1 := ⟨D' - 1, by omega⟩; exact .take (l.t _ a) (b.mono l)
  | seq _ ih => intro D' S' hd l; obtain ⟨d, rfl⟩ : ∃ d, D' = d + 1 := ⟨D' - 1, by omega⟩; exact .seq fun s hs => ih s hs (by omega) l
  | par F nd a _ c ih =>
    intro D' S' hd l; obtain ⟨d, rfl⟩ : ∃ d, D' = d + 1 := ⟨D' - 1, by omega⟩
    exact .par F nd (fun k s h => ⟨hp _ _ (a k s h).1, (a k s h).2.1, (a k s h).2.2.trans l⟩) (fun k s h => ih k s h (by omega) (Fp.Le.refl _)) c
  | ite a _ _ i1 i2 => intro D' S' hd l; obtain ⟨d, rfl⟩ : ∃ d, D' = d + 1 := ⟨D' - 1, by omega⟩; exact .ite (a.mono l) (i1 (by omega) l) (i2 (by omega) l)
  | rep a _ i1 => intro D' S' hd l; obtain ⟨d, rfl⟩ : ∃ d, D' = d + 1 := ⟨D' - 1, by omega⟩; exact .rep (a.mono l) (i1 (by omega) l)

/-! ### states -/
inductive Cond where
  | idle | run (st : List Sm) | giv (c w : Nat) (st : List Sm) | opn (c k : Nat) (st : List Sm) | join (ts : List Nat) (st : List Sm) | done | stopped | faulted
def mkAt (st : List Sm) : Cond := match st with
  | [] => .done
  | s :: r => .run (s :: r)
def Cond.live : Cond → Prop
  | .run _ => True
  | .giv _ _ _ => True
  | .opn _ _ _ => True
  | .join _ _ => True
  | _ => False
def Cond.isJoin : Cond → Prop
  | .join _ _ => True
  | _ => False
theorem mkAt_nj (st : List Sm) : ¬ (mkAt st).isJoin := by cases st <;> exact fun h => h
structure State where
  cells : List Nat
  th : List Cond
  taken : List Nat
  outs : List (List Nat)
/-- what a run has beside its state: the number of in and out channels, the inputs -/
structure Cfg where
  nIn : Nat
  nOut : Nat
  inp : List (List Nat)
inductive Rx where
  | step (t : Nat) | meet (c a t : Nat) | input (c t : Nat) | output (c t : Nat) | fin (t : Nat)
  deriving DecidableEq
structure Eff where
  ths : List (Nat × Cond)
  cel : Option (Nat × Nat) := none
  tak : Option Nat := none
  out : Option (Nat × Nat) := none
def stepCond (cs : List Nat) (rest : List Sm) : Sm → Cond
  | .skip => mkAt rest
  | .stop => .stopped
  | .give c e => match e.val cs with
    | none => .faulted
    | some w => .giv c w rest
  | .take c t => match t.place cs with
    | none => .faulted
    | some k => .opn c k rest
  | .seq ss => mkAt (ss ++ rest)
  | .ite e a b => match e.val cs with
    | none => .faulted
    | some v => .run ((if v ≠ 0 then a else b) :: rest)
  | .rep e n s => if n = 0 then mkAt rest else match e.val cs with
    | none => .faulted
    | some v => if v = 0 then mkAt rest else .run (s :: .rep e (n - 1) s :: rest)
  | _ => .faulted
def stepEff (cs : List Nat) (t : Nat) (rest : List Sm) : Sm → Eff
  | .set tg e => match e.val cs with
    | none => { ths := [(t, .faulted)] }
    | some w => match tg.place cs with
      | none => { ths := [(t, .faulted)] }
      | some k => { ths := [(t, mkAt rest)], cel := some (k, w) }
  | .par rows => { ths := (t, .join (rows.map (·.1)) rest) :: rows.map fun r => (r.1, .run [r.2]) }
  | s => { ths := [(t, stepCond cs rest s)] }
def Cfg.word (g : Cfg) (σ : State) (c : Nat) : Nat := (g.inp.getD c []).getD (σ.taken.getD c 0) 0
def eff (g : Cfg) (σ : State) : Rx → Eff
  | .step t => match σ.th[t]? with
    | some (.run (s :: rest)) => stepEff σ.cells t rest s
    | _ => { ths := [] }
  | .meet _ a t => match σ.th[a]? with
    | some (.giv _ w st) => match σ.th[t]? with
      | some (.opn _ k st') => { ths := [(t, mkAt st'), (a, mkAt st)], cel := some (k, w) }
      | _ => { ths := [] }
    | _ => { ths := [] }
  | .input c t => match σ.th[t]? with
    | some (.opn _ k st) => { ths := [(t, mkAt st)], cel := some (k, g.word σ c), tak := some c }
    | _ => { ths := [] }
  | .output c t => match σ.th[t]? with
    | some (.giv _ w st) => { ths := [(t, mkAt st)], out := some (c - g.nIn, w) }
    | _ => { ths := [] }
  | .fin t => match σ.th[t]? with
    | some (.join _ st) => { ths := [(t, mkAt st)] }
    | _ => { ths := [] }
def sets {α : Type} (l : List α) (ps : List (Nat × α)) : List α := ps.foldl (fun l p => l.set p.1 p.2) l
def Eff.app (e : Eff) (σ : State) : State where
  cells := match e.cel with
    | none => σ.cells
    | some (k, w) => σ.cells.set k w
  th := sets σ.th e.ths
  taken := match e.tak with
    | none => σ.taken
    | some c => σ.taken.set c (σ.taken.getD c 0 + 1)
  outs := match e.out with
    | none => σ.outs
    | some (i, w) => σ.outs.set i (σ.outs.getD i [] ++ [w])
def perform (g : Cfg) (σ : State) (r : Rx) : State := (eff g σ r).app σ
def event (g : Cfg) (σ : State) : Rx → Option (Nat × Nat)
  | .meet c a _ => match σ.th[a]? with
    | some (.giv _ w _) => some (c, w)
    | _ => none
  | .input c _ => some (c, g.word σ c)
  | .output c t => match σ.th[t]? with
    | some (.giv _ w _) => some (c, w)
    | _ => none
  | _ => none
/-- the redex may be performed -/
def En (g : Cfg) (σ : State) : Rx → Prop
  | .step t => ∃ s rest, σ.th[t]? = some (.run (s :: rest))
  | .meet c a t => g.nIn + g.nOut ≤ c ∧ (∃ k st, σ.th[t]? = some (.opn c k st)) ∧ ∃ w st, σ.th[a]? = some (.giv c w st)
  | .input c t => c < g.nIn ∧ (∃ k st, σ.th[t]? = some (.opn c k st)) ∧ σ.taken.getD c 0 < (g.inp.getD c []).length
  | .output c t => g.nIn ≤ c ∧ c < g.nIn + g.nOut ∧ ∃ w st, σ.th[t]? = some (.giv c w st)
  | .fin t => ∃ ts st, σ.th[t]? = some (.join ts st) ∧ ∀ k, k ∈ ts → σ.th[k]? = some .done

/-! ### the invariant -/
/-- t is a thread above u -/
inductive Above (ps : List Nat) (t : Nat) : Nat → Prop
  | one {u : Nat} : ps[u]? = some t → t < u → Above ps t u
  | up {u p : Nat} : ps[u]? = some p → p < u → Above ps t p → Above ps t u
theorem Above.lt {ps : List Nat} {t u : Nat} (h : Above ps t u) : t < u := by
  induction h with
  | one _ h => exact h
  | up _ h _ ih => exact Nat.lt_trans ih h
theorem Above.trans {ps : List Nat} {t u v : Nat} (h : Above ps t u) (q : Above ps u v) : Above ps t v := by
  induction q with
  | one a b => exact .up a b h
  | up a b _ ih => exact .up a b ih
/-- a child's ancestors: its parent and those above it -/
theorem Above.of_child {ps : List Nat} {t k a : Nat} (hp : ps[k]? = some t) (h : Above ps a k) : a = t ∨ Above ps a t := by
  cases h with
  | one e _ =>
    rw [hp] at e
    exact .inl (Option.some.inj e).symm
  | up e _ q =>
    rw [hp] at e
    rw [Option.some.inj e]
    exact .inr q
def CondOk (ps : List Nat) (D : Nat) (S : Fp) (t : Nat) : Cond → Prop
  | .run st => st ≠ [] ∧ ∀ s, s ∈ st → SmOk ps D t S s
  | .giv c w st => S.G c ∧ w < 65536 ∧ ∀ s, s ∈ st → SmOk ps D t S s
  | .opn c k st => S.T c ∧ S.W k ∧ ∀ s, s ∈ st → SmOk ps D t S s
  | .join ts st => (∀ k, k ∈ ts → ps[k]? = some t ∧ t < k) ∧ ∀ s, s ∈ st → SmOk ps D t S s
  | _ => True
theorem mkAt_ok {ps : List Nat} {D : Nat} {S : Fp} {t : Nat} {st : List Sm} (h : ∀ s, s ∈ st → SmOk ps D t S s) : CondOk ps D S t (mkAt st) := by
  cases st with
  | nil => exact trivial
  | cons s r => exact ⟨List.cons_ne_nil _ _, h⟩
structure TInv (ps : List Nat) (D : Nat) (B : Fp) (F : Nat → Fp) (th : List Cond) : Prop where
  len : th.length = ps.length
  ok : ∀ (t : Nat) (c : Cond), th[t]? = some c → CondOk ps D (F t) t c
  le : ∀ (t : Nat) (c : Cond), th[t]? = some c → c.live → (F t).Le B
  pw : ∀ (t u : Nat) (c d : Cond), t ≠ u → th[t]? = some c → c.live → th[u]? = some d → d.live → Above ps t u ∨ Above ps u t ∨ Compat (F t) (F u)
  up : ∀ (t u : Nat) (c d : Cond), Above ps t u → th[t]? = some c → c.live → th[u]? = some d → d.live →
    ∃ ts st, c = .join ts st ∧ ∃ v, v ∈ ts ∧ (v = u ∨ Above ps v u) ∧ ∃ e : Cond, th[v]? = some e ∧ e.live
section
variable {ps : List Nat} {D : Nat} {B : Fp} {F : Nat → Fp} {th : List Cond}
/-- none below a thread that is alive and does not join is alive -/
theorem TInv.leaf (I : TInv ps D B F th) {t u : Nat} {c d : Cond} (h : th[t]? = some c) (hl : c.live) (hj : ¬ c.isJoin) (a : Above ps t u) (q : th[u]? = some d) : ¬ d.live := fun z => by
  obtain ⟨ts, st, rfl, _⟩ := I.up t u c d a h hl q z
  exact hj trivial
/-- .. nor below one that joins threads that are done -/
theorem TInv.leafJ (I : TInv ps D B F th) {t u : Nat} {ts : List Nat} {st : List Sm} {d : Cond} (h : th[t]? = some (.join ts st)) (hd : ∀ k, k ∈ ts → th[k]? = some .done) (a : Above ps t u) (q : th[u]? = some d) : ¬ d.live := fun z => by
  obtain ⟨ts', st', e, v, hv, _, c, hc, hl⟩ := I.up t u _ d a h trivial q z
  cases e
  rw [hd v hv] at hc
  cases hc
  exact hl
theorem TInv.compat (I : TInv ps D B F th) {t u : Nat} {c d : Cond} (ne : t ≠ u) (h : th[t]? = some c) (hl : c.live) (hj : ¬ c.isJoin) (q : th[u]? = some d) (ql : d.live) (qj : ¬ d.isJoin) : Compat (F t) (F u) := by
  rcases I.pw t u c d ne h hl q ql with a | a | a
  · exact absurd ql (I.leaf h hl hj a q)
  · exact absurd hl (I.leaf q ql qj a h)
  · exact a
theorem getElem?_set' {α : Type} {l : List α} {i j : Nat} {x y : α} (h : (l.set i x)[j]? = some y) : (j = i ∧ y = x ∧ i < l.length) ∨ (j ≠ i ∧ l[j]? = some y) := by
  by_cases e : j = i
  · subst e
    by_cases hl : j < l.length
    · rw [List.getElem?_set_self hl] at h
      exact .inl ⟨rfl, (Option.some.inj h).symm, hl⟩
    · rw [List.getElem?_eq_none (by rw [List.length_set]; omega)] at h
      cases h
  · rw [List.getElem?_set_ne (Ne.symm e)] at h
    exact .inr ⟨e, h⟩
/-- a thread with none alive below it turns to something that does not join -/
theorem TInv.turn (I : TInv ps D B F th) {t : Nat} {c c' : Cond} (h : th[t]? = some c) (hl : c.live) (hleaf : ∀ (u : Nat) (d : Cond), Above ps t u → th[u]? = some d → ¬ d.live)
    (hok : CondOk ps D (F t) t c') (hj : ¬ c'.isJoin) : TInv ps D B F (th.set t c') := by
  have old : ∀ (u : Nat) (d : Cond), (th.set t c')[u]? = some d → d.live → ∃ d' : Cond, th[u]? = some d' ∧ d'.live := fun u d hu hd => by
    rcases getElem?_set' hu with ⟨rfl, _, _⟩ | ⟨_, e⟩
    · exact ⟨c, h, hl⟩
    · exact ⟨d, e, hd⟩
  refine ⟨by rw [List.length_set]; exact I.len, fun u d hu => ?_, fun u d hu hd => ?_, fun u v d e ne hu hd hv he => ?_, fun u v d e a hu hd hv he => ?_⟩
  · rcases getElem?_set' hu with ⟨rfl, rfl, _⟩ | ⟨_, e⟩
    · exact hok
    · exact I.ok u d e
  · obtain ⟨d', e1, e2⟩ := old u d hu hd
    exact I.le u d' e1 e2
  · obtain ⟨d', e1, e2⟩ := old u d hu hd
    obtain ⟨d2, f1, f2⟩ := old v e hv he
    exact I.pw u v d' d2 ne e1 e2 f1 f2
  · obtain ⟨d2, f1, f2⟩ := old v e hv he
    have hut : u ≠ t := fun z => by
      subst z
      exact hleaf v d2 a f1 f2
    have hu' : th[u]? = some d := by
      rcases getElem?_set' hu with ⟨z, _, _⟩ | ⟨_, e⟩
      · exact absurd z hut
      · exact e
    obtain ⟨ts, st, rfl, w, hw, hwv, x, hx, hxl⟩ := I.up u v d d2 a hu' hd f1 f2
    refine ⟨ts, st, rfl, w, hw, hwv, ?_⟩
    by_cases z : w = t
    · subst z
      rcases hwv with q | q
      · subst q
        exact ⟨e, hv, he⟩
      · exact absurd f2 (hleaf v d2 q f1)
    · exact ⟨x, by rw [List.getElem?_set_ne (Ne.symm z)]; exact hx, hxl⟩

theorem sets_out {α : Type} : ∀ {ps : List (Nat × α)} {l : List α} {j : Nat}, (∀ p, p ∈ ps → p.1 ≠ j) → (sets l ps)[j]? = l[j]?
  | [], _, _, _ => rfl
  | p :: r, l, j, h => by
    show (sets (l.set p.1 p.2) r)[j]? = l[j]?
    rw [sets_out fun q hq => h q (List.mem_cons_of_mem _ hq), List.getElem?_set_ne (h p (List.mem_cons_self ..))]
theorem sets_length {α : Type} : ∀ {ps : List (Nat × α)} {l : List α}, (sets l ps).length = l.length
  | [], _ => rfl
  | p :: r, l => by
    show (sets (l.set p.1 p.2) r).length = l.length
    rw [sets_length, List.length_set]
theorem sets_in {α : Type} : ∀ {ps : List (Nat × α)} {l : List α} {j : Nat} {x : α}, (ps.map (·.1)).Nodup → (j, x) ∈ ps → j < l.length → (sets l ps)[j]? = some x
  | [], _, _, _, _, h, _ => by cases h
  | p :: r, l, j, x, nd, h, hl => by
    show (sets (l.set p.1 p.2) r)[j]? = some x
    rw [List.map_cons, List.nodup_cons] at nd
    rcases List.mem_cons.mp h with e | e
    · have hj : ∀ q, q ∈ r → q.1 ≠ j := fun q hq z => nd.1 (by
        rw [← e] 
        exact List.mem_map.mpr ⟨q, hq, z⟩)
      rw [sets_out hj, ← e]
      exact List.getElem?_set_self hl
    · exact sets_in nd.2 e (by rw [List.length_set]; exact hl)
/-- a par's branches start -/
theorem TInv.fork (I : TInv ps D B F th) {t : Nat} {rows : List (Nat × Sm)} {rest : List Sm} (h : th[t]? = some (.run (.par rows :: rest))) :
    ∃ F', (∀ u, u ∉ rows.map (·.1) → F' u = F u) ∧ TInv ps D B F' (sets th ((t, .join (rows.map (·.1)) rest) :: rows.map fun r => (r.1, .run [r.2]))) := by
  have ok0 := I.ok t _ h
  have hS := ok0.2 _ (List.mem_cons_self ..)
  generalize hD : D = D0 at hS
  cases hS with
  | @par D' i S rows Fr nd hp hs hc =>
  subst hD
  have hkeys : (rows.map fun r => (r.1, Cond.run [r.2])).map (·.1) = rows.map (·.1) := by rw [List.map_map]; rfl
  have mem : ∀ k, k ∈ rows.map (·.1) → ∃ s, (k, s) ∈ rows := fun k hk => by
    obtain ⟨⟨k', s⟩, hm, e⟩ := List.mem_map.mp hk
    cases e
    exact ⟨s, hm⟩
  have tnot : t ∉ rows.map (·.1) := fun z => by
    obtain ⟨s, hm⟩ := mem t z
    exact Nat.lt_irrefl _ (hp t s hm).2.1
  have hlen : ∀ k s, (k, s) ∈ rows → k < th.length := fun k s hm => by
    rw [I.len]
    exact (List.getElem?_eq_some_iff.mp (hp k s hm).1).1
  have ab : ∀ k s, (k, s) ∈ rows → Above ps t k := fun k s hm => .one (hp k s hm).1 (hp k s hm).2.1
  have dead : ∀ k s d, (k, s) ∈ rows → th[k]? = some d → ¬ d.live := fun k s d hm hd => I.leaf h trivial (fun z => z) (ab k s hm) hd
  have get : ∀ (j : Nat) (x : Cond), (sets th ((t, .join (rows.map (·.1)) rest) :: rows.map fun r => (r.1, .run [r.2])))[j]? = some x →
      (j = t ∧ x = .join (rows.map (·.1)) rest) ∨ (∃ s, (j, s) ∈ rows ∧ x = .run [s]) ∨ (j ≠ t ∧ j ∉ rows.map (·.1) ∧ th[j]? = some x) := by
    intro j x hx
    by_cases e : j ∈ rows.map (·.1)
    · obtain ⟨s, hm⟩ := mem j e
      refine .inr (.inl ⟨s, hm, ?_⟩)
      have q := sets_in (l := th.set t (.join (rows.map (·.1)) rest)) (ps := rows.map fun r => (r.1, Cond.run [r.2])) (j := j) (x := .run [s]) (by rw [hkeys]; exact nd) (List.mem_map.mpr ⟨(j, s), hm, rfl⟩) (by rw [List.length_set]; exact hlen j s hm)
      have hx' : (sets (th.set t (.join (rows.map (·.1)) rest)) (rows.map fun r => (r.1, Cond.run [r.2])))[j]? = some x := hx
      rw [q] at hx'
      exact (Option.some.inj hx').symm
    · have hx' : (sets (th.set t (.join (rows.map (·.1)) rest)) (rows.map fun r => (r.1, Cond.run [r.2])))[j]? = some x := hx
      rw [sets_out fun p hp' z => e (by rw [← hkeys, ← z]; exact List.mem_map.mpr ⟨p, hp', rfl⟩)] at hx'
      rcases getElem?_set' hx' with ⟨z, q, _⟩ | ⟨z, q⟩
      · exact .inl ⟨z, q⟩
      · exact .inr (.inr ⟨z, e, q⟩)
  have F'r : ∀ k s, (k, s) ∈ rows → (if k ∈ rows.map (·.1) then Fr k else F k) = Fr k := fun k s hm => if_pos (List.mem_map.mpr ⟨(k, s), hm, rfl⟩)
  have F'n : ∀ k, k ∉ rows.map (·.1) → (if k ∈ rows.map (·.1) then Fr k else F k) = F k := fun k hm => if_neg hm
  refine ⟨fun k => if k ∈ rows.map (·.1) then Fr k else F k, F'n, by rw [sets_length]; exact I.len, fun j x hx => ?_, fun j x hx hxl => ?_, fun j k x y ne hx hxl hy hyl => ?_, fun j k x y a hx hxl hy hyl => ?_⟩
  · rcases get j x hx with ⟨rfl, rfl⟩ | ⟨s, hm, rfl⟩ | ⟨z1, z2, q⟩
    · skip
      rw [F'n _ tnot]
      exact ⟨fun k hk => by obtain ⟨s, hm⟩ := mem k hk; exact ⟨(hp k s hm).1, (hp k s hm).2.1⟩, fun s hs' => ok0.2 s (List.mem_cons_of_mem _ hs')⟩
    · skip
      rw [F'r j s hm]
      exact ⟨List.cons_ne_nil _ _, fun u hu => by rw [List.mem_singleton.mp hu]; exact (hs j s hm).mono (fun _ _ z => z) (Nat.le_succ _) (Fp.Le.refl _)⟩
    · skip
      rw [F'n _ z2]
      exact I.ok j x q
  · rcases get j x hx with ⟨rfl, rfl⟩ | ⟨s, hm, rfl⟩ | ⟨z1, z2, q⟩
    · skip
      rw [F'n _ tnot]
      exact I.le j _ h trivial
    · skip
      rw [F'r j s hm]
      exact (hp j s hm).2.2.trans (I.le t _ h trivial)
    · skip
      rw [F'n _ z2]
      exact I.le j x q hxl
  · -- a branch beside one that was alive
    have side : ∀ (k : Nat) (s : Sm) (y : Nat) (d : Cond), (k, s) ∈ rows → y ≠ t → th[y]? = some d → d.live → Above ps y k ∨ Compat (Fr k) (F y) := by
      intro k s y d hm ne hy hyl
      rcases I.pw t y _ d (Ne.symm ne) h trivial hy hyl with a | a | a
      · exact absurd hyl (I.leaf h trivial (fun z => z) a hy)
      · exact .inl (a.trans (ab k s hm))
      · exact .inr (a.le (hp k s hm).2.2)
    rcases get j x hx with ⟨rfl, rfl⟩ | ⟨s, hm, rfl⟩ | ⟨z1, z2, q⟩
    · rcases get k y hy with ⟨rfl, rfl⟩ | ⟨s', hm', rfl⟩ | ⟨y1, y2, q'⟩
      · exact absurd rfl ne
      · exact .inl (ab k s' hm')
      · rw [F'n _ tnot, F'n _ y2]
        exact I.pw j k _ y ne h trivial q' hyl
    · rw [F'r j s hm]
      rcases get k y hy with ⟨rfl, rfl⟩ | ⟨s', hm', rfl⟩ | ⟨y1, y2, q'⟩
      · exact .inr (.inl (ab j s hm))
      · rw [F'r k s' hm']
        exact .inr (.inr (hc j k s s' hm hm' ne))
      · rw [F'n _ y2]
        rcases side j s k y hm y1 q' hyl with a | a
        · exact .inr (.inl a)
        · exact .inr (.inr a)
    · rw [F'n _ z2]
      rcases get k y hy with ⟨rfl, rfl⟩ | ⟨s', hm', rfl⟩ | ⟨y1, y2, q'⟩
      · rw [F'n _ tnot]
        exact I.pw j k x _ ne q hxl h trivial
      · rw [F'r k s' hm']
        rcases side k s' j x hm' z1 q hxl with a | a
        · exact .inl a
        · exact .inr (.inr a.symm)
      · rw [F'n _ y2]
        exact I.pw j k x y ne q hxl q' hyl
  · have fwd : ∀ (v : Nat) (e : Cond), th[v]? = some e → e.live → ∃ e' : Cond, (sets th ((t, .join (rows.map (·.1)) rest) :: rows.map fun r => (r.1, .run [r.2])))[v]? = some e' ∧ e'.live := by
      intro v e hv hl
      have hvn : v ∉ rows.map (·.1) := fun z => by
        obtain ⟨s, hm⟩ := mem v z
        exact dead v s e hm hv hl
      have q : (sets th ((t, .join (rows.map (·.1)) rest) :: rows.map fun r => (r.1, Cond.run [r.2])))[v]? = (th.set t (.join (rows.map (·.1)) rest))[v]? :=
        sets_out (l := th.set t (.join (rows.map (·.1)) rest)) fun p hp' z => hvn (by rw [← hkeys, ← z]; exact List.mem_map.mpr ⟨p, hp', rfl⟩)
      rw [q]
      by_cases z : v = t
      · subst z
        exact ⟨_, List.getElem?_set_self (List.getElem?_eq_some_iff.mp hv).1, trivial⟩
      · exact ⟨e, by rw [List.getElem?_set_ne (Ne.symm z)]; exact hv, hl⟩
    rcases get j x hx with ⟨rfl, rfl⟩ | ⟨s, hm, rfl⟩ | ⟨z1, z2, q⟩
    · refine ⟨_, _, rfl, ?_⟩
      rcases get k y hy with ⟨rfl, rfl⟩ | ⟨s', hm', rfl⟩ | ⟨y1, y2, q'⟩
      · exact absurd a.lt (Nat.lt_irrefl _)
      · exact ⟨k, List.mem_map.mpr ⟨(k, s'), hm', rfl⟩, .inl rfl, _, hy, trivial⟩
      · exact absurd hyl (I.leaf h trivial (fun z => z) a q')
    · exfalso
      rcases get k y hy with ⟨rfl, rfl⟩ | ⟨s', hm', rfl⟩ | ⟨y1, y2, q'⟩
      · exact absurd a.lt (Nat.not_lt.mpr (Nat.le_of_lt (ab j s hm).lt))
      · rcases Above.of_child (hp k s' hm').1 a with z | z
        · exact tnot (by rw [← z]; exact List.mem_map.mpr ⟨(j, s), hm, rfl⟩)
        · exact absurd z.lt (Nat.not_lt.mpr (Nat.le_of_lt (ab j s hm).lt))
      · exact I.leaf h trivial (fun z => z) ((ab j s hm).trans a) q' hyl
    · have done : ∀ (b : Nat) (d : Cond), Above ps j b → th[b]? = some d → d.live → (b = k ∨ Above ps b k) → ∃ ts st, x = .join ts st ∧ ∃ v, v ∈ ts ∧ (v = k ∨ Above ps v k) ∧ ∃ e : Cond, (sets th ((t, .join (rows.map (·.1)) rest) :: rows.map fun r => (r.1, .run [r.2])))[v]? = some e ∧ e.live := by
        intro b d ha hb hbl hk
        obtain ⟨ts, st, e, v, hv, hvb, e', h1, h2⟩ := I.up j b x d ha q hxl hb hbl
        refine ⟨ts, st, e, v, hv, ?_, fwd v e' h1 h2⟩
        rcases hvb with rfl | hvb
        · exact hk
        · rcases hk with rfl | hk
          · exact .inr hvb
          · exact .inr (hvb.trans hk)
      rcases get k y hy with ⟨rfl, rfl⟩ | ⟨s', hm', rfl⟩ | ⟨y1, y2, q'⟩
      · exact done k _ a h trivial (.inl rfl)
      · rcases Above.of_child (hp k s' hm').1 a with z | z
        · exact absurd z z1
        · exact done t _ z h trivial (.inr (ab k s' hm'))
      · exact done k y a q' hyl (.inl rfl)
end

/-! ### redexes commute -/
theorem sets_comm1 {α : Type} {j : Nat} {x : α} : ∀ {q : List (Nat × α)} {l : List α}, (∀ p, p ∈ q → p.1 ≠ j) → sets (l.set j x) q = (sets l q).set j x
  | [], _, _ => rfl
  | p :: r, l, h => by
    show sets ((l.set j x).set p.1 p.2) r = (sets (l.set p.1 p.2) r).set j x
    rw [List.set_comm _ _ (Ne.symm (h p (List.mem_cons_self ..)))]
    exact sets_comm1 fun q hq => h q (List.mem_cons_of_mem _ hq)
theorem sets_comm {α : Type} : ∀ {q p : List (Nat × α)} {l : List α}, (∀ a b, a ∈ p → b ∈ q → b.1 ≠ a.1) → sets (sets l p) q = sets (sets l q) p
  | _, [], _, _ => rfl
  | q, a :: r, l, h => by
    show sets (sets (l.set a.1 a.2) r) q = sets ((sets l q).set a.1 a.2) r
    rw [sets_comm fun x y hx hy => h x y (List.mem_cons_of_mem _ hx) hy, sets_comm1 fun b hb => h a b (List.mem_cons_self ..) hb]
theorem getD_set_ne {α : Type} {l : List α} {i j : Nat} {x d : α} (h : i ≠ j) : (l.set i x).getD j d = l.getD j d := by
  rw [List.getD_eq_getElem?_getD, List.getD_eq_getElem?_getD, List.getElem?_set_ne h]
def Rx.main : Rx → Nat
  | .step t => t
  | .meet _ _ t => t
  | .input _ t => t
  | .output _ t => t
  | .fin t => t
def Act : Rx → Nat → Prop
  | .meet _ a t, j => j = t ∨ j = a
  | r, j => j = r.main
def Rdr (σ : State) : Rx → Nat → Prop
  | .meet _ a t, j => j = t ∨ j = a
  | .fin t, j => j = t ∨ ∃ ts st, σ.th[t]? = some (.join ts st) ∧ j ∈ ts
  | r, j => j = r.main
def Wr (g : Cfg) (σ : State) (r : Rx) (j : Nat) : Prop := ∃ p, p ∈ (eff g σ r).ths ∧ p.1 = j
section
variable {g : Cfg} {ps : List Nat} {D : Nat} {B : Fp} {F : Nat → Fp} {σ σ' : State}
theorem act_main (r : Rx) : Act r r.main := by
  cases r <;> first | exact rfl | exact .inl rfl
theorem act_live {r : Rx} {j : Nat} (h : En g σ r) (a : Act r j) : ∃ c : Cond, σ.th[j]? = some c ∧ c.live ∧ ((∀ t, r ≠ .fin t) → ¬ c.isJoin) := by
  cases r with
  | step t => obtain ⟨s, rest, e⟩ := h; cases a; exact ⟨_, e, trivial, fun _ z => z⟩
  | meet c b t =>
    obtain ⟨_, ⟨k, st, e⟩, w, st', e'⟩ := h
    rcases a with a | a
    · subst a; exact ⟨_, e, trivial, fun _ z => z⟩
    · subst a; exact ⟨_, e', trivial, fun _ z => z⟩
  | input c t => obtain ⟨_, ⟨k, st, e⟩, _⟩ := h; cases a; exact ⟨_, e, trivial, fun _ z => z⟩
  | output c t => obtain ⟨_, _, w, st, e⟩ := h; cases a; exact ⟨_, e, trivial, fun _ z => z⟩
  | fin t => obtain ⟨ts, st, e, _⟩ := h; cases a; exact ⟨_, e, trivial, fun z => absurd rfl (z t)⟩
theorem stepEff_keys {cs : List Nat} {t : Nat} {rest : List Sm} {s : Sm} {p : Nat × Cond} (h : p ∈ (stepEff cs t rest s).ths) : p.1 = t ∨ ∃ rows u, s = .par rows ∧ (p.1, u) ∈ rows := by
  cases s with
  | par rows =>
    rcases List.mem_cons.mp h with e | e
    · rw [e]; exact .inl rfl
    · obtain ⟨⟨k, u⟩, hm, e2⟩ := List.mem_map.mp e
      rw [← e2]
      exact .inr ⟨rows, u, rfl, hm⟩
  | set tg e =>
    simp only [stepEff] at h
    split at h
    · rw [List.mem_singleton.mp h]; exact .inl rfl
    · split at h
      · rw [List.mem_singleton.mp h]; exact .inl rfl
      · rw [List.mem_singleton.mp h]; exact .inl rfl
  | _ => rw [List.mem_singleton.mp h]; exact .inl rfl
theorem par_rows {i : Nat} {S : Fp} {rows : List (Nat × Sm)} (h : SmOk ps D i S (.par rows)) {k : Nat} {s : Sm} (hm : (k, s) ∈ rows) : ps[k]? = some i ∧ i < k := by
  cases h with
  | par F nd hp _ _ => exact ⟨(hp k s hm).1, (hp k s hm).2.1⟩
theorem wr_cases (I : TInv ps D B F σ.th) {r : Rx} {j : Nat} (h : En g σ r) (w : Wr g σ r j) : Act r j ∨ ∃ t, r = .step t ∧ ps[j]? = some t ∧ t < j := by
  obtain ⟨p, hp, rfl⟩ := w
  cases r with
  | step t =>
    obtain ⟨s, rest, e⟩ := h
    simp only [eff, e] at hp
    rcases stepEff_keys hp with z | ⟨rows, u, rfl, hm⟩
    · exact .inl z
    · exact .inr ⟨t, rfl, par_rows ((I.ok t _ e).2 _ (List.mem_cons_self ..)) hm⟩
  | meet c a t =>
    obtain ⟨_, ⟨k, st, e⟩, w, st', e'⟩ := h
    simp only [eff, e, e'] at hp
    rcases List.mem_cons.mp hp with z | z
    · rw [z]; exact .inl (.inl rfl)
    · rw [List.mem_singleton.mp z]; exact .inl (.inr rfl)
  | input c t =>
    obtain ⟨_, ⟨k, st, e⟩, _⟩ := h
    simp only [eff, e] at hp
    rw [List.mem_singleton.mp hp]
    exact .inl rfl
  | output c t =>
    obtain ⟨_, _, w, st, e⟩ := h
    simp only [eff, e] at hp
    rw [List.mem_singleton.mp hp]
    exact .inl rfl
  | fin t =>
    obtain ⟨ts, st, e, _⟩ := h
    simp only [eff, e] at hp
    rw [List.mem_singleton.mp hp]
    exact .inl rfl
/-- one giver, one taker -/
theorem one_giver (I : TInv ps D B F σ.th) {a b c w w' : Nat} {st st' : List Sm} (h : σ.th[a]? = some (.giv c w st)) (q : σ.th[b]? = some (.giv c w' st')) : a = b := by
  by_cases e : a = b
  · exact e
  · exact ((I.compat e h trivial (fun z => z) q trivial (fun z => z)).gg c (I.ok a _ h).1 (I.ok b _ q).1).elim
theorem one_taker (I : TInv ps D B F σ.th) {a b c k k' : Nat} {st st' : List Sm} (h : σ.th[a]? = some (.opn c k st)) (q : σ.th[b]? = some (.opn c k' st')) : a = b := by
  by_cases e : a = b
  · exact e
  · exact ((I.compat e h trivial (fun z => z) q trivial (fun z => z)).tt c (I.ok a _ h).1 (I.ok b _ q).1).elim
/-- the actors of two redexes are different threads -/
theorem act_ne (I : TInv ps D B F σ.th) {r q : Rx} {j : Nat} (h : En g σ r) (h' : En g σ q) (a : Act r j) (b : Act q j) : r = q := by
  cases r with
  | step t =>
    obtain ⟨s, rest, e⟩ := h
    cases a
    cases q with
    | step u => obtain ⟨_, _, e'⟩ := h'; cases b; rfl
    | meet c d u =>
      obtain ⟨_, ⟨k, st, e1⟩, w, st', e2⟩ := h'
      rcases b with b | b
      · change t = u at b; subst b; rw [e] at e1; cases e1
      · change t = d at b; subst b; rw [e] at e2; cases e2
    | input c u => obtain ⟨_, ⟨k, st, e1⟩, _⟩ := h'; change t = u at b; subst b; rw [e] at e1; cases e1
    | output c u => obtain ⟨_, _, w, st, e1⟩ := h'; change t = u at b; subst b; rw [e] at e1; cases e1
    | fin u => obtain ⟨ts, st, e1, _⟩ := h'; change t = u at b; subst b; rw [e] at e1; cases e1
  | meet c d t =>
    obtain ⟨hc, ⟨k, st, e⟩, w, st', e'⟩ := h
    cases q with
    | step u =>
      obtain ⟨_, _, f⟩ := h'
      change j = u at b
      subst b
      rcases a with a | a
      · subst a; rw [e] at f; cases f
      · subst a; rw [e'] at f; cases f
    | meet c2 d2 u =>
      obtain ⟨hc2, ⟨k2, st2, e2⟩, w2, st2', e2'⟩ := h'
      rcases a with a | a
      · subst a
        rcases b with b | b
        · subst b
          rw [e] at e2
          cases e2
          have z := one_giver I e' e2'
          subst z
          rfl
        · subst b; rw [e] at e2'; cases e2'
      · subst a
        rcases b with b | b
        · subst b; rw [e'] at e2; cases e2
        · subst b
          rw [e'] at e2'
          cases e2'
          have z := one_taker I e e2
          subst z
          rfl
    | input c2 u =>
      obtain ⟨hc2, ⟨k2, st2, e2⟩, _⟩ := h'
      change j = u at b
      subst b
      rcases a with a | a
      · subst a; rw [e] at e2; cases e2; omega
      · subst a; rw [e'] at e2; cases e2
    | output c2 u =>
      obtain ⟨_, hc2, w2, st2, e2⟩ := h'
      change j = u at b
      subst b
      rcases a with a | a
      · subst a; rw [e] at e2; cases e2
      · subst a; rw [e'] at e2; cases e2; omega
    | fin u =>
      obtain ⟨ts, st2, e2, _⟩ := h'
      change j = u at b
      subst b
      rcases a with a | a
      · subst a; rw [e] at e2; cases e2
      · subst a; rw [e'] at e2; cases e2
  | input c t =>
    obtain ⟨hc, ⟨k, st, e⟩, _⟩ := h
    cases a
    cases q with
    | step u => obtain ⟨_, _, f⟩ := h'; change t = u at b; subst b; rw [e] at f; cases f
    | meet c2 d u =>
      obtain ⟨hc2, ⟨k2, st2, e1⟩, w, st', e2⟩ := h'
      rcases b with b | b
      · change t = u at b; subst b; rw [e] at e1; cases e1; omega
      · change t = d at b; subst b; rw [e] at e2; cases e2
    | input c2 u => obtain ⟨_, ⟨k2, st2, e1⟩, _⟩ := h'; change t = u at b; subst b; rw [e] at e1; cases e1; rfl
    | output c2 u => obtain ⟨_, _, w, st2, e1⟩ := h'; change t = u at b; subst b; rw [e] at e1; cases e1
    | fin u => obtain ⟨ts, st2, e1, _⟩ := h'; change t = u at b; subst b; rw [e] at e1; cases e1
  | output c t =>
    obtain ⟨hc0, hc, w0, st, e⟩ := h
    cases a
    cases q with
    | step u => obtain ⟨_, _, f⟩ := h'; change t = u at b; subst b; rw [e] at f; cases f
    | meet c2 d u =>
      obtain ⟨hc2, ⟨k2, st2, e1⟩, w, st', e2⟩ := h'
      rcases b with b | b
      · change t = u at b; subst b; rw [e] at e1; cases e1
      · change t = d at b; subst b; rw [e] at e2; cases e2; omega
    | input c2 u => obtain ⟨_, ⟨k2, st2, e1⟩, _⟩ := h'; change t = u at b; subst b; rw [e] at e1; cases e1
    | output c2 u => obtain ⟨_, _, w, st2, e1⟩ := h'; change t = u at b; subst b; rw [e] at e1; cases e1; rfl
    | fin u => obtain ⟨ts, st2, e1, _⟩ := h'; change t = u at b; subst b; rw [e] at e1; cases e1
  | fin t =>
    obtain ⟨ts, st, e, _⟩ := h
    cases a
    cases q with
    | step u => obtain ⟨_, _, f⟩ := h'; change t = u at b; subst b; rw [e] at f; cases f
    | meet c2 d u =>
      obtain ⟨hc2, ⟨k2, st2, e1⟩, w, st', e2⟩ := h'
      rcases b with b | b
      · change t = u at b; subst b; rw [e] at e1; cases e1
      · change t = d at b; subst b; rw [e] at e2; cases e2
    | input c2 u => obtain ⟨_, ⟨k2, st2, e1⟩, _⟩ := h'; change t = u at b; subst b; rw [e] at e1; cases e1
    | output c2 u => obtain ⟨_, _, w, st2, e1⟩ := h'; change t = u at b; subst b; rw [e] at e1; cases e1
    | fin u => change t = u at b; subst b; rfl
/-- a branch that starts was not alive -/
theorem start_dead (I : TInv ps D B F σ.th) {t j : Nat} {d : Cond} (h : En g σ (.step t)) (hp : ps[j]? = some t) (hj : t < j) (q : σ.th[j]? = some d) : ¬ d.live := by
  obtain ⟨s, rest, e⟩ := h
  exact I.leaf e trivial (fun z => z) (.one hp hj) q
theorem rdr_cases {r : Rx} {j : Nat} (h : En g σ r) (a : Rdr σ r j) : Act r j ∨ ∃ t ts st, r = .fin t ∧ σ.th[t]? = some (.join ts st) ∧ j ∈ ts ∧ σ.th[j]? = some .done := by
  cases r with
  | fin t =>
    rcases a with a | ⟨ts, st, e, hm⟩
    · exact .inl a
    · obtain ⟨ts', st', e', hd⟩ := h
      rw [e] at e'
      cases e'
      exact .inr ⟨t, ts, st, rfl, e, hm, hd j hm⟩
  | _ => exact .inl a
theorem wr_rd (I : TInv ps D B F σ.th) {r q : Rx} {j : Nat} (h : En g σ r) (h' : En g σ q) (ne : r ≠ q) (w : Wr g σ r j) : ¬ Rdr σ q j := fun z => by
  rcases wr_cases I h w with a | ⟨t, rfl, hp, hj⟩
  · rcases rdr_cases h' z with b | ⟨u, ts, st, rfl, e, hm, hd⟩
    · exact ne (act_ne I h h' a b)
    · obtain ⟨c, hc, hl, _⟩ := act_live h a
      rw [hd] at hc
      cases hc
      exact hl
  · rcases rdr_cases h' z with b | ⟨u, ts, st, rfl, e, hm, hd⟩
    · obtain ⟨c, hc, hl, _⟩ := act_live h' b
      exact start_dead I h hp hj hc hl
    · have k := ((I.ok u _ e).1 j hm).1
      rw [hp] at k
      cases k
      obtain ⟨s, rest, e2⟩ := h
      rw [e] at e2
      cases e2
theorem wr_wr (I : TInv ps D B F σ.th) {r q : Rx} {j : Nat} (h : En g σ r) (h' : En g σ q) (ne : r ≠ q) (w : Wr g σ r j) : ¬ Wr g σ q j := fun z => by
  rcases wr_cases I h w with a | ⟨t, rfl, hp, hj⟩
  · rcases wr_cases I h' z with b | ⟨u, rfl, hp', hj'⟩
    · exact ne (act_ne I h h' a b)
    · obtain ⟨c, hc, hl, _⟩ := act_live h a
      exact start_dead I h' hp' hj' hc hl
  · rcases wr_cases I h' z with b | ⟨u, rfl, hp', hj'⟩
    · obtain ⟨c, hc, hl, _⟩ := act_live h' b
      exact start_dead I h hp hj hc hl
    · rw [hp] at hp'
      cases hp'
      exact ne rfl
theorem th_keep (I : TInv ps D B F σ.th) {r : Rx} {j : Nat} (h : ¬ Wr g σ r j) : (perform g σ r).th[j]? = σ.th[j]? := sets_out fun p hp z => h ⟨p, hp, z⟩
/-- what a redex writes of the cells lies in its main thread's footprint -/
theorem stepEff_cel {cs : List Nat} {t : Nat} {rest : List Sm} {s : Sm} {k w : Nat} {S : Fp} (hs : SmOk ps D t S s) (hw : ∀ w, w ∈ cs → w < 65536) (h : (stepEff cs t rest s).cel = some (k, w)) : S.W k ∧ w < 65536 := by
  cases s with
  | set tg e =>
    cases hs with
    | set h1 h2 =>
      simp only [stepEff] at h
      split at h
      · cases h
      · rename_i v hv
        split at h
        · cases h
        · rename_i k' hk
          cases h
          exact ⟨place_W h1.ok hk, val_lt hw h2.ok hv⟩
  | _ => cases h
theorem cel_at (I : TInv ps D B F σ.th) (hw : ∀ w, w ∈ σ.cells → w < 65536) (hin : ∀ row, row ∈ g.inp → ∀ w, w ∈ row → w < 65536) {r : Rx} {k w : Nat} (h : En g σ r) (e : (eff g σ r).cel = some (k, w)) : (F r.main).W k ∧ (∀ t, r ≠ .fin t) ∧ w < 65536 := by
  cases r with
  | step t =>
    obtain ⟨s, rest, e1⟩ := h
    simp only [eff, e1] at e
    have q := stepEff_cel ((I.ok t _ e1).2 s (List.mem_cons_self ..)) hw e
    exact ⟨q.1, fun _ z => (nomatch z), q.2⟩
  | meet c a t =>
    obtain ⟨_, ⟨k', st, e1⟩, w', st', e2⟩ := h
    simp only [eff, e1, e2] at e
    cases e
    exact ⟨(I.ok t _ e1).2.1, fun _ z => (nomatch z), (I.ok a _ e2).2.1⟩
  | input c t =>
    obtain ⟨_, ⟨k', st, e1⟩, _⟩ := h
    simp only [eff, e1] at e
    cases e
    refine ⟨(I.ok t _ e1).2.1, fun _ z => (nomatch z), ?_⟩
    unfold Cfg.word
    refine getD_lt (fun w hm => ?_) _
    rw [List.getD_eq_getElem?_getD] at hm
    cases q : g.inp[c]? with
    | none => rw [q] at hm; cases hm
    | some row => rw [q] at hm; exact hin row (List.mem_of_getElem? q) w hm
  | output c t =>
    obtain ⟨_, _, w', st, e1⟩ := h
    simp only [eff, e1] at e
    cases e
  | fin t =>
    obtain ⟨ts, st, e1, _⟩ := h
    simp only [eff, e1] at e
    cases e
theorem tak_at {r : Rx} {c : Nat} (h : (eff g σ r).tak = some c) (hr : En g σ r) : ∃ t, r = .input c t := by
  cases r with
  | step t =>
    obtain ⟨s, rest, e1⟩ := hr
    simp only [eff, e1] at h
    cases s with
    | set tg e =>
      simp only [stepEff] at h
      split at h
      · cases h
      · split at h <;> cases h
    | _ => cases h
  | meet c a t =>
    obtain ⟨_, ⟨k', st, e1⟩, w', st', e2⟩ := hr
    simp only [eff, e1, e2] at h
    cases h
  | input c t =>
    obtain ⟨_, ⟨k', st, e1⟩, _⟩ := hr
    simp only [eff, e1] at h
    cases h
    exact ⟨t, rfl⟩
  | output c t =>
    obtain ⟨_, _, w', st, e1⟩ := hr
    simp only [eff, e1] at h
    cases h
  | fin t =>
    obtain ⟨ts, st, e1, _⟩ := hr
    simp only [eff, e1] at h
    cases h
theorem out_at {r : Rx} {i w : Nat} (h : (eff g σ r).out = some (i, w)) (hr : En g σ r) : ∃ c t st, r = .output c t ∧ i = c - g.nIn ∧ σ.th[t]? = some (.giv c w st) := by
  cases r with
  | step t =>
    obtain ⟨s, rest, e1⟩ := hr
    simp only [eff, e1] at h
    cases s with
    | set tg e =>
      simp only [stepEff] at h
      split at h
      · cases h
      · split at h <;> cases h
    | _ => cases h
  | meet c a t =>
    obtain ⟨_, ⟨k', st, e1⟩, w', st', e2⟩ := hr
    simp only [eff, e1, e2] at h
    cases h
  | input c t =>
    obtain ⟨_, ⟨k', st, e1⟩, _⟩ := hr
    simp only [eff, e1] at h
    cases h
  | output c t =>
    obtain ⟨_, _, w', st, e1⟩ := hr
    simp only [eff, e1] at h
    cases h
    exact ⟨c, t, st, rfl, rfl, e1⟩
  | fin t =>
    obtain ⟨ts, st, e1, _⟩ := hr
    simp only [eff, e1] at h
    cases h
/-- what a redex reads is the same in σ' -/
structure Agree (g : Cfg) (F : Nat → Fp) (σ σ' : State) (r : Rx) : Prop where
  th : ∀ j, Rdr σ r j → σ'.th[j]? = σ.th[j]?
  cells : (∀ t, r ≠ .fin t) → ∀ k, (F r.main).R k → σ'.cells.getD k 0 = σ.cells.getD k 0
  taken : ∀ c t, r = .input c t → σ'.taken.getD c 0 = σ.taken.getD c 0
theorem stepCond_congr {cs ds : List Nat} {rest : List Sm} {t : Nat} {S : Fp} {s : Sm} (hs : SmOk ps D t S s) (h : ∀ k, S.R k → cs.getD k 0 = ds.getD k 0) : stepCond cs rest s = stepCond ds rest s := by
  cases hs with
  | give _ h2 => simp only [stepCond, val_congr h h2.ok]
  | take _ h2 => simp only [stepCond, place_congr h h2.ok]
  | ite h2 _ _ => simp only [stepCond, val_congr h h2.ok]
  | rep h2 _ => simp only [stepCond, val_congr h h2.ok]
  | _ => rfl
theorem stepEff_congr {cs ds : List Nat} {rest : List Sm} {t : Nat} {S : Fp} {s : Sm} (hs : SmOk ps D t S s) (h : ∀ k, S.R k → cs.getD k 0 = ds.getD k 0) : stepEff cs t rest s = stepEff ds t rest s := by
  have q := stepCond_congr (rest := rest) hs h
  cases s with
  | set tg e =>
    cases hs with
    | set h1 h2 => simp only [stepEff, val_congr h h2.ok, place_congr h h1.ok]
  | par rows => rfl
  | _ => simp only [stepEff, q]
theorem agree (I : TInv ps D B F σ.th) {r : Rx} (h : En g σ r) (a : Agree g F σ σ' r) : En g σ' r ∧ eff g σ' r = eff g σ r ∧ event g σ' r = event g σ r := by
  cases r with
  | step t =>
    obtain ⟨s, rest, e⟩ := h
    have e' : σ'.th[t]? = _ := (a.th t rfl).trans e
    refine ⟨⟨s, rest, e'⟩, ?_, rfl⟩
    simp only [eff, e, e']
    exact stepEff_congr ((I.ok t _ e).2 s (List.mem_cons_self ..)) (a.cells fun _ z => (nomatch z))
  | meet c b t =>
    obtain ⟨hc, ⟨k, st, e⟩, w, st', e2⟩ := h
    have e' : σ'.th[t]? = _ := (a.th t (.inl rfl)).trans e
    have e2' : σ'.th[b]? = _ := (a.th b (.inr rfl)).trans e2
    refine ⟨⟨hc, ⟨k, st, e'⟩, w, st', e2'⟩, ?_, ?_⟩
    · simp only [eff, e, e', e2, e2']
    · simp only [event, e2, e2']
  | input c t =>
    obtain ⟨hc, ⟨k, st, e⟩, hl⟩ := h
    have e' : σ'.th[t]? = _ := (a.th t rfl).trans e
    have et := a.taken c t rfl
    refine ⟨⟨hc, ⟨k, st, e'⟩, by rw [et]; exact hl⟩, ?_, ?_⟩
    · simp only [eff, e, e', Cfg.word, et]
    · simp only [event, Cfg.word, et]
  | output c t =>
    obtain ⟨h0, hc, w, st, e⟩ := h
    have e' : σ'.th[t]? = _ := (a.th t rfl).trans e
    refine ⟨⟨h0, hc, w, st, e'⟩, ?_, ?_⟩
    · simp only [eff, e, e']
    · simp only [event, e, e']
  | fin t =>
    obtain ⟨ts, st, e, hd⟩ := h
    have e' : σ'.th[t]? = _ := (a.th t (.inl rfl)).trans e
    refine ⟨⟨ts, st, e', fun k hk => (a.th k (.inr ⟨ts, st, e, hk⟩)).trans (hd k hk)⟩, ?_, rfl⟩
    simp only [eff, e, e']
end
section
variable {g : Cfg} {ps : List Nat} {D nc : Nat} {B : Fp} {σ : State}
/-- THE INVARIANT of a state -/
structure SInv (g : Cfg) (ps : List Nat) (D nc : Nat) (B : Fp) (σ : State) : Prop where
  ex : ∃ F, TInv ps D B F σ.th
  nc : σ.cells.length = nc
  wd : ∀ w, w ∈ σ.cells → w < 65536
  tk : σ.taken.length = g.nIn
  ou : σ.outs.length = g.nOut
def Cfg.Words (g : Cfg) : Prop := ∀ row, row ∈ g.inp → ∀ w, w ∈ row → w < 65536
theorem agree_of {F : Nat → Fp} (I : TInv ps D B F σ.th) (hw : ∀ w, w ∈ σ.cells → w < 65536) (hin : g.Words) {r q : Rx} (h : En g σ r) (h' : En g σ q) (ne : r ≠ q) : Agree g F σ (perform g σ r) q := by
  refine ⟨fun j hj => th_keep I fun w => wr_rd I h h' ne w hj, fun hf k hk => ?_, fun c t e => ?_⟩
  · show (match (eff g σ r).cel with | none => σ.cells | some (k, w) => σ.cells.set k w).getD k 0 = σ.cells.getD k 0
    cases e : (eff g σ r).cel with
    | none => rfl
    | some p =>
      obtain ⟨k', w⟩ := p
      obtain ⟨h1, h2, _⟩ := cel_at I hw hin h e
      obtain ⟨c1, e1, l1, j1⟩ := act_live h (act_main r)
      obtain ⟨c2, e2, l2, j2⟩ := act_live h' (act_main q)
      have mne : r.main ≠ q.main := fun z => ne (act_ne I h h' (act_main r) (by rw [z]; exact act_main q))
      refine getD_set_ne fun z => ?_
      subst z
      exact (I.compat mne e1 l1 (j1 h2) e2 l2 (j2 hf)).wr _ h1 hk
  · show (match (eff g σ r).tak with | none => σ.taken | some c => σ.taken.set c (σ.taken.getD c 0 + 1)).getD c 0 = σ.taken.getD c 0
    cases e2 : (eff g σ r).tak with
    | none => rfl
    | some c' =>
      obtain ⟨t', e3⟩ := tak_at e2 h
      refine getD_set_ne fun z => ?_
      subst z
      subst e3
      subst e
      obtain ⟨_, ⟨k, st, e4⟩, _⟩ := h
      obtain ⟨_, ⟨k', st', e5⟩, _⟩ := h'
      have z := one_taker I e4 e5
      subst z
      exact ne rfl
/-- THE DIAMOND -/
theorem diamond (I : SInv g ps D nc B σ) (hin : g.Words) {r q : Rx} (h : En g σ r) (h' : En g σ q) (ne : r ≠ q) :
    En g (perform g σ r) q ∧ event g (perform g σ r) q = event g σ q ∧ perform g (perform g σ r) q = perform g (perform g σ q) r := by
  obtain ⟨F, T⟩ := I.ex
  obtain ⟨a1, a2, a3⟩ := agree T h' (agree_of T I.wd hin h h' ne)
  obtain ⟨b1, b2, b3⟩ := agree T h (agree_of T I.wd hin h' h (Ne.symm ne))
  refine ⟨a1, a3, ?_⟩
  show (eff g (perform g σ r) q).app (perform g σ r) = (eff g (perform g σ q) r).app (perform g σ q)
  rw [a2, b2]
  have q1 : (match (eff g σ q).cel with | none => (perform g σ r).cells | some (k, w) => (perform g σ r).cells.set k w) = (match (eff g σ r).cel with | none => (perform g σ q).cells | some (k, w) => (perform g σ q).cells.set k w) := by
    show (match (eff g σ q).cel with | none => (match (eff g σ r).cel with | none => σ.cells | some (k, w) => σ.cells.set k w) | some (k, w) => (match (eff g σ r).cel with | none => σ.cells | some (k, w) => σ.cells.set k w).set k w) =
      (match (eff g σ r).cel with | none => (match (eff g σ q).cel with | none => σ.cells | some (k, w) => σ.cells.set k w) | some (k, w) => (match (eff g σ q).cel with | none => σ.cells | some (k, w) => σ.cells.set k w).set k w)
    cases e1 : (eff g σ r).cel with
    | none => rfl
    | some p =>
      cases e2 : (eff g σ q).cel with
      | none => rfl
      | some p2 =>
        obtain ⟨k, w⟩ := p
        obtain ⟨k2, w2⟩ := p2
        refine List.set_comm _ _ fun z => ?_
        subst z
        obtain ⟨h1, h2, _⟩ := cel_at T I.wd hin h e1
        obtain ⟨h3, h4, _⟩ := cel_at T I.wd hin h' e2
        obtain ⟨c1, f1, l1, j1⟩ := act_live h (act_main r)
        obtain ⟨c2, f2, l2, j2⟩ := act_live h' (act_main q)
        have mne : r.main ≠ q.main := fun z => ne (act_ne T h h' (act_main r) (by rw [z]; exact act_main q))
        exact (T.compat mne f1 l1 (j1 h2) f2 l2 (j2 h4)).ww _ h1 h3
  have q2 : sets (perform g σ r).th (eff g σ q).ths = sets (perform g σ q).th (eff g σ r).ths :=
    sets_comm fun a b ha hb z => wr_wr T h h' ne ⟨a, ha, rfl⟩ ⟨b, hb, z⟩
  have q3 : (match (eff g σ q).tak with | none => (perform g σ r).taken | some c => (perform g σ r).taken.set c ((perform g σ r).taken.getD c 0 + 1)) = (match (eff g σ r).tak with | none => (perform g σ q).taken | some c => (perform g σ q).taken.set c ((perform g σ q).taken.getD c 0 + 1)) := by
    show (match (eff g σ q).tak with | none => (match (eff g σ r).tak with | none => σ.taken | some c => σ.taken.set c (σ.taken.getD c 0 + 1)) | some c => (match (eff g σ r).tak with | none => σ.taken | some c => σ.taken.set c (σ.taken.getD c 0 + 1)).set c ((match (eff g σ r).tak with | none => σ.taken | some c => σ.taken.set c (σ.taken.getD c 0 + 1)).getD c 0 + 1)) =
      (match (eff g σ r).tak with | none => (match (eff g σ q).tak with | none => σ.taken | some c => σ.taken.set c (σ.taken.getD c 0 + 1)) | some c => (match (eff g σ q).tak with | none => σ.taken | some c => σ.taken.set c (σ.taken.getD c 0 + 1)).set c ((match (eff g σ q).tak with | none => σ.taken | some c => σ.taken.set c (σ.taken.getD c 0 + 1)).getD c 0 + 1))
    cases e1 : (eff g σ r).tak with
    | none => rfl
    | some c =>
      cases e2 : (eff g σ q).tak with
      | none => rfl
      | some d =>
        have cd : c ≠ d := fun z => by
          subst z
          obtain ⟨t, rfl⟩ := tak_at e1 h
          obtain ⟨u, rfl⟩ := tak_at e2 h'
          obtain ⟨_, ⟨k, st, e4⟩, _⟩ := h
          obtain ⟨_, ⟨k', st', e5⟩, _⟩ := h'
          have z := one_taker T e4 e5
          subst z
          exact ne rfl
        show (σ.taken.set c _).set d ((σ.taken.set c _).getD d 0 + 1) = (σ.taken.set d _).set c ((σ.taken.set d _).getD c 0 + 1)
        rw [getD_set_ne cd, getD_set_ne (Ne.symm cd), List.set_comm _ _ cd]
  have q4 : (match (eff g σ q).out with | none => (perform g σ r).outs | some (i, w) => (perform g σ r).outs.set i ((perform g σ r).outs.getD i [] ++ [w])) = (match (eff g σ r).out with | none => (perform g σ q).outs | some (i, w) => (perform g σ q).outs.set i ((perform g σ q).outs.getD i [] ++ [w])) := by
    show (match (eff g σ q).out with | none => (match (eff g σ r).out with | none => σ.outs | some (i, w) => σ.outs.set i (σ.outs.getD i [] ++ [w])) | some (i, w) => (match (eff g σ r).out with | none => σ.outs | some (i, w) => σ.outs.set i (σ.outs.getD i [] ++ [w])).set i ((match (eff g σ r).out with | none => σ.outs | some (i, w) => σ.outs.set i (σ.outs.getD i [] ++ [w])).getD i [] ++ [w])) =
      (match (eff g σ r).out with | none => (match (eff g σ q).out with | none => σ.outs | some (i, w) => σ.outs.set i (σ.outs.getD i [] ++ [w])) | some (i, w) => (match (eff g σ q).out with | none => σ.outs | some (i, w) => σ.outs.set i (σ.outs.getD i [] ++ [w])).set i ((match (eff g σ q).out with | none => σ.outs | some (i, w) => σ.outs.set i (σ.outs.getD i [] ++ [w])).getD i [] ++ [w]))
    cases e1 : (eff g σ r).out with
    | none => rfl
    | some p =>
      cases e2 : (eff g σ q).out with
      | none => rfl
      | some p2 =>
        obtain ⟨i, w⟩ := p
        obtain ⟨j, w2⟩ := p2
        have cd : i ≠ j := fun z => by
          subst z
          obtain ⟨c, t, st, rfl, z1, f1⟩ := out_at e1 h
          obtain ⟨d, u, st2, rfl, z2, f2⟩ := out_at e2 h'
          obtain ⟨g1, _⟩ := h
          obtain ⟨g2, _⟩ := h'
          have z3 : c = d := by omega
          subst z3
          have z4 := one_giver T f1 f2
          subst z4
          exact ne rfl
        show (σ.outs.set i _).set j ((σ.outs.set i _).getD j [] ++ [w2]) = (σ.outs.set j _).set i ((σ.outs.set j _).getD i [] ++ [w])
        rw [getD_set_ne cd, getD_set_ne (Ne.symm cd), List.set_comm _ _ cd]
  unfold Eff.app
  rw [State.mk.injEq]
  exact ⟨q1, q2, q3, q4⟩
end

/-! ### a redex keeps the invariant -/
section
variable {g : Cfg} {ps : List Nat} {D nc : Nat} {B : Fp} {σ : State}
theorem stepCond_ok {cs : List Nat} {rest : List Sm} {t : Nat} {S : Fp} {s : Sm} (hs : SmOk ps D t S s) (hr : ∀ s, s ∈ rest → SmOk ps D t S s) (hw : ∀ w, w ∈ cs → w < 65536) :
    CondOk ps D S t (stepCond cs rest s) ∧ ¬ (stepCond cs rest s).isJoin := by
  cases hs with
  | skip => exact ⟨mkAt_ok hr, mkAt_nj _⟩
  | stop => exact ⟨trivial, fun z => z⟩
  | set => exact ⟨trivial, fun z => z⟩
  | @give D' i S c e h1 h2 =>
    simp only [stepCond]
    cases hv : e.val cs with
    | none => exact ⟨trivial, fun z => z⟩
    | some w => exact ⟨⟨h1, val_lt hw h2.ok hv, hr⟩, fun z => z⟩
  | @take D' i S c tg h1 h2 =>
    simp only [stepCond]
    cases hv : tg.place cs with
    | none => exact ⟨trivial, fun z => z⟩
    | some w => exact ⟨⟨h1, place_W h2.ok hv, hr⟩, fun z => z⟩
  | @seq D' i S ss h =>
    exact ⟨mkAt_ok fun u hu => (List.mem_append.mp hu).elim (fun z => (h u z).mono (fun _ _ z => z) (Nat.le_succ _) (Fp.Le.refl _)) (hr u), mkAt_nj _⟩
  | par => exact ⟨trivial, fun z => z⟩
  | @ite D' i S e a b h1 h2 h3 =>
    simp only [stepCond]
    cases hv : e.val cs with
    | none => exact ⟨trivial, fun z => z⟩
    | some w =>
      refine ⟨⟨List.cons_ne_nil _ _, fun u hu => ?_⟩, fun z => z⟩
      rcases List.mem_cons.mp hu with z | z
      · rw [z]
        split
        · exact h2.mono (fun _ _ z => z) (Nat.le_succ _) (Fp.Le.refl _)
        · exact h3.mono (fun _ _ z => z) (Nat.le_succ _) (Fp.Le.refl _)
      · exact hr u z
  | @rep D' i S e n s h1 h2 =>
    simp only [stepCond]
    split
    · exact ⟨mkAt_ok hr, mkAt_nj _⟩
    · cases hv : e.val cs with
      | none => exact ⟨trivial, fun z => z⟩
      | some w =>
        show CondOk ps (D' + 1) S t (if w = 0 then mkAt rest else .run (s :: .rep e (n - 1) s :: rest)) ∧ ¬ (if w = 0 then mkAt rest else .run (s :: .rep e (n - 1) s :: rest) : Cond).isJoin
        split
        · exact ⟨mkAt_ok hr, mkAt_nj _⟩
        · refine ⟨⟨List.cons_ne_nil _ _, fun u hu => ?_⟩, fun z => z⟩
          rcases List.mem_cons.mp hu with z | z
          · rw [z]
            exact h2.mono (fun _ _ z => z) (Nat.le_succ _) (Fp.Le.refl _)
          · rcases List.mem_cons.mp z with z | z
            · rw [z]
              exact .rep h1 h2
            · exact hr u z
theorem TInv.turn1 {F : Nat → Fp} {th : List Cond} (I : TInv ps D B F th) {t : Nat} {c c' : Cond} (h : th[t]? = some c) (hl : c.live) (hj : ¬ c.isJoin) (hok : CondOk ps D (F t) t c') (hj' : ¬ c'.isJoin) : TInv ps D B F (th.set t c') :=
  I.turn h hl (fun _ _ a q => I.leaf h hl hj a q) hok hj'
theorem perform_th {F : Nat → Fp} (I : TInv ps D B F σ.th) (hw : ∀ w, w ∈ σ.cells → w < 65536) {r : Rx} (h : En g σ r) : ∃ F', TInv ps D B F' (perform g σ r).th := by
  cases r with
  | step t =>
    obtain ⟨s, rest, e⟩ := h
    have ok := I.ok t _ e
    have hs := ok.2 s (List.mem_cons_self ..)
    have hr : ∀ u, u ∈ rest → SmOk ps D t (F t) u := fun u hu => ok.2 u (List.mem_cons_of_mem _ hu)
    have gen : ∀ c', CondOk ps D (F t) t c' → ¬ c'.isJoin → TInv ps D B F (σ.th.set t c') := fun c' a b => I.turn1 e trivial (fun z => z) a b
    have hx : (perform g σ (.step t)).th = sets σ.th (stepEff σ.cells t rest s).ths := by
      show sets σ.th (eff g σ (.step t)).ths = _
      simp only [eff, e]
    rw [hx]
    cases s with
    | par rows =>
      obtain ⟨F', _, q⟩ := I.fork e
      exact ⟨F', q⟩
    | set tg e2 =>
      refine ⟨F, ?_⟩
      simp only [stepEff]
      split
      · exact gen _ trivial fun z => z
      · split
        · exact gen _ trivial fun z => z
        · exact gen _ (mkAt_ok hr) (mkAt_nj _)
    | _ =>
      obtain ⟨a, b⟩ := stepCond_ok hs hr hw
      exact ⟨F, gen _ a b⟩
  | meet c a t =>
    obtain ⟨_, ⟨k, st, e1⟩, w, st', e2⟩ := h
    have ne : a ≠ t := fun z => by
      subst z
      rw [e1] at e2
      cases e2
    have hx : (perform g σ (.meet c a t)).th = (σ.th.set t (mkAt st)).set a (mkAt st') := by
      show sets σ.th (eff g σ (.meet c a t)).ths = _
      simp only [eff, e1, e2]
      rfl
    rw [hx]
    refine ⟨F, TInv.turn1 (c := .giv c w st') (I.turn1 e1 trivial (fun z => z) (mkAt_ok (I.ok t _ e1).2.2) (mkAt_nj _)) ?_ trivial (fun z => z) (mkAt_ok (I.ok a _ e2).2.2) (mkAt_nj _)⟩
    rw [List.getElem?_set_ne (Ne.symm ne)]
    exact e2
  | input c t =>
    obtain ⟨_, ⟨k, st, e1⟩, _⟩ := h
    have hx : (perform g σ (.input c t)).th = σ.th.set t (mkAt st) := by
      show sets σ.th (eff g σ (.input c t)).ths = _
      simp only [eff, e1]
      rfl
    rw [hx]
    exact ⟨F, I.turn1 e1 trivial (fun z => z) (mkAt_ok (I.ok t _ e1).2.2) (mkAt_nj _)⟩
  | output c t =>
    obtain ⟨_, _, w, st, e1⟩ := h
    have hx : (perform g σ (.output c t)).th = σ.th.set t (mkAt st) := by
      show sets σ.th (eff g σ (.output c t)).ths = _
      simp only [eff, e1]
      rfl
    rw [hx]
    exact ⟨F, I.turn1 e1 trivial (fun z => z) (mkAt_ok (I.ok t _ e1).2.2) (mkAt_nj _)⟩
  | fin t =>
    obtain ⟨ts, st, e1, hd⟩ := h
    have hx : (perform g σ (.fin t)).th = σ.th.set t (mkAt st) := by
      show sets σ.th (eff g σ (.fin t)).ths = _
      simp only [eff, e1]
      rfl
    rw [hx]
    exact ⟨F, I.turn e1 trivial (fun u d a q => I.leafJ e1 hd a q) (mkAt_ok (I.ok t _ e1).2) (mkAt_nj _)⟩
theorem mem_set' {α : Type} {l : List α} {i : Nat} {x y : α} (h : y ∈ l.set i x) : y ∈ l ∨ y = x := by
  obtain ⟨j, hj⟩ := List.mem_iff_getElem?.mp h
  rcases getElem?_set' hj with ⟨_, z, _⟩ | ⟨_, z⟩
  · exact .inr z
  · exact .inl (List.mem_of_getElem? z)
theorem SInv.perform (I : SInv g ps D nc B σ) (hin : g.Words) {r : Rx} (h : En g σ r) : SInv g ps D nc B (perform g σ r) := by
  obtain ⟨F, T⟩ := I.ex
  refine ⟨perform_th T I.wd h, ?_, ?_, ?_, ?_⟩
  · show (match (eff g σ r).cel with | none => σ.cells | some (k, w) => σ.cells.set k w).length = nc
    cases (eff g σ r).cel with
    | none => exact I.nc
    | some p => exact (List.length_set ..).trans I.nc
  · show ∀ w, w ∈ (match (eff g σ r).cel with | none => σ.cells | some (k, w) => σ.cells.set k w) → w < 65536
    cases e : (eff g σ r).cel with
    | none => exact I.wd
    | some p =>
      intro w hm
      rcases mem_set' hm with z | z
      · exact I.wd w z
      · rw [z]
        exact (cel_at T I.wd hin h (k := p.1) (w := p.2) e).2.2
  · show (match (eff g σ r).tak with | none => σ.taken | some c => σ.taken.set c (σ.taken.getD c 0 + 1)).length = g.nIn
    cases (eff g σ r).tak with
    | none => exact I.tk
    | some p => exact (List.length_set ..).trans I.tk
  · show (match (eff g σ r).out with | none => σ.outs | some (i, w) => σ.outs.set i (σ.outs.getD i [] ++ [w])).length = g.nOut
    cases (eff g σ r).out with
    | none => exact I.ou
    | some p => exact (List.length_set ..).trans I.ou

/-! ### the measure -/
def Cond.ms : Cond → Nat
  | .run st => wkL st
  | .giv _ _ st => 1 + wkL st
  | .opn _ _ st => 1 + wkL st
  | .join _ st => 1 + wkL st
  | _ => 0
def msL : List Cond → Nat
  | [] => 0
  | c :: r => c.ms + msL r
def State.ms (σ : State) : Nat := msL σ.th
theorem mkAt_ms (st : List Sm) : (mkAt st).ms = wkL st := by cases st <;> rfl
theorem msL_set_le : ∀ (l : List Cond) (i : Nat) (c : Cond), msL (l.set i c) ≤ msL l + c.ms
  | [], _, _ => Nat.zero_le _
  | d :: r, 0, c => by
    show c.ms + msL r ≤ d.ms + msL r + c.ms
    omega
  | d :: r, i + 1, c => by
    have ih := msL_set_le r i c
    show d.ms + msL (r.set i c) ≤ d.ms + msL r + c.ms
    omega
theorem msL_set : ∀ {l : List Cond} {i : Nat} {c d : Cond}, l[i]? = some d → msL (l.set i c) + d.ms = msL l + c.ms
  | [], _, _, _, h => by simp at h
  | e :: r, 0, c, d, h => by
    have z : e = d := Option.some.inj h
    subst z
    show c.ms + msL r + e.ms = e.ms + msL r + c.ms
    omega
  | e :: r, i + 1, c, d, h => by
    have ih := msL_set (l := r) (i := i) (c := c) (d := d) h
    show e.ms + msL (r.set i c) + d.ms = e.ms + msL r + c.ms
    omega
theorem msL_rows : ∀ (rows : List (Nat × Sm)) (l : List Cond), msL (sets l (rows.map fun r => (r.1, Cond.run [r.2]))) ≤ msL l + wkR rows
  | [], l => by simp [sets, wkR]
  | (k, s) :: r, l => by
    have ih := msL_rows r (l.set k (.run [s]))
    have h1 := msL_set_le l k (.run [s])
    have e : (Cond.run [s]).ms = s.wk := by simp [Cond.ms, wkL]
    rw [e] at h1
    have e2 : wkR ((k, s) :: r) = s.wk + wkR r := rfl
    rw [e2]
    show msL (sets (l.set k (.run [s])) (r.map fun r => (r.1, Cond.run [r.2]))) ≤ _
    omega
theorem stepCond_ms (cs : List Nat) (rest : List Sm) (s : Sm) : (stepCond cs rest s).ms < wkL (s :: rest) := by
  have ew : wkL (s :: rest) = s.wk + wkL rest := rfl
  have p := wk_pos s
  rw [ew]
  cases s with
  | skip => simp only [stepCond, mkAt_ms, Sm.wk]; omega
  | stop => simp only [stepCond, Cond.ms]; omega
  | set t e => simp only [stepCond, Cond.ms]; omega
  | par rows => simp only [stepCond, Cond.ms]; omega
  | give c e =>
    simp only [stepCond, Sm.wk]
    cases e.val cs with
    | none => simp only [Cond.ms]; omega
    | some w => simp only [Cond.ms]; omega
  | take c e =>
    simp only [stepCond, Sm.wk]
    cases e.place cs with
    | none => simp only [Cond.ms]; omega
    | some w => simp only [Cond.ms]; omega
  | seq ss => simp only [stepCond, mkAt_ms, wkL_append, Sm.wk]; omega
  | ite e a b =>
    simp only [stepCond, Sm.wk]
    cases e.val cs with
    | none => simp only [Cond.ms]; omega
    | some w =>
      simp only [Cond.ms, wkL]
      split <;> omega
  | rep e n s =>
    simp only [stepCond, Sm.wk]
    split
    · rw [mkAt_ms]; omega
    · rename_i hn
      obtain ⟨m, rfl⟩ : ∃ m, n = m + 1 := ⟨n - 1, by omega⟩
      have e3 : (m + 1) * (1 + s.wk) = m * (1 + s.wk) + (1 + s.wk) := Nat.succ_mul _ _
      cases e.val cs with
      | none => simp only [Cond.ms]; omega
      | some w =>
        show (if w = 0 then mkAt rest else Cond.run (s :: .rep e (m + 1 - 1) s :: rest)).ms < _
        split
        · rw [mkAt_ms]; omega
        · simp only [Cond.ms, wkL, Sm.wk, Nat.add_sub_cancel]
          omega
theorem perform_ms {r : Rx} (h : En g σ r) : (perform g σ r).ms < σ.ms := by
  cases r with
  | step t =>
    obtain ⟨s, rest, e⟩ := h
    have hx : (Pa.perform g σ (.step t)).ms = msL (sets σ.th (stepEff σ.cells t rest s).ths) := by
      show msL (sets σ.th (eff g σ (.step t)).ths) = _
      simp only [eff, e]
    rw [hx]
    show _ < msL σ.th
    have one : ∀ c' : Cond, c'.ms < wkL (s :: rest) → msL (σ.th.set t c') < msL σ.th := fun c' hc => by
      have q := msL_set (c := c') e
      have e1 : (Cond.run (s :: rest)).ms = wkL (s :: rest) := rfl
      rw [e1] at q
      omega
    have p : wkL rest < wkL (s :: rest) := by
      have := wk_pos s
      show wkL rest < s.wk + wkL rest
      omega
    cases s with
    | par rows =>
      have q := msL_set (c := .join (rows.map (·.1)) rest) e
      have e1 : (Cond.run (.par rows :: rest)).ms = (2 + wkR rows) + wkL rest := rfl
      have e2 : (Cond.join (rows.map (·.1)) rest).ms = 1 + wkL rest := rfl
      have b := msL_rows rows (σ.th.set t (.join (rows.map (·.1)) rest))
      rw [e1, e2] at q
      show msL (sets (σ.th.set t (.join (rows.map (·.1)) rest)) (rows.map fun r => (r.1, Cond.run [r.2]))) < _
      omega
    | set tg e2 =>
      simp only [stepEff]
      split
      · exact one _ (Nat.lt_of_le_of_lt (Nat.zero_le _) p)
      · split
        · exact one _ (Nat.lt_of_le_of_lt (Nat.zero_le _) p)
        · exact one _ (by rw [mkAt_ms]; exact p)
    | _ => exact one (stepCond σ.cells rest _) (stepCond_ms σ.cells rest _)
  | meet c a t =>
    obtain ⟨_, ⟨k, st, e1⟩, w, st', e2⟩ := h
    have ne : a ≠ t := fun z => by
      subst z
      rw [e1] at e2
      cases e2
    have hx : (Pa.perform g σ (.meet c a t)).ms = msL ((σ.th.set t (mkAt st)).set a (mkAt st')) := by
      show msL (sets σ.th (eff g σ (.meet c a t)).ths) = _
      simp only [eff, e1, e2]
      rfl
    rw [hx]
    show _ < msL σ.th
    have q1 := msL_set (c := mkAt st) e1
    have q2 := msL_set (l := σ.th.set t (mkAt st)) (i := a) (c := mkAt st') (d := .giv c w st') (by rw [List.getElem?_set_ne (Ne.symm ne)]; exact e2)
    rw [mkAt_ms] at q1 q2
    have f1 : (Cond.opn c k st).ms = 1 + wkL st := rfl
    have f2 : (Cond.giv c w st').ms = 1 + wkL st' := rfl
    rw [f1] at q1
    rw [f2] at q2
    omega
  | input c t =>
    obtain ⟨_, ⟨k, st, e1⟩, _⟩ := h
    have hx : (Pa.perform g σ (.input c t)).ms = msL (σ.th.set t (mkAt st)) := by
      show msL (sets σ.th (eff g σ (.input c t)).ths) = _
      simp only [eff, e1]
      rfl
    rw [hx]
    show _ < msL σ.th
    have q1 := msL_set (c := mkAt st) e1
    rw [mkAt_ms] at q1
    have f1 : (Cond.opn c k st).ms = 1 + wkL st := rfl
    rw [f1] at q1
    omega
  | output c t =>
    obtain ⟨_, _, w, st, e1⟩ := h
    have hx : (Pa.perform g σ (.output c t)).ms = msL (σ.th.set t (mkAt st)) := by
      show msL (sets σ.th (eff g σ (.output c t)).ths) = _
      simp only [eff, e1]
      rfl
    rw [hx]
    show _ < msL σ.th
    have q1 := msL_set (c := mkAt st) e1
    rw [mkAt_ms] at q1
    have f1 : (Cond.giv c w st).ms = 1 + wkL st := rfl
    rw [f1] at q1
    omega
  | fin t =>
    obtain ⟨ts, st, e1, _⟩ := h
    have hx : (Pa.perform g σ (.fin t)).ms = msL (σ.th.set t (mkAt st)) := by
      show msL (sets σ.th (eff g σ (.fin t)).ths) = _
      simp only [eff, e1]
      rfl
    rw [hx]
    show _ < msL σ.th
    have q1 := msL_set (c := mkAt st) e1
    rw [mkAt_ms] at q1
    have f1 : (Cond.join ts st).ms = 1 + wkL st := rfl
    rw [f1] at q1
    omega
end

/-! ### paths -/
def evL : Option (Nat × Nat) → List (Nat × Nat)
  | none => []
  | some e => [e]
/-- n redexes are performed from σ to σ', with these events -/
inductive Path (g : Cfg) : State → Nat → List (Nat × Nat) → State → Prop
  | nil {σ : State} : Path g σ 0 [] σ
  | cons {σ σ' : State} {r : Rx} {n : Nat} {evs : List (Nat × Nat)} : En g σ r → Path g (perform g σ r) n evs σ' → Path g σ (n + 1) (evL (event g σ r) ++ evs) σ'
def Final (g : Cfg) (σ : State) : Prop := ∀ r, ¬ En g σ r
def proj (c : Nat) (evs : List (Nat × Nat)) : List Nat := (evs.filter fun e => e.1 == c).map (·.2)
theorem proj_append (c : Nat) (a b : List (Nat × Nat)) : proj c (a ++ b) = proj c a ++ proj c b := by
  unfold proj
  rw [List.filter_append, List.map_append]
theorem Path.snoc {g : Cfg} {σ σ' : State} {n : Nat} {evs : List (Nat × Nat)} (p : Path g σ n evs σ') : ∀ {r : Rx}, En g σ' r → Path g σ (n + 1) (evs ++ evL (event g σ' r)) (perform g σ' r) := by
  induction p with
  | nil => intro r h; exact (by rw [List.nil_append]; exact (List.append_nil (evL _)) ▸ Path.cons h .nil)
  | cons h _ ih => intro r h'; rw [List.append_assoc]; exact .cons h (ih h')
section
variable {g : Cfg} {ps : List Nat} {D nc : Nat} {B : Fp}
theorem Path.inv {σ σ' : State} {n : Nat} {evs : List (Nat × Nat)} (hin : g.Words) (p : Path g σ n evs σ') (I : SInv g ps D nc B σ) : SInv g ps D nc B σ' := by
  induction p with
  | nil => exact I
  | cons h _ ih => exact ih (I.perform hin h)
theorem Path.ms {σ σ' : State} {n : Nat} {evs : List (Nat × Nat)} (p : Path g σ n evs σ') : n + σ'.ms ≤ σ.ms := by
  induction p with
  | nil => omega
  | cons h _ ih =>
    have := perform_ms h
    omega
theorem Path.evs_le {σ σ' : State} {n : Nat} {evs : List (Nat × Nat)} (p : Path g σ n evs σ') : evs.length ≤ n := by
  induction p with
  | nil => exact Nat.le_refl _
  | @cons σ σ' r n evs h _ ih =>
    rw [List.length_append]
    have : (evL (event g σ r)).length ≤ 1 := by
      cases event g σ r <;> simp [evL]
    omega
theorem ev_chan {σ : State} (I : SInv g ps D nc B σ) {r q : Rx} (h : En g σ r) (h' : En g σ q) (ne : r ≠ q) (c : Nat) : proj c (evL (event g σ r)) = [] ∨ proj c (evL (event g σ q)) = [] := by
  obtain ⟨F, T⟩ := I.ex
  -- the channel of an event
  have chan : ∀ {r : Rx}, En g σ r → proj c (evL (event g σ r)) = [] ∨ (∃ a t, r = .meet c a t) ∨ (∃ t, r = .input c t) ∨ ∃ t, r = .output c t := by
    intro r h
    have one : ∀ d w : Nat, d ≠ c → proj c (evL (some (d, w))) = [] := fun d w z => by simp [proj, evL, z]
    cases r with
    | step t => exact .inl rfl
    | fin t => exact .inl rfl
    | meet d a t =>
      by_cases z : d = c
      · subst z; exact .inr (.inl ⟨a, t, rfl⟩)
      · obtain ⟨_, _, w, st, e⟩ := h
        refine .inl ?_
        simp only [event, e]
        exact one d w z
    | input d t =>
      by_cases z : d = c
      · subst z; exact .inr (.inr (.inl ⟨t, rfl⟩))
      · exact .inl (one d _ z)
    | output d t =>
      by_cases z : d = c
      · subst z; exact .inr (.inr (.inr ⟨t, rfl⟩))
      · obtain ⟨_, _, w, st, e⟩ := h
        refine .inl ?_
        simp only [event, e]
        exact one d w z
  rcases chan h with z | ⟨a, t, rfl⟩ | ⟨t, rfl⟩ | ⟨t, rfl⟩
  · exact .inl z
  · rcases chan h' with z | ⟨b, u, rfl⟩ | ⟨u, rfl⟩ | ⟨u, rfl⟩
    · exact .inr z
    · obtain ⟨_, ⟨k, st, e1⟩, w, st', e2⟩ := h
      obtain ⟨_, ⟨k', st1, f1⟩, w', st1', f2⟩ := h'
      have z1 := one_taker T e1 f1
      have z2 := one_giver T e2 f2
      subst z1
      subst z2
      exact absurd rfl ne
    · obtain ⟨h1, _⟩ := h
      obtain ⟨h2, _⟩ := h'
      omega
    · obtain ⟨h1, _⟩ := h
      obtain ⟨_, h2, _⟩ := h'
      omega
  · rcases chan h' with z | ⟨b, u, rfl⟩ | ⟨u, rfl⟩ | ⟨u, rfl⟩
    · exact .inr z
    · obtain ⟨h1, _⟩ := h
      obtain ⟨h2, _⟩ := h'
      omega
    · obtain ⟨_, ⟨k, st, e1⟩, _⟩ := h
      obtain ⟨_, ⟨k', st1, f1⟩, _⟩ := h'
      have z1 := one_taker T e1 f1
      subst z1
      exact absurd rfl ne
    · obtain ⟨h1, _⟩ := h
      obtain ⟨h2, _⟩ := h'
      omega
  · rcases chan h' with z | ⟨b, u, rfl⟩ | ⟨u, rfl⟩ | ⟨u, rfl⟩
    · exact .inr z
    · obtain ⟨_, h1, _⟩ := h
      obtain ⟨h2, _⟩ := h'
      omega
    · obtain ⟨h1, _⟩ := h
      obtain ⟨h2, _⟩ := h'
      omega
    · obtain ⟨_, _, w, st, e1⟩ := h
      obtain ⟨_, _, w', st', f1⟩ := h'
      have z1 := one_giver T e1 f1
      subst z1
      exact absurd rfl ne
theorem ev_swap {σ : State} (I : SInv g ps D nc B σ) {r q : Rx} (h : En g σ r) (h' : En g σ q) (ne : r ≠ q) (c : Nat) : proj c (evL (event g σ r)) ++ proj c (evL (event g σ q)) = proj c (evL (event g σ q)) ++ proj c (evL (event g σ r)) := by
  rcases ev_chan I h h' ne c with z | z
  · rw [z, List.nil_append, List.append_nil]
  · rw [z, List.nil_append, List.append_nil]
/-- a redex that may be performed now may be performed first -/
theorem Path.first (hin : g.Words) {σ σ' : State} {n : Nat} {evs : List (Nat × Nat)} (p : Path g σ n evs σ') (hf : Final g σ') : SInv g ps D nc B σ → ∀ {r : Rx}, En g σ r →
    ∃ m evs', n = m + 1 ∧ Path g (perform g σ r) m evs' σ' ∧ ∀ c, proj c evs = proj c (evL (event g σ r)) ++ proj c evs' := by
  induction p with
  | nil => intro _ r h; exact absurd h (hf r)
  | @cons σ σ' q n evs h p ih =>
    intro I r h'
    by_cases e : q = r
    · subst e
      exact ⟨n, evs, rfl, p, fun c => proj_append c _ _⟩
    · obtain ⟨d1, d2, d3⟩ := diamond I hin h h' e
      obtain ⟨m, evs', rfl, p', hp⟩ := ih hf (I.perform hin h) d1
      obtain ⟨b1, b2, b3⟩ := diamond I hin h' h (Ne.symm e)
      rw [d3] at p'
      refine ⟨m + 1, _, rfl, .cons b1 p', fun c => ?_⟩
      rw [proj_append, hp c, d2, proj_append, b2, ← List.append_assoc, ← List.append_assoc, ev_swap I h h' e c]
/-- ALL MAXIMAL RUNS END ALIKE -/
theorem alike (hin : g.Words) {σ σ1 : State} {n : Nat} {evs : List (Nat × Nat)} (p : Path g σ n evs σ1) (hf : Final g σ1) : SInv g ps D nc B σ → ∀ {σ2 : State} {m : Nat} {evs2 : List (Nat × Nat)}, Path g σ m evs2 σ2 → Final g σ2 →
    n = m ∧ σ1 = σ2 ∧ ∀ c, proj c evs = proj c evs2 := by
  induction p with
  | nil =>
    intro _ σ2 m evs2 q _
    cases q with
    | nil => exact ⟨rfl, rfl, fun _ => rfl⟩
    | cons h _ => exact absurd h (hf _)
  | @cons σ σ' r n evs h p ih =>
    intro I σ2 m evs2 q hq
    obtain ⟨k, evs', rfl, q', hp⟩ := q.first hin hq I h
    obtain ⟨e1, e2, e3⟩ := ih hf (I.perform hin h) q' hq
    refine ⟨by rw [e1], e2, fun c => ?_⟩
    rw [proj_append, hp c, e3 c]
end

/-! ### the list of the redexes, and the start -/
def isGiv (c : Nat) : Cond → Bool
  | .giv d _ _ => d == c
  | _ => false
def isDone : Cond → Bool
  | .done => true
  | _ => false
def doneAt (th : List Cond) (k : Nat) : Bool := match th[k]? with
  | some d => isDone d
  | none => false
def giverOn (th : List Cond) (c : Nat) : Option Nat := th.findIdx? (isGiv c)
def rowRx (g : Cfg) (σ : State) (t c : Nat) : List Rx :=
  if g.nIn + g.nOut ≤ c then (match giverOn σ.th c with
    | none => []
    | some a => [.meet c a t])
  else if c < g.nIn ∧ σ.taken.getD c 0 < (g.inp.getD c []).length then [.input c t] else []
def thRx (g : Cfg) (σ : State) (t : Nat) : List Rx := match σ.th[t]? with
  | some (.run _) => [.step t]
  | some (.opn c _ _) => rowRx g σ t c
  | some (.giv c _ _) => if g.nIn ≤ c ∧ c < g.nIn + g.nOut then [.output c t] else []
  | some (.join ts _) => if ts.all (doneAt σ.th) = true then [.fin t] else []
  | _ => []
def redexes (g : Cfg) (σ : State) : List Rx := (List.range σ.th.length).flatMap (thRx g σ)
theorem isGiv_iff {c : Nat} {d : Cond} (h : isGiv c d = true) : ∃ w st, d = .giv c w st := by
  cases d with
  | giv e w st => exact ⟨w, st, by rw [eq_of_beq h]⟩
  | _ => cases h
theorem isDone_iff {d : Cond} (h : isDone d = true) : d = .done := by
  cases d <;> first | rfl | cases h
section
variable {g : Cfg} {ps : List Nat} {D nc : Nat} {B : Fp} {σ : State}
theorem giverOn_some {th : List Cond} {c a : Nat} (h : giverOn th c = some a) : ∃ w st, th[a]? = some (.giv c w st) := by
  obtain ⟨hl, hp, _⟩ := List.findIdx?_eq_some_iff_getElem.mp h
  obtain ⟨w, st, e⟩ := isGiv_iff hp
  exact ⟨w, st, by rw [List.getElem?_eq_getElem hl, e]⟩
theorem giverOn_none {th : List Cond} {c a w : Nat} {st : List Sm} (h : giverOn th c = none) (q : th[a]? = some (.giv c w st)) : False := by
  have z := List.findIdx?_eq_none_iff.mp h _ (List.mem_of_getElem? q)
  simp [isGiv] at z
theorem thRx_en (I : SInv g ps D nc B σ) {t : Nat} {r : Rx} (h : r ∈ thRx g σ t) : En g σ r := by
  obtain ⟨F, T⟩ := I.ex
  unfold thRx at h
  split at h
  · rename_i st e
    rw [List.mem_singleton.mp h]
    have ne := (T.ok t _ e).1
    cases st with
    | nil => exact absurd rfl ne
    | cons s rest => exact ⟨s, rest, e⟩
  · rename_i c k st e
    unfold rowRx at h
    split at h
    · rename_i hc
      split at h
      · cases h
      · rename_i a ha
        rw [List.mem_singleton.mp h]
        exact ⟨hc, ⟨k, st, e⟩, giverOn_some ha⟩
    · split at h
      · rename_i hc
        rw [List.mem_singleton.mp h]
        exact ⟨hc.1, ⟨k, st, e⟩, hc.2⟩
      · cases h
  · rename_i c w st e
    split at h
    · rename_i hc
      rw [List.mem_singleton.mp h]
      exact ⟨hc.1, hc.2, w, st, e⟩
    · cases h
  · rename_i ts st e
    split at h
    · rename_i ha
      rw [List.mem_singleton.mp h]
      refine ⟨ts, st, e, fun k hk => ?_⟩
      have z := List.all_eq_true.mp ha k hk
      unfold doneAt at z
      split at z
      · rename_i d hd
        rw [hd, isDone_iff z]
      · cases z
    · cases h
  · cases h
theorem redexes_en (I : SInv g ps D nc B σ) {r : Rx} (h : r ∈ redexes g σ) : En g σ r := by
  obtain ⟨t, _, ht⟩ := List.mem_flatMap.mp h
  exact thRx_en I ht
theorem redexes_nil (h : redexes g σ = []) : Final g σ := by
  have none : ∀ t, t < σ.th.length → thRx g σ t = [] := fun t ht => List.flatMap_eq_nil_iff.mp h t (List.mem_range.mpr ht)
  have lt : ∀ {t : Nat} {c : Cond}, σ.th[t]? = some c → t < σ.th.length := fun e => (List.getElem?_eq_some_iff.mp e).1
  intro r hr
  cases r with
  | step t =>
    obtain ⟨s, rest, e⟩ := hr
    have q := none t (lt e)
    simp only [thRx, e] at q
    cases q
  | meet c a t =>
    obtain ⟨hc, ⟨k, st, e⟩, w, st', e2⟩ := hr
    have q := none t (lt e)
    simp only [thRx, e, rowRx, if_pos hc] at q
    cases hg : giverOn σ.th c with
    | none => exact giverOn_none hg e2
    | some b => rw [hg] at q; cases q
  | input c t =>
    obtain ⟨hc, ⟨k, st, e⟩, hl⟩ := hr
    have q := none t (lt e)
    simp only [thRx, e, rowRx, if_neg (show ¬ g.nIn + g.nOut ≤ c by omega)] at q
    rw [if_pos ⟨hc, hl⟩] at q
    cases q
  | output c t =>
    obtain ⟨h0, hc, w, st, e⟩ := hr
    have q := none t (lt e)
    simp only [thRx, e] at q
    rw [if_pos ⟨h0, hc⟩] at q
    cases q
  | fin t =>
    obtain ⟨ts, st, e, hd⟩ := hr
    have q := none t (lt e)
    simp only [thRx, e] at q
    rw [if_pos (List.all_eq_true.mpr fun k hk => by unfold doneAt; rw [hd k hk]; rfl)] at q
    cases q
end
/-- the state at the start -/
def start (g : Cfg) (nc nth : Nat) (body : Sm) : State where
  cells := List.replicate nc 0
  th := (List.replicate nth Cond.idle).set 0 (.run [body])
  taken := List.replicate g.nIn 0
  outs := List.replicate g.nOut []
theorem start_inv {g : Cfg} {ps : List Nat} {D nc : Nat} {B : Fp} {body : Sm} (h : SmOk ps D 0 B body) : SInv g ps D nc B (start g nc ps.length body) := by
  have get : ∀ (t : Nat) (c : Cond), (start g nc ps.length body).th[t]? = some c → (t = 0 ∧ c = .run [body]) ∨ c = .idle := by
    intro t c e
    rcases getElem?_set' e with ⟨z, q, _⟩ | ⟨_, q⟩
    · exact .inl ⟨z, q⟩
    · exact .inr (List.eq_of_mem_replicate (List.mem_of_getElem? q))
  refine ⟨⟨fun _ => B, ?_, fun t c e => ?_, fun t c e hl => Fp.Le.refl _, fun t u c d ne e hl e' hl' => ?_, fun t u c d a e hl e' hl' => ?_⟩, List.length_replicate, fun w hw => ?_, List.length_replicate, List.length_replicate⟩
  · show (List.set _ _ _).length = _
    rw [List.length_set, List.length_replicate]
  · rcases get t c e with ⟨rfl, rfl⟩ | rfl
    · exact ⟨List.cons_ne_nil _ _, fun s hs => by rw [List.mem_singleton.mp hs]; exact h⟩
    · exact trivial
  · rcases get t c e with ⟨rfl, rfl⟩ | rfl
    · rcases get u d e' with ⟨rfl, rfl⟩ | rfl
      · exact absurd rfl ne
      · exact hl'.elim
    · exact hl.elim
  · rcases get t c e with ⟨rfl, rfl⟩ | rfl
    · rcases get u d e' with ⟨rfl, rfl⟩ | rfl
      · exact absurd a.lt (Nat.lt_irrefl _)
      · exact hl'.elim
    · exact hl.elim
  · rw [List.eq_of_mem_replicate hw]
    decide
theorem msL_idle : ∀ n : Nat, msL (List.replicate n Cond.idle) = 0
  | 0 => rfl
  | n + 1 => by
    show 0 + msL (List.replicate n Cond.idle) = 0
    rw [msL_idle n]
theorem start_ms (g : Cfg) (nc nth : Nat) (body : Sm) : (start g nc nth body).ms ≤ body.wk := by
  have h := msL_set_le (List.replicate nth Cond.idle) 0 (.run [body])
  rw [msL_idle] at h
  have e : (Cond.run [body]).ms = body.wk := by simp [Cond.ms, wkL]
  rw [e] at h
  show msL ((List.replicate nth Cond.idle).set 0 (.run [body])) ≤ _
  omega
end Pa
/-! The program's text by places, data in the heap, defs by their promises. -/
namespace Pa
open PySem L2 PyProof.Rows
def topS (i : Nat) : Stmt := PySem.Challenge.pw_placedanyhow_k20_whole_any_choices_one_e.main.body.getD i (.Pass ⟨0, 0, 0, 0⟩)

/-! ### data in the heap: lists tracked, tuples tracked or written -/
mutual
inductive Da (K : PySem.W.Frag) (H : Hp) : V → PyData → Prop
  | non : Da K H .non .none
  | bl (b : Bool) : Da K H (.bl b) (.bool b)
  | int (i : Int) : Da K H (.int i) (.int i)
  | str (x : Str) : Da K H (.str x) (.str x)
  | lst {a : Addr} {xs : List V} {ds : List PyData} : H a = some (.lst xs) → Das K H xs ds → Da K H (.ref a) (.list ds)
  | tup {a : Addr} {xs : List V} {ds : List PyData} : SqT K H a xs → Das K H xs ds → Da K H (.ref a) (.tuple ds)
  | dic {a : Addr} {ks : List Str} {xs : List V} {ds : List PyData} {kvs : List (PyData × PyData)} : ks.length = ds.length → kvs = (ks.map PyData.str).zip ds → H a = some (.dK ((ks.map Sum.inr).zip xs)) → Das K H xs ds → Da K H (.ref a) (.dict kvs)
inductive Das (K : PySem.W.Frag) (H : Hp) : List V → List PyData → Prop
  | nil : Das K H [] []
  | cons {v : V} {vs : List V} {d : PyData} {ds : List PyData} : Da K H v d → Das K H vs ds → Das K H (v :: vs) (d :: ds)
end
section
variable {K : PySem.W.Frag} {H H' : Hp}
mutual
theorem Da.dp : ∀ {d : PyData} {v : V}, d.canLay0 = true → Da K H v d → Dp K H v d
  | _, _, _, .non => .non
  | _, _, _, .bl b => .bl b
  | _, _, _, .int i => .int i
  | _, _, _, .str x => .str x
  | _, _, c, .lst h r => .lst (SqL.of h) (r.dp c)
  | _, _, c, .tup h r => .tup h (r.dp c)
theorem Das.dp : ∀ {ds : List PyData} {vs : List V}, PyData.canLayAll0 ds = true → Das K H vs ds → DpAll K H vs ds
  | _, _, _, .nil => .nil
  | _, _, c, .cons h r => .cons (h.dp (Bool.and_eq_true_iff.mp c).1) (r.dp (Bool.and_eq_true_iff.mp c).2)
end
theorem SqT.same {a : Addr} {xs : List V} (s : Same H H') (h : SqT K H a xs) : SqT K H' a xs := by
  rcases h with (h | ⟨o, h⟩) | h
  · exact .inl (.inl (s _ _ h))
  · exact .inl (.inr ⟨o, s _ _ h⟩)
  · exact .inr h
mutual
theorem Da.mono (s : Same H H') : ∀ {d : PyData} {v : V}, Da K H v d → Da K H' v d
  | _, _, .non => .non
  | _, _, .bl b => .bl b
  | _, _, .int i => .int i
  | _, _, .str x => .str x
  | _, _, .lst h r => .lst (s _ _ h) (r.mono s)
  | _, _, .tup h r => .tup (SqT.same s h) (r.mono s)
  | _, _, .dic l e h r => .dic l e (s _ _ h) (r.mono s)
theorem Das.mono (s : Same H H') : ∀ {ds : List PyData} {vs : List V}, Das K H vs ds → Das K H' vs ds
  | _, _, .nil => .nil
  | _, _, .cons h r => .cons (h.mono s) (r.mono s)
end
theorem Das.length : ∀ {ds : List PyData} {vs : List V}, Das K H vs ds → vs.length = ds.length
  | _, _, .nil => rfl
  | _, _, .cons _ r => congrArg (· + 1) r.length
theorem Das.get : ∀ {ds : List PyData} {vs : List V} {i : Nat} {d : PyData}, Das K H vs ds → ds[i]? = some d → ∃ v, vs[i]? = some v ∧ Da K H v d
  | _, _, _, _, .nil, e => by simp at e
  | _, _, 0, _, .cons h _, e => by
    have z := Option.some.inj e
    subst z
    exact ⟨_, rfl, h⟩
  | _, _, i + 1, d, .cons _ r, e => Das.get (i := i) (d := d) r e
theorem Das.get' : ∀ {ds : List PyData} {vs : List V} {i : Nat} {v : V}, Das K H vs ds → vs[i]? = some v → ∃ d, ds[i]? = some d ∧ Da K H v d
  | _, _, _, _, .nil, e => by simp at e
  | _, _, 0, _, .cons h _, e => by
    have z := Option.some.inj e
    subst z
    exact ⟨_, rfl, h⟩
  | _, _, i + 1, v, .cons _ r, e => Das.get' (i := i) (v := v) r e
theorem Das.append : ∀ {xs ys : List V} {ds es : List PyData}, Das K H xs ds → Das K H ys es → Das K H (xs ++ ys) (ds ++ es)
  | _, _, _, _, .nil, s => s
  | _, _, _, _, .cons h r, s => .cons h (r.append s)
theorem Das.take : ∀ {xs : List V} {ds : List PyData} (n : Nat), Das K H xs ds → Das K H (xs.take n) (ds.take n)
  | _, _, 0, _ => .nil
  | _, _, _ + 1, .nil => .nil
  | _, _, n + 1, .cons h r => .cons h (r.take n)
theorem Das.drop : ∀ {xs : List V} {ds : List PyData} (n : Nat), Das K H xs ds → Das K H (xs.drop n) (ds.drop n)
  | _, _, 0, r => r
  | _, _, _ + 1, .nil => .nil
  | _, _, n + 1, .cons _ r => r.drop n
theorem Das.one {v : V} {d : PyData} (h : Da K H v d) : Das K H [v] [d] := .cons h .nil
theorem Das.set {v : V} {d : PyData} (h : Da K H v d) : ∀ {xs : List V} {ds : List PyData} (n : Nat), Das K H xs ds → Das K H (xs.set n v) (ds.set n d)
  | _, _, _, .nil => .nil
  | _, _, 0, .cons _ r => .cons h r
  | _, _, n + 1, .cons g r => .cons g (r.set h n)
theorem Das.map {α : Type} {f : α → V} {g : α → PyData} : ∀ {l : List α}, (∀ x, x ∈ l → Da K H (f x) (g x)) → Das K H (l.map f) (l.map g)
  | [], _ => .nil
  | x :: r, h => .cons (h x (List.mem_cons_self ..)) (Das.map fun y hy => h y (List.mem_cons_of_mem _ hy))
theorem Das.nil_inv {vs : List V} (h : Das K H vs []) : vs = [] := by cases h; rfl
theorem Das.cons_inv {vs : List V} {d : PyData} {ds : List PyData} (h : Das K H vs (d :: ds)) : ∃ v r, vs = v :: r ∧ Da K H v d ∧ Das K H r ds := by
  cases h with
  | cons a b => exact ⟨_, _, rfl, a, b⟩
theorem Das.inv1 {vs : List V} {d : PyData} (h : Das K H vs [d]) : ∃ v, vs = [v] ∧ Da K H v d := by
  obtain ⟨v, r, rfl, a, b⟩ := h.cons_inv
  cases b.nil_inv
  exact ⟨v, rfl, a⟩
theorem Das.inv2 {vs : List V} {d e : PyData} (h : Das K H vs [d, e]) : ∃ v w, vs = [v, w] ∧ Da K H v d ∧ Da K H w e := by
  obtain ⟨v, r, rfl, a, b⟩ := h.cons_inv
  obtain ⟨w, rfl, c⟩ := b.inv1
  exact ⟨v, w, rfl, a, c⟩
theorem Das.inv3 {vs : List V} {d e f : PyData} (h : Das K H vs [d, e, f]) : ∃ v w x, vs = [v, w, x] ∧ Da K H v d ∧ Da K H w e ∧ Da K H x f := by
  obtain ⟨v, r, rfl, a, b⟩ := h.cons_inv
  obtain ⟨w, x, rfl, c⟩ := b.inv2
  exact ⟨v, w, x, rfl, a, c⟩
theorem Das.inv4 {vs : List V} {d e f g : PyData} (h : Das K H vs [d, e, f, g]) : ∃ v w x y, vs = [v, w, x, y] ∧ Da K H v d ∧ Da K H w e ∧ Da K H x f ∧ Da K H y g := by
  obtain ⟨v, r, rfl, a, b⟩ := h.cons_inv
  obtain ⟨w, x, y, rfl, c⟩ := b.inv3
  exact ⟨v, w, x, y, rfl, a, c⟩
theorem Das.inv5 {vs : List V} {d e f g i : PyData} (h : Das K H vs [d, e, f, g, i]) : ∃ v w x y z, vs = [v, w, x, y, z] ∧ Da K H v d ∧ Da K H w e ∧ Da K H x f ∧ Da K H y g ∧ Da K H z i := by
  obtain ⟨v, r, rfl, a, b⟩ := h.cons_inv
  obtain ⟨w, x, y, z, rfl, c⟩ := b.inv4
  exact ⟨v, w, x, y, z, rfl, a, c⟩
theorem Da.tupI {v : V} {ds : List PyData} (h : Da K H v (.tuple ds)) : ∃ a xs, v = .ref a ∧ SqT K H a xs ∧ Das K H xs ds := by
  cases h with
  | tup a b => exact ⟨_, _, rfl, a, b⟩
theorem Da.lstI {v : V} {ds : List PyData} (h : Da K H v (.list ds)) : ∃ a xs, v = .ref a ∧ H a = some (.lst xs) ∧ Das K H xs ds := by
  cases h with
  | lst a b => exact ⟨_, _, rfl, a, b⟩
theorem Da.intI {v : V} {i : Int} (h : Da K H v (.int i)) : v = .int i := by cases h; rfl
theorem Da.strI {v : V} {x : Str} (h : Da K H v (.str x)) : v = .str x := by cases h; rfl
theorem Da.blI {v : V} {b : Bool} (h : Da K H v (.bool b)) : v = .bl b := by cases h; rfl
theorem Da.nonI {v : V} (h : Da K H v .none) : v = .non := by cases h; rfl
theorem Das.ints : ∀ {vs : List V} {ns : List Int}, Das K H vs (ns.map .int) → vs = ns.map V.int
  | vs, [], h => h.nil_inv
  | vs, n :: r, h => by
    obtain ⟨v, q, rfl, a, b⟩ := h.cons_inv
    rw [a.intI, Das.ints b]
    rfl
theorem Das.ofInts : ∀ {ns : List Int}, Das K H (ns.map V.int) (ns.map .int)
  | [] => .nil
  | n :: _ => .cons (.int n) Das.ofInts
end
theorem same_upd {H : Hp} {p : Addr} {o : HO} (h : H p = none) : Same H (upd H p o) := fun b u q => by
  rw [upd_ne (ne_of_none q h)]
  exact q
/-- a new list, a new tuple -/
theorem da_lst {K : PySem.W.Frag} {H : Hp} {p : Addr} {xs : List V} {ds : List PyData} (hp : H p = none) (h : Das K H xs ds) : Da K (upd H p (.lst xs)) (.ref p) (.list ds) := .lst upd_same (h.mono (same_upd hp))
theorem da_tup {K : PySem.W.Frag} {H : Hp} {p : Addr} {xs : List V} {ds : List PyData} (hp : H p = none) (h : Das K H xs ds) : Da K (upd H p (.tup xs)) (.ref p) (.tuple ds) := .tup (SqT.of upd_same) (h.mono (same_upd hp))

/-! ### defs -/
/-- a def of the text that keeps a promise, by its name -/
def Cal (P : Program) (w : World) (K : PySem.W.Frag) (mg : Str → Option Value) (base : Heap) (k : Nat) (x : Str) (ps : List Str) (sp : Sp) : Prop :=
  ∃ f fd, mg x = some (.ref f) ∧ FnOk P w K mg base CX0 k f fd ps sp ∧ PySem.W.keepIn K (.ref f) = true ∧ Binds K fd ps []
/-- a def as it stands behind the top -/
def Def (K : PySem.W.Frag) (mg : Str → Option Value) (x : Str) (st : Stmt) : Prop := ∃ f fd, mg x = some (.ref f) ∧ Fun K x x st f fd
section
variable {P : Program} {w : World} {K : PySem.W.Frag} {mg : Str → Option Value} {base : Heap}
theorem Cal.imp {k : Nat} {x : Str} {ps : List Str} {sp sp' : Sp} (C : Cal P w K mg base k x ps sp) (h : ∀ vs H Q E, sp' vs H Q E → sp vs H Q E) : Cal P w K mg base k x ps sp' := by
  obtain ⟨f, fd, a, b, c, d⟩ := C
  exact ⟨f, fd, a, b.imp h, c, d⟩
theorem Cal.mono {j k : Nat} {x : Str} {ps : List Str} {sp : Sp} (C : Cal P w K mg base j x ps sp) (h : j ≤ k) : Cal P w K mg base k x ps sp := by
  obtain ⟨f, fd, a, b, c, d⟩ := C
  exact ⟨f, fd, a, b.mono h, c, d⟩
theorem Def.cal {x : Str} {st : Stmt} {N ps : List Str} {k : Nat} {sp : Sp} (D : Def K mg x st) (S : FnScope N ps (defScope st)) (len : ∀ vs H Q E, sp vs H Q E → vs.length = ps.length)
    (hb : ∀ (kV doc pm : Value) (an : Option Addr) (cdv ct : Value) (us : List Value), us.length = ps.length → bindArgs (PySem.W.fnOf x x (defArgs st) (defBody st) (defScope st) .none kV doc pm an cdv ct) ⟨us, []⟩ = pure (ps.zip us))
    (hbody : ∀ (f : Addr) (cdv : Value) (A : Around) (outer : List Env) (s : Shared) (H : Hp) (vs : List V) (Q : VK) (E : XK), Room k (A.deeper (envOfC x (defScope st) s.heap.objs.size f cdv)) → sp vs H Q E →
      ∃ t, PSs (cxOf CX0 P w K mg base N x (defScope st) f cdv A outer s H E).nox (defBody st) t ∧ t { nx := fun _ H' => Q .non H', rt := Q } (L2.start N vs) H) : Cal P w K mg base (k + 1) x ps sp := by
  obtain ⟨f, fd, hm, F⟩ := D
  exact ⟨f, fd, hm, F.ok S len fun cdv A outer s H vs Q E => hbody f cdv A outer s H vs Q E, F.kp, F.binds hb⟩
end
section
variable {X : Cx} {k : Nat} {x : Str} {ps : List Str} {sp : Sp} {e : Expr} {es : List Expr} {t : TA} {p pos : Pos}
theorem pe_cal (C : Cal X.prog X.w X.K X.mg X.base k x ps sp) (hr : Room k X.A) (ha : PA X (e :: es) t) (hg : Gl X x := by rfl) (hdb : (x == ("__debug__" : Str)) = false := by decide)
    (he : starEach (e :: es) X.env = (false, eval e X.env) :: starEach es X.env := by rfl) (hpl : (backTo pos (starEach es X.env)).any (·.1) = false := by rfl) : PE X (.Call (.Name x p) (e :: es) [] pos) (tCall sp [] E0 t) := by
  obtain ⟨f, fd, hm, F, kp, b⟩ := C
  exact pe_call F hr hg hm kp b .nil pass0 ha hdb he hpl
end
/-- from the frozen part F of the heap H to F' of H': all stands, what is newly frozen is new -/
structure Fz (F H F' H' : Hp) : Prop where
  h : Same H H'
  f : Same F F'
  sub : Same F' H'
  fresh : ∀ a o, F' a = some o → F a = some o ∨ H a = none
section
variable {F H F1 H1 F2 H2 : Hp}
theorem Fz.refl (s : Same F H) : Fz F H F H := ⟨Same.refl H, Same.refl F, s, fun _ _ h => .inl h⟩
theorem Fz.trans (a : Fz F H F1 H1) (b : Fz F1 H1 F2 H2) : Fz F H F2 H2 := ⟨a.h.trans b.h, a.f.trans b.f, b.sub, fun c o h => (b.fresh c o h).elim (fun q => a.fresh c o q) fun q => .inr (a.h.free q)⟩
theorem Fz.away (a : Fz F H F1 H1) {p : Addr} (h : F p = none) (q : H p ≠ none) : F1 p = none := by
  cases e : F1 p with
  | none => rfl
  | some o =>
    rcases a.fresh p o e with z | z
    · rw [h] at z; cases z
    · exact absurd z q
theorem Fz.new {p : Addr} {o : HO} (s : Same F H) (hp : H p = none) : Fz F H (upd F p o) (upd H p o) := by
  have fp : F p = none := s.free hp
  refine ⟨same_upd hp, same_upd fp, fun b u h => ?_, fun b u h => ?_⟩
  · by_cases e : b = p
    · subst e; rw [upd_same] at h ⊢; exact h
    · rw [upd_ne e] at h ⊢; exact s b u h
  · by_cases e : b = p
    · subst e; exact .inr hp
    · rw [upd_ne e] at h; exact .inl h
/-- a new object that is not frozen -/
theorem Fz.loose {p : Addr} {o : HO} (s : Same F H) (hp : H p = none) : Fz F H F (upd H p o) := ⟨same_upd hp, Same.refl F, s.trans (same_upd hp), fun _ _ h => .inl h⟩
end
/-- the promise of a pure def: data in, data out, what stood stands -/
def spD (K : PySem.W.Frag) (R : List PyData → PyData → Prop) : Sp := fun vs H Q _ => ∃ F ds d, Same F H ∧ Das K F vs ds ∧ R ds d ∧ ∀ v F' H', Fz F H F' H' → Da K F' v d → Q v H'
/-- texts that differ -/
theorem str_ne {x y : Str} (h : decide (x = y) = false) : decide (V.str x = V.str y) = false := by
  rw [decide_eq_false_iff_not] at h ⊢
  exact fun q => h (V.str.inj q)
theorem str_eq {x : Str} : decide (V.str x = V.str x) = true := decide_eq_true rfl
end Pa
namespace Pa
open PySem L2 PyProof.Rows
/-! ### what the top leaves -/
structure Txt (K : PySem.W.Frag) (mg : Str → Option Value) (tW : Tok) (aF aS : Addr) : Prop where
  len : mg "len" = none
  int : mg "int" = none
  abs : mg "abs" = none
  min : mg "min" = none
  range : mg "range" = none
  enumerate : mg "enumerate" = none
  all : mg "all" = none
  sorted : mg "sorted" = none
  gWORDS : mg "WORDS" = some (.int 65536 tW)
  gFAULTED : mg "FAULTED" = some (.ref aF)
  gSTOPPED : mg "STOPPED" = some (.ref aS)
  fF : ∀ H, SqT K H aF [.str "faulted"]
  fS : ∀ H, SqT K H aS [.str "stopped"]
/-! ### cuts of lists -/
theorem cut_take (xs : List V) (n : Nat) : cutV xs none (some (n : Int)) = xs.take n := by
  unfold cutV
  rw [HT.sIx_none, HT.sIx_nat, List.drop_zero, Nat.sub_zero]
  by_cases h : n ≤ xs.length
  · rw [Nat.min_eq_left h]
  · rw [Nat.min_eq_right (by omega), List.take_of_length_le (by omega), List.take_of_length_le (by omega)]
theorem cut_drop (xs : List V) (n : Nat) : cutV xs (some (n : Int)) none = xs.drop n := by
  unfold cutV
  rw [HT.sIx_none, HT.sIx_nat]
  by_cases h : n ≤ xs.length
  · rw [Nat.min_eq_left h, List.take_of_length_le (by rw [List.length_drop]; omega)]
  · rw [Nat.min_eq_right (by omega), List.drop_eq_nil_of_le (by omega), List.drop_eq_nil_of_le (by omega), List.take_nil]
theorem set_cut {α : Type} {xs : List α} {n : Nat} {x : α} (h : n < xs.length) : xs.take n ++ [x] ++ xs.drop (n + 1) = xs.set n x := by
  rw [List.set_eq_take_append_cons_drop, if_pos h, List.append_assoc]
  rfl
theorem line_le {n : Nat} (h : n ≤ 16000000) : n ≤ sizeLine := by rw [sizeLine_eq]; omega
theorem line_lt {n : Nat} (h : n ≤ 16000000) : n < sizeLine := by rw [sizeLine_eq]; omega
end Pa
/-! Readings over data: a pure def is walked without its heap. F: the part of the heap in which data lie. -/
namespace Pa
open PySem L2 PyProof.Rows
abbrev DE := List (Option PyData)
/-- the slots hold these data -/
structure SD (K : PySem.W.Frag) (F : Hp) (σ : L2.St) (e : DE) : Prop where
  len : σ.length = e.length
  get : ∀ (i : Nat) (d : PyData), e[i]? = some (some d) → ∃ v, σ[i]? = some (some v) ∧ Da K F v d
section
variable {K : PySem.W.Frag} {F F' H H' : Hp} {σ : L2.St} {e e1 e2 : DE}
theorem SD.mono (s : Same F F') (h : SD K F σ e) : SD K F' σ e := ⟨h.len, fun i d q => let ⟨v, a, b⟩ := h.get i d q; ⟨v, a, b.mono s⟩⟩
theorem SD.set {i : Nat} {v : V} {d : PyData} (h : SD K F σ e) (hv : Da K F v d) : SD K F (σ.set i (some v)) (e.set i (some d)) := by
  refine ⟨by rw [List.length_set, List.length_set]; exact h.len, fun j c q => ?_⟩
  rcases getElem?_set' q with ⟨rfl, z, hl⟩ | ⟨ne, z⟩
  · cases z
    exact ⟨v, List.getElem?_set_self (by rw [h.len]; exact hl), hv⟩
  · obtain ⟨x, a, b⟩ := h.get j c z
    exact ⟨x, by rw [List.getElem?_set_ne (Ne.symm ne)]; exact a, b⟩
theorem SD.start {N : List Str} {vs : List V} {ds : List PyData} (h : Das K F vs ds) : SD K F (L2.start N vs) (ds.map some ++ List.replicate (N.length - ds.length) none) := by
  have hl := h.length
  refine ⟨?_, fun i d q => ?_⟩
  · unfold L2.start
    simp [hl]
  · by_cases hi : i < ds.length
    · rw [List.getElem?_append_left (by rw [List.length_map]; exact hi), List.getElem?_map] at q
      cases e : ds[i]? with
      | none => rw [e] at q; cases q
      | some c =>
        rw [e] at q
        have z : c = d := Option.some.inj (Option.some.inj q)
        subst z
        obtain ⟨v, a, b⟩ := h.get e
        refine ⟨v, ?_, b⟩
        unfold L2.start
        rw [List.getElem?_append_left (by rw [List.length_map]; omega), List.getElem?_map, a]
        rfl
    · rw [List.getElem?_append_right (by rw [List.length_map]; omega)] at q
      have := List.eq_of_mem_replicate (List.mem_of_getElem? q)
      cases this
/-- own names forgotten -/
def wipeD (e : DE) : List Nat → DE
  | [] => e
  | v :: vs => (wipeD e vs).set v none
theorem SD.wipe (h : SD K F σ e) : ∀ vs : List Nat, SD K F (L2.wipe σ vs) (wipeD e vs)
  | [] => h
  | v :: vs => by
    have ih := SD.wipe h vs
    refine ⟨by unfold L2.wipe wipeD; rw [List.length_set, List.length_set]; exact ih.len, fun j c q => ?_⟩
    unfold wipeD at q
    rcases getElem?_set' q with ⟨_, z, _⟩ | ⟨ne, z⟩
    · cases z
    · obtain ⟨x, a, b⟩ := ih.get j c z
      exact ⟨x, by unfold L2.wipe; rw [List.getElem?_set_ne (Ne.symm ne)]; exact a, b⟩
theorem wipe_set {i : Nat} {x : Option V} : ∀ {vs : List Nat}, i ∈ vs → ∀ σ : L2.St, L2.wipe (σ.set i x) vs = L2.wipe σ vs
  | v :: vs, h, σ => by
    unfold L2.wipe
    by_cases hm : i ∈ vs
    · rw [wipe_set hm]
    · have e : i = v := (List.mem_cons.mp h).elim id fun z => absurd z hm
      subst e
      have out : ∀ {ws : List Nat}, i ∉ ws → L2.wipe (σ.set i x) ws = (L2.wipe σ ws).set i x := by
        intro ws
        induction ws with
        | nil => intro _; rfl
        | cons w ws ih =>
          intro hw
          unfold L2.wipe
          rw [ih fun z => hw (List.mem_cons_of_mem _ z), List.set_comm _ _ fun z => hw (by rw [z]; exact List.mem_cons_self ..)]
      rw [out hm, List.set_set]
theorem wipe_wipe (σ : L2.St) : ∀ vs : List Nat, L2.wipe (L2.wipe σ vs) vs = L2.wipe σ vs := by
  have gen : ∀ (ws vs : List Nat) (τ : L2.St), (∀ w, w ∈ ws → w ∈ vs) → L2.wipe (L2.wipe τ ws) vs = L2.wipe τ vs := by
    intro ws
    induction ws with
    | nil => intro vs τ _; rfl
    | cons w ws ih =>
      intro vs τ h
      show L2.wipe ((L2.wipe τ ws).set w none) vs = _
      rw [wipe_set (h w (List.mem_cons_self ..)), ih vs τ fun z hz => h z (List.mem_cons_of_mem _ hz)]
  exact fun vs => gen vs vs σ fun _ h => h
/-- an expression's value as data; a test's; arguments'; a part of a slice -/
def ED (K : PySem.W.Frag) (te : TE) (e : DE) (d : PyData) : Prop := ∀ (σ : L2.St) (F H : Hp) (Q : VK), Same F H → SD K F σ e → (∀ v F' H', Fz F H F' H' → Da K F' v d → Q v H') → te σ H Q
def EB (K : PySem.W.Frag) (tt : TT) (e : DE) (b : Bool) : Prop := ∀ (σ : L2.St) (F H : Hp) (Q : Bool → Hp → Prop), Same F H → SD K F σ e → (∀ F' H', Fz F H F' H' → Q b H') → tt σ H Q
def EA (K : PySem.W.Frag) (ta : TA) (e : DE) (ds : List PyData) : Prop := ∀ (σ : L2.St) (F H : Hp) (Q : List V → Hp → Prop), Same F H → SD K F σ e → (∀ vs F' H', Fz F H F' H' → Das K F' vs ds → Q vs H') → ta σ H Q
def EO (K : PySem.W.Frag) (to : TO) (e : DE) (o : Option Int) : Prop := ∀ (σ : L2.St) (F H : Hp) (Q : Option Int → Hp → Prop), Same F H → SD K F σ e → (∀ F' H', Fz F H F' H' → Q o H') → to σ H Q
/-- a two-place operation on data -/
def RD (K : PySem.W.Frag) (r : R2) (d1 d2 d : PyData) : Prop := ∀ (x y : V) (F H : Hp) (Q : VK), Same F H → Da K F x d1 → Da K F y d2 → (∀ v F' H', Fz F H F' H' → Da K F' v d → Q v H') → r x y H Q
variable {ta tb te : TE} {tt tu : TT} {tr : TA} {to tl th : TO} {d d1 d2 d3 : PyData} {ds es : List PyData} {r : R2} {i j : Int} {n m : Nat} {b c : Bool} {x y : Str}
theorem ed_var {i : Nat} (h : e[i]? = some (some d)) : ED K (tVar i) e d := fun σ F H Q f s q => by
  obtain ⟨v, a, b⟩ := s.get i d h
  exact ⟨v, a, q v F H (Fz.refl f) b⟩
theorem ed_int : ED K (tC (.int i)) e (.int i) := fun σ F H Q f s q => q _ F H (Fz.refl f) (.int i)
theorem ed_str : ED K (tC (.str x)) e (.str x) := fun σ F H Q f s q => q _ F H (Fz.refl f) (.str x)
theorem ed_bl : ED K (tC (.bl b)) e (.bool b) := fun σ F H Q f s q => q _ F H (Fz.refl f) (.bl b)
theorem ed_non : ED K (tC .non) e .none := fun σ F H Q f s q => q _ F H (Fz.refl f) .non
theorem ed_tupC {a : Addr} {x : Str} (h : ∀ H, SqT K H a [.str x]) : ED K (tC (.ref a)) e (.tuple [.str x]) := fun σ F H Q f s q => q _ F H (Fz.refl f) (.tup (h F) (.cons (.str x) .nil))
theorem ed_op (ha : ED K ta e d1) (hb : ED K tb e d2) (hr : RD K r d1 d2 d) : ED K (tOp r ta tb) e d := fun σ F H Q f s q =>
  ha σ F H _ f s fun v1 F1 H1 s1 a1 => hb σ F1 H1 _ s1.sub (s.mono s1.f) fun v2 F2 H2 s2 a2 => hr v1 v2 F2 H2 Q s2.sub (a1.mono s2.f) a2 fun v3 F3 H3 s3 a3 => q v3 F3 H3 (s1.trans (s2.trans s3)) a3
theorem rd_I0 {g : Int → Int → V} {f : Int → Int → PyData} (hg : ∀ (i j : Int) (H : Hp), Da K H (g i j) (f i j)) : RD K (rI0 g) (.int i) (.int j) (f i j) := fun x y F H Q fs hx hy q => by
  cases hx.intI
  cases hy.intI
  exact ⟨i, j, rfl, rfl, q _ F H (Fz.refl fs) (hg i j F)⟩
theorem rd_I {C : Int → Int → Prop} {g : Int → Int → V} {f : Int → Int → PyData} (hc : C i j) (hg : ∀ (i j : Int) (H : Hp), Da K H (g i j) (f i j)) : RD K (rI C g) (.int i) (.int j) (f i j) := fun x y F H Q fs hx hy q => by
  cases hx.intI
  cases hy.intI
  exact ⟨i, j, rfl, rfl, hc, q _ F H (Fz.refl fs) (hg i j F)⟩
theorem ed_add (ha : ED K ta e (.int i)) (hb : ED K tb e (.int j)) : ED K (tOp (rI0 fun i j => .int (i + j)) ta tb) e (.int (i + j)) := ed_op ha hb (rd_I0 (f := fun i j => .int (i + j)) fun i j H => .int _)
theorem ed_sub (ha : ED K ta e (.int i)) (hb : ED K tb e (.int j)) : ED K (tOp (rI0 fun i j => .int (i - j)) ta tb) e (.int (i - j)) := ed_op ha hb (rd_I0 (f := fun i j => .int (i - j)) fun i j H => .int _)
theorem ed_and (ha : ED K ta e (.int i)) (hb : ED K tb e (.int j)) : ED K (tOp (rI0 fun i j => .int (Builtin.bitAnd i j)) ta tb) e (.int (Builtin.bitAnd i j)) := ed_op ha hb (rd_I0 (f := fun i j => .int (Builtin.bitAnd i j)) fun i j H => .int _)
theorem ed_mul (ha : ED K ta e (.int i)) (hb : ED K tb e (.int j)) (hc : CMul i j) : ED K (tOp (rI CMul fun i j => .int (i * j)) ta tb) e (.int (i * j)) := ed_op ha hb (rd_I (f := fun i j => .int (i * j)) hc fun i j H => .int _)
theorem ed_fdiv (ha : ED K ta e (.int i)) (hb : ED K tb e (.int j)) (hc : CDiv i j) : ED K (tOp (rI CDiv fun i j => .int (i / j)) ta tb) e (.int (i / j)) := ed_op ha hb (rd_I (f := fun i j => .int (i / j)) hc fun i j H => .int _)
theorem ed_mod (ha : ED K ta e (.int i)) (hb : ED K tb e (.int j)) (hc : 0 < j) : ED K (tOp (rI (fun _ j => 0 < j) fun i j => .int (i % j)) ta tb) e (.int (i % j)) := ed_op ha hb (rd_I (f := fun i j => .int (i % j)) hc fun i j H => .int _)
/-- a new list, a new tuple, frozen -/
theorem fz_lst {p : Addr} {xs : List V} (f : Same F H) (hp : H p = none) (h : Das K F xs ds) : Fz F H (upd F p (.lst xs)) (upd H p (.lst xs)) ∧ Da K (upd F p (.lst xs)) (.ref p) (.list ds) := ⟨Fz.new f hp, da_lst (f.free hp) h⟩
theorem fz_tup {p : Addr} {xs : List V} (f : Same F H) (hp : H p = none) (h : Das K F xs ds) : Fz F H (upd F p (.tup xs)) (upd H p (.tup xs)) ∧ Da K (upd F p (.tup xs)) (.ref p) (.tuple ds) := ⟨Fz.new f hp, da_tup (f.free hp) h⟩
theorem ed_cat (ha : ED K ta e (.list ds)) (hb : ED K tb e (.list es)) (hz : ds.length + es.length ≤ 16000000) : ED K (tOp rCat ta tb) e (.list (ds ++ es)) := ed_op ha hb fun x y F H Q f hx hy q => by
  obtain ⟨a, xs, rfl, h1, h2⟩ := hx.lstI
  obtain ⟨b, ys, rfl, h3, h4⟩ := hy.lstI
  exact ⟨a, b, xs, ys, rfl, rfl, f _ _ h1, f _ _ h3, by rw [h2.length, h4.length]; exact line_le hz, fun p hp => let z := fz_lst f hp (h2.append h4); q _ _ _ z.1 z.2⟩
theorem rep_flat {v : V} : ∀ n : Nat, (List.replicate n [v]).flatten = List.replicate n v
  | 0 => rfl
  | n + 1 => by rw [List.replicate_succ, List.flatten_cons, rep_flat n]; rfl
theorem Das.rep {v : V} {d : PyData} (h : Da K H v d) : ∀ n : Nat, Das K H (List.replicate n v) (List.replicate n d)
  | 0 => .nil
  | n + 1 => .cons h (Das.rep h n)
theorem ed_rep (ha : ED K ta e (.list [d])) (hb : ED K tb e (.int (n : Int))) (hz : n ≤ 16000000) : ED K (tOp rRep ta tb) e (.list (List.replicate n d)) := ed_op ha hb fun x y F H Q f hx hy q => by
  obtain ⟨a, xs, rfl, h1, h2⟩ := hx.lstI
  obtain ⟨v, rfl, hv⟩ := h2.inv1
  cases hy.intI
  refine ⟨a, n, [v], rfl, rfl, f _ _ h1, by omega, by omega, by rw [Int.toNat_natCast]; exact line_le (by show 1 * n ≤ _; omega), fun p hp => ?_⟩
  rw [Int.toNat_natCast, rep_flat]
  obtain ⟨z1, z2⟩ := fz_lst (K := K) f hp (Das.rep hv n)
  exact q _ _ _ z1 z2
theorem ed_ixT (ha : ED K ta e (.tuple ds)) (hb : ED K tb e (.int (n : Int))) (hn : ds[n]? = some d) : ED K (tOp (rIxT K) ta tb) e d := ed_op ha hb fun x y F H Q f hx hy q => by
  obtain ⟨a, xs, rfl, h1, h2⟩ := hx.tupI
  cases hy.intI
  obtain ⟨v, h3, h4⟩ := h2.get hn
  exact ⟨a, xs, _, v, rfl, rfl, SqT.same f h1, atI_nat h3, q v F H (Fz.refl f) h4⟩
theorem ed_ixL (ha : ED K ta e (.list ds)) (hb : ED K tb e (.int (n : Int))) (hn : ds[n]? = some d) : ED K (tOp (rIxL K) ta tb) e d := ed_op ha hb fun x y F H Q f hx hy q => by
  obtain ⟨a, xs, rfl, h1, h2⟩ := hx.lstI
  cases hy.intI
  obtain ⟨v, h3, h4⟩ := h2.get hn
  exact ⟨a, xs, _, v, rfl, rfl, SqL.of (f _ _ h1), atI_nat h3, q v F H (Fz.refl f) h4⟩
theorem ed_ix0 (ha : ED K ta e (.tuple (d :: ds))) : ED K (tOp (rIxT K) ta (tC (.int 0))) e d := ed_ixT (n := 0) ha ed_int rfl
theorem ed_ix1 (ha : ED K ta e (.tuple (d1 :: d :: ds))) : ED K (tOp (rIxT K) ta (tC (.int 1))) e d := ed_ixT (n := 1) ha ed_int rfl
theorem ed_ix2 (ha : ED K ta e (.tuple (d1 :: d2 :: d :: ds))) : ED K (tOp (rIxT K) ta (tC (.int 2))) e d := ed_ixT (n := 2) ha ed_int rfl
theorem ed_ix3 (ha : ED K ta e (.tuple (d1 :: d2 :: d3 :: d :: ds))) : ED K (tOp (rIxT K) ta (tC (.int 3))) e d := ed_ixT (n := 3) ha ed_int rfl
theorem eo_none : EO K tNoPart e none := fun σ F H Q f s q => q F H (Fz.refl f)
theorem eo_some (h : ED K te e (.int i)) : EO K (tPart te) e (some i) := fun σ F H Q f s q => h σ F H _ f s fun v F1 H1 s1 a1 => by
  cases a1.intI
  exact ⟨i, rfl, q F1 H1 s1⟩
theorem cut_map {f : List V → List V} {g : List PyData → List PyData} {lo hi : Option Int} (hc : ∀ xs : List V, cutV xs lo hi = f xs) (hf : ∀ (H : Hp) (xs : List V) (ds : List PyData), Das K H xs ds → Das K H (f xs) (g ds))
    (ha : ED K te e (.list ds)) (h1 : EO K tl e lo) (h2 : EO K th e hi) : ED K (tSl (rSlL K) te tl th) e (.list (g ds)) := fun σ F H Q fs s q =>
  ha σ F H _ fs s fun v F1 H1 s1 a1 => h1 σ F1 H1 _ s1.sub (s.mono s1.f) fun F2 H2 s2 => h2 σ F2 H2 _ s2.sub (s.mono (s1.f.trans s2.f)) fun F3 H3 s3 => by
    obtain ⟨a, xs, rfl, h3, h4⟩ := (a1.mono (s2.f.trans s3.f)).lstI
    refine ⟨a, xs, rfl, SqL.of (s3.sub _ _ h3), fun p hp => ?_⟩
    rw [hc]
    obtain ⟨z1, z2⟩ := fz_lst (K := K) s3.sub hp (hf _ _ _ h4)
    exact q _ _ _ (s1.trans (s2.trans (s3.trans z1))) z2
theorem ed_take (ha : ED K te e (.list ds)) (hb : ED K tb e (.int (n : Int))) : ED K (tSl (rSlL K) te tNoPart (tPart tb)) e (.list (ds.take n)) :=
  cut_map (f := fun xs => xs.take n) (fun xs => cut_take xs n) (fun H xs ds h => h.take n) ha eo_none (eo_some hb)
theorem ed_drop (ha : ED K te e (.list ds)) (hb : ED K tb e (.int (n : Int))) : ED K (tSl (rSlL K) te (tPart tb) tNoPart) e (.list (ds.drop n)) :=
  cut_map (f := fun xs => xs.drop n) (fun xs => cut_drop xs n) (fun H xs ds h => h.drop n) ha (eo_some hb) eo_none
theorem ed_dropI (ha : ED K te e (.list ds)) (hb : ED K tb e (.int i)) (hi : i = (n : Int)) : ED K (tSl (rSlL K) te (tPart tb) tNoPart) e (.list (ds.drop n)) := by
  subst hi
  exact ed_drop ha hb
theorem ed_drop1 (ha : ED K te e (.list ds)) : ED K (tSl (rSlL K) te (tPart (tC (.int 1))) tNoPart) e (.list (ds.drop 1)) := ed_dropI ha ed_int rfl
theorem ea_nil : EA K tNil e [] := fun σ F H Q f s q => q _ F H (Fz.refl f) .nil
theorem ea_cons (ha : ED K te e d) (hr : EA K tr e ds) : EA K (tCons te tr) e (d :: ds) := fun σ F H Q f s q =>
  ha σ F H _ f s fun v F1 H1 s1 a1 => hr σ F1 H1 _ s1.sub (s.mono s1.f) fun vs F2 H2 s2 a2 => q _ F2 H2 (s1.trans s2) (.cons (a1.mono s2.f) a2)
theorem ed_tup (h : EA K tr e ds) (hz : Nat.ble ds.length 100 = true := by rfl) : ED K (tTup tr) e (.tuple ds) := fun σ F H Q f s q =>
  h σ F H _ f s fun vs F1 H1 s1 a1 => ⟨by rw [a1.length]; exact line_le (Nat.le_trans (Nat.le_of_ble_eq_true hz) (by decide)), fun p hp => let z := fz_tup (K := K) s1.sub hp a1; q _ _ _ (s1.trans z.1) z.2⟩
theorem ed_lst (h : EA K tr e ds) (hz : Nat.ble ds.length 100 = true := by rfl) : ED K (tLst tr) e (.list ds) := fun σ F H Q f s q =>
  h σ F H _ f s fun vs F1 H1 s1 a1 => ⟨by rw [a1.length]; exact line_le (Nat.le_trans (Nat.le_of_ble_eq_true hz) (by decide)), fun p hp => let z := fz_lst (K := K) s1.sub hp a1; q _ _ _ (s1.trans z.1) z.2⟩
theorem ed_call {R : List PyData → PyData → Prop} {E : XK} (h : EA K tr e ds) (hR : R ds d) : ED K (tCall (spD K R) [] E tr) e d := fun σ F H Q f s q =>
  h σ F H _ f s fun vs F1 H1 s1 a1 => ⟨F1, ds, d, s1.sub, by rw [List.append_nil]; exact a1, hR, fun v F' H' s2 a2 => q v F' H' (s1.trans s2) a2⟩
theorem ed_if (hc : EB K tt e b) (h1 : b = true → ED K ta e d) (h2 : b = false → ED K tb e d) : ED K (tIf tt ta tb) e d := fun σ F H Q f s q => hc σ F H _ f s fun F1 H1 s1 => by
  cases b with
  | true => exact h1 rfl σ F1 H1 Q s1.sub (s.mono s1.f) fun v F2 H2 s2 => q v F2 H2 (s1.trans s2)
  | false => exact h2 rfl σ F1 H1 Q s1.sub (s.mono s1.f) fun v F2 H2 s2 => q v F2 H2 (s1.trans s2)
theorem ed_yes (hc : EB K tt e true) (h : ED K ta e d) : ED K (tIf tt ta tb) e d := ed_if hc (fun _ => h) fun z => (nomatch z)
theorem ed_no (hc : EB K tt e false) (h : ED K tb e d) : ED K (tIf tt ta tb) e d := ed_if hc (fun z => (nomatch z)) fun _ => h
/-- len of a list -/
theorem ed_len (ha : ED K te e (.list ds)) : ED K (tCB (fun xs H Q => ∃ p ys, xs = [.ref p] ∧ (SqL K H p ys ∨ SqT K H p ys) ∧ Q (.int ys.length) H) (tCons te tNil)) e (.int ds.length) := fun σ F H Q f s q =>
  ha σ F H _ f s fun v F1 H1 s1 a1 => by
    obtain ⟨a, xs, rfl, h3, h4⟩ := a1.lstI
    refine ⟨a, xs, rfl, .inl (SqL.of (s1.sub _ _ h3)), ?_⟩
    rw [h4.length]
    exact q _ F1 H1 s1 (.int _)
/-! tests -/
theorem eb_cmp (h : ED K (tOp r ta tb) e (.bool b)) : EB K (tTest (tOp r ta tb)) e b := fun σ F H Q f s q => h σ F H _ f s fun v F1 H1 s1 a1 => by
  cases a1.blI
  exact ⟨b, rfl, q F1 H1 s1⟩
theorem eb_val (h : ED K te e (.bool b)) : EB K (tB te) e b := fun σ F H Q f s q => h σ F H _ f s fun v F1 H1 s1 a1 => by
  cases a1.blI
  exact ⟨b, rfl, q F1 H1 s1⟩
theorem dec_S {x y : Str} : decide (V.str x = V.str y) = decide (x = y) := by
  by_cases e : x = y
  · subst e; simp
  · rw [decide_eq_false e, decide_eq_false fun q => e (V.str.inj q)]
theorem dec_I {i j : Int} : decide (V.int i = V.int j) = decide (i = j) := by
  by_cases e : i = j
  · subst e; simp
  · rw [decide_eq_false e, decide_eq_false fun q => e (V.int.inj q)]
theorem ed_eqS (ha : ED K ta e (.str x)) (hb : ED K tb e (.str y)) : ED K (tOp rEq ta tb) e (.bool (decide (x = y))) := ed_op ha hb fun v w F H Q f hx hy q => by
  cases hx.strI
  cases hy.strI
  refine ⟨rfl, ?_⟩
  rw [dec_S]
  exact q _ F H (Fz.refl f) (.bl _)
theorem ed_eqI (ha : ED K ta e (.int i)) (hb : ED K tb e (.int j)) : ED K (tOp rEq ta tb) e (.bool (decide (i = j))) := ed_op ha hb fun v w F H Q f hx hy q => by
  cases hx.intI
  cases hy.intI
  refine ⟨rfl, ?_⟩
  rw [dec_I]
  exact q _ F H (Fz.refl f) (.bl _)
theorem ed_neI (ha : ED K ta e (.int i)) (hb : ED K tb e (.int j)) : ED K (tOp rNe ta tb) e (.bool (!decide (i = j))) := ed_op ha hb fun v w F H Q f hx hy q => by
  cases hx.intI
  cases hy.intI
  refine ⟨rfl, ?_⟩
  rw [dec_I]
  exact q _ F H (Fz.refl f) (.bl _)
theorem ed_lt (ha : ED K ta e (.int i)) (hb : ED K tb e (.int j)) : ED K (tOp (rI0 fun i j => .bl (decide (i < j))) ta tb) e (.bool (decide (i < j))) := ed_op ha hb (rd_I0 (f := fun i j => .bool (decide (i < j))) fun i j H => .bl _)
theorem ed_le (ha : ED K ta e (.int i)) (hb : ED K tb e (.int j)) : ED K (tOp (rI0 fun i j => .bl (decide (i ≤ j))) ta tb) e (.bool (decide (i ≤ j))) := ed_op ha hb (rd_I0 (f := fun i j => .bool (decide (i ≤ j))) fun i j H => .bl _)
theorem ed_gt (ha : ED K ta e (.int i)) (hb : ED K tb e (.int j)) : ED K (tOp (rI0 fun i j => .bl (decide (j < i))) ta tb) e (.bool (decide (j < i))) := ed_op ha hb (rd_I0 (f := fun i j => .bool (decide (j < i))) fun i j H => .bl _)
theorem ed_ge (ha : ED K ta e (.int i)) (hb : ED K tb e (.int j)) : ED K (tOp (rI0 fun i j => .bl (decide (j ≤ i))) ta tb) e (.bool (decide (j ≤ i))) := ed_op ha hb (rd_I0 (f := fun i j => .bool (decide (j ≤ i))) fun i j H => .bl _)
def isNon : PyData → Bool
  | .none => true
  | _ => false
theorem Da.isNon {v : V} (h : Da K H v d) : decide (v = .non) = isNon d := by
  cases h <;> simp [Pa.isNon]
theorem ed_isN (ha : ED K ta e d) : ED K (tOp (fun x y H Q => y = .non ∧ Q (.bl (decide (x = .non))) H) ta (tC .non)) e (.bool (isNon d)) := fun σ F H Q f s q => ha σ F H _ f s fun v F1 H1 s1 a1 => by
  refine ⟨rfl, ?_⟩
  rw [a1.isNon]
  exact q _ F1 H1 s1 (.bl _)
theorem ed_notN (ha : ED K ta e d) : ED K (tOp (fun x y H Q => y = .non ∧ Q (.bl (!decide (x = .non))) H) ta (tC .non)) e (.bool (!isNon d)) := fun σ F H Q f s q => ha σ F H _ f s fun v F1 H1 s1 a1 => by
  refine ⟨rfl, ?_⟩
  rw [a1.isNon]
  exact q _ F1 H1 s1 (.bl _)
theorem inV_str2 {z x y : Str} : inV (.str z) [.str x, .str y] = (decide (x = z) || decide (y = z)) := by
  unfold inV
  simp only [List.any_cons, List.any_nil, Bool.or_false, eqV]
  rw [Bool.beq_eq_decide_eq, Bool.beq_eq_decide_eq] <;> rfl
theorem eb_and (h1 : EB K tt e b) (h2 : b = true → EB K tu e c) : EB K (tAnd tt tu) e (b && c) := fun σ F H Q f s q => h1 σ F H _ f s fun F1 H1 s1 => by
  cases b with
  | true => exact h2 rfl σ F1 H1 Q s1.sub (s.mono s1.f) fun F2 H2 s2 => q F2 H2 (s1.trans s2)
  | false => exact q F1 H1 s1
theorem eb_or (h1 : EB K tt e b) (h2 : b = false → EB K tu e c) : EB K (tOr tt tu) e (b || c) := fun σ F H Q f s q => h1 σ F H _ f s fun F1 H1 s1 => by
  cases b with
  | true => exact q F1 H1 s1
  | false => exact h2 rfl σ F1 H1 Q s1.sub (s.mono s1.f) fun F2 H2 s2 => q F2 H2 (s1.trans s2)
theorem eb_isT {i : Nat} (h : e[i]? = some (some .none)) : EB K (tTest (tOp (fun x y H Q => y = .non ∧ Q (.bl (decide (x = .non))) H) (tVar i) (tC .non))) e true := eb_cmp (ed_isN (d := .none) (ed_var h))
theorem eb_isF {i : Nat} (h : e[i]? = some (some d)) (hd : isNon d = false := by rfl) : EB K (tTest (tOp (fun x y H Q => y = .non ∧ Q (.bl (decide (x = .non))) H) (tVar i) (tC .non))) e false := by
  have q := eb_cmp (ed_isN (K := K) (d := d) (ed_var h))
  rw [hd] at q
  exact q
theorem eb_notT {i : Nat} (h : e[i]? = some (some d)) (hd : isNon d = false := by rfl) : EB K (tTest (tOp (fun x y H Q => y = .non ∧ Q (.bl (!decide (x = .non))) H) (tVar i) (tC .non))) e true := by
  have q := eb_cmp (ed_notN (K := K) (d := d) (ed_var h))
  rw [hd] at q
  exact q
theorem eb_notF {i : Nat} (h : e[i]? = some (some .none)) : EB K (tTest (tOp (fun x y H Q => y = .non ∧ Q (.bl (!decide (x = .non))) H) (tVar i) (tC .non))) e false := eb_cmp (ed_notN (d := .none) (ed_var h))
theorem EB.eq (h : EB K tt e b) (q : b = c) : EB K tt e c := q ▸ h
theorem ED.eq (h : ED K te e d) (q : d = d1) : ED K te e d1 := q ▸ h
theorem eb_orT (h : EB K tt e true) : EB K (tOr tt tu) e true := eb_or (c := true) h fun z => (nomatch z)
theorem eb_orF (h : EB K tt e false) (g : EB K tu e b) : EB K (tOr tt tu) e b := EB.eq (eb_or h fun _ => g) (by cases b <;> rfl)
theorem eb_andF (h : EB K tt e false) : EB K (tAnd tt tu) e false := eb_and (c := true) h fun z => (nomatch z)
theorem eb_andT (h : EB K tt e true) (g : EB K tu e b) : EB K (tAnd tt tu) e b := EB.eq (eb_and h fun _ => g) (by cases b <;> rfl)

/-! ### statements -/
inductive Out where | nx (e : DE) | rt (d : PyData) | bk (e : DE) | ct (e : DE)
def Sat (K : PySem.W.Frag) (D : Ends) (F H : Hp) : Out → Prop
  | .nx e => ∀ σ F' H', Fz F H F' H' → SD K F' σ e → D.nx σ H'
  | .rt d => ∀ v F' H', Fz F H F' H' → Da K F' v d → D.rt v H'
  | .bk e => ∀ σ F' H', Fz F H F' H' → SD K F' σ e → D.bk σ H'
  | .ct e => ∀ σ F' H', Fz F H F' H' → SD K F' σ e → D.ct σ H'
theorem Sat.mono {D : Ends} {o : Out} (s : Fz F H F' H') (h : Sat K D F H o) : Sat K D F' H' o := by
  cases o <;> exact fun x F2 H2 s2 => h x F2 H2 (s.trans s2)
def ES (K : PySem.W.Frag) (ts : TS) (e : DE) (o : Out) : Prop := ∀ (D : Ends) (σ : L2.St) (F H : Hp), Same F H → SD K F σ e → Sat K D F H o → ts D σ H
variable {t u : TS} {o : Out}
theorem es_next : ES K tNext e (.nx e) := fun D σ F H f s q => q σ F H (Fz.refl f) s
theorem es_seq (h1 : ES K t e (.nx e1)) (h2 : ES K u e1 o) : ES K (tSeq t u) e o := fun D σ F H f s q => h1 { D with nx := u D } σ F H f s fun σ' F' H' s' a => h2 D σ' F' H' s'.sub a (q.mono s')
theorem es_seqR (h1 : ES K t e (.rt d)) : ES K (tSeq t u) e (.rt d) := fun D σ F H f s q => h1 { D with nx := u D } σ F H f s q
theorem es_set {i : Nat} (h : ED K te e d) : ES K (tAsg te (gName i)) e (.nx (e.set i (some d))) := fun D σ F H f s q => h σ F H _ f s fun v F1 H1 s1 a1 => q _ F1 H1 s1 ((s.mono s1.f).set a1)
theorem es_ret (h : ED K te e d) : ES K (tRet te) e (.rt d) := fun D σ F H f s q => h σ F H _ f s fun v F1 H1 s1 a1 => q v F1 H1 s1 a1
theorem es_if (hc : EB K tt e b) (h1 : b = true → ES K t e o) (h2 : b = false → ES K u e o) : ES K (tIfS tt t u) e o := fun D σ F H f s q => hc σ F H _ f s fun F1 H1 s1 => by
  cases b with
  | true => exact h1 rfl D σ F1 H1 s1.sub (s.mono s1.f) (q.mono s1)
  | false => exact h2 rfl D σ F1 H1 s1.sub (s.mono s1.f) (q.mono s1)
theorem es_yes (hc : EB K tt e true) (h1 : ES K t e o) : ES K (tIfS tt t u) e o := es_if hc (fun _ => h1) fun z => (nomatch z)
theorem es_no (hc : EB K tt e false) (h1 : ES K u e o) : ES K (tIfS tt t u) e o := es_if hc (fun z => (nomatch z)) fun _ => h1
theorem es_skip (hc : EB K tt e false) (h : ES K u e o) : ES K (tSeq (tIfS tt t tNext) u) e o := es_seq (es_no hc es_next) h
theorem es_take {u' : TS} (hc : EB K tt e true) (h : ES K t e (.rt d)) : ES K (tSeq (tIfS tt t u') u) e (.rt d) := es_seqR (es_yes hc h)
theorem ed_in2 {z : Str} (ha : ED K ta e (.str z)) : ED K (tOp (rIn K false) ta (tTup (tCons (tC (.str x)) (tCons (tC (.str y)) tNil)))) e (.bool (decide (x = z) || decide (y = z))) := fun σ F H Q f s q => ha σ F H _ f s fun v F1 H1 s1 a1 => by
  cases a1.strI
  refine ⟨line_le (show 2 ≤ 16000000 by decide), fun p hp => ⟨p, [.str x, .str y], rfl, .inr (SqT.of upd_same), rfl, rfl, ?_⟩⟩
  have z : (if false = true then !inV (.str z) [.str x, .str y] else inV (.str z) [.str x, .str y]) = (decide (x = z) || decide (y = z)) := by
    rw [if_neg Bool.false_ne_true, inV_str2]
  rw [z]
  exact q _ _ _ (s1.trans (Fz.loose s1.sub hp)) (.bl _)
/-- targets in a row; vs: the slots that may be set -/
def ETs (K : PySem.W.Frag) (t : TGs) (ws : List Nat) (e : DE) (ds : List PyData) (e' : DE) : Prop := ∀ (vs : List V) (σ : L2.St) (F H : Hp) (Q : L2.St → Hp → Prop), Same F H → SD K F σ e → Das K F vs ds → (∀ σ', SD K F σ' e' → L2.wipe σ' ws = L2.wipe σ ws → Q σ' H) → t vs σ H Q
theorem et_nil {ws : List Nat} : ETs K gNil ws e [] e := fun vs σ F H Q f s h q => ⟨h.nil_inv, q σ s rfl⟩
theorem et_cons {i : Nat} {ws : List Nat} {tg : TGs} (h : ETs K tg ws (e.set i (some d)) ds e1) (hi : i ∈ ws := by decide) : ETs K (gCons (gName i) tg) ws e (d :: ds) e1 := fun vs σ F H Q f s g q => by
  obtain ⟨v, r, rfl, a, b⟩ := g.cons_inv
  exact ⟨v, r, rfl, h r _ F H Q f (s.set a) b fun σ' s' w => q σ' s' (w.trans (wipe_set hi σ))⟩
theorem es_unp {tg : TGs} {ws : List Nat} (h : ED K te e (.tuple ds)) (ht : ETs K tg ws e ds e1) (hn : ds.length = n) : ES K (tAsg te (gTup K n tg)) e (.nx e1) := fun D σ F H f s q => h σ F H _ f s fun v F1 H1 s1 a1 => by
  obtain ⟨a, xs, rfl, h1, h2⟩ := a1.tupI
  exact ⟨a, xs, rfl, SqT.same s1.sub h1, h2.length.trans hn, ht xs σ F1 H1 _ s1.sub (s.mono s1.f) h2 fun σ' s' _ => q σ' F1 H1 s1 s'⟩
theorem es_par {i j : Nat} (h : EA K tr e [d, d1]) : ES K (tPar i j tr) e (.nx ((e.set i (some d)).set j (some d1))) := fun D σ F H f s q => h σ F H _ f s fun vs F1 H1 s1 a1 => by
  obtain ⟨v, w, rfl, a, b⟩ := a1.inv2
  exact ⟨v, w, rfl, q _ F1 H1 s1 (((s.mono s1.f).set a).set b)⟩
/-- a target by name, by a tuple of names -/
def EG (K : PySem.W.Frag) (g : TG) (ws : List Nat) (d : PyData) (e e' : DE) : Prop := ∀ (v : V) (σ : L2.St) (F H : Hp) (Q : L2.St → Hp → Prop), Same F H → SD K F σ e → Da K F v d → (∀ σ', SD K F σ' e' → L2.wipe σ' ws = L2.wipe σ ws → Q σ' H) → g v σ H Q
theorem eg_name {i : Nat} {ws : List Nat} (hi : i ∈ ws := by decide) : EG K (gName i) ws d e (e.set i (some d)) := fun v σ F H Q f s a q => q _ (s.set a) (wipe_set hi σ)
theorem eg_tup {tg : TGs} {ws : List Nat} (ht : ETs K tg ws e ds e1) (hn : ds.length = n) : EG K (gTup K n tg) ws (.tuple ds) e e1 := fun v σ F H Q f s a q => by
  obtain ⟨p, xs, rfl, h1, h2⟩ := a.tupI
  exact ⟨p, xs, rfl, SqT.same f h1, h2.length.trans hn, ht xs σ F H Q f s h2 q⟩
/-- for over a list, no way out: the environment ahead of each turn -/
theorem es_for {g : TG} {tb' : TS} {ws : List Nat} (env : Nat → DE) (hl : ED K te e (.list ds)) (h0 : env 0 = e)
    (hs : ∀ (i : Nat) (x : PyData), ds[i]? = some x → ∃ e', EG K g ws x (env i) e' ∧ ES K tb' e' (.nx (env (i + 1)))) : ES K (tFor (iList K te) g tb') e (.nx (env ds.length)) := fun D σ F H f s q => hl σ F H _ f s fun v F1 H1 s1 a1 => by
  obtain ⟨a, xs, rfl, h1, h2⟩ := a1.lstI
  have hz := h2.length
  refine ⟨a, rfl, ⟨xs, SqL.of (s1.sub _ _ h1)⟩, for_list (K := K) (a := a) (xs := xs) (fun i σ' H' => ∃ F', Fz F1 H1 F' H' ∧ SD K F' σ' (env i)) ⟨F1, Fz.refl s1.sub, by rw [h0]; exact s.mono s1.f⟩ (fun i σ' H' _ ⟨F', w, _⟩ => SqL.of (w.h _ _ (s1.sub _ _ h1))) (fun i x σ' H' hx ⟨F', w1, w2⟩ => ?_) (fun σ' H' ⟨F', w1, w2⟩ => ?_)⟩
  · obtain ⟨d, hd, had⟩ := h2.get' hx
    obtain ⟨e', g1, g2⟩ := hs i d hd
    exact g1 x σ' F' H' _ w1.sub w2 (had.mono w1.f) fun σ2 s2 _ => g2 _ σ2 F' H' w1.sub s2 fun σ3 F3 H3 s3 a3 => ⟨F3, w1.trans s3, a3⟩
  · refine q σ' F' H' (s1.trans w1) ?_
    rw [← hz]
    exact w2
/-- a comprehension over a list, with a test -/
theorem ed_lcIf {g : TG} {ws : List Nat} (p : PyData → Bool) (fn : PyData → PyData) (hl : ED K tb e (.list ds)) (hz : ds.length ≤ 16000000) (hs : ∀ x, x ∈ ds → ∃ e', EG K g ws x (wipeD e ws) e' ∧ EB K tt e' (p x) ∧ (p x = true → ED K te e' (fn x))) :
    ED K (tLc (iList K tb) g tt te ws) e (.list ((ds.filter p).map fn)) := fun σ F H Q f s q => hl σ F H _ f s fun v F1 H1 s1 a1 => by
  obtain ⟨a, xs, rfl, h1, h2⟩ := a1.lstI
  have hlen := h2.length
  have sw := (s.mono s1.f).wipe ws
  refine ⟨a, rfl, ⟨xs, SqL.of (s1.sub _ _ h1)⟩, fun D nD => lc_list (K := K) (a := a) (xs := xs) (fun i H' => ∃ F' acc, Fz F1 H1 F' H' ∧ F' D = none ∧ H' D = some (.lst acc) ∧ Das K F' acc (((ds.take i).filter p).map fn)) ?_ (fun i H' _ ⟨F', acc, w, _⟩ => SqL.of (w.h _ _ (s1.sub _ _ h1))) (fun i x H' hx ⟨F', acc, w1, w2, w3, w4⟩ => ?_) (fun H' ⟨F', acc, w1, w2, w3, w4⟩ => ?_)⟩
  · exact ⟨F1, [], Fz.loose s1.sub nD, s1.sub.free nD, upd_same, .nil⟩
  · obtain ⟨d, hd, had⟩ := h2.get' hx
    obtain ⟨e', g1, g2, g3⟩ := hs d (List.mem_of_getElem? hd)
    refine g1 x _ F' H' _ w1.sub (sw.mono w1.f) (had.mono w1.f) fun σ2 s2 hw => ⟨hw.trans (wipe_wipe σ ws), ?_⟩
    refine g2 σ2 F' H' _ w1.sub s2 fun F2 H2 s3 => ?_
    have nD2 : F2 D = none := s3.away w2 (by rw [w3]; exact fun z => nomatch z)
    have et : ds.take (i + 1) = ds.take i ++ [d] := by rw [List.take_add_one, hd]; rfl
    cases hp : p d with
    | true =>
      refine g3 hp σ2 F2 H2 _ s3.sub (s2.mono s3.f) fun y F3 H3 s4 a3 => ⟨acc, s4.h _ _ (s3.h _ _ w3), ?_, ?_⟩
      · have e1 := w4.length
        have e2 := List.length_filter_le p (ds.take i)
        rw [List.length_map] at e1
        rw [List.length_take] at e2
        exact line_lt (by omega)
      · have nD3 : F3 D = none := s4.away nD2 (by rw [s3.h _ _ w3]; exact fun z => nomatch z)
        have w5 := (w1.trans s3).trans s4
        refine ⟨F3, acc ++ [y], ⟨fun b o hb => ?_, w5.f, fun b o hb => ?_, w5.fresh⟩, nD3, upd_same, ?_⟩
        · have nb : b ≠ D := ne_of_none hb nD
          rw [upd_ne nb]
          exact w5.h _ _ hb
        · have nb : b ≠ D := ne_of_none hb nD3
          rw [upd_ne nb]
          exact w5.sub _ _ hb
        · rw [et, List.filter_append, List.filter_cons_of_pos hp, List.filter_nil, List.map_append]
          exact (w4.mono (s3.f.trans s4.f)).append (Das.one a3)
    | false =>
      refine ⟨F2, acc, w1.trans s3, nD2, s3.h _ _ w3, ?_⟩
      rw [et, List.filter_append, List.filter_cons_of_neg (by rw [hp]; exact Bool.false_ne_true), List.filter_nil, List.append_nil]
      exact w4.mono s3.f
  · rw [hlen, List.take_length] at w4
    -- the list itself is frozen now
    have fD : Same F' (upd F' D (.lst acc)) := same_upd w2
    refine q _ (upd F' D (.lst acc)) H' (s1.trans ⟨w1.h, w1.f.trans fD, fun b o hb => ?_, fun b o hb => ?_⟩) (da_lst w2 w4)
    · by_cases z : b = D
      · subst z; rw [upd_same] at hb; rw [← hb]; exact w3
      · rw [upd_ne z] at hb; exact w1.sub _ _ hb
    · by_cases z : b = D
      · subst z; exact .inr nD
      · rw [upd_ne z] at hb; exact w1.fresh _ _ hb
theorem eb_tYes : EB K tYes e true := fun σ F H Q f s q => q F H (Fz.refl f)
/-- .. each item kept -/
theorem ed_lc {g : TG} {ws : List Nat} (fn : PyData → PyData) (hl : ED K tb e (.list ds)) (hz : ds.length ≤ 16000000) (hs : ∀ x, x ∈ ds → ∃ e', EG K g ws x (wipeD e ws) e' ∧ ED K te e' (fn x)) :
    ED K (tLc (iList K tb) g tYes te ws) e (.list (ds.map fn)) := by
  have h := ed_lcIf (tt := tYes) (te := te) (fun _ => true) fn hl hz fun x hx => by
    obtain ⟨e', a, b⟩ := hs x hx
    exact ⟨e', a, eb_tYes, fun _ => b⟩
  rw [List.filter_eq_self.mpr fun _ _ => rfl] at h
  exact h
/-- some slots forgotten -/
inductive Forg : DE → DE → Prop
  | nil : Forg [] []
  | keep {x : Option PyData} {a b : DE} : Forg a b → Forg (x :: a) (x :: b)
  | drop {x : Option PyData} {a b : DE} : Forg a b → Forg (x :: a) (none :: b)
theorem Forg.len {a b : DE} (h : Forg a b) : a.length = b.length := by
  induction h with
  | nil => rfl
  | keep _ ih => exact congrArg (· + 1) ih
  | drop _ ih => exact congrArg (· + 1) ih
theorem Forg.get {a b : DE} (h : Forg a b) : ∀ {i : Nat} {d : PyData}, b[i]? = some (some d) → a[i]? = some (some d) := by
  induction h with
  | nil => intro i d q; exact q
  | keep _ ih => intro i d q; cases i with
    | zero => exact q
    | succ i => exact ih q
  | drop _ ih => intro i d q; cases i with
    | zero => cases q
    | succ i => exact ih q
theorem SD.forg (s : SD K F σ e) (h : Forg e e1) : SD K F σ e1 := ⟨s.len.trans h.len, fun i d q => s.get i d (h.get q)⟩
theorem ES.forg (h : ES K t e (.nx e1)) (g : Forg e1 e2) : ES K t e (.nx e2) := fun D σ F H f s q => h D σ F H f s fun σ' F' H' s' a => q σ' F' H' s' (a.forg g)
theorem ED.forg (g : Forg e e1) (h : ED K te e1 d) : ED K te e d := fun σ F H Q f s q => h σ F H Q f (s.forg g) q
/-- y = [..] -/
theorem es_setE {i : Nat} (h : ED K te e d) : ES K (tAsg te (gName i)) e (.nx (e.set i (some d))) := es_set h
end
/-- the environment at a def's start -/
def dstart (N : List Str) (ds : List PyData) : DE := ds.map some ++ List.replicate (N.length - ds.length) none
section
variable {P : Program} {w : World} {K : PySem.W.Frag} {mg : Str → Option Value} {base : Heap}
/-- THE RULE for a pure def -/
theorem Def.pure {x : Str} {st : Stmt} {N ps : List Str} {k : Nat} {R : List PyData → PyData → Prop} (D : Def K mg x st) (S : FnScope N ps (defScope st)) (len : ∀ ds d, R ds d → ds.length = ps.length)
    (hb : ∀ (kV doc pm : Value) (an : Option Addr) (cdv ct : Value) (us : List Value), us.length = ps.length → bindArgs (PySem.W.fnOf x x (defArgs st) (defBody st) (defScope st) .none kV doc pm an cdv ct) ⟨us, []⟩ = Pure.pure (ps.zip us))
    (hbody : ∀ (f : Addr) (cdv : Value) (A : Around) (outer : List Env) (s : Shared) (H : Hp) (E : XK) (ds : List PyData) (d : PyData), Room k (A.deeper (envOfC x (defScope st) s.heap.objs.size f cdv)) → R ds d →
      ∃ t, PSs (cxOf CX0 P w K mg base N x (defScope st) f cdv A outer s H E).nox (defBody st) t ∧ ES K t (dstart N ds) (.rt d)) : Cal P w K mg base (k + 1) x ps (spD K R) := by
  refine D.cal S (fun vs H Q E ⟨F, ds, d, _, a, b, _⟩ => a.length.trans (len ds d b)) hb fun f cdv A outer s H vs Q E hr ⟨F, ds, d, fs, a, b, q⟩ => ?_
  obtain ⟨t, h1, h2⟩ := hbody f cdv A outer s H E ds d hr b
  exact ⟨t, h1, h2 _ _ F H fs (SD.start a) q⟩
/-- a def that is never called -/
theorem Def.never {x : Str} {st : Stmt} {ps : List Str} {sp : Sp} {k : Nat} (D : Def K mg x st) (no : ∀ vs H Q E, ¬ sp vs H Q E)
    (hb : ∀ (kV doc pm : Value) (an : Option Addr) (cdv ct : Value) (us : List Value), us.length = ps.length → bindArgs (PySem.W.fnOf x x (defArgs st) (defBody st) (defScope st) .none kV doc pm an cdv ct) ⟨us, []⟩ = Pure.pure (ps.zip us)) : Cal P w K mg base k x ps sp := by
  obtain ⟨f, fd, hm, F⟩ := D
  exact ⟨f, fd, hm, ⟨fun vs H Q E h => absurd h (no vs H Q E), fun A outer s H args us vs Q E _ _ _ _ h => absurd h (no vs H Q E)⟩, F.kp, F.binds hb⟩
theorem spD_no {R : List PyData → PyData → Prop} (h : ∀ ds d, ¬ R ds d) : ∀ vs H Q E, ¬ spD K R vs H Q E := fun vs H Q E ⟨_, ds, d, _, _, r, _⟩ => h ds d r
end
end Pa
/-! A list of the def's own that grows; for over enumerate with a return. -/
namespace Pa
open PySem L2 PyProof.Rows
/-- as Fz, but the object at p may change -/
structure Fp1 (p : Addr) (F H F' H' : Hp) : Prop where
  h : ∀ b o, b ≠ p → H b = some o → H' b = some o
  f : Same F F'
  sub : Same F' H'
  fresh : ∀ a o, F' a = some o → F a = some o ∨ H a = none
  there : H p ≠ none → H' p ≠ none
section
variable {F H F1 H1 F2 H2 : Hp} {p : Addr}
theorem Fp1.refl (s : Same F H) : Fp1 p F H F H := ⟨fun _ _ _ q => q, Same.refl F, s, fun _ _ h => .inl h, fun h => h⟩
theorem Fp1.trans (a : Fp1 p F H F1 H1) (b : Fp1 p F1 H1 F2 H2) : Fp1 p F H F2 H2 := by
  refine ⟨fun c o n q => b.h c o n (a.h c o n q), a.f.trans b.f, b.sub, fun c o q => ?_, fun q => b.there (a.there q)⟩
  rcases b.fresh c o q with z | z
  · exact a.fresh c o z
  · right
    cases e : H c with
    | none => rfl
    | some u =>
      by_cases n : c = p
      · subst n
        exact absurd z (a.there (by rw [e]; exact fun z => nomatch z))
      · rw [a.h c u n e] at z; cases z
theorem Fz.fp (a : Fz F H F1 H1) : Fp1 p F H F1 H1 := ⟨fun b o _ q => a.h b o q, a.f, a.sub, a.fresh, fun q => by
  cases e : H p with
  | none => exact absurd e q
  | some o => rw [a.h p o e]; exact fun z => nomatch z⟩
/-- the own list is changed -/
theorem Fp1.put {xs ys : List V} (s : Same F H) (hp : H p = some (.lst xs)) (hf : F p = none) : Fp1 p F H F (upd H p (.lst ys)) := by
  refine ⟨fun b o n q => by rw [upd_ne n]; exact q, Same.refl F, fun b o q => ?_, fun _ _ h => .inl h, fun _ => by rw [upd_same]; exact fun z => nomatch z⟩
  have n : b ≠ p := ne_of_none q hf
  rw [upd_ne n]
  exact s b o q
end
/-- slot i holds a list of the def's own with these data -/
structure Own (K : PySem.W.Frag) (F H : Hp) (σ : L2.St) (i : Nat) (p : Addr) (ds : List PyData) : Prop where
  at_ : σ[i]? = some (some (.ref p))
  nf : F p = none
  lst : ∃ xs, H p = some (.lst xs) ∧ Das K F xs ds
section
variable {K : PySem.W.Frag} {F H F' H' : Hp} {σ σ' : L2.St} {i n : Nat} {p : Addr} {ds es fs : List PyData} {e e1 e2 : DE} {te tl : TE} {tt : TT} {d : PyData} {t u : TS} {b : Bool} {g : TG} {ws : List Nat}
theorem Own.thru (o : Own K F H σ i p ds) (z : Fz F H F' H') : Own K F' H' σ i p ds := by
  obtain ⟨xs, h1, h2⟩ := o.lst
  exact ⟨o.at_, z.away o.nf (by rw [h1]; exact fun q => nomatch q), xs, z.h _ _ h1, h2.mono z.f⟩
theorem wipe_get {σ : L2.St} {i : Nat} : ∀ {ws : List Nat}, i ∉ ws → (L2.wipe σ ws)[i]? = σ[i]?
  | [], _ => rfl
  | w :: ws, h => by
    unfold L2.wipe
    rw [List.getElem?_set_ne fun z => h (by rw [z]; exact List.mem_cons_self ..), wipe_get fun z => h (List.mem_cons_of_mem _ z)]
theorem Own.slot (o : Own K F H σ i p ds) (h : L2.wipe σ' ws = L2.wipe σ ws) (hi : i ∉ ws) : Own K F H σ' i p ds :=
  ⟨by rw [← wipe_get hi, h, wipe_get hi]; exact o.at_, o.nf, o.lst⟩
/-- a statement that lets the own list grow, and goes on -/
def EOw (K : PySem.W.Frag) (ts : TS) (e : DE) (i : Nat) (ds : List PyData) (e' : DE) (ds' : List PyData) : Prop := ∀ (D : Ends) (σ : L2.St) (F H : Hp) (p : Addr), Same F H → SD K F σ e → Own K F H σ i p ds →
  (∀ σ' F' H', Fp1 p F H F' H' → SD K F' σ' e' → Own K F' H' σ' i p ds' → D.nx σ' H') → ts D σ H
/-- .. and hands back a value -/
def EOr (K : PySem.W.Frag) (ts : TS) (e : DE) (i : Nat) (ds : List PyData) (d : PyData) : Prop := ∀ (D : Ends) (σ : L2.St) (F H : Hp) (p : Addr), Same F H → SD K F σ e → Own K F H σ i p ds →
  (∀ v F' H', (∀ b o, b ≠ p → H b = some o → H' b = some o) → Same F F' → Same F' H' → (∀ a o, F' a = some o → F a = some o ∨ H a = none ∨ a = p) → Da K F' v d → D.rt v H') → ts D σ H
theorem eo_next : EOw K tNext e i ds e ds := fun D σ F H p f s o q => q σ F H (Fp1.refl f) s o
theorem eo_seq (h1 : EOw K t e i ds e1 es) (h2 : EOw K u e1 i es e2 fs) : EOw K (tSeq t u) e i ds e2 fs := fun D σ F H p f s o q =>
  h1 { D with nx := u D } σ F H p f s o fun σ1 F1 H1 z1 s1 o1 => h2 D σ1 F1 H1 p z1.sub s1 o1 fun σ2 F2 H2 z2 s2 o2 => q σ2 F2 H2 (z1.trans z2) s2 o2
theorem eo_seqR (h1 : EOw K t e i ds e1 es) (h2 : EOr K u e1 i es d) : EOr K (tSeq t u) e i ds d := fun D σ F H p f s o q =>
  h1 { D with nx := u D } σ F H p f s o fun σ1 F1 H1 z1 s1 o1 => h2 D σ1 F1 H1 p z1.sub s1 o1 fun v F2 H2 a1 a2 a3 a4 a5 => q v F2 H2 (fun b o n x => a1 b o n (z1.h b o n x)) (z1.f.trans a2) a3 (fun c o x => by
    rcases a4 c o x with y | y | y
    · rcases z1.fresh c o y with w | w
      · exact .inl w
      · exact .inr (.inl w)
    · by_cases n : c = p
      · exact .inr (.inr n)
      · right; left
        cases e : H c with
        | none => rfl
        | some u => rw [z1.h c u n e] at y; cases y
    · exact .inr (.inr y)) a5
theorem eo_seqR1 (h1 : EOr K t e i ds d) : EOr K (tSeq t u) e i ds d := fun D σ F H p f s o q => h1 { D with nx := u D } σ F H p f s o q
theorem eo_if {e' : DE} (hc : EB K tt e b) (h1 : b = true → EOw K t e i ds e' es) (h2 : b = false → EOw K u e i ds e' es) : EOw K (tIfS tt t u) e i ds e' es := fun D σ F H p f s o q => hc σ F H _ f s fun F1 H1 z => by
  cases b with
  | true => exact h1 rfl D σ F1 H1 p z.sub (s.mono z.f) (o.thru z) fun σ' F' H' a => q σ' F' H' (z.fp.trans a)
  | false => exact h2 rfl D σ F1 H1 p z.sub (s.mono z.f) (o.thru z) fun σ' F' H' a => q σ' F' H' (z.fp.trans a)
theorem eo_ifR (hc : EB K tt e b) (h1 : b = true → EOr K t e i ds d) (h2 : b = false → EOr K u e i ds d) : EOr K (tIfS tt t u) e i ds d := fun D σ F H p f s o q => hc σ F H _ f s fun F1 H1 z => by
  have k : ∀ c x, (F1 c = some x ∨ H1 c = none ∨ c = p) → (F c = some x ∨ H c = none ∨ c = p) := fun c x y => by
    rcases y with y | y | y
    · rcases z.fresh c x y with w | w
      · exact .inl w
      · exact .inr (.inl w)
    · exact .inr (.inl (z.h.free y))
    · exact .inr (.inr y)
  cases b with
  | true => exact h1 rfl D σ F1 H1 p z.sub (s.mono z.f) (o.thru z) fun v F' H' a1 a2 a3 a4 a5 => q v F' H' (fun b o n x => a1 b o n (z.h b o x)) (z.f.trans a2) a3 (fun c x y => k c x (a4 c x y)) a5
  | false => exact h2 rfl D σ F1 H1 p z.sub (s.mono z.f) (o.thru z) fun v F' H' a1 a2 a3 a4 a5 => q v F' H' (fun b o n x => a1 b o n (z.h b o x)) (z.f.trans a2) a3 (fun c x y => k c x (a4 c x y)) a5
theorem eo_ret : EOr K (tRet (tVar i)) e i ds (.list ds) := fun D σ F H p f s o q => by
  obtain ⟨xs, h1, h2⟩ := o.lst
  refine ⟨_, o.at_, q _ (upd F p (.lst xs)) H (fun _ _ _ x => x) (same_upd o.nf) (fun b u x => ?_) (fun a u x => ?_) (da_lst o.nf h2)⟩
  · by_cases n : b = p
    · subst n; rw [upd_same] at x; rw [← x]; exact h1
    · rw [upd_ne n] at x; exact f b u x
  · by_cases n : a = p
    · exact .inr (.inr n)
    · rw [upd_ne n] at x; exact .inl x
/-- found = []; .. return found -/
theorem es_own (h : EOr K u e i [] d) (hn : e[i]? = some none) : ES K (tSeq (tAsg (tLst tNil) (gName i)) u) e (.rt d) := fun D σ F H f s q => by
  refine ⟨Nat.zero_le _, fun p hp => ?_⟩
  have z : Fz F H F (upd H p (.lst [])) := Fz.loose f hp
  have sg : SD K F (σ.set i (some (.ref p))) e := by
    refine ⟨by rw [List.length_set]; exact s.len, fun j c x => ?_⟩
    have n : i ≠ j := fun y => by
      subst y
      rw [hn] at x
      cases x
    rw [List.getElem?_set_ne n]
    exact s.get j c x
  exact h D (σ.set i (some (.ref p))) F (upd H p (.lst [])) p z.sub sg ⟨List.getElem?_set_self (by rw [s.len]; exact (List.getElem?_eq_some_iff.mp hn).1), f.free hp, [], upd_same, .nil⟩ fun v F' H' a1 a2 a3 a4 a5 => q v F' H' ⟨fun b o x => by
    have n : b ≠ p := ne_of_none x hp
    exact a1 b o n (by rw [upd_ne n]; exact x), a2, a3, fun a o x => by
      rcases a4 a o x with y | y | y
      · exact .inl y
      · right
        by_cases n : a = p
        · rw [n]; exact hp
        · rw [upd_ne n] at y; exact y
      · rw [y]; exact .inr hp⟩ a5
/-- found.extend(e), found.append(e) -/
theorem eo_ext (h : ED K te e (.list es)) (hz : ds.length + es.length ≤ 16000000) : EOw K (tDrop (tBM K "list" rExtend (tVar i) (tCons te tNil))) e i ds e (ds ++ es) := fun D σ F H p f s o q => by
  obtain ⟨xs, h1, h2⟩ := o.lst
  refine ⟨_, o.at_, .inl ⟨rfl, _, SqL.of h1⟩, h σ F H _ f s fun v F1 H1 z a => ?_⟩
  obtain ⟨c, ys, rfl, h3, h4⟩ := a.lstI
  have o1 := o.thru z
  refine ⟨p, c, xs, ys, rfl, rfl, z.h _ _ h1, z.sub _ _ h3, by rw [h2.length, h4.length]; exact line_le hz, ?_⟩
  have w := Fp1.put (ys := xs ++ ys) z.sub (z.h _ _ h1) o1.nf
  exact q σ F1 _ (z.fp.trans w) (s.mono z.f) ⟨o.at_, o1.nf, _, upd_same, (h2.mono z.f).append h4⟩
theorem eo_app (h : ED K te e d) (hz : ds.length ≤ 15000000) : EOw K (tDrop (tBM K "list" rAppend (tVar i) (tCons te tNil))) e i ds e (ds ++ [d]) := fun D σ F H p f s o q => by
  obtain ⟨xs, h1, h2⟩ := o.lst
  refine ⟨_, o.at_, .inl ⟨rfl, _, SqL.of h1⟩, h σ F H _ f s fun v F1 H1 z a => ?_⟩
  have o1 := o.thru z
  refine ⟨p, xs, v, rfl, rfl, z.h _ _ h1, by rw [h2.length]; exact line_lt (by omega), ?_⟩
  have w := Fp1.put (ys := xs ++ [v]) z.sub (z.h _ _ h1) o1.nf
  exact q σ F1 _ (z.fp.trans w) (s.mono z.f) ⟨o.at_, o1.nf, _, upd_same, (h2.mono z.f).append (Das.one a)⟩
/-- for over a list -/
theorem eo_for (acc : Nat → List PyData) (hl : ED K tl e (.list ds)) (hi : i ∉ ws) (hs : ∀ (k : Nat) (x : PyData), ds[k]? = some x → ∃ e' e'', EG K g ws x e e' ∧ EOw K t e' i (acc k) e'' (acc (k + 1)) ∧ Forg e'' e) :
    EOw K (tFor (iList K tl) g t) e i (acc 0) e (acc ds.length) := fun D σ F H p f s o q => hl σ F H _ f s fun v F1 H1 z a1 => by
  obtain ⟨a, xs, rfl, h1, h2⟩ := a1.lstI
  have hz := h2.length
  have nap : a ≠ p := fun y => by
    rw [y, (o.thru z).nf] at h1
    cases h1
  refine ⟨a, rfl, ⟨xs, SqL.of (z.sub _ _ h1)⟩, for_list (K := K) (a := a) (xs := xs) (fun k σ' H' => ∃ F', Fp1 p F1 H1 F' H' ∧ SD K F' σ' e ∧ Own K F' H' σ' i p (acc k)) ⟨F1, Fp1.refl z.sub, s.mono z.f, o.thru z⟩ (fun k σ' H' _ ⟨F', w, _⟩ => SqL.of (w.h _ _ nap (z.sub _ _ h1))) (fun k x σ' H' hx ⟨F', w1, w2, w3⟩ => ?_) (fun σ' H' ⟨F', w1, w2, w3⟩ => ?_)⟩
  · obtain ⟨d, hd, had⟩ := h2.get' hx
    obtain ⟨e', e'', g1, g2, g3⟩ := hs k d hd
    exact g1 x σ' F' H' _ w1.sub w2 (had.mono w1.f) fun σ2 s2 hw => g2 _ σ2 F' H' p w1.sub s2 (w3.slot hw hi) fun σ3 F3 H3 z3 s3 o3 => ⟨F3, w1.trans z3, s3.forg g3, o3⟩
  · refine q σ' F' H' (z.fp.trans w1) w2 ?_
    rw [← hz]
    exact w3
/-- for over range(n) -/
theorem eo_range (acc : Nat → List PyData) (hl : ED K tl e (.int (n : Int))) (hn : n ≤ 1000000000) (hi : i ∉ ws) (hs : ∀ k, k < n → ∃ e' e'', EG K g ws (.int (k : Int)) e e' ∧ EOw K t e' i (acc k) e'' (acc (k + 1)) ∧ Forg e'' e) :
    EOw K (tFor (iRng1 (tCons tl tNil)) g t) e i (acc 0) e (acc n) := fun D σ F H p f s o q => hl σ F H _ f s fun v F1 H1 z a1 => by
  cases a1.intI
  refine ⟨(n : Int), rfl, by omega, by omega, ?_⟩
  rw [Int.toNat_natCast]
  refine for_range (fun k σ' H' => ∃ F', Fp1 p F1 H1 F' H' ∧ SD K F' σ' e ∧ Own K F' H' σ' i p (acc k)) ⟨F1, Fp1.refl z.sub, s.mono z.f, o.thru z⟩ (fun k σ' H' hk ⟨F', w1, w2, w3⟩ => ?_) (fun σ' H' ⟨F', w1, w2, w3⟩ => q σ' F' H' (z.fp.trans w1) w2 w3)
  obtain ⟨e', e'', g1, g2, g3⟩ := hs k hk
  rw [Int.zero_add]
  exact g1 _ σ' F' H' _ w1.sub w2 (.int _) fun σ2 s2 hw => g2 _ σ2 F' H' p w1.sub s2 (w3.slot hw hi) fun σ3 F3 H3 z3 s3 o3 => ⟨F3, w1.trans z3, s3.forg g3, o3⟩
/-- for i, x in enumerate(xs), that returns at the n-th item -/
theorem es_enumR (hl : ED K tl e (.list ds)) (hn : n < ds.length) (hs : ∀ (k : Nat) (x : PyData), k < n → ds[k]? = some x → ∃ e' e'', EG K g ws (.tuple [.int (k : Int), x]) e e' ∧ ES K t e' (.nx e'') ∧ Forg e'' e)
    (hr : ∀ x, ds[n]? = some x → ∃ e', EG K g ws (.tuple [.int (n : Int), x]) e e' ∧ ES K t e' (.rt d)) : ES K (tFor (iEnum K (tCons tl tNil)) g t) e (.rt d) := fun D σ F H f s q => hl σ F H _ f s fun v F1 H1 z a1 => by
  obtain ⟨a, xs, rfl, h1, h2⟩ := a1.lstI
  have hz := h2.length
  refine ⟨a, xs, rfl, SqL.of (z.sub _ _ h1), fun k m σ' H' => m = ds.length - k ∧ k ≤ n ∧ ∃ F', Fz F1 H1 F' H' ∧ SD K F' σ' e, ⟨ds.length, by omega, Nat.zero_le _, F1, Fz.refl z.sub, s.mono z.f⟩, fun k m σ' H' ⟨hm, hk, F', w1, w2⟩ => ?_⟩
  have hkl : k < xs.length := by omega
  refine .inr ⟨⟨xs, xs[k], SqL.of (w1.h _ _ (z.sub _ _ h1)), List.getElem?_eq_getElem hkl⟩, fun σ' H' => k + 1 ≤ n ∧ ∃ F', Fz F1 H1 F' H' ∧ SD K F' σ' e, fun σ2 H2 ⟨y1, y2⟩ => ⟨ds.length - (k + 1), by omega, rfl, y1, y2⟩, fun y H2 hy => ?_⟩
  obtain ⟨T, x, rfl, hT, rfl, hx⟩ := hy
  have hx' := hx xs (SqL.of (w1.h _ _ (z.sub _ _ h1)))
  obtain ⟨c, hc, hca⟩ := h2.get' hx'
  obtain ⟨y1, y2⟩ := fz_tup (K := K) (ds := [.int (k : Int), c]) w1.sub hT (.cons (.int _) (.cons (hca.mono w1.f) .nil))
  by_cases hkn : k < n
  · obtain ⟨e', e'', g1, g2, g3⟩ := hs k c hkn hc
    exact g1 _ σ' _ _ _ y1.sub (w2.mono y1.f) y2 fun σ2 s2 _ => g2 _ σ2 _ _ y1.sub s2 fun σ3 F3 H3 z3 s3 => ⟨hkn, F3, (w1.trans y1).trans z3, s3.forg g3⟩
  · have e0 : k = n := by omega
    subst e0
    obtain ⟨e', g1, g2⟩ := hr c hc
    exact g1 _ σ' _ _ _ y1.sub (w2.mono y1.f) y2 fun σ2 s2 _ => g2 _ σ2 _ _ y1.sub s2 fun v3 F3 H3 z3 a3 => q v3 F3 H3 (((z.trans w1).trans y1).trans z3) a3
/-- .. that runs to its end -/
theorem es_enum (hl : ED K tl e (.list ds)) (hs : ∀ (k : Nat) (x : PyData), ds[k]? = some x → ∃ e' e'', EG K g ws (.tuple [.int (k : Int), x]) e e' ∧ ES K t e' (.nx e'') ∧ Forg e'' e) : ES K (tFor (iEnum K (tCons tl tNil)) g t) e (.nx e) := fun D σ F H f s q => hl σ F H _ f s fun v F1 H1 z a1 => by
  obtain ⟨a, xs, rfl, h1, h2⟩ := a1.lstI
  have hz := h2.length
  refine ⟨a, xs, rfl, SqL.of (z.sub _ _ h1), fun k m σ' H' => m = ds.length - k ∧ k ≤ ds.length ∧ ∃ F', Fz F1 H1 F' H' ∧ SD K F' σ' e, ⟨ds.length, by omega, Nat.zero_le _, F1, Fz.refl z.sub, s.mono z.f⟩, fun k m σ' H' ⟨hm, hk, F', w1, w2⟩ => ?_⟩
  by_cases hkl : k < xs.length
  · refine .inr ⟨⟨xs, xs[k], SqL.of (w1.h _ _ (z.sub _ _ h1)), List.getElem?_eq_getElem hkl⟩, fun σ' H' => ∃ F', Fz F1 H1 F' H' ∧ SD K F' σ' e, fun σ2 H2 y2 => ⟨ds.length - (k + 1), by omega, rfl, by omega, y2⟩, fun y H2 hy => ?_⟩
    obtain ⟨T, x, rfl, hT, rfl, hx⟩ := hy
    have hx' := hx xs (SqL.of (w1.h _ _ (z.sub _ _ h1)))
    obtain ⟨c, hc, hca⟩ := h2.get' hx'
    obtain ⟨y1, y2⟩ := fz_tup (K := K) (ds := [.int (k : Int), c]) w1.sub hT (.cons (.int _) (.cons (hca.mono w1.f) .nil))
    obtain ⟨e', e'', g1, g2, g3⟩ := hs k c hc
    exact g1 _ σ' _ _ _ y1.sub (w2.mono y1.f) y2 fun σ2 s2 _ => g2 _ σ2 _ _ y1.sub s2 fun σ3 F3 H3 z3 s3 => ⟨F3, (w1.trans y1).trans z3, s3.forg g3⟩
  · exact .inl ⟨⟨xs, SqL.of (w1.h _ _ (z.sub _ _ h1)), by omega⟩, q σ' F' H' (z.trans w1) w2⟩
end
end Pa
/-! New lists that are not yet frozen; list.count of a text. -/
namespace Pa
open PySem L2 PyProof.Rows
section
variable {K : PySem.W.Frag} {F H F' H' : Hp} {σ σ' : L2.St} {i n : Nat} {p : Addr} {ds es fs : List PyData} {e e1 e2 : DE} {te tb tl : TE} {tt : TT} {d : PyData} {t u : TS} {b : Bool} {g : TG} {ws : List Nat}
theorem ixN_at {n j : Nat} (hj : j < n) : ixN n (j : Int) = some j := by
  unfold ixN
  rw [if_pos (by omega), if_pos (by omega)]
  simp
theorem EOw.eq {ts : TS} {ds' : List PyData} (h : EOw K ts e i ds e1 es) (q : es = ds') : EOw K ts e i ds e1 ds' := q ▸ h
theorem EOr.eq {ts : TS} {d' : PyData} (h : EOr K ts e i ds d) (q : d = d') : EOr K ts e i ds d' := q ▸ h
/-- a new list, not frozen -/
def EL (K : PySem.W.Frag) (te : TE) (e : DE) (ds : List PyData) : Prop := ∀ (σ : L2.St) (F H : Hp) (Q : VK), Same F H → SD K F σ e →
  (∀ p xs F' H', Fz F H F' H' → H p = none → F' p = none → H' p = some (.lst xs) → Das K F' xs ds → Q (.ref p) H') → te σ H Q
theorem EL.ed (h : EL K te e ds) : ED K te e (.list ds) := fun σ F H Q f s q => h σ F H Q f s fun p xs F' H' z hp nF hH a => by
  refine q _ (upd F' p (.lst xs)) H' ⟨z.h, z.f.trans (same_upd nF), fun b o hb => ?_, fun b o hb => ?_⟩ (da_lst nF a)
  · by_cases y : b = p
    · subst y; rw [upd_same] at hb; rw [← hb]; exact hH
    · rw [upd_ne y] at hb; exact z.sub _ _ hb
  · by_cases y : b = p
    · subst y; exact .inr hp
    · rw [upd_ne y] at hb; exact z.fresh _ _ hb
theorem el_lst {ta : TA} (h : EA K ta e ds) (hz : ds.length ≤ 16000000) : EL K (tLst ta) e ds := fun σ F H Q f s q => h σ F H _ f s fun vs F1 H1 z a => by
  refine ⟨by rw [a.length]; exact line_le hz, fun p hp => q p vs F1 _ (z.trans (Fz.loose z.sub hp)) ?_ (z.sub.free hp) upd_same a⟩
  cases y : H p with
  | none => rfl
  | some o => rw [z.h _ _ y] at hp; cases hp
/-- a comprehension over a list, with a test -/
theorem el_lcIf (c : PyData → Bool) (fn : PyData → PyData) (hl : ED K tb e (.list ds)) (hz : ds.length ≤ 16000000) (hs : ∀ x, x ∈ ds → ∃ e', EG K g ws x (wipeD e ws) e' ∧ EB K tt e' (c x) ∧ (c x = true → ED K te e' (fn x))) :
    EL K (tLc (iList K tb) g tt te ws) e ((ds.filter c).map fn) := fun σ F H Q f s q => hl σ F H _ f s fun v F1 H1 s1 a1 => by
  obtain ⟨a, xs, rfl, h1, h2⟩ := a1.lstI
  have hlen := h2.length
  have sw := (s.mono s1.f).wipe ws
  refine ⟨a, rfl, ⟨xs, SqL.of (s1.sub _ _ h1)⟩, fun D nD => lc_list (K := K) (a := a) (xs := xs) (fun i H' => ∃ F' acc, Fz F1 H1 F' H' ∧ F' D = none ∧ H' D = some (.lst acc) ∧ Das K F' acc (((ds.take i).filter c).map fn)) ?_ (fun i H' _ ⟨F', acc, w, _⟩ => SqL.of (w.h _ _ (s1.sub _ _ h1))) (fun i x H' hx ⟨F', acc, w1, w2, w3, w4⟩ => ?_) (fun H' ⟨F', acc, w1, w2, w3, w4⟩ => ?_)⟩
  · exact ⟨F1, [], Fz.loose s1.sub nD, s1.sub.free nD, upd_same, .nil⟩
  · obtain ⟨d, hd, had⟩ := h2.get' hx
    obtain ⟨e', g1, g2, g3⟩ := hs d (List.mem_of_getElem? hd)
    refine g1 x _ F' H' _ w1.sub (sw.mono w1.f) (had.mono w1.f) fun σ2 s2 hw => ⟨hw.trans (wipe_wipe σ ws), ?_⟩
    refine g2 σ2 F' H' _ w1.sub s2 fun F2 H2 s3 => ?_
    have nD2 : F2 D = none := s3.away w2 (by rw [w3]; exact fun z => nomatch z)
    have et : ds.take (i + 1) = ds.take i ++ [d] := by rw [List.take_add_one, hd]; rfl
    cases hp : c d with
    | true =>
      refine g3 hp σ2 F2 H2 _ s3.sub (s2.mono s3.f) fun y F3 H3 s4 a3 => ⟨acc, s4.h _ _ (s3.h _ _ w3), ?_, ?_⟩
      · have e1 := w4.length
        have e2 := List.length_filter_le c (ds.take i)
        rw [List.length_map] at e1
        rw [List.length_take] at e2
        exact line_lt (by omega)
      · have nD3 : F3 D = none := s4.away nD2 (by rw [s3.h _ _ w3]; exact fun z => nomatch z)
        have w5 := (w1.trans s3).trans s4
        refine ⟨F3, acc ++ [y], ⟨fun b o hb => ?_, w5.f, fun b o hb => ?_, w5.fresh⟩, nD3, upd_same, ?_⟩
        · have nb : b ≠ D := ne_of_none hb nD
          rw [upd_ne nb]
          exact w5.h _ _ hb
        · have nb : b ≠ D := ne_of_none hb nD3
          rw [upd_ne nb]
          exact w5.sub _ _ hb
        · rw [et, List.filter_append, List.filter_cons_of_pos hp, List.filter_nil, List.map_append]
          exact (w4.mono (s3.f.trans s4.f)).append (Das.one a3)
    | false =>
      refine ⟨F2, acc, w1.trans s3, nD2, s3.h _ _ w3, ?_⟩
      rw [et, List.filter_append, List.filter_cons_of_neg (by rw [hp]; exact Bool.false_ne_true), List.filter_nil, List.append_nil]
      exact w4.mono s3.f
  · rw [hlen, List.take_length] at w4
    refine q D acc F' H' (s1.trans w1) ?_ w2 w3 w4
    cases y : H D with
    | none => rfl
    | some o => rw [s1.h _ _ y] at nD; cases nD
theorem el_lc (fn : PyData → PyData) (hl : ED K tb e (.list ds)) (hz : ds.length ≤ 16000000) (hs : ∀ x, x ∈ ds → ∃ e', EG K g ws x (wipeD e ws) e' ∧ ED K te e' (fn x)) :
    EL K (tLc (iList K tb) g tYes te ws) e (ds.map fn) := by
  have h := el_lcIf (tt := tYes) (te := te) (fun _ => true) fn hl hz fun x hx => by
    obtain ⟨e', a, b⟩ := hs x hx
    exact ⟨e', a, eb_tYes, fun _ => b⟩
  rw [List.filter_eq_self.mpr fun _ _ => rfl] at h
  exact h
/-- a comprehension over range(n) -/
theorem el_lcR (fn : Nat → PyData) (hl : ED K tl e (.int (n : Int))) (hz : n ≤ 16000000) (hs : ∀ k, k < n → ∃ e', EG K g ws (.int (k : Int)) (wipeD e ws) e' ∧ ED K te e' (fn k)) :
    EL K (tLc (iRng1 (tCons tl tNil)) g tYes te ws) e ((List.range n).map fn) := fun σ F H Q f s q => hl σ F H _ f s fun v F1 H1 s1 a1 => by
  cases a1.intI
  have sw := (s.mono s1.f).wipe ws
  refine ⟨(n : Int), rfl, by omega, by omega, ?_⟩
  rw [Int.toNat_natCast]
  refine fun D nD => lc_range (fun i H' => ∃ F' acc, Fz F1 H1 F' H' ∧ F' D = none ∧ H' D = some (.lst acc) ∧ Das K F' acc ((List.range i).map fn)) ⟨F1, [], Fz.loose s1.sub nD, s1.sub.free nD, upd_same, .nil⟩
    (fun i H' hi ⟨F', acc, w1, w2, w3, w4⟩ => ?_) (fun H' ⟨F', acc, w1, w2, w3, w4⟩ => ?_)
  · obtain ⟨e', g1, g2⟩ := hs i hi
    rw [Int.zero_add]
    refine g1 _ _ F' H' _ w1.sub (sw.mono w1.f) (.int _) fun σ2 s2 hw => ⟨hw.trans (wipe_wipe σ ws), ?_⟩
    show te σ2 H' _
    refine g2 σ2 F' H' _ w1.sub s2 fun y F3 H3 s4 a3 => ⟨acc, s4.h _ _ w3, ?_, ?_⟩
    · have e1 := w4.length
      rw [List.length_map, List.length_range] at e1
      exact line_lt (by omega)
    · have nD3 : F3 D = none := s4.away w2 (by rw [w3]; exact fun z => nomatch z)
      have w5 := w1.trans s4
      refine ⟨F3, acc ++ [y], ⟨fun b o hb => ?_, w5.f, fun b o hb => ?_, w5.fresh⟩, nD3, upd_same, ?_⟩
      · have nb : b ≠ D := ne_of_none hb nD
        rw [upd_ne nb]
        exact w5.h _ _ hb
      · have nb : b ≠ D := ne_of_none hb nD3
        rw [upd_ne nb]
        exact w5.sub _ _ hb
      · rw [List.range_succ, List.map_append]
        exact (w4.mono s4.f).append (Das.one a3)
  · refine q D acc F' H' (s1.trans w1) ?_ w2 w3 w4
    cases y : H D with
    | none => rfl
    | some o => rw [s1.h _ _ y] at nD; cases nD
/-- found = (a new list); .. return found -/
theorem es_ownL (hn : EL K te e ds) (h : EOr K u e i ds d) (hi : e[i]? = some none) : ES K (tSeq (tAsg te (gName i)) u) e (.rt d) := fun D σ F H f s q => hn σ F H _ f s fun p xs F1 H1 z hp nF hH a => by
  have sg : SD K F1 (σ.set i (some (.ref p))) e := by
    refine ⟨by rw [List.length_set]; exact s.len, fun j c x => ?_⟩
    have n : i ≠ j := fun y => by
      subst y
      rw [hi] at x
      cases x
    rw [List.getElem?_set_ne n]
    exact (s.mono z.f).get j c x
  exact h D (σ.set i (some (.ref p))) F1 H1 p z.sub sg ⟨List.getElem?_set_self (by rw [s.len]; exact (List.getElem?_eq_some_iff.mp hi).1), nF, xs, hH, a⟩ fun v F' H' a1 a2 a3 a4 a5 => q v F' H' ⟨fun b o x => by
    have n : b ≠ p := ne_of_none x hp
    exact a1 b o n (z.h b o x), z.f.trans a2, a3, fun a o x => by
      rcases a4 a o x with y | y | y
      · exact z.fresh a o y
      · exact .inr (z.h.free y)
      · rw [y]; exact .inr hp⟩ a5
/-- a return of data that hold the own list -/
theorem eo_retWith (h : ED K te (e.set i (some (.list ds))) d) : EOr K (tRet te) e i ds d := fun D σ F H p f s o q => by
  obtain ⟨xs, h1, h2⟩ := o.lst
  have fD := same_upd (o := HO.lst xs) o.nf
  have sub : Same (upd F p (.lst xs)) H := fun b u x => by
    by_cases n : b = p
    · subst n; rw [upd_same] at x; rw [← x]; exact h1
    · rw [upd_ne n] at x; exact f b u x
  have sg : SD K (upd F p (.lst xs)) σ (e.set i (some (.list ds))) := by
    refine ⟨by rw [List.length_set]; exact s.len, fun j c x => ?_⟩
    rcases getElem?_set' x with ⟨a, y, _⟩ | ⟨ne, y⟩
    · subst a
      cases y
      exact ⟨_, o.at_, da_lst o.nf h2⟩
    · exact (s.mono fD).get j c y
  refine h σ (upd F p (.lst xs)) H _ sub sg fun v F' H' z a => q v F' H' (fun b o _ x => z.h b o x) (fD.trans z.f) z.sub (fun b u x => ?_) a
  rcases z.fresh b u x with y | y
  · by_cases n : b = p
    · exact .inr (.inr n)
    · rw [upd_ne n] at y; exact .inl y
  · exact .inr (.inl y)
/-- found[k] = e -/
theorem eo_put {k : Nat} {ti : TE} (h : ED K te e d) (h2 : ED K ti e (.int (k : Int))) (hk : k < ds.length) : EOw K (tAsg te (gSub (tVar i) ti rSetL)) e i ds e (ds.set k d) := fun D σ F H p f s o q => by
  refine h σ F H _ f s fun v F1 H1 z a => ?_
  have o1 := o.thru z
  refine ⟨_, o.at_, h2 σ F1 H1 _ z.sub (s.mono z.f) fun w F2 H2 z2 a2 => ?_⟩
  cases a2.intI
  have o2 := o1.thru z2
  obtain ⟨xs, h3, h4⟩ := o2.lst
  refine ⟨p, xs, (k : Int), k, rfl, rfl, h3, ?_, ?_⟩
  · have := h4.length
    exact ixN_at (by omega)
  · have w := Fp1.put (ys := xs.set k v) z2.sub h3 o2.nf
    exact q σ F2 _ ((z.trans z2).fp.trans w) (s.mono (z.f.trans z2.f)) ⟨o.at_, o2.nf, _, upd_same, Das.set (a.mono z2.f) k h4⟩
end
/-- xs.count(a text) -/
def rCntS (K : PySem.W.Frag) : V → List V → Hp → VK → Prop := fun x xs H Q => ∃ (p : Addr) (ys : List Str) (k : Str), x = .ref p ∧ xs = [.str k] ∧ SqL K H p (ys.map V.str) ∧ Q (.int (PySem.Spec.countIn (.str k) (ys.map PyData.str))) H
theorem mt_countS {X : Cx} : MtR X "list.count" (rCntS X.K) := by
  intro pins s σ H x xs v us Q I rx rxs h
  obtain ⟨p, ys, k, rfl, rfl, hs, q⟩ := h
  cases rx
  obtain ⟨u, rfl, ru⟩ := rxs.one
  obtain ⟨t, rfl⟩ := ru
  obtain ⟨its, rv, hl, hlen⟩ := I.list hs
  exact count_list_strs hl.isList rv.strs ⟨.int _, H, I.tok _, ⟨s.toks, rfl⟩, q⟩
theorem Das.strs {K : PySem.W.Frag} {H : Hp} : ∀ {vs : List V} {ns : List Str}, Das K H vs (ns.map .str) → vs = ns.map V.str
  | vs, [], h => h.nil_inv
  | vs, n :: r, h => by
    obtain ⟨v, q, rfl, a, b⟩ := h.cons_inv
    rw [a.strI, Das.strs b]
    rfl
theorem ed_countS {K : PySem.W.Frag} {e : DE} {te : TE} {ys : List Str} {k : Str} (h : ED K te e (.list (ys.map .str))) : ED K (tBM K "list" (rCntS K) te (tCons (tC (.str k)) tNil)) e (.int (PySem.Spec.countIn (.str k) (ys.map PyData.str))) := fun σ F H Q f s q => h σ F H _ f s fun v F1 H1 z a => by
  obtain ⟨p, xs, rfl, h1, h2⟩ := a.lstI
  cases h2.strs
  exact ⟨.inl ⟨rfl, _, SqL.of (z.sub _ _ h1)⟩, p, ys, k, rfl, rfl, SqL.of (z.sub _ _ h1), q _ F1 H1 z (.int _)⟩
theorem countIn_app (x : PyData) : ∀ a b : List PyData, PySem.Spec.countIn x (a ++ b) = PySem.Spec.countIn x a + PySem.Spec.countIn x b
  | [], b => by simp [PySem.Spec.countIn]
  | y :: r, b => by simp only [List.cons_append, PySem.Spec.countIn]; rw [countIn_app x r b, Int.add_assoc]
theorem countIn_rep (x y : PyData) (h : PySem.Spec.same y x = true) : ∀ n : Nat, PySem.Spec.countIn x (List.replicate n y) = (n : Int)
  | 0 => rfl
  | n + 1 => by rw [List.replicate_succ]; simp only [PySem.Spec.countIn, h, if_true]; rw [countIn_rep x y h n]; omega
theorem countIn_rep0 (x y : PyData) (h : PySem.Spec.same y x = false) : ∀ n : Nat, PySem.Spec.countIn x (List.replicate n y) = 0
  | 0 => rfl
  | n + 1 => by rw [List.replicate_succ]; simp only [PySem.Spec.countIn, h]; rw [countIn_rep0 x y h n]; rfl
section
variable {K : PySem.W.Frag}
theorem asg_next {te : TE} {i : Nat} {u : TS} {D : Ends} {σ : L2.St} {H : Hp} (h : te σ H fun x H1 => u D (σ.set i (some x)) H1) : tSeq (tAsg te (gName i)) u D σ H := h
theorem asg_last {te : TE} {i : Nat} {D : Ends} {σ : L2.St} {H : Hp} (h : te σ H fun x H1 => D.nx (σ.set i (some x)) H1) : tAsg te (gName i) D σ H := h
theorem seq_intro {t u : TS} {D : Ends} {σ : L2.St} {H : Hp} (h : t { D with nx := u D } σ H) : tSeq t u D σ H := h
theorem drop_app {to : TE} {tv : TA} {D : Ends} {σ : L2.St} {H : Hp} (h : to σ H fun x H1 => tyV K "list" x H1 ∧ tv σ H1 fun xs H2 => rAppend x xs H2 fun _ H3 => D.nx σ H3) : tDrop (tBM K "list" rAppend to tv) D σ H := h
theorem ret_call {sp : Sp} {E : XK} {t : TA} {D : Ends} {σ : L2.St} {H : Hp} (h : t σ H fun vs H1 => sp (vs ++ []) H1 D.rt E) : tRet (tCall sp [] E t) D σ H := h
theorem sfld_next {ta tv : TE} {f : Str} {u : TS} {D : Ends} {σ : L2.St} {H : Hp} (h : tv σ H fun y H1 => ta σ H1 fun x H2 => ∃ a C dx fs, x = .ref a ∧ H2 a = some (.ins C dx fs) ∧ Cls K C ∧ NoAttr K C f ∧ fs.length < 1000 ∧ u D σ (upd H2 a (.ins C dx (putF f y fs)))) : tSeq (sFld K ta tv f) u D σ H := h
theorem ret_fldCall {sp : Sp} {E : XK} {t : TA} {f : Str} {D : Ends} {σ : L2.St} {H : Hp} (h : t σ H fun vs H1 => sp (vs ++ []) H1 (fun x H1 => ∃ a C dx fs v, x = .ref a ∧ H1 a = some (.ins C dx fs) ∧ Cls K C ∧ NoAttr K C f ∧ fs.lookup f = some v ∧ D.rt v H1) E) : tRet (tFld K (tCall sp [] E t) f) D σ H := h
end
/-- an object that is not frozen is changed -/
theorem Fz.mut {F H F1 H1 : Hp} (z : Fz F H F1 H1) {x : Addr} {o : HO} (hx : H x = none) (fx : F1 x = none) : Fz F H F1 (upd H1 x o) :=
  ⟨fun b u hb => by rw [upd_ne (ne_of_none hb hx)]; exact z.h _ _ hb, z.f, fun b u hb => by rw [upd_ne (ne_of_none hb fx)]; exact z.sub _ _ hb, z.fresh⟩
end Pa
/-! Statements, states, redexes as the program's data. -/
namespace Pa
open PySem L2
def Op.str : Op → Str
  | .add => "+" | .sub => "-" | .mul => "*" | .land => "and" | .lor => "or" | .eq => "==" | .ne => "!=" | .lt => "<" | .le => "<=" | .div => "/" | .mod => "mod"
abbrev dn (n : Nat) : PyData := .int (n : Int)
abbrev dns (ns : List Nat) : PyData := .list (ns.map dn)
def Ex.d : Ex → PyData
  | .num n => .tuple [.str "num", dn n]
  | .cell k => .tuple [.str "cell", dn k]
  | .att f n e => .tuple [.str "at", dn f, dn n, e.d]
  | .neg e => .tuple [.str "neg", e.d]
  | .inv e => .tuple [.str "not", e.d]
  | .bin o a b => .tuple [.str o.str, a.d, b.d]
mutual
def Sm.d : Sm → PyData
  | .skip => .tuple [.str "skip"]
  | .stop => .tuple [.str "stop"]
  | .set t e => .tuple [.str "set", t.d, e.d]
  | .give c e => .tuple [.str "give", dn c, e.d]
  | .take c t => .tuple [.str "take", dn c, t.d]
  | .seq ss => .tuple [.str "seq", .list (smsD ss)]
  | .par rows => .tuple [.str "par", .list (rowsD rows)]
  | .ite e a b => .tuple [.str "if", e.d, a.d, b.d]
  | .rep e n s => .tuple [.str "repeat", e.d, dn n, s.d]
def smsD : List Sm → List PyData
  | [] => []
  | s :: r => s.d :: smsD r
def rowsD : List (Nat × Sm) → List PyData
  | [] => []
  | (k, s) :: r => .tuple [dn k, s.d] :: rowsD r
end
theorem smsD_map : ∀ ss : List Sm, smsD ss = ss.map Sm.d
  | [] => rfl
  | s :: r => by
    show s.d :: smsD r = _
    rw [smsD_map r]
    rfl
theorem rowsD_map : ∀ rows : List (Nat × Sm), rowsD rows = rows.map fun r => .tuple [dn r.1, r.2.d]
  | [] => rfl
  | (k, s) :: r => by
    show PyData.tuple [dn k, s.d] :: rowsD r = _
    rw [rowsD_map r]
    rfl
def optD : Option Nat → PyData
  | none => .none
  | some n => dn n
abbrev stk (st : List Sm) : PyData := .list (st.map Sm.d)
def Cond.d : Cond → PyData
  | .idle => .tuple [.str "idle"]
  | .run st => .tuple [.str "at", stk st]
  | .giv c w st => .tuple [.str "giving", dn c, dn w, stk st]
  | .opn c k st => .tuple [.str "open", .list [.tuple [dn c, dn k, .list []]], stk st]
  | .join ts st => .tuple [.str "joining", dns ts, stk st]
  | .done => .tuple [.str "done"]
  | .stopped => .tuple [.str "stopped"]
  | .faulted => .tuple [.str "faulted"]
abbrev cellsD (cs : List Nat) : PyData := dns cs
abbrev condsD (th : List Cond) : PyData := .list (th.map Cond.d)
abbrev outsD (os : List (List Nat)) : PyData := .list (os.map dns)
def State.d (σ : State) : PyData := .tuple [cellsD σ.cells, condsD σ.th, dns σ.taken, outsD σ.outs]
def Rx.d : Rx → PyData
  | .step t => .tuple [.str "step", dn t]
  | .meet c a t => .tuple [.str "meet", dn c, dn a, dn t]
  | .input c t => .tuple [.str "input", dn c, dn t]
  | .output c t => .tuple [.str "output", dn c, dn t]
  | .fin t => .tuple [.str "end", dn t]
abbrev inpD (inp : List (List Nat)) : PyData := .list (inp.map dns)
/-- the kinds of the channels -/
def kinds (g : Cfg) (m : Nat) : List Str := List.replicate g.nIn ("in" : Str) ++ List.replicate g.nOut ("out" : Str) ++ List.replicate m ("inner" : Str)
abbrev kindsD (g : Cfg) (m : Nat) : PyData := .list ((kinds g m).map .str)
def coreD (g : Cfg) (m nc : Nat) (body : Sm) : PyData := .tuple [.str "core", dn nc, kindsD g m, body.d]
abbrev evD (e : Nat × Nat) : PyData := .tuple [dn e.1, dn e.2]
theorem mkAt_d (st : List Sm) : (mkAt st).d = if (st.map Sm.d).length > 0 then .tuple [.str "at", stk st] else .tuple [.str "done"] := by
  cases st <;> rfl
end Pa
namespace Pa
open PySem L2
def FitE (n : Nat) (e : Ex) : Prop := ExOk (fun k => k < n) e ∧ e.ht ≤ 6
def FitT (n : Nat) (t : Ex) : Prop := TgOk (fun k => k < n) (fun k => k < n) t ∧ t.ht ≤ 6
/-- a statement whose step meets no cell that isn't there -/
def Fit (n : Nat) : Sm → Prop
  | .set t e => FitT n t ∧ FitE n e
  | .give _ e => FitE n e
  | .take _ t => FitT n t
  | .ite e _ _ => FitE n e
  | .rep e _ _ => FitE n e
  | _ => True
theorem fit_of {ps : List Nat} {D i n : Nat} {S : Fp} {s : Sm} (h : SmOk ps D i S s) (hr : ∀ k, S.R k → k < n) (hw : ∀ k, S.W k → k < n) : Fit n s := by
  cases h with
  | set a b => exact ⟨⟨a.ok.mono hr hw, a.ht⟩, b.ok.mono hr, b.ht⟩
  | give a b => exact ⟨b.ok.mono hr, b.ht⟩
  | take a b => exact ⟨b.ok.mono hr hw, b.ht⟩
  | ite a _ _ => exact ⟨a.ok.mono hr, a.ht⟩
  | rep a _ => exact ⟨a.ok.mono hr, a.ht⟩
  | _ => exact trivial
theorem len_wkL : ∀ st : List Sm, st.length ≤ wkL st
  | [] => Nat.le_refl _
  | s :: r => by
    have ih := len_wkL r
    have := wk_pos s
    show r.length + 1 ≤ s.wk + wkL r
    omega
theorem len_wkR : ∀ st : List (Nat × Sm), st.length ≤ wkR st
  | [] => Nat.le_refl _
  | (k, s) :: r => by
    have ih := len_wkR r
    have := wk_pos s
    show r.length + 1 ≤ s.wk + wkR r
    omega
def Sm.isTest : Sm → Bool
  | .ite _ _ _ => true
  | .rep _ _ _ => true
  | _ => false
def Sm.isPlain : Sm → Bool
  | .set _ _ => false
  | .par _ => false
  | _ => true
end Pa
namespace Pa
open PySem L2
theorem ms_get : ∀ {th : List Cond} {t : Nat} {c : Cond}, th[t]? = some c → c.ms ≤ msL th
  | [], _, _, h => by simp at h
  | d :: r, 0, c, h => by
    have z : d = c := Option.some.inj h
    subst z
    show d.ms ≤ d.ms + msL r
    omega
  | d :: r, t + 1, c, h => by
    have ih := ms_get (th := r) (t := t) (c := c) h
    show c.ms ≤ d.ms + msL r
    omega
theorem conds_at {th : List Cond} {t : Nat} {c : Cond} (h : th[t]? = some c) : (th.map Cond.d)[t]? = some c.d := by
  rw [List.getElem?_map, h]
  rfl
theorem dns_at {ns : List Nat} {i n : Nat} (h : ns[i]? = some n) : (ns.map dn)[i]? = some (dn n) := by
  rw [List.getElem?_map, h]
  rfl
theorem rows_at {rs : List (List Nat)} {i : Nat} {r : List Nat} (h : rs[i]? = some r) : (rs.map dns)[i]? = some (dns r) := by
  rw [List.getElem?_map, h]
  rfl
theorem sets_snoc {α : Type} (l : List α) (ps : List (Nat × α)) (p : Nat × α) : sets l (ps ++ [p]) = (sets l ps).set p.1 p.2 := by
  unfold sets
  rw [List.foldl_append]
  rfl
end Pa
namespace Pa
open PySem L2
def evO : Option (Nat × Nat) → PyData
  | none => .none
  | some e => evD e
/-- a state whose parts are of measured size, whose steps meet no cell that isn't there -/
structure Sz (g : Cfg) (σ : State) : Prop where
  cells : σ.cells.length ≤ 1000000
  th : σ.th.length ≤ 1000000
  ms : σ.ms ≤ 1000000
  tk : σ.taken.length = g.nIn
  ou : σ.outs.length = g.nOut
  nin : g.nIn ≤ 1000
  nout : g.nOut ≤ 1000
  inp : g.inp.length = g.nIn
  row : ∀ r, r ∈ σ.outs → r.length ≤ 1000000
  wd : ∀ w, w ∈ σ.cells → w < 65536
  fit : ∀ (t : Nat) (s : Sm) (rest : List Sm), σ.th[t]? = some (.run (s :: rest)) → Fit σ.cells.length s ∧ ∀ rows, s = .par rows → ∀ r, r ∈ rows → r.1 < σ.th.length
  opn : ∀ (t c k : Nat) (st : List Sm), σ.th[t]? = some (.opn c k st) → k < σ.cells.length
theorem getD_at {α : Type} {l : List α} {i : Nat} {d : α} (h : i < l.length) : l[i]? = some (l.getD i d) := by
  rw [List.getD_eq_getElem?_getD, List.getElem?_eq_getElem h]
  rfl
/-- an input's word -/
theorem word_at {g : Cfg} {σ : State} {c t : Nat} (h : En g σ (.input c t)) (z : Sz g σ) : ∃ row, g.inp[c]? = some row ∧ σ.taken[c]? = some (σ.taken.getD c 0) ∧ row[σ.taken.getD c 0]? = some (g.word σ c) := by
  obtain ⟨hc, _, hl⟩ := h
  have h1 : c < g.inp.length := by rw [z.inp]; exact hc
  have h2 : c < σ.taken.length := by rw [z.tk]; exact hc
  have e1 : g.inp[c]? = some g.inp[c] := List.getElem?_eq_getElem h1
  have e2 : g.inp.getD c [] = g.inp[c] := by rw [List.getD_eq_getElem?_getD, e1]; rfl
  rw [e2] at hl
  refine ⟨g.inp[c], e1, getD_at h2, ?_⟩
  unfold Cfg.word
  rw [e2]
  exact getD_at hl
end Pa
namespace Pa
open PySem L2
/-- what the list of the redexes asks of a state besides -/
structure Sc (g : Cfg) (m : Nat) (σ : State) : Prop where
  opn : ∀ (t c k : Nat) (st : List Sm), σ.th[t]? = some (.opn c k st) → c < g.nIn + g.nOut + m
  giv : ∀ (t c k : Nat) (st : List Sm), σ.th[t]? = some (.giv c k st) → c < g.nIn + g.nOut + m
  join : ∀ (t : Nat) (ts : List Nat) (st : List Sm), σ.th[t]? = some (.join ts st) → ts.length ≤ 1000000 ∧ ∀ k, k ∈ ts → k < σ.th.length
  shp : ∀ c, c ∈ σ.th → SeqAt.shaped c.d = true
def kindOf (g : Cfg) (c : Nat) : Str := if c < g.nIn then "in" else if c < g.nIn + g.nOut then "out" else "inner"
theorem kinds_at {g : Cfg} {m c : Nat} (h : c < g.nIn + g.nOut + m) : ((kinds g m).map PyData.str)[c]? = some (.str (kindOf g c)) := by
  rw [List.getElem?_map]
  have e : (kinds g m)[c]? = some (kindOf g c) := by
    unfold kinds kindOf
    by_cases h1 : c < g.nIn
    · rw [if_pos h1, List.getElem?_append_left (by rw [List.length_append, List.length_replicate, List.length_replicate]; omega), List.getElem?_append_left (by rw [List.length_replicate]; exact h1), List.getElem?_replicate, if_pos h1]
    · rw [if_neg h1]
      by_cases h2 : c < g.nIn + g.nOut
      · rw [if_pos h2, List.getElem?_append_left (by rw [List.length_append, List.length_replicate, List.length_replicate]; omega), List.getElem?_append_right (by rw [List.length_replicate]; omega), List.length_replicate, List.getElem?_replicate, if_pos (by omega)]
      · rw [if_neg h2, List.getElem?_append_right (by rw [List.length_append, List.length_replicate, List.length_replicate]; omega), List.length_append, List.length_replicate, List.length_replicate, List.getElem?_replicate, if_pos (by omega)]
  rw [e]
  rfl
theorem rowRx_le (g : Cfg) (σ : State) (t c : Nat) : (rowRx g σ t c).length ≤ 1 := by
  unfold rowRx
  split
  · split <;> simp
  · split <;> simp
theorem thRx_le (g : Cfg) (σ : State) (t : Nat) : (thRx g σ t).length ≤ 1 := by
  unfold thRx
  split
  · simp
  · exact rowRx_le _ _ _ _
  · split <;> simp
  · split <;> simp
  · simp
theorem redexes_le (g : Cfg) (σ : State) : ∀ k : Nat, ((List.range k).flatMap (thRx g σ)).length ≤ k
  | 0 => by simp
  | k + 1 => by
    rw [List.range_succ, List.flatMap_append, List.length_append]
    have h1 := redexes_le g σ k
    have h2 := thRx_le g σ k
    simp only [List.flatMap_cons, List.flatMap_nil, List.append_nil]
    omega
end Pa
/-! sorted(rows, key=thread_number) -/
namespace Pa
open PySem L2 PyProof.Rows
abbrev s_thread_number : Stmt := topS 5
theorem sc_thread_number : FnScope ["row"] ["row"] (defScope s_thread_number) := ⟨rfl, rfl, rfl, by decide +kernel, rfl, by decide +kernel, by decide +kernel⟩
/-- a row's first part -/
def keyD : PyData → Int
  | .tuple (.int k :: _) => k
  | _ => 0
def leD : PyData → PyData → Bool := PySem.W.dataLe false fun d => .int (keyD d)
def leZ : V × PyData → V × PyData → Bool := PySem.W.dataLe false fun z => .int (keyD z.2)
theorem each_vals {R : Value → V × PyData → Prop} : ∀ {zs : List (V × PyData)} {us : List Value}, Vals (zs.map Prod.fst) us → (∀ z u, z ∈ zs → RelV z.1 u → R u z) → PySem.W.EachIs R us zs
  | [], _, .nil, _ => .nil
  | _ :: _, _, .cons r s, h => .cons (h _ _ (List.mem_cons_self ..) r) (each_vals s fun x u hx => h x u (List.mem_cons_of_mem _ hx))
theorem vals_each {R : Value → V × PyData → Prop} (h : ∀ z u, R u z → RelV z.1 u) : ∀ {zs : List (V × PyData)} {us : List Value}, PySem.W.EachIs R us zs → Vals (zs.map Prod.fst) us
  | _, _, .nil => .nil
  | _, _, .cons r s => .cons (h _ _ r) (vals_each h s)
def rSortF (K : PySem.W.Frag) (f : Addr) : List V → List V → Hp → VK → Prop := fun vs ks H Q => ∃ (a : Addr) (zs : List (V × PyData)), vs = [V.ref a] ∧ ks = [V.ref f] ∧ SqL K H a (zs.map Prod.fst) ∧ (∀ z, z ∈ zs → ∃ t ys, z.1 = V.ref t ∧ SqT K H t (.int (keyD z.2) :: ys)) ∧
  ∀ p : Addr, H p = none → Q (.ref p) (upd H p (.lst ((zs.mergeSort leZ).map Prod.fst)))
theorem data_int (k : Int) : PyData.int k ≠ .none ∧ ∀ xs, PyData.int k ≠ .tuple xs := ⟨fun z => (nomatch z), fun _ z => (nomatch z)⟩
theorem cr_sortedF {X : Cx} {f : Addr} {fd : FuncData} (F : Fun X.K "thread_number" "thread_number" s_thread_number f fd) (hr : Room 2 X.A) : CallRK X (.builtin "sorted") [Str.ofString "key"] (rSortF X.K f) := by
  intro pins s σ H vs ks us ws Q I r rz h
  obtain ⟨a, zs, rfl, rfl, hs, hx, q⟩ := h
  obtain rfl := Vals.ref1 r
  obtain rfl := Vals.ref1 rz
  obtain ⟨its, rv, hl, hz⟩ := I.list hs
  rw [List.length_map] at hz
  obtain ⟨oc, od, kV, doc, pm, an, cdv, ct, osl, rfl, lk, hcd⟩ := F.ex
  refine PySem.W.sorted_key_data (b := false) (f := .ref f) (bs := zs) (R := fun u z => RelV z.1 u ∧ ∃ t its ys, z.1 = V.ref t ∧ IsTup s.heap t (List.toArray its) ∧ Vals (V.int (keyD z.2) :: ys) its) (fun z => .int (keyD z.2)) hl.isList
    (each_vals rv fun z u hm hu => ?_) (PySem.W.AllAlike.of fun _ _ => by simp [PySem.W.alike]) (PySem.W.Sortable.others fun b => data_int _) hz (fun x _ => ?_) (ksk_s1 _ _) (fun _ => ksk_l1 _ _) (fun _ => ksk_t1 _ _) ?_ ?_
  · obtain ⟨t, ys, e, ht⟩ := hx z hm
    obtain ⟨its2, r2, p2, _⟩ := I.tuple ht
    exact ⟨hu, t, its2, ys, e, p2, r2⟩
  · have := hr.units
    show X.A.units + 2 + 0 < _
    omega
  · rintro v z ⟨hu, t, its2, ys, ez, p2, r2⟩ hm h tk kp
    rw [ez] at hu
    obtain rfl : v = Value.ref t := hu
    refine wpAny_call ?_
    have KX : X.K.In h := I.kIn.keeps kp
    have lim : h.NoLimit := I.nolimit.keeps kp
    have hb : bindArgs (PySem.W.fnOf "thread_number" "thread_number" (defArgs s_thread_number) (defBody s_thread_number) (defScope s_thread_number) .none kV doc pm an cdv ct) ⟨[Value.ref t], []⟩ = Pure.pure [(("row" : Str), Value.ref t)] := rfl
    refine codeAny_call_function (by have := hr.dp; show X.A.depth < _; omega) (KX _ _ lk) rfl rfl rfl rfl (PySem.W.codeRec_of KX hcd) ?_
    rw [hb]
    refine wpAny_pure ?_
    refine wpAny_newFunctionEnv_cells rfl (fun y hy => ?_) fun env he s1 x1 => ?_
    · obtain rfl := List.mem_singleton.mp hy
      exact .inl rfl
    subst he
    refine ⟨lim.keeps x1.toInCall.keep, codeAny_func ?_⟩
    have ns1 := x1.toInCall.ns
    obtain ⟨h1, tk1, rfl, hk1⟩ := x1.done
    refine wpAny_execs_cons (wpAny_Return_some (Subscript_ ?_))
    refine wpAny_Name (x := "row") (wpAny_loadName_local (v := Value.ref t) rfl rfl ns1 rfl ?_) (by decide)
    refine wpAny_Constant_int ?_
    obtain ⟨w, ew, rw'⟩ := r2.get (i := 0) rfl
    obtain ⟨tk2, rfl⟩ := rw'
    have l2 := r2.length
    have p3 : IsTup h1 t (List.toArray its2) := (p2.keeps kp).keeps hk1
    refine subscriptTail_builtinR (x := .int (keyD z.2) tk2) p3.typeIs slot_tuple_getitem.lookup
      (getItem_tuple (k := 0) (j := 0) (items := List.toArray its2) p3 (by decide) (by decide) ?_ (by simpa using ew) ⟨rfl, h1, _, rfl, hk1, .int _ _⟩) rfl
    have l3 : 0 < ((List.toArray its2).size : Int) := by rw [List.size_toArray, ← l2, List.length_cons]; omega
    unfold seqIndex?
    simp only [Int.lt_irrefl, if_false, Int.le_refl, decide_true, Bool.true_and, decide_eq_true l3, if_true]
    rfl
  · intro out c h' tk kp fresh hD hlen e
    have hp := List.mergeSort_perm zs leZ
    have hv : Vals ((zs.mergeSort leZ).map Prod.fst) out := vals_each (fun z u y => y.1) e
    exact ⟨.ref _, upd H (s.heap.objs.size + 1) (.lst _), I.laid (t' := tk) kp (Nat.le_succ _) ⟨by rw [List.length_map, hp.length_eq]; exact hz, out, c, hv, hD⟩, rfl, q _ (I.hok.fresh (Nat.le_succ _))⟩
section
variable {K : PySem.W.Frag} {F H : Hp}
theorem Das.zip : ∀ {xs : List V} {ds : List PyData}, Das K H xs ds → ∃ zs : List (V × PyData), zs.map Prod.fst = xs ∧ zs.map Prod.snd = ds ∧ ∀ z, z ∈ zs → Da K H z.1 z.2
  | _, _, .nil => ⟨[], rfl, rfl, fun _ h => (nomatch h)⟩
  | _, _, .cons (v := v) (d := d) a r => by
    obtain ⟨zs, h1, h2, h3⟩ := Das.zip r
    refine ⟨(v, d) :: zs, by rw [List.map_cons, h1], by rw [List.map_cons, h2], fun z hz => ?_⟩
    rcases List.mem_cons.mp hz with rfl | hz
    · exact a
    · exact h3 z hz
theorem Das.unzip : ∀ {zs : List (V × PyData)}, (∀ z, z ∈ zs → Da K H z.1 z.2) → Das K H (zs.map Prod.fst) (zs.map Prod.snd)
  | [], _ => .nil
  | z :: r, h => .cons (h z (List.mem_cons_self ..)) (Das.unzip fun y hy => h y (List.mem_cons_of_mem _ hy))
theorem ed_sortF {te : TE} {tk : TA} {e : DE} {ds : List PyData} {f : Addr} (h : ED K te e (.list ds)) (hk : ∀ (σ : L2.St) (H : Hp) (Q : List V → Hp → Prop), Q [V.ref f] H → tk σ H Q) (hd : ∀ d, d ∈ ds → ∃ k r, d = .tuple (.int k :: r)) :
    ED K (tCKw (rSortF K f) (tCons te tNil) tk) e (.list (ds.mergeSort leD)) := fun σ F H Q fs s q => h σ F H _ fs s fun v F1 H1 z a => by
  obtain ⟨p, xs, rfl, h1, h2⟩ := a.lstI
  obtain ⟨zs, rfl, rfl, h3⟩ := h2.zip
  refine hk σ H1 _ ⟨p, zs, rfl, rfl, SqL.of (z.sub _ _ h1), fun y hy => ?_, fun D nD => ?_⟩
  · obtain ⟨k, r, e⟩ := hd y.2 (List.mem_map.mpr ⟨y, hy, rfl⟩)
    have hy' := h3 y hy
    rw [e] at hy'
    obtain ⟨t, ys, e1, e2, e3⟩ := hy'.tupI
    obtain ⟨w, ys', rfl, e4, _⟩ := e3.cons_inv
    cases e4.intI
    refine ⟨t, ys', e1, ?_⟩
    rw [e]
    exact SqT.same z.sub e2
  · have e1 : (zs.map Prod.snd).mergeSort leD = (zs.mergeSort leZ).map Prod.snd := (PySem.W.sort_maps (r := leZ) (s := leD) Prod.snd fun _ _ _ _ => rfl).symm
    rw [e1] at q
    have hp := List.mergeSort_perm zs leZ
    obtain ⟨y1, y2⟩ := fz_lst (K := K) z.sub nD (Das.unzip fun y hy => h3 y (hp.mem_iff.mp hy))
    exact q _ _ _ (z.trans y1) y2
end
end Pa
/-! at, with_cell, with_item, calculate, place, value -/
namespace Pa
open PySem L2 PyProof.Rows
local macro_rules | `(tactic| walk_at "ed") => `(tactic| first
  | ((with_reducible show ED _ (tVar _) _ _); exact ed_var rfl)
  | ((with_reducible show ED _ (tC _) _ _); first | exact ed_int | exact ed_str | exact ed_non | exact ed_bl | exact ed_tupC T.fF | exact ed_tupC T.fS)
  | ((with_reducible show EA _ tNil _ _); exact ea_nil) | ((with_reducible show EA _ (tCons _ _) _ _); exact ea_cons (by walk_at "ed") (by walk_at "ed"))
  | ((with_reducible show ED _ (tTup _) _ _); exact ed_tup (by walk_at "ed")) | ((with_reducible show ED _ (tLst _) _ _); exact ed_lst (by walk_at "ed"))
  | ((with_reducible show ED _ (tOp (rI0 fun i j => V.int (i + j)) _ _) _ _); exact ed_add (by walk_at "ed") (by walk_at "ed"))
  | ((with_reducible show ED _ (tOp (rI0 fun i j => V.int (i - j)) _ _) _ _); exact ed_sub (by walk_at "ed") (by walk_at "ed"))
  | ((with_reducible show ED _ (tOp (rI0 fun i j => V.int (Builtin.bitAnd i j)) _ _) _ _); exact ed_and (by walk_at "ed") (by walk_at "ed"))
  | ((with_reducible show ED _ (tOp (rIxT _) _ (tC (.int 0))) _ _); exact ed_ix0 (by walk_at "ed")) | ((with_reducible show ED _ (tOp (rIxT _) _ (tC (.int 1))) _ _); exact ed_ix1 (by walk_at "ed"))
  | ((with_reducible show ED _ (tOp (rIxT _) _ (tC (.int 2))) _ _); exact ed_ix2 (by walk_at "ed")) | ((with_reducible show ED _ (tOp (rIxT _) _ (tC (.int 3))) _ _); exact ed_ix3 (by walk_at "ed"))
  | ((with_reducible show ED _ (tSl _ _ tNoPart (tPart _)) _ _); exact ed_take (by walk_at "ed") (by walk_at "ed")) | ((with_reducible show ED _ (tSl _ _ (tPart _) tNoPart) _ _); exact ed_dropI (by walk_at "ed") (by walk_at "ed") rfl)
  | ((with_reducible show ED _ (tOp rEq _ _) _ _); exact ed_eqS (by walk_at "ed") (by walk_at "ed"))
  | ((with_reducible show ED _ (tOp rEq _ _) _ _); exact ed_eqI (by walk_at "ed") (by walk_at "ed"))
  | ((with_reducible show ED _ (tOp (fun x y H Q => y = V.non ∧ Q (V.bl (decide (x = V.non))) H) _ _) _ _); exact ed_isN (by walk_at "ed"))
  | ((with_reducible show ED _ (tOp (rIn _ false) _ _) _ _); exact ed_in2 (by walk_at "ed"))
  | ((with_reducible show ED _ (tCB _ _) _ _); exact ed_len (by walk_at "ed")))
local macro_rules | `(tactic| walk_at "eb") => `(tactic| first
  | ((with_reducible show EB _ (tTest (tOp (rIn _ false) _ _)) _ _); exact (eb_cmp (ed_in2 (by walk_at "ed"))).eq (by decide +kernel))
  | ((with_reducible show EB _ (tTest (tOp rEq _ _)) _ _); exact (eb_cmp (ed_eqS (by walk_at "ed") (by walk_at "ed"))).eq (by decide +kernel)))

section
variable {P : Program} {w : World} {K : PySem.W.Frag} {mg : Str → Option Value} {base : Heap} {tW : Tok} {aF aS : Addr}
abbrev s_with_item : Stmt := topS 26
theorem sc_with_item : FnScope ["rows", "index", "item"] ["rows", "index", "item"] (defScope s_with_item) := ⟨rfl, rfl, rfl, by decide +kernel, rfl, by decide +kernel, by decide +kernel⟩
theorem d_set_cut {xs : List PyData} {n : Nat} {x : PyData} (h : n < xs.length) : xs.take n ++ [x] ++ xs.drop (n + 1) = xs.set n x := set_cut h
def rWithItem : List PyData → PyData → Prop := fun ds d => ∃ (xs : List PyData) (i : Nat) (x : PyData), ds = [.list xs, dn i, x] ∧ i < xs.length ∧ xs.length ≤ 1000000 ∧ d = .list (xs.set i x)
theorem ok_with_item (d : Def K mg "with_item" s_with_item) : Cal P w K mg base 1 "with_item" ["rows", "index", "item"] (spD K rWithItem) := by
  refine d.pure sc_with_item (fun ds d ⟨xs, i, x, h, _⟩ => by rw [h]; rfl) (fun _ _ _ _ _ _ us hl => match us, hl with | [_, _, _], _ => rfl) (fun f cdv A outer s H E ds d hr h => ?_)
  obtain ⟨xs, i, x, rfl, hi, hz, rfl⟩ := h
  refine ⟨_, 
      (pss_one (ps_ret (pe_op op_cat (pe_op op_cat (pe_slice sl_list (pv 0) po_none (po_some (pv 1))) (pe_lst (pa_cons (pv 2) pa_nil))) (pe_slice sl_list (pv 0) (po_some (pe_op op_add (pv 1) pe_int)) po_none)))), ?_⟩
  refine es_ret ((ed_cat (ed_cat (ed_take (ed_var rfl) (ed_var rfl)) (ed_lst (ea_cons (ed_var rfl) ea_nil)) ?_) (ed_dropI (n := i + 1) (ed_var rfl) (ed_add (ed_var rfl) ed_int) rfl) ?_).eq (congrArg PyData.list (d_set_cut hi)))
  · rw [List.length_take, List.length_singleton]; omega
  · rw [List.length_append, List.length_take, List.length_singleton, List.length_drop]; omega
abbrev s_with_cell : Stmt := topS 25
theorem sc_with_cell : FnScope ["cells", "cell", "word"] ["cells", "cell", "word"] (defScope s_with_cell) := ⟨rfl, rfl, rfl, by decide +kernel, rfl, by decide +kernel, by decide +kernel⟩
theorem ok_with_cell (d : Def K mg "with_cell" s_with_cell) : Cal P w K mg base 1 "with_cell" ["cells", "cell", "word"] (spD K rWithItem) := by
  refine d.pure sc_with_cell (fun ds d ⟨xs, i, x, h, _⟩ => by rw [h]; rfl) (fun _ _ _ _ _ _ us hl => match us, hl with | [_, _, _], _ => rfl) (fun f cdv A outer s H E ds d hr h => ?_)
  obtain ⟨xs, i, x, rfl, hi, hz, rfl⟩ := h
  refine ⟨_, 
      (pss_one (ps_ret (pe_op op_cat (pe_op op_cat (pe_slice sl_list (pv 0) po_none (po_some (pv 1))) (pe_lst (pa_cons (pv 2) pa_nil))) (pe_slice sl_list (pv 0) (po_some (pe_op op_add (pv 1) pe_int)) po_none)))), ?_⟩
  refine es_ret ((ed_cat (ed_cat (ed_take (ed_var rfl) (ed_var rfl)) (ed_lst (ea_cons (ed_var rfl) ea_nil)) ?_) (ed_dropI (n := i + 1) (ed_var rfl) (ed_add (ed_var rfl) ed_int) rfl) ?_).eq (congrArg PyData.list (d_set_cut hi)))
  · rw [List.length_take, List.length_singleton]; omega
  · rw [List.length_append, List.length_take, List.length_singleton, List.length_drop]; omega
abbrev s_at : Stmt := topS 7
theorem sc_at : FnScope ["stack"] ["stack"] (defScope s_at) := ⟨rfl, rfl, rfl, by decide +kernel, rfl, by decide +kernel, by decide +kernel⟩
def rAt : List PyData → PyData → Prop := fun ds d => ∃ st : List Sm, ds = [stk st] ∧ d = (mkAt st).d
theorem ok_at (T : Txt K mg tW aF aS) (d : Def K mg "at" s_at) : Cal P w K mg base 1 "at" ["stack"] (spD K rAt) := by
  refine d.pure sc_at (fun ds d ⟨st, h, _⟩ => by rw [h]; rfl) (fun _ _ _ _ _ _ us hl => match us, hl with | [_], _ => rfl) (fun f cdv A outer s H E ds d hr h => ?_)
  obtain ⟨st, rfl, rfl⟩ := h
  refine ⟨_, 
      (pss_one (ps_ret (pe_ifExp (pt_cmpR op_gt (pe_callB call_len_seq (by rfl) T.len (by decide +kernel) (pa_cons (pv 0) pa_nil)) pe_int (nomark _)) (pe_tup (pa_cons pe_str (pa_cons (pv 0) pa_nil))) (pe_tup (pa_cons pe_str pa_nil))))), ?_⟩
  refine es_ret (ed_if (eb_cmp (ed_gt (ed_len (ed_var rfl)) ed_int)) (fun h => ?_) (fun h => ?_))
  · refine ED.eq (d := .tuple [.str "at", stk st]) (by walk_at "ed") ?_
    rw [mkAt_d, if_pos (by have := of_decide_eq_true h; omega)]
  · refine ED.eq (d := .tuple [.str "done"]) (by walk_at "ed") ?_
    rw [mkAt_d, if_neg (by have := of_decide_eq_false h; omega)]

/-! ### words -/
theorem and16 (x : Int) : Builtin.bitAnd x (65536 - 1) = x % 65536 := bitAnd_m16 x
abbrev s_calculate : Stmt := topS 11
theorem sc_calculate : FnScope ["operator", "a", "b"] ["operator", "a", "b"] (defScope s_calculate) := ⟨rfl, rfl, rfl, by decide +kernel, rfl, by decide +kernel, by decide +kernel⟩
def rCalc : List PyData → PyData → Prop := fun ds d => ∃ (o : Op) (a b : Nat), ds = [.str o.str, dn a, dn b] ∧ a < 65536 ∧ b < 65536 ∧ d = optD (o.calc a b)
theorem ok_calculate (T : Txt K mg tW aF aS) (d : Def K mg "calculate" s_calculate) : Cal P w K mg base 1 "calculate" ["operator", "a", "b"] (spD K rCalc) := by
  refine d.pure sc_calculate (fun ds d ⟨o, a, b, h, _⟩ => by rw [h]; rfl) (fun _ _ _ _ _ _ us hl => match us, hl with | [_, _, _], _ => rfl) (fun f cdv A outer s H E ds d hr h => ?_)
  obtain ⟨o, a, b, rfl, ha, hb, rfl⟩ := h
  refine ⟨_, 
      (pss_cons (ps_if (pt_cmpR op_in_seq (pv 0) (pe_tup (pa_cons pe_str (pa_cons pe_str pa_nil))) (by rfl)) (pss_cons (ps_if (pt_cmpR op_eq (pv 2) pe_int (nomark _))
      (pss_one (ps_ret pe_non)) pss_nil)
      (pss_one (ps_ret (pe_ifExp (pt_cmpR op_eq (pv 0) pe_str (nomark _)) (pe_op op_fdiv (pv 1) (pv 2)) (pe_op op_sub (pv 1) (pe_op op_mul (pe_op op_fdiv (pv 1) (pv 2)) (pv 2))))))) pss_nil)
      (pss_cons (ps_if (pt_cmpR op_eq (pv 0) pe_str (nomark _))
      (pss_one (ps_ret (pe_op op_and (pe_op op_add (pv 1) (pv 2)) (pe_op op_sub (pe_glob (v := .int 65536) rfl T.gWORDS ⟨_, rfl⟩) pe_int)))) pss_nil)
      (pss_cons (ps_if (pt_cmpR op_eq (pv 0) pe_str (nomark _))
      (pss_one (ps_ret (pe_op op_and (pe_op op_sub (pv 1) (pv 2)) (pe_op op_sub (pe_glob (v := .int 65536) rfl T.gWORDS ⟨_, rfl⟩) pe_int)))) pss_nil)
      (pss_cons (ps_if (pt_cmpR op_eq (pv 0) pe_str (nomark _))
      (pss_one (ps_ret (pe_op op_and (pe_op op_mul (pv 1) (pv 2)) (pe_op op_sub (pe_glob (v := .int 65536) rfl T.gWORDS ⟨_, rfl⟩) pe_int)))) pss_nil)
      (pss_cons (ps_if (pt_cmpR op_eq (pv 0) pe_str (nomark _))
      (pss_one (ps_ret (pe_ifExp (PW.pt (pw_and (pt_cmpR op_ne (pv 1) pe_int (nomark _)) (pw_and1 (pt_cmpR op_ne (pv 2) pe_int (nomark _))))) pe_int pe_int))) pss_nil)
      (pss_cons (ps_if (pt_cmpR op_eq (pv 0) pe_str (nomark _))
      (pss_one (ps_ret (pe_ifExp (PW.pt (pw_or (pt_cmpR op_ne (pv 1) pe_int (nomark _)) (pw_or1 (pt_cmpR op_ne (pv 2) pe_int (nomark _))))) pe_int pe_int))) pss_nil)
      (pss_cons (ps_if (pt_cmpR op_eq (pv 0) pe_str (nomark _)) (pss_one (ps_ret (pe_ifExp (pt_cmpR op_eq (pv 1) (pv 2) (nomark _)) pe_int pe_int))) pss_nil)
      (pss_cons (ps_if (pt_cmpR op_eq (pv 0) pe_str (nomark _)) (pss_one (ps_ret (pe_ifExp (pt_cmpR op_ne (pv 1) (pv 2) (nomark _)) pe_int pe_int))) pss_nil)
      (pss_cons (ps_if (pt_cmpR op_eq (pv 0) pe_str (nomark _)) (pss_one (ps_ret (pe_ifExp (pt_cmpR op_lt (pv 1) (pv 2) (nomark _)) pe_int pe_int))) pss_nil)
      (pss_one (ps_ret (pe_ifExp (pt_cmpR op_le (pv 1) (pv 2) (nomark _)) pe_int pe_int)))))))))))), ?_⟩
  have two : ∀ {t u : TT} {e : DE} {p q r : Bool}, EB K t e p → EB K u e q → (p && q) = r → ED K (tIf (tAnd t u) (tC (.int 1)) (tC (.int 0))) e (dn (b2n r)) := fun h1 h2 h3 =>
    ed_if ((eb_and h1 fun _ => h2).eq h3) (fun z => by subst z; exact ed_int) (fun z => by subst z; exact ed_int)
  have two' : ∀ {t u : TT} {e : DE} {p q r : Bool}, EB K t e p → EB K u e q → (p || q) = r → ED K (tIf (tOr t u) (tC (.int 1)) (tC (.int 0))) e (dn (b2n r)) := fun h1 h2 h3 =>
    ed_if ((eb_or h1 fun _ => h2).eq h3) (fun z => by subst z; exact ed_int) (fun z => by subst z; exact ed_int)
  have one : ∀ {t : TT} {e : DE} {p r : Bool}, EB K t e p → p = r → ED K (tIf t (tC (.int 1)) (tC (.int 0))) e (dn (b2n r)) := fun h1 h3 =>
    ed_if (h1.eq h3) (fun z => by subst z; exact ed_int) (fun z => by subst z; exact ed_int)
  have ez : ∀ n : Nat, (!decide ((n : Int) = 0)) = decide (n ≠ 0) := fun n => by
    by_cases h : n = 0
    · subst h; rfl
    · rw [decide_eq_false (show ¬ (n : Int) = 0 by omega), decide_eq_true h]; rfl
  cases o
  case add =>
    refine es_skip (by walk_at "eb") ?_
    refine es_take (by walk_at "eb") (es_ret ((ed_and (ed_add (ed_var rfl) (ed_var rfl)) (ed_sub ed_int ed_int)).eq ?_))
    rw [and16]
    refine congrArg PyData.int ?_
    rw [Int.natCast_emod, Int.natCast_add]
    rfl
  case sub =>
    refine es_skip (by walk_at "eb") (es_skip (by walk_at "eb") ?_)
    refine es_take (by walk_at "eb") (es_ret ((ed_and (ed_sub (ed_var rfl) (ed_var rfl)) (ed_sub ed_int ed_int)).eq ?_))
    rw [and16]
    refine congrArg PyData.int ?_
    omega
  case mul =>
    refine es_skip (by walk_at "eb") (es_skip (by walk_at "eb") (es_skip (by walk_at "eb") ?_))
    refine es_take (by walk_at "eb") (es_ret ((ed_and (ed_mul (ed_var rfl) (ed_var rfl) (.inl ⟨by omega, by omega⟩)) (ed_sub ed_int ed_int)).eq ?_))
    rw [and16]
    refine congrArg PyData.int ?_
    rw [Int.natCast_emod, Int.natCast_mul]
    rfl
  case land =>
    refine es_skip (by walk_at "eb") (es_skip (by walk_at "eb") (es_skip (by walk_at "eb") (es_skip (by walk_at "eb") ?_)))
    refine es_take (by walk_at "eb") (es_ret (two (eb_cmp (ed_neI (ed_var rfl) ed_int)) (eb_cmp (ed_neI (ed_var rfl) ed_int)) ?_))
    rw [ez, ez]
  case lor =>
    refine es_skip (by walk_at "eb") (es_skip (by walk_at "eb") (es_skip (by walk_at "eb") (es_skip (by walk_at "eb") (es_skip (by walk_at "eb") ?_))))
    refine es_take (by walk_at "eb") (es_ret (two' (eb_cmp (ed_neI (ed_var rfl) ed_int)) (eb_cmp (ed_neI (ed_var rfl) ed_int)) ?_))
    rw [ez, ez]
  case eq =>
    refine es_skip (by walk_at "eb") (es_skip (by walk_at "eb") (es_skip (by walk_at "eb") (es_skip (by walk_at "eb") (es_skip (by walk_at "eb") (es_skip (by walk_at "eb") ?_)))))
    refine es_take (by walk_at "eb") (es_ret (one (eb_cmp (ed_eqI (ed_var rfl) (ed_var rfl))) ?_))
    exact decide_eq_decide.mpr (by omega)
  case ne =>
    refine es_skip (by walk_at "eb") (es_skip (by walk_at "eb") (es_skip (by walk_at "eb") (es_skip (by walk_at "eb") (es_skip (by walk_at "eb") (es_skip (by walk_at "eb") (es_skip (by walk_at "eb") ?_))))))
    refine es_take (by walk_at "eb") (es_ret (one (eb_cmp (ed_neI (ed_var rfl) (ed_var rfl))) ?_))
    rw [← decide_not]
    exact decide_eq_decide.mpr (by omega)
  case lt =>
    refine es_skip (by walk_at "eb") (es_skip (by walk_at "eb") (es_skip (by walk_at "eb") (es_skip (by walk_at "eb") (es_skip (by walk_at "eb") (es_skip (by walk_at "eb") (es_skip (by walk_at "eb") (es_skip (by walk_at "eb") ?_)))))))
    refine es_take (by walk_at "eb") (es_ret (one (eb_cmp (ed_lt (ed_var rfl) (ed_var rfl))) ?_))
    exact decide_eq_decide.mpr (by omega)
  case le =>
    refine es_skip (by walk_at "eb") (es_skip (by walk_at "eb") (es_skip (by walk_at "eb") (es_skip (by walk_at "eb") (es_skip (by walk_at "eb") (es_skip (by walk_at "eb") (es_skip (by walk_at "eb") (es_skip (by walk_at "eb") (es_skip (by walk_at "eb") ?_))))))))
    refine es_ret (one (eb_cmp (ed_le (ed_var rfl) (ed_var rfl))) ?_)
    exact decide_eq_decide.mpr (by omega)
  case div =>
    refine es_take (by walk_at "eb") ?_
    by_cases h : b = 0
    · subst h
      exact es_take ((eb_cmp (ed_eqI (ed_var rfl) ed_int)).eq rfl) (es_ret ed_non)
    · refine es_skip ((eb_cmp (ed_eqI (ed_var rfl) ed_int)).eq (decide_eq_false (by omega))) (es_ret (ed_yes (by walk_at "eb") (ED.eq (ed_fdiv (ed_var rfl) (ed_var rfl) ⟨by omega, by omega⟩) ?_)))
      show PyData.int _ = optD (if b = 0 then none else some (a / b))
      rw [if_neg h]
      rfl
  case mod =>
    refine es_take (by walk_at "eb") ?_
    by_cases h : b = 0
    · subst h
      exact es_take ((eb_cmp (ed_eqI (ed_var rfl) ed_int)).eq rfl) (es_ret ed_non)
    · refine es_skip ((eb_cmp (ed_eqI (ed_var rfl) ed_int)).eq (decide_eq_false (by omega))) (es_ret (ed_no (by walk_at "eb") (ED.eq (ed_sub (ed_var rfl) (ed_mul (ed_fdiv (ed_var rfl) (ed_var rfl) ⟨by omega, by omega⟩) (ed_var rfl) (.inr ⟨by omega, by omega⟩))) ?_)))
      show PyData.int _ = optD (if b = 0 then none else some (a % b))
      rw [if_neg h]
      show PyData.int _ = PyData.int _
      congr 1
      have q2 := Int.mul_ediv_add_emod (a : Int) (b : Int)
      have q3 : (a : Int) / (b : Int) * (b : Int) = (b : Int) * ((a : Int) / (b : Int)) := Int.mul_comm _ _
      have q4 : ((a % b : Nat) : Int) = (a : Int) % (b : Int) := Int.natCast_emod a b
      rw [q4]
      omega
/-! ### place, value -/
def rPlace (h : Nat) : List PyData → PyData → Prop := fun ds d => ∃ (e : Ex) (cs : List Nat), ds = [e.d, cellsD cs] ∧ TgOk (fun k => k < cs.length) (fun k => k < cs.length) e ∧ e.ht < h ∧ (∀ w, w ∈ cs → w < 65536) ∧ d = optD (e.place cs)
def rVal (h : Nat) : List PyData → PyData → Prop := fun ds d => ∃ (e : Ex) (cs : List Nat), ds = [e.d, cellsD cs] ∧ ExOk (fun k => k < cs.length) e ∧ e.ht < h ∧ (∀ w, w ∈ cs → w < 65536) ∧ d = optD (e.val cs)
theorem cell_at {cs : List Nat} {k : Nat} (h : k < cs.length) : (cs.map dn)[k]? = some (dn (cs.getD k 0)) := by
  rw [List.getElem?_map, List.getElem?_eq_getElem h, List.getD_eq_getElem?_getD, List.getElem?_eq_getElem h]
  rfl
theorem place_lt {R : Nat → Prop} {cs : List Nat} {n k : Nat} {e : Ex} (h : TgOk R (fun k => k < n) e) (q : e.place cs = some k) : k < n := place_W (W := fun k => k < n) h q
abbrev s_place : Stmt := topS 12
theorem sc_place : FnScope ["target", "cells", "_", "first", "size", "e", "index"] ["target", "cells"] (defScope s_place) := ⟨rfl, rfl, rfl, by decide +kernel, rfl, by decide +kernel, by decide +kernel⟩
abbrev s_value : Stmt := topS 13
theorem sc_value : FnScope ["e", "cells", "cell", "a", "b"] ["e", "cells"] (defScope s_value) := ⟨rfl, rfl, rfl, by decide +kernel, rfl, by decide +kernel, by decide +kernel⟩
theorem ok_place {h : Nat} (T : Txt K mg tW aF aS) (d : Def K mg "place" s_place) (c_value : Cal P w K mg base (2 * h) "value" ["e", "cells"] (spD K (rVal h))) : Cal P w K mg base (2 * h + 1) "place" ["target", "cells"] (spD K (rPlace (h + 1))) := by
  refine d.pure sc_place (fun ds d ⟨e, cs, z, _⟩ => by rw [z]; rfl) (fun _ _ _ _ _ _ us hl => match us, hl with | [_, _], _ => rfl) (fun f cdv A outer s H E ds d hr hh => ?_)
  obtain ⟨e, cs, rfl, ho, ht, hw, rfl⟩ := hh
  refine ⟨_, 
      (pss_cons (ps_if (pt_cmpR op_eq (pe_ix ix_tup (pv 0) pe_int (fun _ _ => rfl)) pe_str (nomark _)) (pss_one (ps_ret (pe_ix ix_tup (pv 0) pe_int (fun _ _ => rfl)))) pss_nil)
      (pss_cons (ps_asg (pv 0) (pg_tup rfl (pgs_cons (pg_name (i := 2) sc_place.nd rfl (Or.inl rfl)) (pgs_cons (pg_name (i := 3) sc_place.nd rfl (Or.inl rfl)) (pgs_cons (pg_name (i := 4) sc_place.nd rfl (Or.inl rfl)) (pgs_cons (pg_name (i := 5) sc_place.nd rfl (Or.inl rfl)) pgs_nil))))))
      (pss_cons (ps_set (i := 6) sc_place.nd rfl (Or.inl rfl) (pe_cal c_value (hr.mono (by omega)) (pa_cons (pv 5) (pa_cons (pv 1) pa_nil))))
      (pss_one (ps_ret (pe_ifExp (PW.pt (pw_or (pt_cmpR op_isN (pv 6) pe_non (nomark _)) (pw_or1 (pt_cmpR op_ge (pv 6) (pv 4) (nomark _))))) pe_non (pe_op op_add (pv 3) (pv 6)))))))), ?_⟩
  cases e with
  | cell k => exact es_take (by walk_at "eb") (es_ret (by walk_at "ed"))
  | att f n e =>
    refine es_skip (by walk_at "eb") ?_
    refine es_seq (es_unp (ws := [2, 3, 4, 5]) (ed_var rfl) (et_cons (et_cons (et_cons (et_cons et_nil)))) rfl) ?_
    have hte : e.ht < h := by
      have : e.ht + 1 < h + 1 := ht
      omega
    refine es_seq (es_set (ed_call (ea_cons (ed_var rfl) (ea_cons (ed_var rfl) ea_nil)) ⟨e, cs, rfl, ho.2, hte, hw, rfl⟩)) ?_
    cases hv : e.val cs with
    | none =>
      have z : (Ex.att f n e).place cs = none := by simp only [Ex.place, hv]
      rw [z]
      exact es_ret (ed_yes (eb_orT (eb_isT rfl)) ed_non)
    | some i =>
      have z : (Ex.att f n e).place cs = if i < n then some (f + i) else none := by simp only [Ex.place, hv]
      rw [z]
      by_cases hi : i < n
      · rw [if_pos hi]
        refine es_ret (ed_no (eb_orF (eb_isF rfl) ((eb_cmp (ed_ge (ed_var rfl) (ed_var rfl))).eq ?_)) ((ed_add (ed_var rfl) (ed_var rfl)).eq rfl))
        exact decide_eq_false (by omega)
      · rw [if_neg hi]
        refine es_ret (ed_yes (eb_orF (eb_isF rfl) ((eb_cmp (ed_ge (ed_var rfl) (ed_var rfl))).eq ?_)) ed_non)
        exact decide_eq_true (by omega)
  | num => exact ho.elim
  | neg => exact ho.elim
  | inv => exact ho.elim
  | bin => exact ho.elim
theorem op_num (o : Op) : decide (o.str = ("num" : Str)) = false := by cases o <;> decide +kernel
theorem op_cell (o : Op) : (decide (("cell" : Str) = o.str) || decide (("at" : Str) = o.str)) = false := by cases o <;> decide +kernel
theorem op_neg (o : Op) : decide (o.str = ("neg" : Str)) = false := by cases o <;> decide +kernel
theorem op_not (o : Op) : decide (o.str = ("not" : Str)) = false := by cases o <;> decide +kernel
theorem ok_value {h : Nat} (T : Txt K mg tW aF aS) (d : Def K mg "value" s_value) (c_value : Cal P w K mg base (2 * h) "value" ["e", "cells"] (spD K (rVal h))) (c_place : Cal P w K mg base (2 * h + 1) "place" ["target", "cells"] (spD K (rPlace (h + 1))))
    (c_calculate : Cal P w K mg base 1 "calculate" ["operator", "a", "b"] (spD K rCalc)) : Cal P w K mg base (2 * h + 2) "value" ["e", "cells"] (spD K (rVal (h + 1))) := by
  refine d.pure sc_value (fun ds d ⟨e, cs, z, _⟩ => by rw [z]; rfl) (fun _ _ _ _ _ _ us hl => match us, hl with | [_, _], _ => rfl) (fun f cdv A outer s H E ds d hr hh => ?_)
  obtain ⟨e, cs, rfl, ho, ht, hw, rfl⟩ := hh
  refine ⟨_, 
      (pss_cons (ps_if (pt_cmpR op_eq (pe_ix ix_tup (pv 0) pe_int (fun _ _ => rfl)) pe_str (nomark _)) (pss_one (ps_ret (pe_ix ix_tup (pv 0) pe_int (fun _ _ => rfl)))) pss_nil)
      (pss_cons (ps_if (pt_cmpR op_in_seq (pe_ix ix_tup (pv 0) pe_int (fun _ _ => rfl)) (pe_tup (pa_cons pe_str (pa_cons pe_str pa_nil))) (by rfl))
      (pss_cons (ps_set (i := 2) sc_value.nd rfl (Or.inl rfl) (pe_cal c_place (hr.mono (by omega)) (pa_cons (pv 0) (pa_cons (pv 1) pa_nil))))
      (pss_one (ps_ret (pe_ifExp (pt_cmpR op_isN (pv 2) pe_non (nomark _)) pe_non (pe_ix ix_list (pv 1) (pv 2) (fun _ _ => rfl)))))) pss_nil)
      (pss_cons (ps_set (i := 3) sc_value.nd rfl (Or.inl rfl) (pe_cal c_value (hr.mono (by omega)) (pa_cons (pe_ix ix_tup (pv 0) pe_int (fun _ _ => rfl)) (pa_cons (pv 1) pa_nil))))
      (pss_cons (ps_if (pt_cmpR op_eq (pe_ix ix_tup (pv 0) pe_int (fun _ _ => rfl)) pe_str (nomark _))
      (pss_one (ps_ret (pe_ifExp (pt_cmpR op_isN (pv 3) pe_non (nomark _)) pe_non (pe_op op_and (pe_op op_sub pe_int (pv 3)) (pe_op op_sub (pe_glob (v := .int 65536) rfl T.gWORDS ⟨_, rfl⟩) pe_int))))) pss_nil)
      (pss_cons (ps_if (pt_cmpR op_eq (pe_ix ix_tup (pv 0) pe_int (fun _ _ => rfl)) pe_str (nomark _))
      (pss_one (ps_ret (pe_ifExp (pt_cmpR op_isN (pv 3) pe_non (nomark _)) pe_non (pe_ifExp (pt_cmpR op_eq (pv 3) pe_int (nomark _)) pe_int pe_int)))) pss_nil)
      (pss_cons (ps_set (i := 4) sc_value.nd rfl (Or.inl rfl) (pe_cal c_value (hr.mono (by omega)) (pa_cons (pe_ix ix_tup (pv 0) pe_int (fun _ _ => rfl)) (pa_cons (pv 1) pa_nil))))
      (pss_one (ps_ret (pe_ifExp (PW.pt (pw_or (pt_cmpR op_isN (pv 3) pe_non (nomark _)) (pw_or1 (pt_cmpR op_isN (pv 4) pe_non (nomark _))))) pe_non (pe_cal c_calculate (hr.mono (by omega)) (pa_cons (pe_ix ix_tup (pv 0) pe_int (fun _ _ => rfl)) (pa_cons (pv 3) (pa_cons (pv 4) pa_nil))))))))))))), ?_⟩
  -- an item at a place, or none
  have item : ∀ {t : Ex} {n : Option Nat}, TgOk (fun k => k < cs.length) (fun k => k < cs.length) t → t.ht < h + 1 → t.val cs = (match t.place cs with | none => none | some k => some (cs.getD k 0)) →
      ES K (tSeq (tAsg (tCall (spD K (rPlace (h + 1))) [] E0 (tCons (tVar 0) (tCons (tVar 1) tNil))) (gName 2)) (tRet (tIf (tTest (tOp (fun x y H Q => y = V.non ∧ Q (V.bl (decide (x = V.non))) H) (tVar 2) (tC .non))) (tC .non) (tOp (rIxL K) (tVar 1) (tVar 2)))))
        (dstart ["e", "cells", "cell", "a", "b"] [t.d, cellsD cs]) (.rt (optD (t.val cs))) := by
    intro t n h1 h2 h3
    refine es_seq (es_set (ed_call (ea_cons (ed_var rfl) (ea_cons (ed_var rfl) ea_nil)) ⟨t, cs, rfl, h1, h2, hw, rfl⟩)) ?_
    rw [h3]
    cases hp : t.place cs with
    | none => exact es_ret (ed_yes (eb_isT rfl) ed_non)
    | some k => exact es_ret (ed_no (eb_isF rfl) (ed_ixL (n := k) (ed_var rfl) (ed_var rfl) (cell_at (place_lt h1 hp))))
  cases e with
  | num n => exact es_take (by walk_at "eb") (es_ret (by walk_at "ed"))
  | cell k =>
    refine es_skip (by walk_at "eb") ?_
    exact es_take (by walk_at "eb") (item (n := none) (t := .cell k) ho ht rfl)
  | att f n e =>
    refine es_skip (by walk_at "eb") ?_
    refine es_take (by walk_at "eb") (item (n := none) (t := .att f n e) ho ht ?_)
    simp only [Ex.val, Ex.place]
    cases e.val cs with
    | none => rfl
    | some i =>
      show (if i < n then _ else _) = _
      by_cases hi : i < n
      · rw [if_pos hi]; simp only [if_pos hi]
      · rw [if_neg hi]; simp only [if_neg hi]
  | neg e =>
    have hte : e.ht < h := by
      have : e.ht + 1 < h + 1 := ht
      omega
    refine es_skip (by walk_at "eb") (es_skip (by walk_at "eb") ?_)
    refine es_seq (es_set (ed_call (ea_cons (ed_ix1 (ed_var rfl)) (ea_cons (ed_var rfl) ea_nil)) ⟨e, cs, rfl, ho, hte, hw, rfl⟩)) ?_
    refine es_take (by walk_at "eb") ?_
    simp only [Ex.val]
    cases hv : e.val cs with
    | none => exact es_ret (ed_yes (eb_isT rfl) ed_non)
    | some i =>
      have hi := val_lt (R := fun k => k < cs.length) (e := e) hw ho hv
      refine es_ret (ed_no (eb_isF rfl) ((ed_and (ed_sub ed_int (ed_var rfl)) (ed_sub ed_int ed_int)).eq ?_))
      rw [and16]
      refine congrArg PyData.int ?_
      omega
  | inv e =>
    have hte : e.ht < h := by
      have : e.ht + 1 < h + 1 := ht
      omega
    refine es_skip (by walk_at "eb") (es_skip (by walk_at "eb") ?_)
    refine es_seq (es_set (ed_call (ea_cons (ed_ix1 (ed_var rfl)) (ea_cons (ed_var rfl) ea_nil)) ⟨e, cs, rfl, ho, hte, hw, rfl⟩)) ?_
    refine es_skip (by walk_at "eb") (es_take (by walk_at "eb") ?_)
    simp only [Ex.val]
    cases hv : e.val cs with
    | none => exact es_ret (ed_yes (eb_isT rfl) ed_non)
    | some i =>
      refine es_ret (ed_no (eb_isF rfl) ?_)
      by_cases hi : i = 0
      · subst hi
        exact ed_yes ((eb_cmp (ed_eqI (ed_var rfl) ed_int)).eq rfl) ed_int
      · refine (ed_no ((eb_cmp (ed_eqI (ed_var rfl) ed_int)).eq (decide_eq_false (by omega))) ed_int).eq ?_
        show PyData.int 0 = PyData.int ((if i = 0 then 1 else 0 : Nat) : Int)
        rw [if_neg hi]
        rfl
  | bin o a b =>
    have hta : a.ht < h := by
      have : max a.ht b.ht + 1 < h + 1 := ht
      omega
    have htb : b.ht < h := by
      have : max a.ht b.ht + 1 < h + 1 := ht
      omega
    refine es_skip ((eb_cmp (ed_eqS (ed_ix0 (ed_var rfl)) ed_str)).eq (op_num o)) (es_skip ((eb_cmp (ed_in2 (ed_ix0 (ed_var rfl)))).eq (op_cell o)) ?_)
    refine es_seq (es_set (ed_call (ea_cons (ed_ix1 (ed_var rfl)) (ea_cons (ed_var rfl) ea_nil)) ⟨a, cs, rfl, ho.1, hta, hw, rfl⟩)) ?_
    refine es_skip ((eb_cmp (ed_eqS (ed_ix0 (ed_var rfl)) ed_str)).eq (op_neg o)) (es_skip ((eb_cmp (ed_eqS (ed_ix0 (ed_var rfl)) ed_str)).eq (op_not o)) ?_)
    refine es_seq (es_set (ed_call (ea_cons (ed_ix2 (ed_var rfl)) (ea_cons (ed_var rfl) ea_nil)) ⟨b, cs, rfl, ho.2, htb, hw, rfl⟩)) ?_
    simp only [Ex.val]
    cases hv : a.val cs with
    | none => exact es_ret (ed_yes (eb_orT (eb_isT rfl)) ed_non)
    | some x =>
      cases hv2 : b.val cs with
      | none => exact es_ret (ed_yes (eb_orF (eb_isF rfl) (eb_isT rfl)) ed_non)
      | some y =>
        exact es_ret (ed_no (eb_orF (eb_isF rfl) (eb_isF rfl)) (ed_call (ea_cons (ed_ix0 (ed_var rfl)) (ea_cons (ed_var rfl) (ea_cons (ed_var rfl) ea_nil)))
          ⟨o, x, y, rfl, val_lt (R := fun k => k < cs.length) hw ho.1 hv, val_lt (R := fun k => k < cs.length) hw ho.2 hv2, rfl⟩))
theorem ok_pv (T : Txt K mg tW aF aS) (dp : Def K mg "place" s_place) (dv : Def K mg "value" s_value) (cc : Cal P w K mg base 1 "calculate" ["operator", "a", "b"] (spD K rCalc)) :
    ∀ h : Nat, Cal P w K mg base (2 * h) "value" ["e", "cells"] (spD K (rVal h)) ∧ Cal P w K mg base (2 * h + 1) "place" ["target", "cells"] (spD K (rPlace (h + 1)))
  | 0 => by
    have c0 : Cal P w K mg base 0 "value" ["e", "cells"] (spD K (rVal 0)) := dv.never (spD_no fun ds d ⟨e, cs, _, _, ht, _⟩ => Nat.not_lt_zero _ ht) (fun _ _ _ _ _ _ us hl => match us, hl with | [_, _], _ => rfl)
    exact ⟨c0, ok_place T dp c0⟩
  | h + 1 => by
    obtain ⟨h1, h2⟩ := ok_pv T dp dv cc h
    have h3 : Cal P w K mg base (2 * (h + 1)) "value" ["e", "cells"] (spD K (rVal (h + 1))) := ok_value T dv h1 h2 cc
    exact ⟨h3, ok_place T dp h3⟩
end
end Pa
/-! after_test, after_step, step, received, event, perform -/
namespace Pa
open PySem L2 PyProof.Rows
local macro_rules | `(tactic| walk_at "ed") => `(tactic| first
  | ((with_reducible show ED _ (tVar _) _ _); exact ed_var rfl)
  | ((with_reducible show ED _ (tC _) _ _); first | exact ed_int | exact ed_str | exact ed_non | exact ed_bl | exact ed_tupC T.fF | exact ed_tupC T.fS)
  | ((with_reducible show EA _ tNil _ _); exact ea_nil) | ((with_reducible show EA _ (tCons _ _) _ _); exact ea_cons (by walk_at "ed") (by walk_at "ed"))
  | ((with_reducible show ED _ (tTup _) _ _); exact ed_tup (by walk_at "ed")) | ((with_reducible show ED _ (tLst _) _ _); exact ed_lst (by walk_at "ed"))
  | ((with_reducible show ED _ (tOp (rI0 fun i j => V.int (i + j)) _ _) _ _); exact ed_add (by walk_at "ed") (by walk_at "ed"))
  | ((with_reducible show ED _ (tOp (rI0 fun i j => V.int (i - j)) _ _) _ _); exact ed_sub (by walk_at "ed") (by walk_at "ed"))
  | ((with_reducible show ED _ (tOp (rI0 fun i j => V.int (Builtin.bitAnd i j)) _ _) _ _); exact ed_and (by walk_at "ed") (by walk_at "ed"))
  | ((with_reducible show ED _ (tOp (rIxT _) _ (tC (.int 0))) _ _); exact ed_ix0 (by walk_at "ed")) | ((with_reducible show ED _ (tOp (rIxT _) _ (tC (.int 1))) _ _); exact ed_ix1 (by walk_at "ed"))
  | ((with_reducible show ED _ (tOp (rIxT _) _ (tC (.int 2))) _ _); exact ed_ix2 (by walk_at "ed")) | ((with_reducible show ED _ (tOp (rIxT _) _ (tC (.int 3))) _ _); exact ed_ix3 (by walk_at "ed"))
  | ((with_reducible show ED _ (tSl _ _ tNoPart (tPart _)) _ _); exact ed_take (by walk_at "ed") (by walk_at "ed")) | ((with_reducible show ED _ (tSl _ _ (tPart _) tNoPart) _ _); exact ed_dropI (by walk_at "ed") (by walk_at "ed") rfl)
  | ((with_reducible show ED _ (tOp rEq _ _) _ _); exact ed_eqS (by walk_at "ed") (by walk_at "ed"))
  | ((with_reducible show ED _ (tOp rEq _ _) _ _); exact ed_eqI (by walk_at "ed") (by walk_at "ed"))
  | ((with_reducible show ED _ (tOp (fun x y H Q => y = V.non ∧ Q (V.bl (decide (x = V.non))) H) _ _) _ _); exact ed_isN (by walk_at "ed"))
  | ((with_reducible show ED _ (tOp (rIn _ false) _ _) _ _); exact ed_in2 (by walk_at "ed"))
  | ((with_reducible show ED _ (tCB _ _) _ _); exact ed_len (by walk_at "ed")))
local macro_rules | `(tactic| walk_at "eb") => `(tactic| first
  | ((with_reducible show EB _ (tTest (tOp (rIn _ false) _ _)) _ _); exact (eb_cmp (ed_in2 (by walk_at "ed"))).eq (by decide +kernel))
  | ((with_reducible show EB _ (tTest (tOp rEq _ _)) _ _); exact (eb_cmp (ed_eqS (by walk_at "ed") (by walk_at "ed"))).eq (by decide +kernel)))

section
variable {P : Program} {w : World} {K : PySem.W.Frag} {mg : Str → Option Value} {base : Heap} {tW : Tok} {aF aS : Addr}
abbrev s_after_test : Stmt := topS 23
theorem sc_after_test : FnScope ["s", "stack", "cells", "found"] ["s", "stack", "cells"] (defScope s_after_test) := ⟨rfl, rfl, rfl, by decide +kernel, rfl, by decide +kernel, by decide +kernel⟩
def rAfterTest : List PyData → PyData → Prop := fun ds d => ∃ (s : Sm) (st : List Sm) (cs : List Nat), ds = [s.d, stk st, cellsD cs] ∧ Fit cs.length s ∧ s.isTest = true ∧ (∀ w, w ∈ cs → w < 65536) ∧ st.length ≤ 1000000 ∧ d = (stepCond cs st s).d
theorem ok_after_test (T : Txt K mg tW aF aS) (d : Def K mg "after_test" s_after_test) (c_value : Cal P w K mg base 14 "value" ["e", "cells"] (spD K (rVal 7))) (c_at : Cal P w K mg base 1 "at" ["stack"] (spD K rAt)) :
    Cal P w K mg base 15 "after_test" ["s", "stack", "cells"] (spD K rAfterTest) := by
  refine d.pure sc_after_test (fun ds d ⟨s, st, cs, z, _⟩ => by rw [z]; rfl) (fun _ _ _ _ _ _ us hl => match us, hl with | [_, _, _], _ => rfl) (fun f cdv A outer s H E ds d hr hh => ?_)
  obtain ⟨s, st, cs, rfl, hf, ht, hw, hz, rfl⟩ := hh
  refine ⟨_, 
      (pss_cons (ps_if (PW.pt (pw_and (pt_cmpR op_eq (pe_ix ix_tup (pv 0) pe_int (fun _ _ => rfl)) pe_str (nomark _)) (pw_and1 (pt_cmpR op_eq (pe_ix ix_tup (pv 0) pe_int (fun _ _ => rfl)) pe_int (nomark _)))))
      (pss_one (ps_ret (pe_cal c_at (hr.mono (by decide)) (pa_cons (pv 1) pa_nil)))) pss_nil)
      (pss_cons (ps_set (i := 3) sc_after_test.nd rfl (Or.inl rfl) (pe_cal c_value (hr.mono (by decide)) (pa_cons (pe_ix ix_tup (pv 0) pe_int (fun _ _ => rfl)) (pa_cons (pv 2) pa_nil))))
      (pss_cons (ps_if (pt_cmpR op_isN (pv 3) pe_non (nomark _)) (pss_one (ps_ret (pe_glob (v := .ref _) rfl T.gFAULTED rfl))) pss_nil)
      (pss_cons (ps_if (pt_cmpR op_eq (pe_ix ix_tup (pv 0) pe_int (fun _ _ => rfl)) pe_str (nomark _))
      (pss_one (ps_ret (pe_cal c_at (hr.mono (by decide)) (pa_cons (pe_op op_cat (pe_lst (pa_cons (pe_ifExp (pt_cmpR op_ne (pv 3) pe_int (nomark _)) (pe_ix ix_tup (pv 0) pe_int (fun _ _ => rfl)) (pe_ix ix_tup (pv 0) pe_int (fun _ _ => rfl))) pa_nil)) (pv 1)) pa_nil)))) pss_nil)
      (pss_cons (ps_if (pt_cmpR op_eq (pv 3) pe_int (nomark _)) (pss_one (ps_ret (pe_cal c_at (hr.mono (by decide)) (pa_cons (pv 1) pa_nil)))) pss_nil)
      (pss_one (ps_ret (pe_cal c_at (hr.mono (by decide)) (pa_cons (pe_op op_cat (pe_lst (pa_cons (pe_ix ix_tup (pv 0) pe_int (fun _ _ => rfl)) (pa_cons (pe_tup (pa_cons pe_str (pa_cons (pe_ix ix_tup (pv 0) pe_int (fun _ _ => rfl)) (pa_cons (pe_op op_sub (pe_ix ix_tup (pv 0) pe_int (fun _ _ => rfl)) pe_int) (pa_cons (pe_ix ix_tup (pv 0) pe_int (fun _ _ => rfl)) pa_nil))))) pa_nil))) (pv 1)) pa_nil))))))))), ?_⟩
  cases s with
  | ite e a b =>
    refine es_skip (eb_andF (by walk_at "eb")) ?_
    refine es_seq (es_set (ed_call (ea_cons (ed_ix1 (ed_var rfl)) (ea_cons (ed_var rfl) ea_nil)) ⟨e, cs, rfl, hf.1, Nat.lt_succ_of_le hf.2, hw, rfl⟩)) ?_
    simp only [stepCond]
    cases hv : e.val cs with
    | none => exact es_take (eb_isT rfl) (es_ret (ed_tupC T.fF))
    | some v =>
      refine es_skip (eb_isF rfl) (es_take (by walk_at "eb") (es_ret ?_))
      have one : ED K (tIf (tTest (tOp rNe (tVar 3) (tC (.int 0)))) (tOp (rIxT K) (tVar 0) (tC (.int 2))) (tOp (rIxT K) (tVar 0) (tC (.int 3)))) ((dstart ["s", "stack", "cells", "found"] [(Sm.ite e a b).d, stk st, cellsD cs]).set 3 (some (optD (some v)))) ((if v ≠ 0 then a else b : Sm).d) := by
        by_cases h : v = 0
        · subst h
          exact ed_no ((eb_cmp (ed_neI (ed_var rfl) ed_int)).eq rfl) (ed_ix3 (ed_var rfl))
        · rw [if_pos h]
          refine ed_yes ((eb_cmp (ed_neI (ed_var rfl) ed_int)).eq ?_) (ed_ix2 (ed_var rfl))
          rw [decide_eq_false (show ¬ (v : Int) = 0 by omega)]
          rfl
      exact ed_call (ea_cons (ed_cat (ed_lst (ea_cons one ea_nil)) (ed_var rfl) (by simp; omega)) ea_nil) ⟨(if v ≠ 0 then a else b) :: st, rfl, rfl⟩
  | rep e n s =>
    by_cases hn : n = 0
    · subst hn
      exact es_take (eb_andT (by walk_at "eb") ((eb_cmp (ed_eqI (ed_ix2 (ed_var rfl)) ed_int)).eq rfl)) (es_ret (ed_call (ea_cons (ed_var rfl) ea_nil) ⟨st, rfl, rfl⟩))
    refine es_skip (eb_andT (by walk_at "eb") ((eb_cmp (ed_eqI (ed_ix2 (ed_var rfl)) ed_int)).eq (decide_eq_false (by omega)))) ?_
    refine es_seq (es_set (ed_call (ea_cons (ed_ix1 (ed_var rfl)) (ea_cons (ed_var rfl) ea_nil)) ⟨e, cs, rfl, hf.1, Nat.lt_succ_of_le hf.2, hw, rfl⟩)) ?_
    simp only [stepCond, if_neg hn]
    cases hv : e.val cs with
    | none => exact es_take (eb_isT rfl) (es_ret (ed_tupC T.fF))
    | some v =>
      refine es_skip (eb_isF rfl) (es_skip (by walk_at "eb") ?_)
      by_cases h : v = 0
      · subst h
        exact es_take ((eb_cmp (ed_eqI (ed_var rfl) ed_int)).eq rfl) (es_ret (ed_call (ea_cons (ed_var rfl) ea_nil) ⟨st, rfl, rfl⟩))
      · refine es_skip ((eb_cmp (ed_eqI (ed_var rfl) ed_int)).eq (decide_eq_false (by omega))) (es_ret ?_)
        have en : ((n : Int) - 1) = ((n - 1 : Nat) : Int) := by omega
        refine ed_call (ea_cons (ed_cat (ed_lst (ea_cons (ed_ix3 (ed_var rfl)) (ea_cons (ed_tup (ea_cons ed_str (ea_cons (ed_ix1 (ed_var rfl)) (ea_cons (ed_sub (ed_ix2 (ed_var rfl)) ed_int) (ea_cons (ed_ix3 (ed_var rfl)) ea_nil))))) ea_nil))) (ed_var rfl) (by simp; omega)) ea_nil) ⟨s :: .rep e (n - 1) s :: st, ?_, ?_⟩
        · rw [en]; rfl
        · show (if v = 0 then mkAt st else Cond.run (s :: .rep e (n - 1) s :: st)).d = _
          rw [if_neg h]; rfl
  | _ => cases ht
abbrev s_after_step : Stmt := topS 24
theorem sc_after_step : FnScope ["s", "stack", "cells", "kind", "word", "cell"] ["s", "stack", "cells"] (defScope s_after_step) := ⟨rfl, rfl, rfl, by decide +kernel, rfl, by decide +kernel, by decide +kernel⟩
def rAfterStep : List PyData → PyData → Prop := fun ds d => ∃ (s : Sm) (st : List Sm) (cs : List Nat), ds = [s.d, stk st, cellsD cs] ∧ Fit cs.length s ∧ s.isPlain = true ∧ (∀ w, w ∈ cs → w < 65536) ∧ wkL (s :: st) ≤ 1000000 ∧ d = (stepCond cs st s).d
theorem ok_after_step (T : Txt K mg tW aF aS) (d : Def K mg "after_step" s_after_step) (c_value : Cal P w K mg base 14 "value" ["e", "cells"] (spD K (rVal 7))) (c_place : Cal P w K mg base 13 "place" ["target", "cells"] (spD K (rPlace 7)))
    (c_at : Cal P w K mg base 1 "at" ["stack"] (spD K rAt)) (c_after_test : Cal P w K mg base 15 "after_test" ["s", "stack", "cells"] (spD K rAfterTest)) :
    Cal P w K mg base 16 "after_step" ["s", "stack", "cells"] (spD K rAfterStep) := by
  refine d.pure sc_after_step (fun ds d ⟨s, st, cs, z, _⟩ => by rw [z]; rfl) (fun _ _ _ _ _ _ us hl => match us, hl with | [_, _, _], _ => rfl) (fun f cdv A outer s H E ds d hr hh => ?_)
  obtain ⟨s, st, cs, rfl, hf, ht, hw, hz, rfl⟩ := hh
  have hz1 := len_wkL st
  have hz2 : s.wk + wkL st ≤ 1000000 := hz
  refine ⟨_, 
      (pss_cons (ps_set (i := 3) sc_after_step.nd rfl (Or.inl rfl) (pe_ix ix_tup (pv 0) pe_int (fun _ _ => rfl))) (pss_cons (ps_if (pt_cmpR op_eq (pv 3) pe_str (nomark _))
      (pss_one (ps_ret (pe_cal c_at (hr.mono (by decide)) (pa_cons (pv 1) pa_nil)))) pss_nil) (pss_cons (ps_if (pt_cmpR op_eq (pv 3) pe_str (nomark _))
      (pss_one (ps_ret (pe_glob (v := .ref _) rfl T.gSTOPPED rfl))) pss_nil) (pss_cons (ps_if (pt_cmpR op_eq (pv 3) pe_str (nomark _))
      (pss_cons (ps_set (i := 4) sc_after_step.nd rfl (Or.inl rfl) (pe_cal c_value (hr.mono (by decide)) (pa_cons (pe_ix ix_tup (pv 0) pe_int (fun _ _ => rfl)) (pa_cons (pv 2) pa_nil))))
      (pss_one (ps_ret (pe_ifExp (pt_cmpR op_isN (pv 4) pe_non (nomark _)) (pe_glob (v := .ref _) rfl T.gFAULTED rfl) (pe_tup (pa_cons pe_str (pa_cons (pe_ix ix_tup (pv 0) pe_int (fun _ _ => rfl)) (pa_cons (pv 4) (pa_cons (pv 1) pa_nil))))))))) pss_nil)
      (pss_cons (ps_if (pt_cmpR op_eq (pv 3) pe_str (nomark _))
      (pss_cons (ps_set (i := 5) sc_after_step.nd rfl (Or.inl rfl) (pe_cal c_place (hr.mono (by decide)) (pa_cons (pe_ix ix_tup (pv 0) pe_int (fun _ _ => rfl)) (pa_cons (pv 2) pa_nil))))
      (pss_one (ps_ret (pe_ifExp (pt_cmpR op_isN (pv 5) pe_non (nomark _)) (pe_glob (v := .ref _) rfl T.gFAULTED rfl) (pe_tup (pa_cons pe_str (pa_cons (pe_lst (pa_cons (pe_tup (pa_cons (pe_ix ix_tup (pv 0) pe_int (fun _ _ => rfl)) (pa_cons (pv 5) (pa_cons (pe_lst pa_nil) pa_nil)))) pa_nil)) (pa_cons (pv 1) pa_nil)))))))) pss_nil)
      (pss_cons (ps_if (pt_cmpR op_eq (pv 3) pe_str (nomark _)) (pss_one ps_never) pss_nil) (pss_cons (ps_if (pt_cmpR op_eq (pv 3) pe_str (nomark _))
      (pss_one (ps_ret (pe_cal c_at (hr.mono (by decide)) (pa_cons (pe_op op_cat (pe_ix ix_tup (pv 0) pe_int (fun _ _ => rfl)) (pv 1)) pa_nil)))) pss_nil)
      (pss_one (ps_ret (pe_cal c_after_test (hr.mono (by decide)) (pa_cons (pv 0) (pa_cons (pv 1) (pa_cons (pv 2) pa_nil))))))))))))), ?_⟩
  cases s with
  | skip => exact es_seq (es_set (ed_ix0 (ed_var rfl))) (es_take (by walk_at "eb") (es_ret (ed_call (ea_cons (ed_var rfl) ea_nil) ⟨st, rfl, rfl⟩)))
  | stop => exact es_seq (es_set (ed_ix0 (ed_var rfl))) (es_skip (by walk_at "eb") (es_take (by walk_at "eb") (es_ret (ed_tupC T.fS))))
  | give c e =>
    refine es_seq (es_set (ed_ix0 (ed_var rfl))) (es_skip (by walk_at "eb") (es_skip (by walk_at "eb") (es_take (by walk_at "eb") ?_)))
    refine es_seq (es_set (ed_call (ea_cons (ed_ix2 (ed_var rfl)) (ea_cons (ed_var rfl) ea_nil)) ⟨e, cs, rfl, hf.1, Nat.lt_succ_of_le hf.2, hw, rfl⟩)) ?_
    simp only [stepCond]
    cases hv : e.val cs with
    | none => exact es_ret (ed_yes (eb_isT rfl) (ed_tupC T.fF))
    | some v => exact es_ret (ed_no (eb_isF rfl) (by walk_at "ed"))
  | take c t =>
    refine es_seq (es_set (ed_ix0 (ed_var rfl))) (es_skip (by walk_at "eb") (es_skip (by walk_at "eb") (es_skip (by walk_at "eb") (es_take (by walk_at "eb") ?_))))
    refine es_seq (es_set (ed_call (ea_cons (ed_ix2 (ed_var rfl)) (ea_cons (ed_var rfl) ea_nil)) ⟨t, cs, rfl, hf.1, Nat.lt_succ_of_le hf.2, hw, rfl⟩)) ?_
    simp only [stepCond]
    cases hv : t.place cs with
    | none => exact es_ret (ed_yes (eb_isT rfl) (ed_tupC T.fF))
    | some v => exact es_ret (ed_no (eb_isF rfl) (by walk_at "ed"))
  | seq ss =>
    refine es_seq (es_set (ed_ix0 (ed_var rfl))) (es_skip (by walk_at "eb") (es_skip (by walk_at "eb") (es_skip (by walk_at "eb") (es_skip (by walk_at "eb") (es_skip (by walk_at "eb") (es_take (by walk_at "eb") ?_))))))
    have hz3 := len_wkL ss
    have hz4 : 1 + wkL ss + wkL st ≤ 1000000 := hz2
    have e1 : smsD ss = ss.map Sm.d := smsD_map ss
    refine es_ret (ed_call (ea_cons (ed_cat (ed_ix1 (ed_var rfl)) (ed_var rfl) ?_) ea_nil) ⟨ss ++ st, ?_, rfl⟩)
    · rw [e1, List.length_map, List.length_map]; omega
    · exact congrArg (fun l => [PyData.list l]) (show smsD ss ++ st.map Sm.d = (ss ++ st).map Sm.d by rw [e1, List.map_append])
  | ite e a b =>
    refine es_seq (es_set (ed_ix0 (ed_var rfl))) (es_skip (by walk_at "eb") (es_skip (by walk_at "eb") (es_skip (by walk_at "eb") (es_skip (by walk_at "eb") (es_skip (by walk_at "eb") (es_skip (by walk_at "eb") ?_))))))
    exact es_ret (ed_call (ea_cons (ed_var rfl) (ea_cons (ed_var rfl) (ea_cons (ed_var rfl) ea_nil))) ⟨.ite e a b, st, cs, rfl, hf, rfl, hw, by omega, rfl⟩)
  | rep e n s =>
    refine es_seq (es_set (ed_ix0 (ed_var rfl))) (es_skip (by walk_at "eb") (es_skip (by walk_at "eb") (es_skip (by walk_at "eb") (es_skip (by walk_at "eb") (es_skip (by walk_at "eb") (es_skip (by walk_at "eb") ?_))))))
    exact es_ret (ed_call (ea_cons (ed_var rfl) (ea_cons (ed_var rfl) (ea_cons (ed_var rfl) ea_nil))) ⟨.rep e n s, st, cs, rfl, hf, rfl, hw, by omega, rfl⟩)
  | set t e => cases ht
  | par rows => cases ht
end
end Pa
/-! received, step, event, perform -/
namespace Pa
open PySem L2 PyProof.Rows
local macro_rules | `(tactic| walk_at "ed") => `(tactic| first
  | ((with_reducible show ED _ (tVar _) _ _); exact ed_var rfl)
  | ((with_reducible show ED _ (tC _) _ _); first | exact ed_int | exact ed_str | exact ed_non | exact ed_bl | exact ed_tupC T.fF | exact ed_tupC T.fS)
  | ((with_reducible show EA _ tNil _ _); exact ea_nil) | ((with_reducible show EA _ (tCons _ _) _ _); exact ea_cons (by walk_at "ed") (by walk_at "ed"))
  | ((with_reducible show ED _ (tTup _) _ _); exact ed_tup (by walk_at "ed")) | ((with_reducible show ED _ (tLst _) _ _); exact ed_lst (by walk_at "ed"))
  | ((with_reducible show ED _ (tOp (rI0 fun i j => V.int (i + j)) _ _) _ _); exact ed_add (by walk_at "ed") (by walk_at "ed"))
  | ((with_reducible show ED _ (tOp (rI0 fun i j => V.int (i - j)) _ _) _ _); exact ed_sub (by walk_at "ed") (by walk_at "ed"))
  | ((with_reducible show ED _ (tOp (rI0 fun i j => V.int (Builtin.bitAnd i j)) _ _) _ _); exact ed_and (by walk_at "ed") (by walk_at "ed"))
  | ((with_reducible show ED _ (tOp (rIxT _) _ (tC (.int 0))) _ _); exact ed_ix0 (by walk_at "ed")) | ((with_reducible show ED _ (tOp (rIxT _) _ (tC (.int 1))) _ _); exact ed_ix1 (by walk_at "ed"))
  | ((with_reducible show ED _ (tOp (rIxT _) _ (tC (.int 2))) _ _); exact ed_ix2 (by walk_at "ed")) | ((with_reducible show ED _ (tOp (rIxT _) _ (tC (.int 3))) _ _); exact ed_ix3 (by walk_at "ed"))
  | ((with_reducible show ED _ (tSl _ _ tNoPart (tPart _)) _ _); exact ed_take (by walk_at "ed") (by walk_at "ed")) | ((with_reducible show ED _ (tSl _ _ (tPart _) tNoPart) _ _); exact ed_dropI (by walk_at "ed") (by walk_at "ed") rfl)
  | ((with_reducible show ED _ (tOp rEq _ _) _ _); exact ed_eqS (by walk_at "ed") (by walk_at "ed"))
  | ((with_reducible show ED _ (tOp rEq _ _) _ _); exact ed_eqI (by walk_at "ed") (by walk_at "ed"))
  | ((with_reducible show ED _ (tOp (fun x y H Q => y = V.non ∧ Q (V.bl (decide (x = V.non))) H) _ _) _ _); exact ed_isN (by walk_at "ed"))
  | ((with_reducible show ED _ (tOp (rIn _ false) _ _) _ _); exact ed_in2 (by walk_at "ed"))
  | ((with_reducible show ED _ (tCB _ _) _ _); exact ed_len (by walk_at "ed")))
local macro_rules | `(tactic| walk_at "eb") => `(tactic| first
  | ((with_reducible show EB _ (tTest (tOp (rIn _ false) _ _)) _ _); exact (eb_cmp (ed_in2 (by walk_at "ed"))).eq (by decide +kernel))
  | ((with_reducible show EB _ (tTest (tOp rEq _ _)) _ _); exact (eb_cmp (ed_eqS (by walk_at "ed") (by walk_at "ed"))).eq (by decide +kernel)))

section
variable {P : Program} {w : World} {K : PySem.W.Frag} {mg : Str → Option Value} {base : Heap} {tW : Tok} {aF aS : Addr}
abbrev s_received : Stmt := topS 28
theorem sc_received : FnScope ["state", "channel", "thread", "word", "_", "rows", "stack", "row", "cell", "ahead"] ["state", "channel", "thread", "word"] (defScope s_received) := ⟨rfl, rfl, rfl, by decide +kernel, rfl, by decide +kernel, by decide +kernel⟩
def rReceived : List PyData → PyData → Prop := fun ds d => ∃ (σ : State) (c t w k : Nat) (st : List Sm), ds = [σ.d, dn c, dn t, dn w] ∧ σ.th[t]? = some (.opn c k st) ∧ k < σ.cells.length ∧ σ.cells.length ≤ 1000000 ∧ σ.th.length ≤ 1000000 ∧ st.length ≤ 1000000 ∧
  d = .tuple [cellsD (σ.cells.set k w), condsD (σ.th.set t (mkAt st))]
theorem map_set_d {α β : Type} (f : α → β) (l : List α) (i : Nat) (x : α) : (l.set i x).map f = (l.map f).set i (f x) := List.map_set
theorem ok_received (d : Def K mg "received" s_received) (c_at : Cal P w K mg base 1 "at" ["stack"] (spD K rAt)) (c_with_cell : Cal P w K mg base 1 "with_cell" ["cells", "cell", "word"] (spD K rWithItem)) (c_with_item : Cal P w K mg base 1 "with_item" ["rows", "index", "item"] (spD K rWithItem)) :
    Cal P w K mg base 2 "received" ["state", "channel", "thread", "word"] (spD K rReceived) := by
  refine d.pure sc_received (fun ds d ⟨σ, c, t, w, k, st, z, _⟩ => by rw [z]; rfl) (fun _ _ _ _ _ _ us hl => match us, hl with | [_, _, _, _], _ => rfl) (fun f cdv A outer s H E ds d hr hh => ?_)
  obtain ⟨σ, c, t, w, k, st, rfl, hth, hk, hz1, hz2, hz3, rfl⟩ := hh
  have ht : t < σ.th.length := (List.getElem?_eq_some_iff.mp hth).1
  refine ⟨_, 
      (pss_cons (ps_asg (pe_ix ix_list (pe_ix ix_tup (pv 0) pe_int (fun _ _ => rfl)) (pv 2) (fun _ _ => rfl)) (pg_tup rfl (pgs_cons (pg_name (i := 4) sc_received.nd rfl (Or.inl rfl)) (pgs_cons (pg_name (i := 5) sc_received.nd rfl (Or.inl rfl)) (pgs_cons (pg_name (i := 6) sc_received.nd rfl (Or.inl rfl)) pgs_nil)))))
      (pss_cons (ps_asg (pe_ix ix_list (pe_lc (own := [("row", 7)]) (g := gName 7) (tt := (tTest (tOp rEq (tOp (rIxT K) (tVar 7) (tC (.int 0))) (tVar 1)))) rfl sc_received.nd (pi_list (pv 5)) (blkOk_by (own := [("row", 7)]) (N := ["state", "channel", "thread", "word", "_", "rows", "stack", "row", "cell", "ahead"]) (sc := defScope s_received) (by decide +kernel)) (fun _ _ _ _ _ => (pg_name (i := 7) sc_received.nd rfl (Or.inl rfl))) (fun _ _ _ _ _ => pts_one (pt_cmpR op_eq (pe_ix ix_tup (pv 7) pe_int (fun _ _ => rfl)) (pv 1) (nomark _))) (fun _ _ _ _ _ => (pv 7))) pe_int (fun _ _ => rfl)) (pg_tup rfl (pgs_cons (pg_name (i := 4) sc_received.nd rfl (Or.inl rfl)) (pgs_cons (pg_name (i := 8) sc_received.nd rfl (Or.inl rfl)) (pgs_cons (pg_name (i := 9) sc_received.nd rfl (Or.inl rfl)) pgs_nil)))))
      (pss_one (ps_ret (pe_tup (pa_cons (pe_cal c_with_cell (hr.mono (by decide)) (pa_cons (pe_ix ix_tup (pv 0) pe_int (fun _ _ => rfl)) (pa_cons (pv 8) (pa_cons (pv 3) pa_nil)))) (pa_cons (pe_cal c_with_item (hr.mono (by decide)) (pa_cons (pe_ix ix_tup (pv 0) pe_int (fun _ _ => rfl)) (pa_cons (pv 2) (pa_cons (pe_cal c_at (hr.mono (by decide)) (pa_cons (pe_op op_cat (pv 9) (pv 6)) pa_nil)) pa_nil)))) pa_nil))))))), ?_⟩
  refine es_seq (es_unp (ws := [4, 5, 6]) (ed_ixL (n := t) (ed_ix1 (ed_var rfl)) (ed_var rfl) (conds_at hth)) (et_cons (et_cons (et_cons et_nil))) rfl) ?_
  refine es_seq (es_unp (ws := [4, 8, 9]) (ed_ixL (n := 0) (ed_lcIf (ws := [7]) (fun _ => true) id (ed_var rfl) (by exact Nat.le_of_ble_eq_true rfl) fun x hx => ?_) ed_int rfl) (et_cons (et_cons (et_cons et_nil))) rfl) ?_
  · rw [List.mem_singleton.mp hx]
    exact ⟨_, eg_name, (eb_cmp (ed_eqI (ed_ix0 (ed_var rfl)) (ed_var rfl))).eq (decide_eq_true rfl), fun _ => ed_var rfl⟩
  refine es_ret ((ed_tup (ea_cons (ed_call (ea_cons (ed_ix0 (ed_var rfl)) (ea_cons (ed_var rfl) (ea_cons (ed_var rfl) ea_nil))) ⟨σ.cells.map dn, k, dn w, rfl, by rw [List.length_map]; exact hk, by rw [List.length_map]; exact hz1, rfl⟩)
    (ea_cons (ed_call (ea_cons (ed_ix1 (ed_var rfl)) (ea_cons (ed_var rfl) (ea_cons (ed_call (ea_cons (ed_cat (ed_var rfl) (ed_var rfl) ?_) ea_nil) ⟨st, rfl, rfl⟩) ea_nil))) ⟨σ.th.map Cond.d, t, (mkAt st).d, rfl, by rw [List.length_map]; exact ht, by rw [List.length_map]; exact hz2, rfl⟩) ea_nil))).eq ?_)
  · show 0 + (st.map Sm.d).length ≤ 16000000
    rw [List.length_map]; omega
  · show PyData.tuple [.list ((σ.cells.map dn).set k (dn w)), .list ((σ.th.map Cond.d).set t (mkAt st).d)] = .tuple [.list ((σ.cells.set k w).map dn), .list ((σ.th.set t (mkAt st)).map Cond.d)]
    rw [map_set_d, map_set_d]
abbrev s_step : Stmt := topS 27
theorem sc_step : FnScope ["state", "thread", "cells", "threads", "taken", "outputs", "stack", "s", "rest", "word", "cell", "other", "_", "statement"] ["state", "thread"] (defScope s_step) := ⟨rfl, rfl, rfl, by decide +kernel, rfl, by decide +kernel, by decide +kernel⟩
def rStep : List PyData → PyData → Prop := fun ds d => ∃ (σ : State) (t : Nat) (s : Sm) (rest : List Sm), ds = [σ.d, dn t] ∧ σ.th[t]? = some (.run (s :: rest)) ∧ Fit σ.cells.length s ∧ (∀ w, w ∈ σ.cells → w < 65536) ∧ wkL (s :: rest) ≤ 1000000 ∧ σ.th.length ≤ 1000000 ∧ σ.cells.length ≤ 1000000 ∧
  (∀ rows, s = .par rows → ∀ r, r ∈ rows → r.1 < σ.th.length) ∧ d = ((stepEff σ.cells t rest s).app σ).d
theorem fst_rows (rows : List (Nat × Sm)) : (rowsD rows).map (fun x => match x with | .tuple (a :: _) => a | _ => PyData.none) = (rows.map (·.1)).map dn := by
  rw [rowsD_map, List.map_map, List.map_map]
  rfl
theorem ok_step (T : Txt K mg tW aF aS) (d : Def K mg "step" s_step) (c_value : Cal P w K mg base 14 "value" ["e", "cells"] (spD K (rVal 7))) (c_place : Cal P w K mg base 13 "place" ["target", "cells"] (spD K (rPlace 7)))
    (c_at : Cal P w K mg base 1 "at" ["stack"] (spD K rAt)) (c_with_cell : Cal P w K mg base 1 "with_cell" ["cells", "cell", "word"] (spD K rWithItem)) (c_with_item : Cal P w K mg base 1 "with_item" ["rows", "index", "item"] (spD K rWithItem))
    (c_after_step : Cal P w K mg base 16 "after_step" ["s", "stack", "cells"] (spD K rAfterStep)) : Cal P w K mg base 17 "step" ["state", "thread"] (spD K rStep) := by
  refine d.pure sc_step (fun ds d ⟨σ, t, s, rest, z, _⟩ => by rw [z]; rfl) (fun _ _ _ _ _ _ us hl => match us, hl with | [_, _], _ => rfl) (fun f cdv A outer s H E ds d hr hh => ?_)
  obtain ⟨σ, t, s, rest, rfl, hth, hf, hw, hz, hz1, hz2, hrows, rfl⟩ := hh
  have ht : t < σ.th.length := (List.getElem?_eq_some_iff.mp hth).1
  have hzr : rest.length ≤ 1000000 := by
    have a := len_wkL rest
    have b : s.wk + wkL rest ≤ 1000000 := hz
    omega
  refine ⟨_, 
      (pss_cons (ps_asg (pv 0) (pg_tup rfl (pgs_cons (pg_name (i := 2) sc_step.nd rfl (Or.inl rfl)) (pgs_cons (pg_name (i := 3) sc_step.nd rfl (Or.inl rfl)) (pgs_cons (pg_name (i := 4) sc_step.nd rfl (Or.inl rfl)) (pgs_cons (pg_name (i := 5) sc_step.nd rfl (Or.inl rfl)) pgs_nil))))))
      (pss_cons (ps_set (i := 6) sc_step.nd rfl (Or.inl rfl) (pe_ix ix_tup (pe_ix ix_list (pv 3) (pv 1) (fun _ _ => rfl)) pe_int (fun _ _ => rfl)))
      (pss_cons (ps_par (i := 7) (j := 8) (by rfl) sc_step.nd rfl rfl (by decide) rfl rfl (pa_cons (pe_ix ix_list (pv 6) pe_int (fun _ _ => rfl)) (pa_cons (pe_slice sl_list (pv 6) (po_some pe_int) po_none) pa_nil)) (by rfl))
      (pss_cons (ps_if (pt_cmpR op_eq (pe_ix ix_tup (pv 7) pe_int (fun _ _ => rfl)) pe_str (nomark _))
      (pss_cons (ps_set (i := 9) sc_step.nd rfl (Or.inl rfl) (pe_cal c_value (hr.mono (by decide)) (pa_cons (pe_ix ix_tup (pv 7) pe_int (fun _ _ => rfl)) (pa_cons (pv 2) pa_nil))))
      (pss_cons (ps_set (i := 10) sc_step.nd rfl (Or.inl rfl) (pe_cal c_place (hr.mono (by decide)) (pa_cons (pe_ix ix_tup (pv 7) pe_int (fun _ _ => rfl)) (pa_cons (pv 2) pa_nil))))
      (pss_cons (ps_if (PW.pt (pw_or (pt_cmpR op_isN (pv 9) pe_non (nomark _)) (pw_or1 (pt_cmpR op_isN (pv 10) pe_non (nomark _)))))
      (pss_one (ps_ret (pe_tup (pa_cons (pv 2) (pa_cons (pe_cal c_with_item (hr.mono (by decide)) (pa_cons (pv 3) (pa_cons (pv 1) (pa_cons (pe_glob (v := .ref _) rfl T.gFAULTED rfl) pa_nil)))) (pa_cons (pv 4) (pa_cons (pv 5) pa_nil))))))) pss_nil)
      (pss_one (ps_ret (pe_tup (pa_cons (pe_cal c_with_cell (hr.mono (by decide)) (pa_cons (pv 2) (pa_cons (pv 10) (pa_cons (pv 9) pa_nil)))) (pa_cons (pe_cal c_with_item (hr.mono (by decide)) (pa_cons (pv 3) (pa_cons (pv 1) (pa_cons (pe_cal c_at (hr.mono (by decide)) (pa_cons (pv 8) pa_nil)) pa_nil)))) (pa_cons (pv 4) (pa_cons (pv 5) pa_nil)))))))))) pss_nil)
      (pss_cons (ps_if (pt_cmpR op_eq (pe_ix ix_tup (pv 7) pe_int (fun _ _ => rfl)) pe_str (nomark _))
      (pss_cons (ps_set (i := 3) sc_step.nd rfl (Or.inl rfl) (pe_cal c_with_item (hr.mono (by decide)) (pa_cons (pv 3) (pa_cons (pv 1) (pa_cons (pe_tup (pa_cons pe_str (pa_cons (pe_lc (own := [("other", 11), ("_", 12)]) (g := gTup K 2 (gCons (gName 11) (gCons (gName 12) gNil))) (tt := tYes) rfl sc_step.nd (pi_list (pe_ix ix_tup (pv 7) pe_int (fun _ _ => rfl))) (blkOk_by (own := [("other", 11), ("_", 12)]) (N := ["state", "thread", "cells", "threads", "taken", "outputs", "stack", "s", "rest", "word", "cell", "other", "_", "statement"]) (sc := defScope s_step) (by decide +kernel)) (fun _ _ _ _ _ => (pg_tup rfl (pgs_cons (pg_name (i := 11) sc_step.nd rfl (Or.inl rfl)) (pgs_cons (pg_name (i := 12) sc_step.nd rfl (Or.inl rfl)) pgs_nil)))) (fun _ _ _ _ _ => pts_nil) (fun _ _ _ _ _ => (pv 11))) (pa_cons (pv 8) pa_nil)))) pa_nil)))))
      (pss_cons (ps_for PassesOwn.never rfl (pi_list (pe_ix ix_tup (pv 7) pe_int (fun _ _ => rfl))) (pg_tup rfl (pgs_cons (pg_name (i := 11) sc_step.nd rfl (Or.inl rfl)) (pgs_cons (pg_name (i := 13) sc_step.nd rfl (Or.inl rfl)) pgs_nil)))
      (pss_one (ps_set (i := 3) sc_step.nd rfl (Or.inl rfl) (pe_cal c_with_item (hr.mono (by decide)) (pa_cons (pv 3) (pa_cons (pv 11) (pa_cons (pe_cal c_at (hr.mono (by decide)) (pa_cons (pe_lst (pa_cons (pv 13) pa_nil)) pa_nil)) pa_nil)))))))
      (pss_one (ps_ret (pe_tup (pa_cons (pv 2) (pa_cons (pv 3) (pa_cons (pv 4) (pa_cons (pv 5) pa_nil))))))))) pss_nil)
      (pss_one (ps_ret (pe_tup (pa_cons (pv 2) (pa_cons (pe_cal c_with_item (hr.mono (by decide)) (pa_cons (pv 3) (pa_cons (pv 1) (pa_cons (pe_cal c_after_step (hr.mono (by decide)) (pa_cons (pv 7) (pa_cons (pv 8) (pa_cons (pv 2) pa_nil)))) pa_nil)))) (pa_cons (pv 4) (pa_cons (pv 5) pa_nil)))))))))))), ?_⟩
  refine es_seq (es_unp (ws := [2, 3, 4, 5]) (ed_var rfl) (et_cons (et_cons (et_cons (et_cons et_nil)))) rfl) ?_
  refine es_seq (es_set (ed_ix1 (ed_ixL (n := t) (ed_var rfl) (ed_var rfl) (conds_at hth)))) ?_
  refine es_seq (es_par (ea_cons (ed_ixL (n := 0) (ed_var rfl) ed_int rfl) (ea_cons (ed_drop1 (ed_var rfl)) ea_nil))) ?_
  show ES K _ [some σ.d, some (dn t), some (cellsD σ.cells), some (condsD σ.th), some (dns σ.taken), some (outsD σ.outs), some (stk (s :: rest)), some s.d, some (stk rest), none, none, none, none, none] _
  -- an item put into the threads
  have put : ∀ {e : DE} {te : TE} (c : Cond), e[1]? = some (some (dn t)) → e[3]? = some (some (condsD σ.th)) → ED K te e c.d → ED K (tCall (spD K rWithItem) [] E0 (tCons (tVar 3) (tCons (tVar 1) (tCons te tNil)))) e (condsD (σ.th.set t c)) := fun {e te} c h1 h3 h =>
    (ed_call (ea_cons (ed_var h3) (ea_cons (ed_var h1) (ea_cons h ea_nil))) ⟨σ.th.map Cond.d, t, c.d, rfl, by rw [List.length_map]; exact ht, by rw [List.length_map]; exact hz1, rfl⟩).eq (by show PyData.list _ = PyData.list _; rw [map_set_d])
  cases s with
  | set tg e =>
    refine es_take (by walk_at "eb") ?_
    refine es_seq (es_set (ed_call (ea_cons (ed_ix2 (ed_var rfl)) (ea_cons (ed_var rfl) ea_nil)) ⟨e, σ.cells, rfl, hf.2.1, Nat.lt_succ_of_le hf.2.2, hw, rfl⟩)) ?_
    refine es_seq (es_set (ed_call (ea_cons (ed_ix1 (ed_var rfl)) (ea_cons (ed_var rfl) ea_nil)) ⟨tg, σ.cells, rfl, hf.1.1, Nat.lt_succ_of_le hf.1.2, hw, rfl⟩)) ?_
    simp only [stepEff]
    cases hv : e.val σ.cells with
    | none => exact es_take (eb_orT (eb_isT rfl)) (es_ret (ed_tup (ea_cons (ed_var rfl) (ea_cons (put .faulted rfl rfl (ed_tupC T.fF)) (ea_cons (ed_var rfl) (ea_cons (ed_var rfl) ea_nil))))))
    | some w =>
      cases hp : tg.place σ.cells with
      | none => exact es_take (eb_orF (eb_isF rfl) (eb_isT rfl)) (es_ret (ed_tup (ea_cons (ed_var rfl) (ea_cons (put .faulted rfl rfl (ed_tupC T.fF)) (ea_cons (ed_var rfl) (ea_cons (ed_var rfl) ea_nil))))))
      | some k =>
        have hk : k < σ.cells.length := place_lt hf.1.1 hp
        refine es_skip (eb_orF (eb_isF rfl) (eb_isF rfl)) (es_ret ((ed_tup (ea_cons (ed_call (ea_cons (ed_var rfl) (ea_cons (ed_var rfl) (ea_cons (ed_var rfl) ea_nil))) ⟨σ.cells.map dn, k, dn w, rfl, by rw [List.length_map]; exact hk, by rw [List.length_map]; exact hz2, rfl⟩)
          (ea_cons (put (mkAt rest) rfl rfl (ed_call (ea_cons (ed_var rfl) ea_nil) ⟨rest, rfl, rfl⟩)) (ea_cons (ed_var rfl) (ea_cons (ed_var rfl) ea_nil))))).eq ?_))
        show PyData.tuple [.list ((σ.cells.map dn).set k (dn w)), _, _, _] = PyData.tuple [.list ((σ.cells.set k w).map dn), _, _, _]
        rw [map_set_d]
        rfl
  | par rows =>
    refine es_skip (by walk_at "eb") (es_take (by walk_at "eb") ?_)
    have hzw : 2 + wkR rows + wkL rest ≤ 1000000 := hz
    have hzr2 := len_wkR rows
    have hlen : (rowsD rows).length = rows.length := by rw [rowsD_map, List.length_map]
    refine es_seq (es_set (put (.join (rows.map (·.1)) rest) rfl rfl (ed_tup (ea_cons ed_str (ea_cons ((ed_lc (ws := [11, 12]) (fun x => match x with | .tuple (a :: _) => a | _ => PyData.none) (ed_ix1 (ed_var rfl)) (by rw [hlen]; omega) fun x hx => ?_).eq (congrArg PyData.list (fst_rows rows))) (ea_cons (ed_var rfl) ea_nil)))))) ?_
    · rw [rowsD_map] at hx
      obtain ⟨⟨k, s⟩, _, rfl⟩ := List.mem_map.mp hx
      exact ⟨_, eg_tup (et_cons (et_cons et_nil)) rfl, ed_var rfl⟩
    refine es_seq (es_for (ws := [11, 13]) (ds := rowsD rows) (fun i => [some σ.d, some (dn t), some (cellsD σ.cells), some (condsD (sets (σ.th.set t (.join (rows.map (·.1)) rest)) ((rows.take i).map fun r => (r.1, Cond.run [r.2])))), some (dns σ.taken), some (outsD σ.outs), some (stk (.par rows :: rest)), some (Sm.par rows).d, some (stk rest), none, none, none, none, none]) (ed_ix1 (ed_var rfl)) rfl fun i x hx => ?_) ?_
    · rw [rowsD_map, List.getElem?_map] at hx
      cases hrow : rows[i]? with
      | none => rw [hrow] at hx; cases hx
      | some r =>
        rw [hrow] at hx
        have z := Option.some.inj hx
        subst z
        have hk : r.1 < (sets (σ.th.set t (.join (rows.map (·.1)) rest)) ((rows.take i).map fun r => (r.1, Cond.run [r.2]))).length := by
          rw [sets_length, List.length_set]
          exact hrows rows rfl r (List.mem_of_getElem? hrow)
        refine ⟨_, eg_tup (et_cons (et_cons et_nil)) rfl, ES.forg (es_set ((ed_call (ea_cons (ed_var rfl) (ea_cons (ed_var rfl) (ea_cons (ed_call (ea_cons (ed_lst (ea_cons (ed_var rfl) ea_nil)) ea_nil) ⟨[r.2], rfl, rfl⟩) ea_nil)))
          ⟨_, r.1, (Cond.run [r.2]).d, rfl, by rw [List.length_map]; exact hk, by rw [List.length_map, sets_length, List.length_set]; exact hz1, rfl⟩).eq (d1 := condsD (sets (σ.th.set t (.join (rows.map (·.1)) rest)) ((rows.take (i + 1)).map fun r => (r.1, Cond.run [r.2])))) ?_)) ?_⟩
        · rw [List.take_add_one, hrow, List.map_append]
          show PyData.list _ = PyData.list _
          have e := sets_snoc (σ.th.set t (.join (rows.map (·.1)) rest)) ((rows.take i).map fun r => (r.1, Cond.run [r.2])) (r.1, Cond.run [r.2])
          show PyData.list _ = PyData.list ((sets (σ.th.set t (.join (rows.map (·.1)) rest)) ((rows.take i).map (fun r => (r.1, Cond.run [r.2])) ++ [(r.1, Cond.run [r.2])])).map Cond.d)
          rw [e, map_set_d]
        · exact .keep (.keep (.keep (.keep (.keep (.keep (.keep (.keep (.keep (.keep (.keep (.drop (.keep (.drop .nil)))))))))))))
    · rw [hlen]
      refine es_ret ((ed_tup (ea_cons (ed_var rfl) (ea_cons (ed_var rfl) (ea_cons (ed_var rfl) (ea_cons (ed_var rfl) ea_nil))))).eq ?_)
      rw [List.take_length]
      rfl
  | skip =>
    refine es_skip (by walk_at "eb") (es_skip (by walk_at "eb") ?_)
    exact es_ret (ed_tup (ea_cons (ed_var rfl) (ea_cons (put (stepCond σ.cells rest .skip) rfl rfl (ed_call (ea_cons (ed_var rfl) (ea_cons (ed_var rfl) (ea_cons (ed_var rfl) ea_nil))) ⟨.skip, rest, σ.cells, rfl, hf, rfl, hw, hz, rfl⟩)) (ea_cons (ed_var rfl) (ea_cons (ed_var rfl) ea_nil)))))
  | stop =>
    refine es_skip (by walk_at "eb") (es_skip (by walk_at "eb") ?_)
    exact es_ret (ed_tup (ea_cons (ed_var rfl) (ea_cons (put (stepCond σ.cells rest .stop) rfl rfl (ed_call (ea_cons (ed_var rfl) (ea_cons (ed_var rfl) (ea_cons (ed_var rfl) ea_nil))) ⟨.stop, rest, σ.cells, rfl, hf, rfl, hw, hz, rfl⟩)) (ea_cons (ed_var rfl) (ea_cons (ed_var rfl) ea_nil)))))
  | give c e =>
    refine es_skip (by walk_at "eb") (es_skip (by walk_at "eb") ?_)
    exact es_ret (ed_tup (ea_cons (ed_var rfl) (ea_cons (put (stepCond σ.cells rest (.give c e)) rfl rfl (ed_call (ea_cons (ed_var rfl) (ea_cons (ed_var rfl) (ea_cons (ed_var rfl) ea_nil))) ⟨(.give c e), rest, σ.cells, rfl, hf, rfl, hw, hz, rfl⟩)) (ea_cons (ed_var rfl) (ea_cons (ed_var rfl) ea_nil)))))
  | take c tg =>
    refine es_skip (by walk_at "eb") (es_skip (by walk_at "eb") ?_)
    exact es_ret (ed_tup (ea_cons (ed_var rfl) (ea_cons (put (stepCond σ.cells rest (.take c tg)) rfl rfl (ed_call (ea_cons (ed_var rfl) (ea_cons (ed_var rfl) (ea_cons (ed_var rfl) ea_nil))) ⟨(.take c tg), rest, σ.cells, rfl, hf, rfl, hw, hz, rfl⟩)) (ea_cons (ed_var rfl) (ea_cons (ed_var rfl) ea_nil)))))
  | seq ss =>
    refine es_skip (by walk_at "eb") (es_skip (by walk_at "eb") ?_)
    exact es_ret (ed_tup (ea_cons (ed_var rfl) (ea_cons (put (stepCond σ.cells rest (.seq ss)) rfl rfl (ed_call (ea_cons (ed_var rfl) (ea_cons (ed_var rfl) (ea_cons (ed_var rfl) ea_nil))) ⟨(.seq ss), rest, σ.cells, rfl, hf, rfl, hw, hz, rfl⟩)) (ea_cons (ed_var rfl) (ea_cons (ed_var rfl) ea_nil)))))
  | ite e a b =>
    refine es_skip (by walk_at "eb") (es_skip (by walk_at "eb") ?_)
    exact es_ret (ed_tup (ea_cons (ed_var rfl) (ea_cons (put (stepCond σ.cells rest (.ite e a b)) rfl rfl (ed_call (ea_cons (ed_var rfl) (ea_cons (ed_var rfl) (ea_cons (ed_var rfl) ea_nil))) ⟨(.ite e a b), rest, σ.cells, rfl, hf, rfl, hw, hz, rfl⟩)) (ea_cons (ed_var rfl) (ea_cons (ed_var rfl) ea_nil)))))
  | rep e n s =>
    refine es_skip (by walk_at "eb") (es_skip (by walk_at "eb") ?_)
    exact es_ret (ed_tup (ea_cons (ed_var rfl) (ea_cons (put (stepCond σ.cells rest (.rep e n s)) rfl rfl (ed_call (ea_cons (ed_var rfl) (ea_cons (ed_var rfl) (ea_cons (ed_var rfl) ea_nil))) ⟨(.rep e n s), rest, σ.cells, rfl, hf, rfl, hw, hz, rfl⟩)) (ea_cons (ed_var rfl) (ea_cons (ed_var rfl) ea_nil)))))
end
end Pa
/-! event, perform -/
namespace Pa
open PySem L2 PyProof.Rows
local macro_rules | `(tactic| walk_at "ed") => `(tactic| first
  | ((with_reducible show ED _ (tVar _) _ _); exact ed_var rfl)
  | ((with_reducible show ED _ (tC _) _ _); first | exact ed_int | exact ed_str | exact ed_non | exact ed_bl | exact ed_tupC T.fF | exact ed_tupC T.fS)
  | ((with_reducible show EA _ tNil _ _); exact ea_nil) | ((with_reducible show EA _ (tCons _ _) _ _); exact ea_cons (by walk_at "ed") (by walk_at "ed"))
  | ((with_reducible show ED _ (tTup _) _ _); exact ed_tup (by walk_at "ed")) | ((with_reducible show ED _ (tLst _) _ _); exact ed_lst (by walk_at "ed"))
  | ((with_reducible show ED _ (tOp (rI0 fun i j => V.int (i + j)) _ _) _ _); exact ed_add (by walk_at "ed") (by walk_at "ed"))
  | ((with_reducible show ED _ (tOp (rI0 fun i j => V.int (i - j)) _ _) _ _); exact ed_sub (by walk_at "ed") (by walk_at "ed"))
  | ((with_reducible show ED _ (tOp (rI0 fun i j => V.int (Builtin.bitAnd i j)) _ _) _ _); exact ed_and (by walk_at "ed") (by walk_at "ed"))
  | ((with_reducible show ED _ (tOp (rIxT _) _ (tC (.int 0))) _ _); exact ed_ix0 (by walk_at "ed")) | ((with_reducible show ED _ (tOp (rIxT _) _ (tC (.int 1))) _ _); exact ed_ix1 (by walk_at "ed"))
  | ((with_reducible show ED _ (tOp (rIxT _) _ (tC (.int 2))) _ _); exact ed_ix2 (by walk_at "ed")) | ((with_reducible show ED _ (tOp (rIxT _) _ (tC (.int 3))) _ _); exact ed_ix3 (by walk_at "ed"))
  | ((with_reducible show ED _ (tSl _ _ tNoPart (tPart _)) _ _); exact ed_take (by walk_at "ed") (by walk_at "ed")) | ((with_reducible show ED _ (tSl _ _ (tPart _) tNoPart) _ _); exact ed_dropI (by walk_at "ed") (by walk_at "ed") rfl)
  | ((with_reducible show ED _ (tOp rEq _ _) _ _); exact ed_eqS (by walk_at "ed") (by walk_at "ed"))
  | ((with_reducible show ED _ (tOp rEq _ _) _ _); exact ed_eqI (by walk_at "ed") (by walk_at "ed"))
  | ((with_reducible show ED _ (tOp (fun x y H Q => y = V.non ∧ Q (V.bl (decide (x = V.non))) H) _ _) _ _); exact ed_isN (by walk_at "ed"))
  | ((with_reducible show ED _ (tOp (rIn _ false) _ _) _ _); exact ed_in2 (by walk_at "ed"))
  | ((with_reducible show ED _ (tCB _ _) _ _); exact ed_len (by walk_at "ed")))
local macro_rules | `(tactic| walk_at "eb") => `(tactic| first
  | ((with_reducible show EB _ (tTest (tOp (rIn _ false) _ _)) _ _); exact (eb_cmp (ed_in2 (by walk_at "ed"))).eq (by decide +kernel))
  | ((with_reducible show EB _ (tTest (tOp rEq _ _)) _ _); exact (eb_cmp (ed_eqS (by walk_at "ed") (by walk_at "ed"))).eq (by decide +kernel)))

section
variable {P : Program} {w : World} {K : PySem.W.Frag} {mg : Str → Option Value} {base : Heap} {tW : Tok} {aF aS : Addr}
abbrev s_event : Stmt := topS 30
theorem sc_event : FnScope ["core", "inputs", "state", "redex"] ["core", "inputs", "state", "redex"] (defScope s_event) := ⟨rfl, rfl, rfl, by decide +kernel, rfl, by decide +kernel, by decide +kernel⟩
def rEvent : List PyData → PyData → Prop := fun ds d => ∃ (g : Cfg) (m nc : Nat) (body : Sm) (σ : State) (r : Rx), ds = [coreD g m nc body, inpD g.inp, σ.d, r.d] ∧ En g σ r ∧ Sz g σ ∧ d = evO (event g σ r)
theorem ok_event (d : Def K mg "event" s_event) : Cal P w K mg base 1 "event" ["core", "inputs", "state", "redex"] (spD K rEvent) := by
  refine d.pure sc_event (fun ds d ⟨g, m, nc, body, σ, r, z, _⟩ => by rw [z]; rfl) (fun _ _ _ _ _ _ us hl => match us, hl with | [_, _, _, _], _ => rfl) (fun f cdv A outer s H E ds d hr hh => ?_)
  obtain ⟨g, m, nc, body, σ, r, rfl, he, hz, rfl⟩ := hh
  refine ⟨_, 
      (pss_cons (ps_if (pt_cmpR op_eq (pe_ix ix_tup (pv 3) pe_int (fun _ _ => rfl)) pe_str (nomark _))
      (pss_one (ps_ret (pe_tup (pa_cons (pe_ix ix_tup (pv 3) pe_int (fun _ _ => rfl)) (pa_cons (pe_ix ix_list (pe_ix ix_list (pv 1) (pe_ix ix_tup (pv 3) pe_int (fun _ _ => rfl)) (fun _ _ => rfl)) (pe_ix ix_list (pe_ix ix_tup (pv 2) pe_int (fun _ _ => rfl)) (pe_ix ix_tup (pv 3) pe_int (fun _ _ => rfl)) (fun _ _ => rfl)) (fun _ _ => rfl)) pa_nil))))) pss_nil)
      (pss_cons (ps_if (pt_cmpR op_in_seq (pe_ix ix_tup (pv 3) pe_int (fun _ _ => rfl)) (pe_tup (pa_cons pe_str (pa_cons pe_str pa_nil))) (by rfl))
      (pss_one (ps_ret (pe_tup (pa_cons (pe_ix ix_tup (pv 3) pe_int (fun _ _ => rfl)) (pa_cons (pe_ix ix_tup (pe_ix ix_list (pe_ix ix_tup (pv 2) pe_int (fun _ _ => rfl)) (pe_ix ix_tup (pv 3) pe_int (fun _ _ => rfl)) (fun _ _ => rfl)) pe_int (fun _ _ => rfl)) pa_nil))))) pss_nil)
      (pss_one (ps_ret pe_non)))), ?_⟩
  cases r with
  | step t => exact es_skip (by walk_at "eb") (es_skip (by walk_at "eb") (es_ret ed_non))
  | fin t => exact es_skip (by walk_at "eb") (es_skip (by walk_at "eb") (es_ret ed_non))
  | input c t =>
    obtain ⟨row, h1, h2, h3⟩ := word_at he hz
    exact es_take (by walk_at "eb") (es_ret (ed_tup (ea_cons (ed_ix1 (ed_var rfl)) (ea_cons (ed_ixL (n := σ.taken.getD c 0) (ed_ixL (n := c) (ed_var rfl) (ed_ix1 (ed_var rfl)) (rows_at h1)) (ed_ixL (n := c) (ed_ix2 (ed_var rfl)) (ed_ix1 (ed_var rfl)) (dns_at h2)) (dns_at h3)) ea_nil))))
  | meet c a t =>
    obtain ⟨_, _, w, st, e⟩ := he
    refine es_skip (by walk_at "eb") (es_take (by walk_at "eb") (es_ret ((ed_tup (ea_cons (ed_ix1 (ed_var rfl)) (ea_cons (ed_ix2 (ed_ixL (n := a) (ed_ix1 (ed_var rfl)) (ed_ix2 (ed_var rfl)) (conds_at e))) ea_nil))).eq ?_)))
    simp only [event, e]
    rfl
  | output c t =>
    obtain ⟨_, _, w, st, e⟩ := he
    refine es_skip (by walk_at "eb") (es_take (by walk_at "eb") (es_ret ((ed_tup (ea_cons (ed_ix1 (ed_var rfl)) (ea_cons (ed_ix2 (ed_ixL (n := t) (ed_ix1 (ed_var rfl)) (ed_ix2 (ed_var rfl)) (conds_at e))) ea_nil))).eq ?_)))
    simp only [event, e]
    rfl
abbrev s_perform : Stmt := topS 29
theorem sc_perform : FnScope ["core", "inputs", "state", "redex", "cells", "threads", "taken", "outputs", "kind", "channel", "_", "word", "stack", "index"] ["core", "inputs", "state", "redex"] (defScope s_perform) := ⟨rfl, rfl, rfl, by decide +kernel, rfl, by decide +kernel, by decide +kernel⟩
def rPerform : List PyData → PyData → Prop := fun ds d => ∃ (g : Cfg) (m nc : Nat) (body : Sm) (σ : State) (r : Rx), ds = [coreD g m nc body, inpD g.inp, σ.d, r.d] ∧ En g σ r ∧ Sz g σ ∧ d = (perform g σ r).d
theorem ok_perform (T : Txt K mg tW aF aS) (d : Def K mg "perform" s_perform) (c_at : Cal P w K mg base 1 "at" ["stack"] (spD K rAt)) (c_with_item : Cal P w K mg base 1 "with_item" ["rows", "index", "item"] (spD K rWithItem))
    (c_step : Cal P w K mg base 17 "step" ["state", "thread"] (spD K rStep)) (c_received : Cal P w K mg base 2 "received" ["state", "channel", "thread", "word"] (spD K rReceived)) : Cal P w K mg base 18 "perform" ["core", "inputs", "state", "redex"] (spD K rPerform) := by
  refine d.pure sc_perform (fun ds d ⟨g, m, nc, body, σ, r, z, _⟩ => by rw [z]; rfl) (fun _ _ _ _ _ _ us hl => match us, hl with | [_, _, _, _], _ => rfl) (fun f cdv A outer s H E ds d hr hh => ?_)
  obtain ⟨g, m, nc, body, σ, r, rfl, he, hz, rfl⟩ := hh
  refine ⟨_, 
      (pss_cons (ps_asg (pv 2) (pg_tup rfl (pgs_cons (pg_name (i := 4) sc_perform.nd rfl (Or.inl rfl)) (pgs_cons (pg_name (i := 5) sc_perform.nd rfl (Or.inl rfl)) (pgs_cons (pg_name (i := 6) sc_perform.nd rfl (Or.inl rfl)) (pgs_cons (pg_name (i := 7) sc_perform.nd rfl (Or.inl rfl)) pgs_nil))))))
      (pss_cons (ps_set (i := 8) sc_perform.nd rfl (Or.inl rfl) (pe_ix ix_tup (pv 3) pe_int (fun _ _ => rfl))) (pss_cons (ps_if (pt_cmpR op_eq (pv 8) pe_str (nomark _))
      (pss_one (ps_ret (pe_cal c_step (hr.mono (by decide)) (pa_cons (pv 2) (pa_cons (pe_ix ix_tup (pv 3) pe_int (fun _ _ => rfl)) pa_nil))))) pss_nil)
      (pss_cons (ps_if (pt_cmpR op_eq (pv 8) pe_str (nomark _))
      (pss_one (ps_ret (pe_tup (pa_cons (pv 4) (pa_cons (pe_cal c_with_item (hr.mono (by decide)) (pa_cons (pv 5) (pa_cons (pe_ix ix_tup (pv 3) pe_int (fun _ _ => rfl)) (pa_cons (pe_cal c_at (hr.mono (by decide)) (pa_cons (pe_ix ix_tup (pe_ix ix_list (pv 5) (pe_ix ix_tup (pv 3) pe_int (fun _ _ => rfl)) (fun _ _ => rfl)) pe_int (fun _ _ => rfl)) pa_nil)) pa_nil)))) (pa_cons (pv 6) (pa_cons (pv 7) pa_nil))))))) pss_nil)
      (pss_cons (ps_set (i := 9) sc_perform.nd rfl (Or.inl rfl) (pe_ix ix_tup (pv 3) pe_int (fun _ _ => rfl))) (pss_cons (ps_if (pt_cmpR op_eq (pv 8) pe_str (nomark _))
      (pss_cons (ps_asg (pe_ix ix_list (pv 5) (pe_ix ix_tup (pv 3) pe_int (fun _ _ => rfl)) (fun _ _ => rfl)) (pg_tup rfl (pgs_cons (pg_name (i := 10) sc_perform.nd rfl (Or.inl rfl)) (pgs_cons (pg_name (i := 10) sc_perform.nd rfl (Or.inl rfl)) (pgs_cons (pg_name (i := 11) sc_perform.nd rfl (Or.inl rfl)) (pgs_cons (pg_name (i := 12) sc_perform.nd rfl (Or.inl rfl)) pgs_nil))))))
      (pss_cons (ps_set (i := 13) sc_perform.nd rfl (Or.inl rfl) (pe_op op_sub (pv 9) (pe_callB call_len_seq (by rfl) T.len (by decide +kernel) (pa_cons (pv 6) pa_nil))))
      (pss_cons (ps_set (i := 7) sc_perform.nd rfl (Or.inl rfl) (pe_cal c_with_item (hr.mono (by decide)) (pa_cons (pv 7) (pa_cons (pv 13) (pa_cons (pe_op op_cat (pe_ix ix_list (pv 7) (pv 13) (fun _ _ => rfl)) (pe_lst (pa_cons (pv 11) pa_nil))) pa_nil)))))
      (pss_one (ps_ret (pe_tup (pa_cons (pv 4) (pa_cons (pe_cal c_with_item (hr.mono (by decide)) (pa_cons (pv 5) (pa_cons (pe_ix ix_tup (pv 3) pe_int (fun _ _ => rfl)) (pa_cons (pe_cal c_at (hr.mono (by decide)) (pa_cons (pv 12) pa_nil)) pa_nil)))) (pa_cons (pv 6) (pa_cons (pv 7) pa_nil)))))))))) pss_nil)
      (pss_cons (ps_if (pt_cmpR op_eq (pv 8) pe_str (nomark _))
      (pss_cons (ps_asg (pe_cal c_received (hr.mono (by decide)) (pa_cons (pv 2) (pa_cons (pv 9) (pa_cons (pe_ix ix_tup (pv 3) pe_int (fun _ _ => rfl)) (pa_cons (pe_ix ix_list (pe_ix ix_list (pv 1) (pv 9) (fun _ _ => rfl)) (pe_ix ix_list (pv 6) (pv 9) (fun _ _ => rfl)) (fun _ _ => rfl)) pa_nil))))) (pg_tup rfl (pgs_cons (pg_name (i := 4) sc_perform.nd rfl (Or.inl rfl)) (pgs_cons (pg_name (i := 5) sc_perform.nd rfl (Or.inl rfl)) pgs_nil))))
      (pss_one (ps_ret (pe_tup (pa_cons (pv 4) (pa_cons (pv 5) (pa_cons (pe_cal c_with_item (hr.mono (by decide)) (pa_cons (pv 6) (pa_cons (pv 9) (pa_cons (pe_op op_add (pe_ix ix_list (pv 6) (pv 9) (fun _ _ => rfl)) pe_int) pa_nil)))) (pa_cons (pv 7) pa_nil)))))))) pss_nil)
      (pss_cons (ps_asg (pe_ix ix_list (pv 5) (pe_ix ix_tup (pv 3) pe_int (fun _ _ => rfl)) (fun _ _ => rfl)) (pg_tup rfl (pgs_cons (pg_name (i := 10) sc_perform.nd rfl (Or.inl rfl)) (pgs_cons (pg_name (i := 10) sc_perform.nd rfl (Or.inl rfl)) (pgs_cons (pg_name (i := 11) sc_perform.nd rfl (Or.inl rfl)) (pgs_cons (pg_name (i := 12) sc_perform.nd rfl (Or.inl rfl)) pgs_nil))))))
      (pss_cons (ps_asg (pe_cal c_received (hr.mono (by decide)) (pa_cons (pv 2) (pa_cons (pv 9) (pa_cons (pe_ix ix_tup (pv 3) pe_int (fun _ _ => rfl)) (pa_cons (pv 11) pa_nil))))) (pg_tup rfl (pgs_cons (pg_name (i := 4) sc_perform.nd rfl (Or.inl rfl)) (pgs_cons (pg_name (i := 5) sc_perform.nd rfl (Or.inl rfl)) pgs_nil))))
      (pss_one (ps_ret (pe_tup (pa_cons (pv 4) (pa_cons (pe_cal c_with_item (hr.mono (by decide)) (pa_cons (pv 5) (pa_cons (pe_ix ix_tup (pv 3) pe_int (fun _ _ => rfl)) (pa_cons (pe_cal c_at (hr.mono (by decide)) (pa_cons (pv 12) pa_nil)) pa_nil)))) (pa_cons (pv 6) (pa_cons (pv 7) pa_nil)))))))))))))))), ?_⟩
  refine es_seq (es_unp (ws := [4, 5, 6, 7]) (ed_var rfl) (et_cons (et_cons (et_cons (et_cons et_nil)))) rfl) ?_
  have lt : ∀ {t : Nat} {c : Cond}, σ.th[t]? = some c → t < σ.th.length := fun e => (List.getElem?_eq_some_iff.mp e).1
  have hms : ∀ {t : Nat} {c : Cond}, σ.th[t]? = some c → c.ms ≤ 1000000 := fun e => Nat.le_trans (ms_get e) hz.ms
  cases r with
  | step t =>
    obtain ⟨s, rest, e⟩ := he
    obtain ⟨f1, f2⟩ := hz.fit t s rest e
    refine es_seq (es_set (ed_ix0 (ed_var rfl))) ?_
    refine es_take (by walk_at "eb") (es_ret ((ed_call (ea_cons (ed_var rfl) (ea_cons (ed_ix1 (ed_var rfl)) ea_nil)) ⟨σ, t, s, rest, rfl, e, f1, hz.wd, hms e, hz.th, hz.cells, f2, rfl⟩).eq ?_))
    unfold perform
    simp only [eff, e]
  | fin t =>
    obtain ⟨ts, st, e, _⟩ := he
    refine es_seq (es_set (ed_ix0 (ed_var rfl))) ?_
    refine es_skip (by walk_at "eb") (es_take (by walk_at "eb") (es_ret ((ed_tup (ea_cons (ed_var rfl) (ea_cons (ed_call (ea_cons (ed_var rfl) (ea_cons (ed_ix1 (ed_var rfl)) (ea_cons (ed_call (ea_cons (ed_ix2 (ed_ixL (n := t) (ed_var rfl) (ed_ix1 (ed_var rfl)) (conds_at e))) ea_nil) ⟨st, rfl, rfl⟩) ea_nil)))
      ⟨σ.th.map Cond.d, t, (mkAt st).d, rfl, by rw [List.length_map]; exact lt e, by rw [List.length_map]; exact hz.th, rfl⟩) (ea_cons (ed_var rfl) (ea_cons (ed_var rfl) ea_nil))))).eq ?_)))
    unfold perform
    simp only [eff, e]
    rw [← map_set_d Cond.d]
    rfl
  | output c t =>
    obtain ⟨h0, hc, w, st, e⟩ := he
    have hi : c - g.nIn < σ.outs.length := by rw [hz.ou]; omega
    have ho : σ.outs[c - g.nIn]? = some (σ.outs.getD (c - g.nIn) []) := by
      rw [List.getD_eq_getElem?_getD, List.getElem?_eq_getElem hi]; rfl
    have hro : (σ.outs.getD (c - g.nIn) []).length ≤ 1000000 := hz.row _ (List.mem_of_getElem? ho)
    refine es_seq (es_set (ed_ix0 (ed_var rfl))) ?_
    refine es_skip (by walk_at "eb") (es_skip (by walk_at "eb") (es_seq (es_set (ed_ix1 (ed_var rfl))) (es_take (by walk_at "eb") ?_)))
    show ES K _ [some (coreD g m nc body), some (inpD g.inp), some σ.d, some (Rx.output c t).d, some (cellsD σ.cells), some (condsD σ.th), some (dns σ.taken), some (outsD σ.outs), some (.str "output"), some (dn c), none, none, none, none] _
    refine es_seq (es_unp (ws := [10, 11, 12]) (ed_ixL (n := t) (ed_var rfl) (ed_ix2 (ed_var rfl)) (conds_at e)) (et_cons (et_cons (et_cons (et_cons et_nil)))) rfl) ?_
    refine es_seq (es_set ((ed_sub (ed_var rfl) (ed_len (ed_var rfl))).eq (d1 := dn (c - g.nIn)) ?_)) ?_
    · rw [List.length_map, hz.tk]
      exact congrArg PyData.int (by omega)
    show ES K _ [some (coreD g m nc body), some (inpD g.inp), some σ.d, some (Rx.output c t).d, some (cellsD σ.cells), some (condsD σ.th), some (dns σ.taken), some (outsD σ.outs), some (.str "output"), some (dn c), some (dn c), some (dn w), some (stk st), some (dn (c - g.nIn))] _
    refine es_seq (es_set ((ed_call (ea_cons (ed_var rfl) (ea_cons (ed_var rfl) (ea_cons (ed_cat (ed_ixL (n := c - g.nIn) (ed_var rfl) (ed_var rfl) (rows_at ho)) (ed_lst (ea_cons (ed_var rfl) ea_nil)) (by rw [List.length_map, List.length_singleton]; omega)) ea_nil)))
      ⟨σ.outs.map dns, c - g.nIn, dns (σ.outs.getD (c - g.nIn) [] ++ [w]), congrArg (fun l => [outsD σ.outs, dn (c - g.nIn), PyData.list l]) (show (σ.outs.getD (c - g.nIn) []).map dn ++ [dn w] = (σ.outs.getD (c - g.nIn) [] ++ [w]).map dn by rw [List.map_append]; rfl), by rw [List.length_map]; exact hi, by rw [List.length_map, hz.ou]; exact Nat.le_trans hz.nout (by decide), rfl⟩))) ?_
    refine es_ret ((ed_tup (ea_cons (ed_var rfl) (ea_cons (ed_call (ea_cons (ed_var rfl) (ea_cons (ed_ix2 (ed_var rfl)) (ea_cons (ed_call (ea_cons (ed_var rfl) ea_nil) ⟨st, rfl, rfl⟩) ea_nil)))
      ⟨σ.th.map Cond.d, t, (mkAt st).d, rfl, by rw [List.length_map]; exact lt e, by rw [List.length_map]; exact hz.th, rfl⟩) (ea_cons (ed_var rfl) (ea_cons (ed_var rfl) ea_nil))))).eq ?_)
    unfold perform
    simp only [eff, e]
    rw [← map_set_d Cond.d, ← map_set_d dns]
    rfl
  | input c t =>
    have hen := he
    obtain ⟨hc, ⟨k, st, e⟩, hl⟩ := he
    obtain ⟨row, h1, h2, h3⟩ := word_at hen hz
    have hst : st.length ≤ 1000000 := by
      have a := len_wkL st
      have b : 1 + wkL st ≤ 1000000 := hms e
      omega
    refine es_seq (es_set (ed_ix0 (ed_var rfl))) ?_
    refine es_skip (by walk_at "eb") (es_skip (by walk_at "eb") (es_seq (es_set (ed_ix1 (ed_var rfl))) (es_skip (by walk_at "eb") (es_take (by walk_at "eb") ?_))))
    show ES K _ [some (coreD g m nc body), some (inpD g.inp), some σ.d, some (Rx.input c t).d, some (cellsD σ.cells), some (condsD σ.th), some (dns σ.taken), some (outsD σ.outs), some (.str "input"), some (dn c), none, none, none, none] _
    refine es_seq (es_unp (ws := [4, 5]) (ed_call (ea_cons (ed_var rfl) (ea_cons (ed_var rfl) (ea_cons (ed_ix2 (ed_var rfl)) (ea_cons (ed_ixL (n := σ.taken.getD c 0) (ed_ixL (n := c) (ed_var rfl) (ed_var rfl) (rows_at h1)) (ed_ixL (n := c) (ed_var rfl) (ed_var rfl) (dns_at h2)) (dns_at h3)) ea_nil))))
      ⟨σ, c, t, g.word σ c, k, st, rfl, e, hz.opn t c k st e, hz.cells, hz.th, hst, rfl⟩) (et_cons (et_cons et_nil)) rfl) ?_
    refine es_ret ((ed_tup (ea_cons (ed_var rfl) (ea_cons (ed_var rfl) (ea_cons (ed_call (ea_cons (ed_var rfl) (ea_cons (ed_var rfl) (ea_cons (ed_add (ed_ixL (n := c) (ed_var rfl) (ed_var rfl) (dns_at h2)) ed_int) ea_nil)))
      ⟨σ.taken.map dn, c, dn (σ.taken.getD c 0 + 1), rfl, by rw [List.length_map, hz.tk]; exact hc, by rw [List.length_map, hz.tk]; exact Nat.le_trans hz.nin (by decide), rfl⟩) (ea_cons (ed_var rfl) ea_nil))))).eq ?_)
    unfold perform
    simp only [eff, e]
    rw [← map_set_d dn]
    rfl
  | meet c a t =>
    obtain ⟨hc, ⟨k, st, e⟩, w, st', e2⟩ := he
    have hst : st.length ≤ 1000000 := by
      have a := len_wkL st
      have b : 1 + wkL st ≤ 1000000 := hms e
      omega
    refine es_seq (es_set (ed_ix0 (ed_var rfl))) ?_
    refine es_skip (by walk_at "eb") (es_skip (by walk_at "eb") (es_seq (es_set (ed_ix1 (ed_var rfl))) (es_skip (by walk_at "eb") (es_skip (by walk_at "eb") ?_))))
    show ES K _ [some (coreD g m nc body), some (inpD g.inp), some σ.d, some (Rx.meet c a t).d, some (cellsD σ.cells), some (condsD σ.th), some (dns σ.taken), some (outsD σ.outs), some (.str "meet"), some (dn c), none, none, none, none] _
    refine es_seq (es_unp (ws := [10, 11, 12]) (ed_ixL (n := a) (ed_var rfl) (ed_ix2 (ed_var rfl)) (conds_at e2)) (et_cons (et_cons (et_cons (et_cons et_nil)))) rfl) ?_
    show ES K _ [some (coreD g m nc body), some (inpD g.inp), some σ.d, some (Rx.meet c a t).d, some (cellsD σ.cells), some (condsD σ.th), some (dns σ.taken), some (outsD σ.outs), some (.str "meet"), some (dn c), some (dn c), some (dn w), some (stk st'), none] _
    refine es_seq (es_unp (ws := [4, 5]) (ed_call (ea_cons (ed_var rfl) (ea_cons (ed_var rfl) (ea_cons (ed_ix3 (ed_var rfl)) (ea_cons (ed_var rfl) ea_nil))))
      ⟨σ, c, t, w, k, st, rfl, e, hz.opn t c k st e, hz.cells, hz.th, hst, rfl⟩) (et_cons (et_cons et_nil)) rfl) ?_
    refine es_ret ((ed_tup (ea_cons (ed_var rfl) (ea_cons (ed_call (ea_cons (ed_var rfl) (ea_cons (ed_ix2 (ed_var rfl)) (ea_cons (ed_call (ea_cons (ed_var rfl) ea_nil) ⟨st', rfl, rfl⟩) ea_nil)))
      ⟨(σ.th.set t (mkAt st)).map Cond.d, a, (mkAt st').d, rfl, by rw [List.length_map, List.length_set]; exact lt e2, by rw [List.length_map, List.length_set]; exact hz.th, rfl⟩) (ea_cons (ed_var rfl) (ea_cons (ed_var rfl) ea_nil))))).eq ?_)
    unfold perform
    simp only [eff, e, e2]
    rw [← map_set_d Cond.d]
    rfl
end
end Pa
/-! giver_on, row_redexes, thread_redexes, redexes -/
namespace Pa
open PySem L2 PyProof.Rows
local macro_rules | `(tactic| walk_at "ed") => `(tactic| first
  | ((with_reducible show ED _ (tVar _) _ _); exact ed_var rfl)
  | ((with_reducible show ED _ (tC _) _ _); first | exact ed_int | exact ed_str | exact ed_non | exact ed_bl | exact ed_tupC T.fF | exact ed_tupC T.fS)
  | ((with_reducible show EA _ tNil _ _); exact ea_nil) | ((with_reducible show EA _ (tCons _ _) _ _); exact ea_cons (by walk_at "ed") (by walk_at "ed"))
  | ((with_reducible show ED _ (tTup _) _ _); exact ed_tup (by walk_at "ed")) | ((with_reducible show ED _ (tLst _) _ _); exact ed_lst (by walk_at "ed"))
  | ((with_reducible show ED _ (tOp (rI0 fun i j => V.int (i + j)) _ _) _ _); exact ed_add (by walk_at "ed") (by walk_at "ed"))
  | ((with_reducible show ED _ (tOp (rI0 fun i j => V.int (i - j)) _ _) _ _); exact ed_sub (by walk_at "ed") (by walk_at "ed"))
  | ((with_reducible show ED _ (tOp (rI0 fun i j => V.int (Builtin.bitAnd i j)) _ _) _ _); exact ed_and (by walk_at "ed") (by walk_at "ed"))
  | ((with_reducible show ED _ (tOp (rIxT _) _ (tC (.int 0))) _ _); exact ed_ix0 (by walk_at "ed")) | ((with_reducible show ED _ (tOp (rIxT _) _ (tC (.int 1))) _ _); exact ed_ix1 (by walk_at "ed"))
  | ((with_reducible show ED _ (tOp (rIxT _) _ (tC (.int 2))) _ _); exact ed_ix2 (by walk_at "ed")) | ((with_reducible show ED _ (tOp (rIxT _) _ (tC (.int 3))) _ _); exact ed_ix3 (by walk_at "ed"))
  | ((with_reducible show ED _ (tSl _ _ tNoPart (tPart _)) _ _); exact ed_take (by walk_at "ed") (by walk_at "ed")) | ((with_reducible show ED _ (tSl _ _ (tPart _) tNoPart) _ _); exact ed_dropI (by walk_at "ed") (by walk_at "ed") rfl)
  | ((with_reducible show ED _ (tOp rEq _ _) _ _); exact ed_eqS (by walk_at "ed") (by walk_at "ed"))
  | ((with_reducible show ED _ (tOp rEq _ _) _ _); exact ed_eqI (by walk_at "ed") (by walk_at "ed"))
  | ((with_reducible show ED _ (tOp (fun x y H Q => y = V.non ∧ Q (V.bl (decide (x = V.non))) H) _ _) _ _); exact ed_isN (by walk_at "ed"))
  | ((with_reducible show ED _ (tOp (rIn _ false) _ _) _ _); exact ed_in2 (by walk_at "ed"))
  | ((with_reducible show ED _ (tCB _ _) _ _); exact ed_len (by walk_at "ed")))
local macro_rules | `(tactic| walk_at "eb") => `(tactic| first
  | ((with_reducible show EB _ (tTest (tOp (rIn _ false) _ _)) _ _); exact (eb_cmp (ed_in2 (by walk_at "ed"))).eq (by decide +kernel))
  | ((with_reducible show EB _ (tTest (tOp rEq _ _)) _ _); exact (eb_cmp (ed_eqS (by walk_at "ed") (by walk_at "ed"))).eq (by decide +kernel)))

section
variable {P : Program} {w : World} {K : PySem.W.Frag} {mg : Str → Option Value} {base : Heap} {tW : Tok} {aF aS : Addr}
abbrev s_giver_on : Stmt := topS 17
theorem sc_giver_on : FnScope ["state", "channel", "thread", "condition"] ["state", "channel"] (defScope s_giver_on) := ⟨rfl, rfl, rfl, by decide +kernel, rfl, by decide +kernel, by decide +kernel⟩
def rGiver : List PyData → PyData → Prop := fun ds d => ∃ (σ : State) (c : Nat), ds = [σ.d, dn c] ∧ d = optD (giverOn σ.th c)
theorem eb_giv {e : DE} {c : Nat} {a : Cond} (h3 : e[3]? = some (some a.d)) (h1 : e[1]? = some (some (dn c))) :
    EB K (tAnd (tTest (tOp rEq (tOp (rIxT K) (tVar 3) (tC (.int 0))) (tC (.str "giving")))) (tTest (tOp rEq (tOp (rIxT K) (tVar 3) (tC (.int 1))) (tVar 1)))) e (isGiv c a) := by
  cases a with
  | giv d w st =>
    refine eb_andT ((eb_cmp (ed_eqS (ed_ix0 (ed_var h3)) ed_str)).eq (by decide +kernel)) ((eb_cmp (ed_eqI (ed_ix1 (ed_var h3)) (ed_var h1))).eq ?_)
    show decide ((d : Int) = (c : Int)) = (d == c)
    rw [Bool.beq_eq_decide_eq]
    exact decide_eq_decide.mpr (by omega)
  | idle => exact eb_andF ((eb_cmp (ed_eqS (ed_ix0 (ed_var h3)) ed_str)).eq (by decide +kernel))
  | run st => exact eb_andF ((eb_cmp (ed_eqS (ed_ix0 (ed_var h3)) ed_str)).eq (by decide +kernel))
  | opn c k st => exact eb_andF ((eb_cmp (ed_eqS (ed_ix0 (ed_var h3)) ed_str)).eq (by decide +kernel))
  | join ts st => exact eb_andF ((eb_cmp (ed_eqS (ed_ix0 (ed_var h3)) ed_str)).eq (by decide +kernel))
  | done => exact eb_andF ((eb_cmp (ed_eqS (ed_ix0 (ed_var h3)) ed_str)).eq (by decide +kernel))
  | stopped => exact eb_andF ((eb_cmp (ed_eqS (ed_ix0 (ed_var h3)) ed_str)).eq (by decide +kernel))
  | faulted => exact eb_andF ((eb_cmp (ed_eqS (ed_ix0 (ed_var h3)) ed_str)).eq (by decide +kernel))
theorem conds_inv {th : List Cond} {k : Nat} {x : PyData} (h : (th.map Cond.d)[k]? = some x) : ∃ a, th[k]? = some a ∧ x = a.d := by
  rw [List.getElem?_map] at h
  cases e : th[k]? with
  | none => rw [e] at h; cases h
  | some a => rw [e] at h; exact ⟨a, rfl, (Option.some.inj h).symm⟩
theorem ok_giver_on (T : Txt K mg tW aF aS) (d : Def K mg "giver_on" s_giver_on) : Cal P w K mg base 1 "giver_on" ["state", "channel"] (spD K rGiver) := by
  refine d.pure sc_giver_on (fun ds d ⟨σ, c, z, _⟩ => by rw [z]; rfl) (fun _ _ _ _ _ _ us hl => match us, hl with | [_, _], _ => rfl) (fun f cdv A outer s H E ds d hr hh => ?_)
  obtain ⟨σ, c, rfl, rfl⟩ := hh
  refine ⟨_, 
      (pss_cons (ps_for PassesOwn.never rfl (pi_enum (by rfl) T.enumerate (pa_cons (pe_ix ix_tup (pv 0) pe_int (fun _ _ => rfl)) pa_nil)) (pg_tup rfl (pgs_cons (pg_name (i := 2) sc_giver_on.nd rfl (Or.inl rfl)) (pgs_cons (pg_name (i := 3) sc_giver_on.nd rfl (Or.inl rfl)) pgs_nil)))
      (pss_one (ps_if (PW.pt (pw_and (pt_cmpR op_eq (pe_ix ix_tup (pv 3) pe_int (fun _ _ => rfl)) pe_str (nomark _)) (pw_and1 (pt_cmpR op_eq (pe_ix ix_tup (pv 3) pe_int (fun _ _ => rfl)) (pv 1) (nomark _)))))
      (pss_one (ps_ret (pv 2))) pss_nil))) (pss_one (ps_ret pe_non))), ?_⟩
  show ES K _ [some σ.d, some (dn c), none, none] _
  have fg : ∀ {a b : PyData}, Forg [some σ.d, some (dn c), some a, some b] [some σ.d, some (dn c), none, none] := .keep (.keep (.drop (.drop .nil)))
  cases hg : giverOn σ.th c with
  | some n =>
    obtain ⟨hl, hp, hb⟩ := List.findIdx?_eq_some_iff_getElem.mp hg
    refine es_seqR (es_enumR (n := n) (ws := [2, 3]) (ds := σ.th.map Cond.d) (ed_ix1 (ed_var rfl)) (by rw [List.length_map]; exact hl) (fun k x hk hx => ?_) (fun x hx => ?_))
    · obtain ⟨a, ha, rfl⟩ := conds_inv hx
      have hf : isGiv c a = false := by
        have q := hb k hk
        have e : σ.th[k]'(by omega) = a := by
          rw [List.getElem?_eq_getElem (by omega)] at ha
          exact Option.some.inj ha
        rw [e] at q
        exact Bool.eq_false_iff.mpr q
      exact ⟨_, _, eg_tup (et_cons (et_cons et_nil)) rfl, es_no ((eb_giv rfl rfl).eq hf) es_next, fg⟩
    · obtain ⟨a, ha, rfl⟩ := conds_inv hx
      have hf : isGiv c a = true := by
        rw [List.getElem?_eq_getElem hl] at ha
        rw [← Option.some.inj ha]
        exact hp
      exact ⟨_, eg_tup (et_cons (et_cons et_nil)) rfl, es_yes ((eb_giv rfl rfl).eq hf) (es_ret (ed_var rfl))⟩
  | none =>
    refine es_seq (es_enum (ws := [2, 3]) (ds := σ.th.map Cond.d) (ed_ix1 (ed_var rfl)) (fun k x hx => ?_)) (es_ret ed_non)
    obtain ⟨a, ha, rfl⟩ := conds_inv hx
    have hf : isGiv c a = false := List.findIdx?_eq_none_iff.mp hg a (List.mem_of_getElem? ha)
    exact ⟨_, _, eg_tup (et_cons (et_cons et_nil)) rfl, es_no ((eb_giv rfl rfl).eq hf) es_next, fg⟩
abbrev rxsD (rs : List Rx) : PyData := .list (rs.map Rx.d)
abbrev s_row_redexes : Stmt := topS 18
theorem sc_row_redexes : FnScope ["core", "inputs", "state", "thread", "channel", "kind", "giver"] ["core", "inputs", "state", "thread", "channel"] (defScope s_row_redexes) := ⟨rfl, rfl, rfl, by decide +kernel, rfl, by decide +kernel, by decide +kernel⟩
def rRow : List PyData → PyData → Prop := fun ds d => ∃ (g : Cfg) (m nc : Nat) (body : Sm) (σ : State) (t c : Nat), ds = [coreD g m nc body, inpD g.inp, σ.d, dn t, dn c] ∧ c < g.nIn + g.nOut + m ∧ g.inp.length = g.nIn ∧ σ.taken.length = g.nIn ∧ d = rxsD (rowRx g σ t c)
theorem ok_row_redexes (T : Txt K mg tW aF aS) (d : Def K mg "row_redexes" s_row_redexes) (c_giver_on : Cal P w K mg base 1 "giver_on" ["state", "channel"] (spD K rGiver)) :
    Cal P w K mg base 2 "row_redexes" ["core", "inputs", "state", "thread", "channel"] (spD K rRow) := by
  refine d.pure sc_row_redexes (fun ds d ⟨g, m, nc, body, σ, t, c, z, _⟩ => by rw [z]; rfl) (fun _ _ _ _ _ _ us hl => match us, hl with | [_, _, _, _, _], _ => rfl) (fun f cdv A outer s H E ds d hr hh => ?_)
  obtain ⟨g, m, nc, body, σ, t, c, rfl, hc, hi, htk, rfl⟩ := hh
  refine ⟨_, 
      (pss_cons (ps_set (i := 5) sc_row_redexes.nd rfl (Or.inl rfl) (pe_ix ix_list (pe_ix ix_tup (pv 0) pe_int (fun _ _ => rfl)) (pv 4) (fun _ _ => rfl)))
      (pss_cons (ps_if (pt_cmpR op_eq (pv 5) pe_str (nomark _))
      (pss_cons (ps_set (i := 6) sc_row_redexes.nd rfl (Or.inl rfl) (pe_cal c_giver_on (hr.mono (by decide)) (pa_cons (pv 2) (pa_cons (pv 4) pa_nil))))
      (pss_one (ps_ret (pe_ifExp (pt_cmpR op_isN (pv 6) pe_non (nomark _)) (pe_lst pa_nil) (pe_lst (pa_cons (pe_tup (pa_cons pe_str (pa_cons (pv 4) (pa_cons (pv 6) (pa_cons (pv 3) pa_nil))))) pa_nil)))))) pss_nil)
      (pss_cons (ps_if (PW.pt (pw_and (pt_cmpR op_eq (pv 5) pe_str (nomark _)) (pw_and1 (pt_cmpR op_lt (pe_ix ix_list (pe_ix ix_tup (pv 2) pe_int (fun _ _ => rfl)) (pv 4) (fun _ _ => rfl)) (pe_callB call_len_seq (by rfl) T.len (by decide +kernel) (pa_cons (pe_ix ix_list (pv 1) (pv 4) (fun _ _ => rfl)) pa_nil)) (nomark _)))))
      (pss_one (ps_ret (pe_lst (pa_cons (pe_tup (pa_cons pe_str (pa_cons (pv 4) (pa_cons (pv 3) pa_nil)))) pa_nil)))) pss_nil) (pss_one (ps_ret (pe_lst pa_nil)))))), ?_⟩
  refine es_seq (es_set (ed_ixL (n := c) (ed_ix2 (ed_var rfl)) (ed_var rfl) (kinds_at hc))) ?_
  show ES K _ [some (coreD g m nc body), some (inpD g.inp), some σ.d, some (dn t), some (dn c), some (.str (kindOf g c)), none] _
  unfold rowRx
  by_cases h1 : g.nIn + g.nOut ≤ c
  · have ek : kindOf g c = "inner" := by unfold kindOf; rw [if_neg (by omega), if_neg (by omega)]
    rw [ek, if_pos h1]
    refine es_take (by walk_at "eb") (es_seq (es_set (ed_call (ea_cons (ed_var rfl) (ea_cons (ed_var rfl) ea_nil)) ⟨σ, c, rfl, rfl⟩)) ?_)
    cases hg : giverOn σ.th c with
    | none => exact es_ret (ed_yes (eb_isT rfl) (ed_lst ea_nil))
    | some a => exact es_ret (ed_no (eb_isF rfl) (by walk_at "ed"))
  · rw [if_neg h1]
    by_cases h2 : c < g.nIn
    · have ek : kindOf g c = "in" := by unfold kindOf; rw [if_pos h2]
      rw [ek]
      have hci : c < g.inp.length := by rw [hi]; exact h2
      have hct : c < σ.taken.length := by rw [htk]; exact h2
      refine es_skip (by walk_at "eb") ?_
      have test : EB K (tTest (tOp (rI0 fun i j => V.bl (decide (i < j))) (tOp (rIxL K) (tOp (rIxT K) (tVar 2) (tC (.int 2))) (tVar 4)) (tCB (fun xs H Q => ∃ p ys, xs = [.ref p] ∧ (SqL K H p ys ∨ SqT K H p ys) ∧ Q (.int ys.length) H) (tCons (tOp (rIxL K) (tVar 1) (tVar 4)) tNil))))
          [some (coreD g m nc body), some (inpD g.inp), some σ.d, some (dn t), some (dn c), some (.str "in"), none] (decide (σ.taken.getD c 0 < (g.inp.getD c []).length)) := by
        refine (eb_cmp (ed_lt (ed_ixL (n := c) (ed_ix2 (ed_var rfl)) (ed_var rfl) (dns_at (getD_at (d := 0) hct))) (ed_len (ed_ixL (n := c) (ed_var rfl) (ed_var rfl) (rows_at (getD_at (d := []) hci)))))).eq ?_
        rw [List.length_map]
        exact decide_eq_decide.mpr (by omega)
      by_cases h3 : σ.taken.getD c 0 < (g.inp.getD c []).length
      · rw [if_pos ⟨h2, h3⟩]
        exact es_take (eb_andT (by walk_at "eb") (test.eq (decide_eq_true h3))) (es_ret (by walk_at "ed"))
      · rw [if_neg fun z => h3 z.2]
        exact es_skip (eb_andT (by walk_at "eb") (test.eq (decide_eq_false h3))) (es_ret (ed_lst ea_nil))
    · have ek : kindOf g c = "out" := by unfold kindOf; rw [if_neg h2, if_pos (by omega)]
      rw [ek, if_neg fun z => h2 z.1]
      exact es_skip (by walk_at "eb") (es_skip (eb_andF (by walk_at "eb")) (es_ret (ed_lst ea_nil)))
theorem ed_eqD {ta tb : TE} {e : DE} {d1 d2 : PyData} (ha : ED K ta e d1) (hb : ED K tb e d2) (h1 : SeqAt.shaped d1 = true) (h2 : SeqAt.shaped d2 = true) : ED K (tOp (rEqD K) ta tb) e (.bool (PyData.eqv d1 d2)) := ed_op ha hb fun x y F H Q f hx hy q =>
  ⟨d1, d2, (hx.mono f).dp (SeqAt.canLay_of_shaped h1), (hy.mono f).dp (SeqAt.canLay_of_shaped h2), h1, h2, q _ F H (Fz.refl f) (.bl _)⟩
theorem Das.bools {F : Hp} : ∀ {bs : List Bool} {vs : List V}, Das K F vs (bs.map PyData.bool) → vs = bs.map V.bl
  | [], _, h => h.nil_inv
  | b :: r, _, h => by
    obtain ⟨v, q, rfl, a, c⟩ := h.cons_inv
    rw [a.blI, Das.bools c]
    rfl
theorem ed_all {te : TE} {e : DE} {bs : List Bool} (h : ED K te e (.list (bs.map PyData.bool))) : ED K (tCB (rAll K) (tCons te tNil)) e (.bool (bs.all id)) := fun σ F H Q f s q => h σ F H _ f s fun v F1 H1 z a => by
  obtain ⟨p, xs, rfl, h1, h2⟩ := a.lstI
  refine ⟨p, bs, rfl, ?_, q _ F1 H1 z (.bl _)⟩
  rw [← h2.bools]
  exact SqL.of (z.sub _ _ h1)
theorem eqv_done (c : Cond) : PyData.eqv c.d (.tuple [.str "done"]) = isDone c := by
  cases c <;> first | (simp only [Cond.d, PyData.eqv, PyData.eqvAll, isDone, Bool.and_true]; decide +kernel) | (simp only [Cond.d, PyData.eqv, PyData.eqvAll, isDone, Bool.and_false])
theorem shaped_done : SeqAt.shaped (.tuple [.str "done"]) = true := by decide +kernel
abbrev s_thread_redexes : Stmt := topS 19
theorem sc_thread_redexes : FnScope ["core", "inputs", "state", "thread", "condition", "found", "channel", "_", "other"] ["core", "inputs", "state", "thread"] (defScope s_thread_redexes) := ⟨rfl, rfl, rfl, by decide +kernel, rfl, by decide +kernel, by decide +kernel⟩
def rThread : List PyData → PyData → Prop := fun ds d => ∃ (g : Cfg) (m nc : Nat) (body : Sm) (σ : State) (t : Nat), ds = [coreD g m nc body, inpD g.inp, σ.d, dn t] ∧ t < σ.th.length ∧ Sz g σ ∧ Sc g m σ ∧ d = rxsD (thRx g σ t)
theorem ok_thread_redexes (T : Txt K mg tW aF aS) (d : Def K mg "thread_redexes" s_thread_redexes) (c_row_redexes : Cal P w K mg base 2 "row_redexes" ["core", "inputs", "state", "thread", "channel"] (spD K rRow)) :
    Cal P w K mg base 3 "thread_redexes" ["core", "inputs", "state", "thread"] (spD K rThread) := by
  refine d.pure sc_thread_redexes (fun ds d ⟨g, m, nc, body, σ, t, z, _⟩ => by rw [z]; rfl) (fun _ _ _ _ _ _ us hl => match us, hl with | [_, _, _, _], _ => rfl) (fun f cdv A outer s H E ds d hr hh => ?_)
  obtain ⟨g, m, nc, body, σ, t, rfl, ht, hz, hs, rfl⟩ := hh
  have e : σ.th[t]? = some σ.th[t] := List.getElem?_eq_getElem ht
  generalize σ.th[t] = c at e
  refine ⟨_, 
      (pss_cons (ps_set (i := 4) sc_thread_redexes.nd rfl (Or.inl rfl) (pe_ix ix_list (pe_ix ix_tup (pv 2) pe_int (fun _ _ => rfl)) (pv 3) (fun _ _ => rfl)))
      (pss_cons (ps_if (pt_cmpR op_eq (pe_ix ix_tup (pv 4) pe_int (fun _ _ => rfl)) pe_str (nomark _))
      (pss_one (ps_ret (pe_lst (pa_cons (pe_tup (pa_cons pe_str (pa_cons (pv 3) pa_nil))) pa_nil)))) pss_nil)
      (pss_cons (ps_if (pt_cmpR op_eq (pe_ix ix_tup (pv 4) pe_int (fun _ _ => rfl)) pe_str (nomark _)) (pss_cons (ps_set (i := 5) sc_thread_redexes.nd rfl (Or.inl rfl) (pe_lst pa_nil))
      (pss_cons (ps_for PassesOwn.never rfl (pi_list (pe_ix ix_tup (pv 4) pe_int (fun _ _ => rfl))) (pg_tup rfl (pgs_cons (pg_name (i := 6) sc_thread_redexes.nd rfl (Or.inl rfl)) (pgs_cons (pg_name (i := 7) sc_thread_redexes.nd rfl (Or.inl rfl)) (pgs_cons (pg_name (i := 7) sc_thread_redexes.nd rfl (Or.inl rfl)) pgs_nil))))
      (pss_one (ps_expr (pe_bm PySem.F.plainAttrs_list PySem.F.slot_list_extend PySem.F.type_list_extend mt_extend (pv 5) (pa_cons (pe_cal c_row_redexes (hr.mono (by decide)) (pa_cons (pv 0) (pa_cons (pv 1) (pa_cons (pv 2) (pa_cons (pv 3) (pa_cons (pv 6) pa_nil)))))) pa_nil)))))
      (pss_one (ps_ret (pv 5))))) pss_nil)
      (pss_cons (ps_if (PW.pt (pw_and (pt_cmpR op_eq (pe_ix ix_tup (pv 4) pe_int (fun _ _ => rfl)) pe_str (nomark _)) (pw_and1 (pt_cmpR op_eq (pe_ix ix_list (pe_ix ix_tup (pv 0) pe_int (fun _ _ => rfl)) (pe_ix ix_tup (pv 4) pe_int (fun _ _ => rfl)) (fun _ _ => rfl)) pe_str (nomark _)))))
      (pss_one (ps_ret (pe_lst (pa_cons (pe_tup (pa_cons pe_str (pa_cons (pe_ix ix_tup (pv 4) pe_int (fun _ _ => rfl)) (pa_cons (pv 3) pa_nil)))) pa_nil)))) pss_nil)
      (pss_cons (ps_if (PW.pt (pw_and (pt_cmpR op_eq (pe_ix ix_tup (pv 4) pe_int (fun _ _ => rfl)) pe_str (nomark _)) (pw_and1 (pt_val (pe_callB (cr_all rfl) (by rfl) T.all (by decide +kernel) (pa_cons (pe_lc (own := [("other", 8)]) (g := gName 8) (tt := tYes) (te := (tOp (rEqD K) (tOp (rIxL K) (tOp (rIxT K) (tVar 2) (tC (.int 1))) (tVar 8)) (tTup (tCons (tC (.str "done")) tNil)))) rfl sc_thread_redexes.nd (pi_list (pe_ix ix_tup (pv 4) pe_int (fun _ _ => rfl))) (blkOk_by (own := [("other", 8)]) (N := ["core", "inputs", "state", "thread", "condition", "found", "channel", "_", "other"]) (sc := defScope s_thread_redexes) (by decide +kernel)) (fun _ _ _ _ _ => (pg_name (i := 8) sc_thread_redexes.nd rfl (Or.inl rfl))) (fun _ _ _ _ _ => pts_nil) (fun _ _ _ _ _ => (pe_cmpR (op_eqD hr.units) (pe_ix ix_list (pe_ix ix_tup (pv 2) pe_int (fun _ _ => rfl)) (pv 8) (fun _ _ => rfl)) (pe_tup (pa_cons pe_str pa_nil)) (nomark _)))) pa_nil))))))
      (pss_one (ps_ret (pe_lst (pa_cons (pe_tup (pa_cons pe_str (pa_cons (pv 3) pa_nil))) pa_nil)))) pss_nil) (pss_one (ps_ret (pe_lst pa_nil)))))))), ?_⟩
  refine es_seq (es_set (ed_ixL (n := t) (ed_ix1 (ed_var rfl)) (ed_var rfl) (conds_at e))) ?_
  show ES K _ [some (coreD g m nc body), some (inpD g.inp), some σ.d, some (dn t), some c.d, none, none, none, none] _
  unfold thRx
  rw [e]
  cases c with
  | run st => exact es_take (by walk_at "eb") (es_ret (by walk_at "ed"))
  | opn c k st =>
    refine es_skip (by walk_at "eb") (es_take (by walk_at "eb") (es_own (i := 5) ?_ rfl))
    refine eo_seqR (eo_for (ws := [6, 7]) (ds := [.tuple [dn c, dn k, .list []]]) (fun i => if i = 0 then [] else (rowRx g σ t c).map Rx.d) (ed_ix1 (ed_var rfl)) (by decide) fun i x hx => ?_) eo_ret
    have hi : i = 0 := by
      have := (List.getElem?_eq_some_iff.mp hx).1
      simp at this
      exact this
    subst hi
    have z := Option.some.inj hx
    subst z
    refine ⟨_, _, eg_tup (et_cons (et_cons (et_cons et_nil))) rfl, eo_ext (ds := []) (es := (rowRx g σ t c).map Rx.d) (ed_call (ea_cons (ed_var rfl) (ea_cons (ed_var rfl) (ea_cons (ed_var rfl) (ea_cons (ed_var rfl) (ea_cons (ed_var rfl) ea_nil))))) ⟨g, m, nc, body, σ, t, c, rfl, hs.opn t c k st e, hz.inp, hz.tk, rfl⟩) ?_, ?_⟩
    · have := rowRx_le g σ t c
      rw [List.length_map]
      show 0 + _ ≤ _
      omega
    · exact .keep (.keep (.keep (.keep (.keep (.keep (.drop (.drop (.keep .nil))))))))
  | giv c k st =>
    refine es_skip (by walk_at "eb") (es_skip (by walk_at "eb") ?_)
    have test : EB K (tTest (tOp rEq (tOp (rIxL K) (tOp (rIxT K) (tVar 0) (tC (.int 2))) (tOp (rIxT K) (tVar 4) (tC (.int 1)))) (tC (.str "out")))) [some (coreD g m nc body), some (inpD g.inp), some σ.d, some (dn t), some (Cond.giv c k st).d, none, none, none, none] (decide (g.nIn ≤ c ∧ c < g.nIn + g.nOut)) := by
      refine (eb_cmp (ed_eqS (ed_ixL (n := c) (ed_ix2 (ed_var rfl)) (ed_ix1 (ed_var rfl)) (kinds_at (hs.giv t c k st e))) ed_str)).eq ?_
      unfold kindOf
      by_cases h1 : c < g.nIn
      · rw [if_pos h1, decide_eq_false (show ¬ (g.nIn ≤ c ∧ c < g.nIn + g.nOut) by omega)]
        decide +kernel
      · rw [if_neg h1]
        by_cases h2 : c < g.nIn + g.nOut
        · rw [if_pos h2, decide_eq_true (show g.nIn ≤ c ∧ c < g.nIn + g.nOut by omega)]
          decide +kernel
        · rw [if_neg h2, decide_eq_false (show ¬ (g.nIn ≤ c ∧ c < g.nIn + g.nOut) by omega)]
          decide +kernel
    by_cases h : g.nIn ≤ c ∧ c < g.nIn + g.nOut
    · simp only [if_pos h]
      exact es_take (eb_andT (by walk_at "eb") (test.eq (decide_eq_true h))) (es_ret (by walk_at "ed"))
    · simp only [if_neg h]
      exact es_skip (eb_andT (by walk_at "eb") (test.eq (decide_eq_false h))) (es_skip (eb_andF (by walk_at "eb")) (es_ret (ed_lst ea_nil)))
  | join ts st =>
    refine es_skip (by walk_at "eb") (es_skip (by walk_at "eb") (es_skip (eb_andF (by walk_at "eb")) ?_))
    obtain ⟨hj1, hj2⟩ := hs.join t ts st e
    have bs : ED K (tLc (iList K (tOp (rIxT K) (tVar 4) (tC (.int 1)))) (gName 8) tYes (tOp (rEqD K) (tOp (rIxL K) (tOp (rIxT K) (tVar 2) (tC (.int 1))) (tVar 8)) (tTup (tCons (tC (.str "done")) tNil))) [8]) [some (coreD g m nc body), some (inpD g.inp), some σ.d, some (dn t), some (Cond.join ts st).d, none, none, none, none]
        (.list ((ts.map (doneAt σ.th)).map PyData.bool)) := by
      refine (ed_lc (ws := [8]) (fun x => match x with | .int k => .bool (doneAt σ.th k.toNat) | _ => .none) (ed_ix1 (ed_var rfl)) (by rw [List.length_map]; omega) fun x hx => ?_).eq ?_
      · obtain ⟨k, hk, rfl⟩ := List.mem_map.mp hx
        have hkl := hj2 k hk
        have ek : σ.th[k]? = some σ.th[k] := List.getElem?_eq_getElem hkl
        refine ⟨_, eg_name, (ed_eqD (ed_ixL (n := k) (ed_ix1 (ed_var rfl)) (ed_var rfl) (conds_at ek)) (ed_tup (ea_cons ed_str ea_nil)) (hs.shp _ (List.getElem_mem hkl)) shaped_done).eq ?_⟩
        rw [eqv_done]
        show PyData.bool _ = PyData.bool (doneAt σ.th ((k : Nat) : Int).toNat)
        unfold doneAt
        rw [Int.toNat_natCast, ek]
      · rw [List.map_map, List.map_map]
        refine congrArg PyData.list (List.map_congr_left fun k hk => ?_)
        show PyData.bool (doneAt σ.th ((k : Nat) : Int).toNat) = PyData.bool _
        rw [Int.toNat_natCast]
    have eall : (ts.map (doneAt σ.th)).all id = ts.all (doneAt σ.th) := by
      rw [List.all_map]
      rfl
    by_cases h : (ts.all (doneAt σ.th)) = true
    · simp only [if_pos h]
      exact es_take (eb_andT (by walk_at "eb") ((eb_val (ed_all bs)).eq (eall.trans h))) (es_ret (by walk_at "ed"))
    · simp only [if_neg h]
      exact es_skip (eb_andT (by walk_at "eb") ((eb_val (ed_all bs)).eq (eall.trans (Bool.eq_false_iff.mpr h)))) (es_ret (ed_lst ea_nil))
  | idle => exact es_skip (by walk_at "eb") (es_skip (by walk_at "eb") (es_skip (eb_andF (by walk_at "eb")) (es_skip (eb_andF (by walk_at "eb")) (es_ret (ed_lst ea_nil)))))
  | done => exact es_skip (by walk_at "eb") (es_skip (by walk_at "eb") (es_skip (eb_andF (by walk_at "eb")) (es_skip (eb_andF (by walk_at "eb")) (es_ret (ed_lst ea_nil)))))
  | stopped => exact es_skip (by walk_at "eb") (es_skip (by walk_at "eb") (es_skip (eb_andF (by walk_at "eb")) (es_skip (eb_andF (by walk_at "eb")) (es_ret (ed_lst ea_nil)))))
  | faulted => exact es_skip (by walk_at "eb") (es_skip (by walk_at "eb") (es_skip (eb_andF (by walk_at "eb")) (es_skip (eb_andF (by walk_at "eb")) (es_ret (ed_lst ea_nil)))))
abbrev s_redexes : Stmt := topS 20
theorem sc_redexes : FnScope ["core", "inputs", "state", "found", "thread"] ["core", "inputs", "state"] (defScope s_redexes) := ⟨rfl, rfl, rfl, by decide +kernel, rfl, by decide +kernel, by decide +kernel⟩
def rRedexes : List PyData → PyData → Prop := fun ds d => ∃ (g : Cfg) (m nc : Nat) (body : Sm) (σ : State), ds = [coreD g m nc body, inpD g.inp, σ.d] ∧ Sz g σ ∧ Sc g m σ ∧ d = rxsD (redexes g σ)
theorem ok_redexes (T : Txt K mg tW aF aS) (d : Def K mg "redexes" s_redexes) (c_thread_redexes : Cal P w K mg base 3 "thread_redexes" ["core", "inputs", "state", "thread"] (spD K rThread)) :
    Cal P w K mg base 4 "redexes" ["core", "inputs", "state"] (spD K rRedexes) := by
  refine d.pure sc_redexes (fun ds d ⟨g, m, nc, body, σ, z, _⟩ => by rw [z]; rfl) (fun _ _ _ _ _ _ us hl => match us, hl with | [_, _, _], _ => rfl) (fun f cdv A outer s H E ds d hr hh => ?_)
  obtain ⟨g, m, nc, body, σ, rfl, hz, hs, rfl⟩ := hh
  refine ⟨_, 
      (pss_cons (ps_set (i := 3) sc_redexes.nd rfl (Or.inl rfl) (pe_lst pa_nil))
      (pss_cons (ps_for PassesOwn.never rfl (pi_range1 rfl T.range (pa_cons (pe_callB call_len_seq (by rfl) T.len (by decide +kernel) (pa_cons (pe_ix ix_tup (pv 2) pe_int (fun _ _ => rfl)) pa_nil)) pa_nil)) (pg_name (i := 4) sc_redexes.nd rfl (Or.inl rfl))
      (pss_one (ps_expr (pe_bm PySem.F.plainAttrs_list PySem.F.slot_list_extend PySem.F.type_list_extend mt_extend (pv 3) (pa_cons (pe_cal c_thread_redexes (hr.mono (by decide)) (pa_cons (pv 0) (pa_cons (pv 1) (pa_cons (pv 2) (pa_cons (pv 4) pa_nil))))) pa_nil)))))
      (pss_one (ps_ret (pv 3))))), ?_⟩
  show ES K _ [some (coreD g m nc body), some (inpD g.inp), some σ.d, none, none] _
  refine es_own (i := 3) ?_ rfl
  have hth := hz.th
  refine eo_seqR (eo_range (n := σ.th.length) (ws := [4]) (fun i => ((List.range i).flatMap (thRx g σ)).map Rx.d) ((ed_len (ed_ix1 (ed_var rfl))).eq (by rw [List.length_map])) (by omega) (by decide) fun k hk => ?_) eo_ret
  refine ⟨_, [some (coreD g m nc body), some (inpD g.inp), some σ.d, none, some (dn k)], eg_name, ?_, .keep (.keep (.keep (.keep (.drop .nil))))⟩
  have h1 := redexes_le g σ k
  have h2 := thRx_le g σ k
  have e : ((List.range (k + 1)).flatMap (thRx g σ)).map Rx.d = ((List.range k).flatMap (thRx g σ)).map Rx.d ++ (thRx g σ k).map Rx.d := by
    rw [List.range_succ, List.flatMap_append, List.map_append]
    simp only [List.flatMap_cons, List.flatMap_nil, List.append_nil]
  rw [e]
  exact eo_ext (ed_call (ea_cons (ed_var rfl) (ea_cons (ed_var rfl) (ea_cons (ed_var rfl) (ea_cons (ed_var rfl) ea_nil)))) ⟨g, m, nc, body, σ, k, rfl, hk, hz, hs, rfl⟩) (by rw [List.length_map, List.length_map]; omega)
end
end Pa
/-! parts, inner_statements, branches, threads_of, initial -/
namespace Pa
open PySem L2 PyProof.Rows
def Sm.parts : Sm → List Sm
  | .seq ss => ss
  | .par rows => rows.map (·.2)
  | .ite _ a b => [a, b]
  | .rep _ _ s => [s]
  | _ => []
mutual
/-- the branches: thread, parent, statement -/
def Sm.br (p : Nat) : Sm → List (Nat × Nat × Sm)
  | .seq ss => brL p ss
  | .par rows => brR p rows
  | .ite _ a b => a.br p ++ b.br p
  | .rep _ _ s => s.br p
  | _ => []
def brL (p : Nat) : List Sm → List (Nat × Nat × Sm)
  | [] => []
  | s :: r => s.br p ++ brL p r
def brR (p : Nat) : List (Nat × Sm) → List (Nat × Nat × Sm)
  | [] => []
  | (k, s) :: r => (k, p, s) :: (s.br k ++ brR p r)
end
mutual
theorem br_len (p : Nat) : ∀ s : Sm, (s.br p).length = s.nb
  | .skip => rfl
  | .stop => rfl
  | .set _ _ => rfl
  | .give _ _ => rfl
  | .take _ _ => rfl
  | .seq ss => by simp only [Sm.br, Sm.nb]; exact brL_len p ss
  | .par rows => by simp only [Sm.br, Sm.nb]; exact brR_len p rows
  | .ite _ a b => by simp only [Sm.br, Sm.nb, List.length_append, br_len p a, br_len p b]
  | .rep _ _ s => by simp only [Sm.br, Sm.nb]; exact br_len p s
theorem brL_len (p : Nat) : ∀ ss : List Sm, (brL p ss).length = nbL ss
  | [] => rfl
  | s :: r => by simp only [brL, nbL, List.length_append, br_len p s, brL_len p r]
theorem brR_len (p : Nat) : ∀ rows : List (Nat × Sm), (brR p rows).length = nbR rows
  | [] => rfl
  | (k, s) :: r => by simp only [brR, nbR, List.length_cons, List.length_append, br_len k s, brR_len p r]; omega
end
theorem brL_flat (p : Nat) : ∀ ss : List Sm, brL p ss = ss.flatMap (Sm.br p)
  | [] => rfl
  | s :: r => by simp only [brL, List.flatMap_cons, brL_flat p r]
def rowBr (p : Nat) (r : Nat × Sm) : List (Nat × Nat × Sm) := (r.1, p, r.2) :: r.2.br r.1
theorem brR_flat (p : Nat) : ∀ rows : List (Nat × Sm), brR p rows = rows.flatMap (rowBr p)
  | [] => rfl
  | (k, s) :: r => by simp only [brR, List.flatMap_cons, brR_flat p r, rowBr, List.cons_append]
def brD (r : Nat × Nat × Sm) : PyData := .tuple [dn r.1, dn r.2.1, r.2.2.d]
theorem flat_le {α β : Type} {f : α → List β} {x : α} : ∀ {l : List α} {i : Nat}, l[i]? = some x → ((l.take i).flatMap f).length + (f x).length ≤ (l.flatMap f).length
  | [], _, h => by simp at h
  | y :: l, 0, h => by
    have e := Option.some.inj h
    subst e
    simp
  | y :: l, i + 1, h => by
    have := flat_le (f := f) (l := l) (i := i) h
    simp only [List.take_succ_cons, List.flatMap_cons, List.length_append]
    omega
theorem flat_take {α β : Type} {f : α → List β} {x : α} {l : List α} {i : Nat} (h : l[i]? = some x) : (l.take (i + 1)).flatMap f = (l.take i).flatMap f ++ f x := by
  rw [List.take_add_one, h, List.flatMap_append]
  simp
local macro_rules | `(tactic| walk_at "ed") => `(tactic| first
  | ((with_reducible show ED _ (tVar _) _ _); exact ed_var rfl)
  | ((with_reducible show ED _ (tC _) _ _); first | exact ed_int | exact ed_str | exact ed_non | exact ed_bl | exact ed_tupC T.fF | exact ed_tupC T.fS)
  | ((with_reducible show EA _ tNil _ _); exact ea_nil) | ((with_reducible show EA _ (tCons _ _) _ _); exact ea_cons (by walk_at "ed") (by walk_at "ed"))
  | ((with_reducible show ED _ (tTup _) _ _); exact ed_tup (by walk_at "ed")) | ((with_reducible show ED _ (tLst _) _ _); exact ed_lst (by walk_at "ed"))
  | ((with_reducible show ED _ (tOp (rI0 fun i j => V.int (i + j)) _ _) _ _); exact ed_add (by walk_at "ed") (by walk_at "ed"))
  | ((with_reducible show ED _ (tOp (rI0 fun i j => V.int (i - j)) _ _) _ _); exact ed_sub (by walk_at "ed") (by walk_at "ed"))
  | ((with_reducible show ED _ (tOp (rI0 fun i j => V.int (Builtin.bitAnd i j)) _ _) _ _); exact ed_and (by walk_at "ed") (by walk_at "ed"))
  | ((with_reducible show ED _ (tOp (rIxT _) _ (tC (.int 0))) _ _); exact ed_ix0 (by walk_at "ed")) | ((with_reducible show ED _ (tOp (rIxT _) _ (tC (.int 1))) _ _); exact ed_ix1 (by walk_at "ed"))
  | ((with_reducible show ED _ (tOp (rIxT _) _ (tC (.int 2))) _ _); exact ed_ix2 (by walk_at "ed")) | ((with_reducible show ED _ (tOp (rIxT _) _ (tC (.int 3))) _ _); exact ed_ix3 (by walk_at "ed"))
  | ((with_reducible show ED _ (tSl _ _ tNoPart (tPart _)) _ _); exact ed_take (by walk_at "ed") (by walk_at "ed")) | ((with_reducible show ED _ (tSl _ _ (tPart _) tNoPart) _ _); exact ed_dropI (by walk_at "ed") (by walk_at "ed") rfl)
  | ((with_reducible show ED _ (tOp rEq _ _) _ _); exact ed_eqS (by walk_at "ed") (by walk_at "ed"))
  | ((with_reducible show ED _ (tOp rEq _ _) _ _); exact ed_eqI (by walk_at "ed") (by walk_at "ed"))
  | ((with_reducible show ED _ (tOp (fun x y H Q => y = V.non ∧ Q (V.bl (decide (x = V.non))) H) _ _) _ _); exact ed_isN (by walk_at "ed"))
  | ((with_reducible show ED _ (tOp (rIn _ false) _ _) _ _); exact ed_in2 (by walk_at "ed"))
  | ((with_reducible show ED _ (tCB _ _) _ _); exact ed_len (by walk_at "ed")))
local macro_rules | `(tactic| walk_at "eb") => `(tactic| first
  | ((with_reducible show EB _ (tTest (tOp (rIn _ false) _ _)) _ _); exact (eb_cmp (ed_in2 (by walk_at "ed"))).eq (by decide +kernel))
  | ((with_reducible show EB _ (tTest (tOp rEq _ _)) _ _); exact (eb_cmp (ed_eqS (by walk_at "ed") (by walk_at "ed"))).eq (by decide +kernel)))

section
variable {P : Program} {w : World} {K : PySem.W.Frag} {mg : Str → Option Value} {base : Heap} {tW : Tok} {aF aS : Addr}
def sndD : PyData → PyData
  | .tuple [_, d] => d
  | _ => .none
abbrev s_parts : Stmt := topS 1
theorem sc_parts : FnScope ["s", "_", "statement"] ["s"] (defScope s_parts) := ⟨rfl, rfl, rfl, by decide +kernel, rfl, by decide +kernel, by decide +kernel⟩
def rParts : List PyData → PyData → Prop := fun ds d => ∃ s : Sm, ds = [s.d] ∧ (∀ rows, s = .par rows → rows.length ≤ 16000000) ∧ d = .list (s.parts.map Sm.d)
theorem ok_parts (d : Def K mg "parts" s_parts) : Cal P w K mg base 1 "parts" ["s"] (spD K rParts) := by
  refine d.pure sc_parts (fun ds d ⟨s, z, _⟩ => by rw [z]; rfl) (fun _ _ _ _ _ _ us hl => match us, hl with | [_], _ => rfl) (fun f cdv A outer s H E ds d hr hh => ?_)
  obtain ⟨s, rfl, hs, rfl⟩ := hh
  refine ⟨_, 
      (pss_cons (ps_if (pt_cmpR op_eq (pe_ix ix_tup (pv 0) pe_int (fun _ _ => rfl)) pe_str (nomark _)) (pss_one (ps_ret (pe_ix ix_tup (pv 0) pe_int (fun _ _ => rfl)))) pss_nil)
      (pss_cons (ps_if (pt_cmpR op_eq (pe_ix ix_tup (pv 0) pe_int (fun _ _ => rfl)) pe_str (nomark _))
      (pss_one (ps_ret (pe_lc (own := [("_", 1), ("statement", 2)]) (g := gTup K 2 (gCons (gName 1) (gCons (gName 2) gNil))) (tt := tYes) rfl sc_parts.nd (pi_list (pe_ix ix_tup (pv 0) pe_int (fun _ _ => rfl))) (blkOk_by (own := [("_", 1), ("statement", 2)]) (N := ["s", "_", "statement"]) (sc := defScope s_parts) (by decide +kernel)) (fun _ _ _ _ _ => (pg_tup rfl (pgs_cons (pg_name (i := 1) sc_parts.nd rfl (Or.inl rfl)) (pgs_cons (pg_name (i := 2) sc_parts.nd rfl (Or.inl rfl)) pgs_nil)))) (fun _ _ _ _ _ => pts_nil) (fun _ _ _ _ _ => (pv 2))))) pss_nil)
      (pss_cons (ps_if (pt_cmpR op_eq (pe_ix ix_tup (pv 0) pe_int (fun _ _ => rfl)) pe_str (nomark _))
      (pss_one (ps_ret (pe_lst (pa_cons (pe_ix ix_tup (pv 0) pe_int (fun _ _ => rfl)) (pa_cons (pe_ix ix_tup (pv 0) pe_int (fun _ _ => rfl)) pa_nil))))) pss_nil)
      (pss_cons (ps_if (pt_cmpR op_eq (pe_ix ix_tup (pv 0) pe_int (fun _ _ => rfl)) pe_str (nomark _))
      (pss_one (ps_ret (pe_lst (pa_cons (pe_ix ix_tup (pv 0) pe_int (fun _ _ => rfl)) pa_nil)))) pss_nil) (pss_one (ps_ret (pe_lst pa_nil))))))), ?_⟩
  cases s with
  | seq ss => exact es_take (by walk_at "eb") (es_ret ((ed_ix1 (ed_var rfl)).eq (by rw [smsD_map]; rfl)))
  | par rows =>
    refine es_skip (by walk_at "eb") (es_take (by walk_at "eb") (es_ret ((ed_lc (ws := [1, 2]) sndD (ed_ix1 (ed_var rfl)) (by rw [rowsD_map, List.length_map]; exact hs rows rfl) fun x hx => ?_).eq ?_)))
    · rw [rowsD_map] at hx
      obtain ⟨r, hr, rfl⟩ := List.mem_map.mp hx
      exact ⟨_, eg_tup (et_cons (et_cons et_nil)) rfl, ed_var rfl⟩
    · rw [rowsD_map, List.map_map]
      show PyData.list _ = PyData.list ((rows.map (·.2)).map Sm.d)
      rw [List.map_map]
      rfl
  | ite e a b => exact es_skip (by walk_at "eb") (es_skip (by walk_at "eb") (es_take (by walk_at "eb") (es_ret (by walk_at "ed"))))
  | rep e n s => exact es_skip (by walk_at "eb") (es_skip (by walk_at "eb") (es_skip (by walk_at "eb") (es_take (by walk_at "eb") (es_ret (by walk_at "ed")))))
  | skip => exact es_skip (by walk_at "eb") (es_skip (by walk_at "eb") (es_skip (by walk_at "eb") (es_skip (by walk_at "eb") (es_ret (ed_lst ea_nil)))))
  | stop => exact es_skip (by walk_at "eb") (es_skip (by walk_at "eb") (es_skip (by walk_at "eb") (es_skip (by walk_at "eb") (es_ret (ed_lst ea_nil)))))
  | set t e => exact es_skip (by walk_at "eb") (es_skip (by walk_at "eb") (es_skip (by walk_at "eb") (es_skip (by walk_at "eb") (es_ret (ed_lst ea_nil)))))
  | give c e => exact es_skip (by walk_at "eb") (es_skip (by walk_at "eb") (es_skip (by walk_at "eb") (es_skip (by walk_at "eb") (es_ret (ed_lst ea_nil)))))
  | take c t => exact es_skip (by walk_at "eb") (es_skip (by walk_at "eb") (es_skip (by walk_at "eb") (es_skip (by walk_at "eb") (es_ret (ed_lst ea_nil)))))
abbrev s_inner_statements : Stmt := topS 2
theorem sc_inner_statements : FnScope ["s", "row"] ["s"] (defScope s_inner_statements) := ⟨rfl, rfl, rfl, by decide +kernel, rfl, by decide +kernel, by decide +kernel⟩
theorem ok_inner_statements (d : Def K mg "inner_statements" s_inner_statements) (c_parts : Cal P w K mg base 1 "parts" ["s"] (spD K rParts)) : Cal P w K mg base 2 "inner_statements" ["s"] (spD K rParts) := by
  refine d.pure sc_inner_statements (fun ds d ⟨s, z, _⟩ => by rw [z]; rfl) (fun _ _ _ _ _ _ us hl => match us, hl with | [_], _ => rfl) (fun f cdv A outer s H E ds d hr hh => ?_)
  obtain ⟨s, rfl, hs, rfl⟩ := hh
  refine ⟨_, 
      (pss_cons (ps_if (pt_cmpR op_eq (pe_ix ix_tup (pv 0) pe_int (fun _ _ => rfl)) pe_str (nomark _)) (pss_one ps_never) pss_nil)
      (pss_one (ps_ret (pe_cal c_parts (hr.mono (by omega)) (pa_cons (pv 0) pa_nil))))), ?_⟩
  have fin : ED K (tCall (spD K rParts) [] E0 (tCons (tVar 0) tNil)) (dstart ["s", "row"] [s.d]) (.list (s.parts.map Sm.d)) := ed_call (ea_cons (ed_var rfl) ea_nil) ⟨s, rfl, hs, rfl⟩
  cases s <;> exact es_skip (by walk_at "eb") (es_ret fin)
abbrev s_branches : Stmt := topS 3
theorem sc_branches : FnScope ["s", "parent", "found", "thread", "statement", "part"] ["s", "parent"] (defScope s_branches) := ⟨rfl, rfl, rfl, by decide +kernel, rfl, by decide +kernel, by decide +kernel⟩
theorem len_nbR : ∀ rows : List (Nat × Sm), rows.length ≤ nbR rows
  | [] => Nat.le_refl _
  | (k, s) :: r => by
    have := len_nbR r
    simp only [nbR, List.length_cons]
    omega
theorem br_parts (p : Nat) : ∀ s : Sm, (∀ rows, s ≠ .par rows) → s.br p = s.parts.flatMap (Sm.br p)
  | .skip, _ => rfl
  | .stop, _ => rfl
  | .set _ _, _ => rfl
  | .give _ _, _ => rfl
  | .take _ _, _ => rfl
  | .seq ss, _ => by simp only [Sm.br, Sm.parts, brL_flat]
  | .par rows, h => absurd rfl (h rows)
  | .ite _ a b, _ => by simp [Sm.br, Sm.parts]
  | .rep _ _ s, _ => by simp [Sm.br, Sm.parts]
theorem parts_ok {ps : List Nat} {h i : Nat} {S : Fp} {s c : Sm} (hs : SmOk ps (h + 1) i S s) (np : ∀ rows, s ≠ .par rows) (hc : c ∈ s.parts) : SmOk ps h i S c := by
  cases hs with
  | seq a => exact a c hc
  | par F a b c d => exact absurd rfl (np _)
  | ite a b d =>
    simp [Sm.parts] at hc
    rcases hc with rfl | rfl
    · exact b
    · exact d
  | rep a b =>
    simp [Sm.parts] at hc
    rw [hc]
    exact b
  | _ => simp [Sm.parts] at hc
/-- statements of height at most h -/
def rBr (h : Nat) : List PyData → PyData → Prop := fun ds d => ∃ (ps : List Nat) (i : Nat) (S : Fp) (s : Sm) (p : Nat), ds = [s.d, dn p] ∧ SmOk ps h i S s ∧ s.nb ≤ 1000000 ∧ d = .list ((s.br p).map brD)
theorem ok_branches (c_inner_statements : Cal P w K mg base 2 "inner_statements" ["s"] (spD K rParts)) (d : Def K mg "branches" s_branches) : ∀ h : Nat, Cal P w K mg base (h + 2) "branches" ["s", "parent"] (spD K (rBr h))
  | 0 => d.never (fun vs H Q E => spD_no (fun ds d ⟨ps, i, S, s, p, _, z, _⟩ => by cases z) vs H Q E) (fun _ _ _ _ _ _ us hl => match us, hl with | [_, _], _ => rfl)
  | h + 1 => by
    have c_branches := ok_branches c_inner_statements d h
    refine d.pure sc_branches (fun ds d ⟨ps, i, S, s, p, z, _⟩ => by rw [z]; rfl) (fun _ _ _ _ _ _ us hl => match us, hl with | [_, _], _ => rfl) (fun f cdv A outer s H E ds d hr hh => ?_)
    obtain ⟨ps, i, S, s, p, rfl, hs, hn, rfl⟩ := hh
    refine ⟨_, 
      (pss_cons (ps_set (i := 2) sc_branches.nd rfl (Or.inl rfl) (pe_lst pa_nil)) (pss_cons (ps_if (pt_cmpR op_eq (pe_ix ix_tup (pv 0) pe_int (fun _ _ => rfl)) pe_str (nomark _))
      (pss_cons (ps_for PassesOwn.never rfl (pi_list (pe_ix ix_tup (pv 0) pe_int (fun _ _ => rfl))) (pg_tup rfl (pgs_cons (pg_name (i := 3) sc_branches.nd rfl (Or.inl rfl)) (pgs_cons (pg_name (i := 4) sc_branches.nd rfl (Or.inl rfl)) pgs_nil)))
      (pss_cons (ps_expr (pe_bm PySem.F.plainAttrs_list PySem.F.slot_list_append PySem.F.type_list_append mt_append (pv 2) (pa_cons (pe_tup (pa_cons (pv 3) (pa_cons (pv 1) (pa_cons (pv 4) pa_nil)))) pa_nil)))
      (pss_one (ps_expr (pe_bm PySem.F.plainAttrs_list PySem.F.slot_list_extend PySem.F.type_list_extend mt_extend (pv 2) (pa_cons (pe_cal c_branches (hr.mono (by omega)) (pa_cons (pv 4) (pa_cons (pv 3) pa_nil))) pa_nil))))))
      (pss_one (ps_ret (pv 2)))) pss_nil)
      (pss_cons (ps_for PassesOwn.never rfl (pi_list (pe_cal c_inner_statements (hr.mono (by omega)) (pa_cons (pv 0) pa_nil))) (pg_name (i := 5) sc_branches.nd rfl (Or.inl rfl))
      (pss_one (ps_expr (pe_bm PySem.F.plainAttrs_list PySem.F.slot_list_extend PySem.F.type_list_extend mt_extend (pv 2) (pa_cons (pe_cal c_branches (hr.mono (by omega)) (pa_cons (pv 5) (pa_cons (pv 1) pa_nil))) pa_nil)))))
      (pss_one (ps_ret (pv 2)))))), ?_⟩
    show ES K _ [some s.d, some (dn p), none, none, none, none] _
    refine es_own (i := 2) ?_ rfl
    have hbl := br_len p s
    by_cases hp : ∃ rows, s = .par rows
    · obtain ⟨rows, rfl⟩ := hp
      cases hs with
      | par F a b c q =>
      have ebr : (Sm.par rows).br p = rows.flatMap (rowBr p) := by simp only [Sm.br, brR_flat]
      rw [ebr] at hbl ⊢
      have hlr := len_nbR rows
      have hnb : (Sm.par rows).nb = nbR rows := by simp only [Sm.nb]
      refine eo_seqR1 (eo_ifR (b := true) (by walk_at "eb") (fun _ => ?_) (fun z => nomatch z))
      refine eo_seqR (eo_for (ws := [3, 4]) (ds := rows.map fun r => .tuple [dn r.1, r.2.d]) (fun k => ((rows.take k).flatMap (rowBr p)).map brD) ((ed_ix1 (ed_var rfl)).eq (by rw [rowsD_map])) (by decide) fun k x hx => ?_) (eo_ret.eq ?_)
      · rw [List.getElem?_map] at hx
        cases e : rows[k]? with
        | none => rw [e] at hx; cases hx
        | some r =>
        rw [e] at hx
        have z := Option.some.inj hx
        subst z
        have hm : (r.1, r.2) ∈ rows := List.mem_of_getElem? e
        have l1 := flat_le (f := rowBr p) e
        have l2 : (rowBr p r).length = r.2.nb + 1 := by unfold rowBr; rw [List.length_cons, br_len]
        refine ⟨_, _, eg_tup (et_cons (et_cons et_nil)) rfl, eo_seq (eo_app (d := brD (r.1, p, r.2)) (ed_tup (ea_cons (ed_var rfl) (ea_cons (ed_var rfl) (ea_cons (ed_var rfl) ea_nil)))) (by rw [List.length_map]; omega))
          ((eo_ext (es := (r.2.br r.1).map brD) (ed_call (ea_cons (ed_var rfl) (ea_cons (ed_var rfl) ea_nil)) ⟨ps, r.1, F r.1, r.2, r.1, rfl, c _ _ hm, by omega, rfl⟩) (by simp only [List.length_append, List.length_map, List.length_cons, List.length_nil, br_len]; omega)).eq ?_), ?_⟩
        · rw [flat_take e]
          unfold rowBr
          simp only [List.map_append, List.map_cons, List.append_assoc, List.cons_append, List.nil_append]
        · exact .keep (.keep (.keep (.drop (.drop (.keep .nil)))))
      · rw [List.length_map, List.take_length]
    · have np : ∀ rows, s ≠ .par rows := fun rows e => hp ⟨rows, e⟩
      have ebr := br_parts p s np
      rw [ebr] at hbl ⊢
      have b0 : EB K (tTest (tOp rEq (tOp (rIxT K) (tVar 0) (tC (.int 0))) (tC (.str "par")))) [some s.d, some (dn p), none, none, none, none] false := by
        cases s <;> first | exact absurd rfl (np _) | walk_at "eb"
      refine eo_seqR (eo_if b0 (fun z => nomatch z) (fun _ => eo_next)) ?_
      refine eo_seqR (eo_for (ws := [5]) (ds := s.parts.map Sm.d) (fun k => ((s.parts.take k).flatMap (Sm.br p)).map brD) (ed_call (ea_cons (ed_var rfl) ea_nil) ⟨s, rfl, fun rows e => absurd e (np rows), rfl⟩) (by decide) fun k x hx => ?_) (eo_ret.eq ?_)
      · rw [List.getElem?_map] at hx
        cases e : s.parts[k]? with
        | none => rw [e] at hx; cases hx
        | some r =>
        rw [e] at hx
        have z := Option.some.inj hx
        subst z
        have hm := List.mem_of_getElem? e
        have l1 := flat_le (f := Sm.br p) e
        have l2 := br_len p r
        refine ⟨_, _, eg_name, (eo_ext (es := (r.br p).map brD) (ed_call (ea_cons (ed_var rfl) (ea_cons (ed_var rfl) ea_nil)) ⟨ps, i, S, r, p, rfl, parts_ok hs np hm, by omega, rfl⟩) (by simp only [List.length_map]; omega)).eq ?_, ?_⟩
        · rw [flat_take e, List.map_append]
        · exact .keep (.keep (.keep (.keep (.keep (.drop .nil)))))
      · rw [List.length_map, List.take_length]
end
end Pa
/-! threads_of, initial -/
namespace Pa
open PySem L2 PyProof.Rows
local macro_rules | `(tactic| walk_at "ed") => `(tactic| first
  | ((with_reducible show ED _ (tVar _) _ _); exact ed_var rfl)
  | ((with_reducible show ED _ (tC _) _ _); first | exact ed_int | exact ed_str | exact ed_non | exact ed_bl | exact ed_tupC T.fF | exact ed_tupC T.fS)
  | ((with_reducible show EA _ tNil _ _); exact ea_nil) | ((with_reducible show EA _ (tCons _ _) _ _); exact ea_cons (by walk_at "ed") (by walk_at "ed"))
  | ((with_reducible show ED _ (tTup _) _ _); exact ed_tup (by walk_at "ed")) | ((with_reducible show ED _ (tLst _) _ _); exact ed_lst (by walk_at "ed"))
  | ((with_reducible show ED _ (tOp (rI0 fun i j => V.int (i + j)) _ _) _ _); exact ed_add (by walk_at "ed") (by walk_at "ed"))
  | ((with_reducible show ED _ (tOp (rI0 fun i j => V.int (i - j)) _ _) _ _); exact ed_sub (by walk_at "ed") (by walk_at "ed"))
  | ((with_reducible show ED _ (tOp (rI0 fun i j => V.int (Builtin.bitAnd i j)) _ _) _ _); exact ed_and (by walk_at "ed") (by walk_at "ed"))
  | ((with_reducible show ED _ (tOp (rIxT _) _ (tC (.int 0))) _ _); exact ed_ix0 (by walk_at "ed")) | ((with_reducible show ED _ (tOp (rIxT _) _ (tC (.int 1))) _ _); exact ed_ix1 (by walk_at "ed"))
  | ((with_reducible show ED _ (tOp (rIxT _) _ (tC (.int 2))) _ _); exact ed_ix2 (by walk_at "ed")) | ((with_reducible show ED _ (tOp (rIxT _) _ (tC (.int 3))) _ _); exact ed_ix3 (by walk_at "ed"))
  | ((with_reducible show ED _ (tSl _ _ tNoPart (tPart _)) _ _); exact ed_take (by walk_at "ed") (by walk_at "ed")) | ((with_reducible show ED _ (tSl _ _ (tPart _) tNoPart) _ _); exact ed_dropI (by walk_at "ed") (by walk_at "ed") rfl)
  | ((with_reducible show ED _ (tOp rEq _ _) _ _); exact ed_eqS (by walk_at "ed") (by walk_at "ed"))
  | ((with_reducible show ED _ (tOp rEq _ _) _ _); exact ed_eqI (by walk_at "ed") (by walk_at "ed"))
  | ((with_reducible show ED _ (tOp (fun x y H Q => y = V.non ∧ Q (V.bl (decide (x = V.non))) H) _ _) _ _); exact ed_isN (by walk_at "ed"))
  | ((with_reducible show ED _ (tOp (rIn _ false) _ _) _ _); exact ed_in2 (by walk_at "ed"))
  | ((with_reducible show ED _ (tCB _ _) _ _); exact ed_len (by walk_at "ed")))
local macro_rules | `(tactic| walk_at "eb") => `(tactic| first
  | ((with_reducible show EB _ (tTest (tOp (rIn _ false) _ _)) _ _); exact (eb_cmp (ed_in2 (by walk_at "ed"))).eq (by decide +kernel))
  | ((with_reducible show EB _ (tTest (tOp rEq _ _)) _ _); exact (eb_cmp (ed_eqS (by walk_at "ed") (by walk_at "ed"))).eq (by decide +kernel)))

section
variable {P : Program} {w : World} {K : PySem.W.Frag} {mg : Str → Option Value} {base : Heap} {tW : Tok} {aF aS : Addr}
def restD : PyData → PyData
  | .tuple [_, p, s] => .tuple [p, s]
  | _ => .none
def threadsD (body : Sm) : List PyData := .tuple [.none, body.d] :: (((body.br 0).map brD).mergeSort leD).map restD
theorem threadsD_len (body : Sm) : (threadsD body).length = body.nb + 1 := by
  unfold threadsD
  rw [List.length_cons, List.length_map, (List.mergeSort_perm _ _).length_eq, List.length_map, br_len]
abbrev s_threads_of : Stmt := topS 4
theorem sc_threads_of : FnScope ["core", "rows", "_", "parent", "statement"] ["core"] (defScope s_threads_of) := ⟨rfl, rfl, rfl, by decide +kernel, rfl, by decide +kernel, by decide +kernel⟩
def rThreads : List PyData → PyData → Prop := fun ds d => ∃ (g : Cfg) (m nc : Nat) (ps : List Nat) (i : Nat) (S : Fp) (body : Sm), ds = [coreD g m nc body] ∧ SmOk ps 16 i S body ∧ body.nb ≤ 1000000 ∧ d = .list (threadsD body)
theorem ok_threads_of (T : Txt K mg tW aF aS) (dn_ : Def K mg "thread_number" s_thread_number) (d : Def K mg "threads_of" s_threads_of) (c_branches : Cal P w K mg base 18 "branches" ["s", "parent"] (spD K (rBr 16))) :
    Cal P w K mg base 19 "threads_of" ["core"] (spD K rThreads) := by
  obtain ⟨ftn, fdn, HTN, FTN⟩ := dn_
  refine d.pure sc_threads_of (fun ds d ⟨g, m, nc, ps, i, S, body, z, _⟩ => by rw [z]; rfl) (fun _ _ _ _ _ _ us hl => match us, hl with | [_], _ => rfl) (fun f cdv A outer s H E ds d hr hh => ?_)
  obtain ⟨g, m, nc, ps, i, S, body, rfl, hs, hn, rfl⟩ := hh
  have hbl := br_len 0 body
  refine ⟨_, 
      (pss_cons (ps_set (i := 1) sc_threads_of.nd rfl (Or.inl rfl) (pe_callBK (cr_sortedF FTN (hr.mono (by decide))) (by rfl) T.sorted (by decide +kernel) (pa_cons (pe_cal c_branches (hr.mono (by decide)) (pa_cons (pe_ix ix_tup (pv 0) pe_int (fun _ _ => rfl)) (pa_cons pe_int pa_nil))) pa_nil) (pk_cons (pe_glob (v := .ref _) rfl HTN rfl) pk_nil)))
      (pss_one (ps_ret (pe_op op_cat (pe_lst (pa_cons (pe_tup (pa_cons pe_non (pa_cons (pe_ix ix_tup (pv 0) pe_int (fun _ _ => rfl)) pa_nil))) pa_nil)) (pe_lc (own := [("_", 2), ("parent", 3), ("statement", 4)]) (g := gTup K 3 (gCons (gName 2) (gCons (gName 3) (gCons (gName 4) gNil)))) (tt := tYes) rfl sc_threads_of.nd (pi_list (pv 1)) (blkOk_by (own := [("_", 2), ("parent", 3), ("statement", 4)]) (N := ["core", "rows", "_", "parent", "statement"]) (sc := defScope s_threads_of) (by decide +kernel)) (fun _ _ _ _ _ => (pg_tup rfl (pgs_cons (pg_name (i := 2) sc_threads_of.nd rfl (Or.inl rfl)) (pgs_cons (pg_name (i := 3) sc_threads_of.nd rfl (Or.inl rfl)) (pgs_cons (pg_name (i := 4) sc_threads_of.nd rfl (Or.inl rfl)) pgs_nil))))) (fun _ _ _ _ _ => pts_nil) (fun _ _ _ _ _ => (pe_tup (pa_cons (pv 3) (pa_cons (pv 4) pa_nil))))))))), ?_⟩
  refine es_seq (es_set (ed_sortF (ds := (body.br 0).map brD) (f := ftn) (ed_call (ea_cons (ed_ix3 (ed_var rfl)) (ea_cons ed_int ea_nil)) ⟨ps, i, S, body, 0, rfl, hs, hn, rfl⟩) (fun σ H Q q => q) fun d hd => ?_)) ?_
  · obtain ⟨r, _, rfl⟩ := List.mem_map.mp hd
    exact ⟨_, _, rfl⟩
  · have hlen : ((body.br 0).map brD).length ≤ 1000000 := by rw [List.length_map, hbl]; exact hn
    have hp := List.mergeSort_perm ((body.br 0).map brD) leD
    refine es_ret (ed_cat (ed_lst (ea_cons (ed_tup (ea_cons ed_non (ea_cons (ed_ix3 (ed_var rfl)) ea_nil))) ea_nil)) (ed_lc (ws := [2, 3, 4]) restD (ed_var rfl) (by rw [hp.length_eq]; omega) fun x hx => ?_) (by rw [List.length_map, hp.length_eq]; show 1 + _ ≤ _; omega))
    obtain ⟨r, _, rfl⟩ := List.mem_map.mp (hp.mem_iff.mp hx)
    exact ⟨_, eg_tup (et_cons (et_cons (et_cons et_nil))) rfl, ed_tup (ea_cons (ed_var rfl) (ea_cons (ed_var rfl) ea_nil))⟩
theorem cnt_in (g : Cfg) (m : Nat) : PySem.Spec.countIn (.str "in") ((kinds g m).map PyData.str) = (g.nIn : Int) := by
  unfold kinds
  rw [List.map_append, List.map_append, List.map_replicate, List.map_replicate, List.map_replicate, countIn_app, countIn_app, countIn_rep _ _ (by decide +kernel), countIn_rep0 _ _ (by decide +kernel), countIn_rep0 _ _ (by decide +kernel)]
  omega
theorem cnt_out (g : Cfg) (m : Nat) : PySem.Spec.countIn (.str "out") ((kinds g m).map PyData.str) = (g.nOut : Int) := by
  unfold kinds
  rw [List.map_append, List.map_append, List.map_replicate, List.map_replicate, List.map_replicate, countIn_app, countIn_app, countIn_rep0 _ _ (by decide +kernel), countIn_rep _ _ (by decide +kernel), countIn_rep0 _ _ (by decide +kernel)]
  omega
abbrev s_initial : Stmt := topS 8
theorem sc_initial : FnScope ["core", "_", "cells", "channels", "body", "threads"] ["core"] (defScope s_initial) := ⟨rfl, rfl, rfl, by decide +kernel, rfl, by decide +kernel, by decide +kernel⟩
def rInitial : List PyData → PyData → Prop := fun ds d => ∃ (g : Cfg) (m nc : Nat) (ps : List Nat) (i : Nat) (S : Fp) (body : Sm), ds = [coreD g m nc body] ∧ SmOk ps 16 i S body ∧ body.nb ≤ 100000 ∧ nc ≤ 100000 ∧ g.nIn ≤ 1000 ∧ g.nOut ≤ 1000 ∧ d = (start g nc (body.nb + 1) body).d
theorem const_map {α : Type} {l : List α} {n : Nat} (c : PyData) (h : l.length = n) : l.map (fun _ => c) = List.replicate n c := by
  rw [List.map_const', h]
theorem ok_initial (T : Txt K mg tW aF aS) (d : Def K mg "initial" s_initial) (c_at : Cal P w K mg base 1 "at" ["stack"] (spD K rAt)) (c_threads_of : Cal P w K mg base 19 "threads_of" ["core"] (spD K rThreads)) :
    Cal P w K mg base 20 "initial" ["core"] (spD K rInitial) := by
  refine d.pure sc_initial (fun ds d ⟨g, m, nc, ps, i, S, body, z, _⟩ => by rw [z]; rfl) (fun _ _ _ _ _ _ us hl => match us, hl with | [_], _ => rfl) (fun f cdv A outer s H E ds d hr hh => ?_)
  obtain ⟨g, m, nc, ps, i, S, body, rfl, hs, hn, hc, h1, h2, rfl⟩ := hh
  refine ⟨_, 
      (pss_cons (ps_asg (pv 0) (pg_tup rfl (pgs_cons (pg_name (i := 1) sc_initial.nd rfl (Or.inl rfl)) (pgs_cons (pg_name (i := 2) sc_initial.nd rfl (Or.inl rfl)) (pgs_cons (pg_name (i := 3) sc_initial.nd rfl (Or.inl rfl)) (pgs_cons (pg_name (i := 4) sc_initial.nd rfl (Or.inl rfl)) pgs_nil))))))
      (pss_cons (ps_setLc (i := 5) (own := [("_", 1)]) (g := gName 1) (tt := tYes) rfl sc_initial.nd rfl rfl (sw_true rfl rfl rfl (by decide +kernel)) (pi_list (pe_cal c_threads_of (hr.mono (by decide)) (pa_cons (pv 0) pa_nil))) (blkOk_by (own := [("_", 1)]) (N := ["core", "_", "cells", "channels", "body", "threads"]) (sc := defScope s_initial) (by decide +kernel)) (fun _ _ _ _ _ => (pg_name (i := 1) sc_initial.nd rfl (Or.inl rfl))) (fun _ _ _ _ _ => pts_nil) (fun _ _ _ _ _ => (pe_tup (pa_cons pe_str pa_nil))))
      (pss_cons (ps_asg (pe_cal c_at (hr.mono (by decide)) (pa_cons (pe_lst (pa_cons (pv 4) pa_nil)) pa_nil)) (pg_sub (pv 5) pe_int set_list))
      (pss_one (ps_ret (pe_tup (pa_cons (pe_op op_rep (pe_lst (pa_cons pe_int pa_nil)) (pv 2)) (pa_cons (pv 5) (pa_cons (pe_op op_rep (pe_lst (pa_cons pe_int pa_nil)) (pe_bm PySem.F.plainAttrs_list PySem.F.slot_list_count PySem.F.type_list_count mt_countS (pv 3) (pa_cons pe_str pa_nil))) (pa_cons (pe_lc (own := [("_", 1)]) (g := gName 1) (tt := tYes) rfl sc_initial.nd (pi_range1 rfl T.range (pa_cons (pe_bm PySem.F.plainAttrs_list PySem.F.slot_list_count PySem.F.type_list_count mt_countS (pv 3) (pa_cons pe_str pa_nil)) pa_nil)) (blkOk_by (own := [("_", 1)]) (N := ["core", "_", "cells", "channels", "body", "threads"]) (sc := defScope s_initial) (by decide +kernel)) (fun _ _ _ _ _ => (pg_name (i := 1) sc_initial.nd rfl (Or.inl rfl))) (fun _ _ _ _ _ => pts_nil) (fun _ _ _ _ _ => (pe_lst pa_nil))) pa_nil)))))))))), ?_⟩
  refine es_seq (es_unp (ws := [1, 2, 3, 4]) (ed_var rfl) (et_cons (et_cons (et_cons (et_cons et_nil)))) rfl) ?_
  show ES K _ [some (coreD g m nc body), some (.str "core"), some (dn nc), some (kindsD g m), some body.d, none] _
  have tl := threadsD_len body
  refine es_ownL (el_lc (ws := [1]) (fun _ => .tuple [.str "idle"]) (ed_call (ea_cons (ed_var rfl) ea_nil) ⟨g, m, nc, ps, i, S, body, rfl, hs, by omega, rfl⟩) (by omega) fun x hx => ⟨_, eg_name, ed_tup (ea_cons ed_str ea_nil)⟩) ?_ rfl
  refine eo_seqR (eo_put (k := 0) (ed_call (ea_cons (ed_lst (ea_cons (ed_var rfl) ea_nil)) ea_nil) ⟨[body], rfl, rfl⟩) ed_int (by rw [List.length_map]; omega)) ?_
  refine eo_retWith ?_
  refine (ed_tup (ea_cons (ed_rep (n := nc) (ed_lst (ea_cons ed_int ea_nil)) (ed_var rfl) (by omega)) (ea_cons (ed_var rfl) (ea_cons (ed_rep (n := g.nIn) (ed_lst (ea_cons ed_int ea_nil)) ((ed_countS (ed_var rfl)).eq (congrArg PyData.int (cnt_in g m))) (by omega))
    (ea_cons ((el_lcR (n := g.nOut) (ws := [1]) (fun _ => .list []) ((ed_countS (ed_var rfl)).eq (congrArg PyData.int (cnt_out g m))) (by omega) fun k hk => ⟨_, eg_name, ed_lst ea_nil⟩).ed) ea_nil))))).eq ?_
  have e1 : (List.range g.nOut).map (fun _ => PyData.list []) = List.replicate g.nOut (PyData.list []) := const_map _ List.length_range
  rw [const_map _ tl, e1]
  unfold start State.d cellsD condsD dns outsD
  rw [List.map_set, List.map_replicate, List.map_replicate, List.map_replicate, List.map_replicate]
  rfl
end
end Pa
/-! What holds along a run, so that each state of it is of measured size. -/
namespace Pa
open PySem L2
/-! ### shapes of data -/
theorem can_all {ds : List PyData} (h : ∀ d, d ∈ ds → d.canLay0 = true) : PyData.canLayAll0 ds = true := by
  induction ds with
  | nil => rfl
  | cons d r ih => simp only [PyData.canLayAll0, h d (List.mem_cons_self ..), ih fun x hx => h x (List.mem_cons_of_mem _ hx), Bool.and_self]
theorem dep_all {ds : List PyData} {n : Nat} (h : ∀ d, d ∈ ds → d.depth ≤ n) : PyData.depthAll ds ≤ n := by
  induction ds with
  | nil => exact Nat.zero_le _
  | cons d r ih =>
    have h1 := h d (List.mem_cons_self ..)
    have h2 := ih fun x hx => h x (List.mem_cons_of_mem _ hx)
    simp only [PyData.depthAll]
    omega
theorem can_dns (ns : List Nat) : (dns ns).canLay0 = true := by
  show PyData.canLayAll0 (ns.map dn) = true
  refine can_all fun d hd => ?_
  obtain ⟨n, _, rfl⟩ := List.mem_map.mp hd
  rfl
theorem dep_dns (ns : List Nat) : (dns ns).depth ≤ 1 := by
  have : PyData.depthAll (ns.map dn) ≤ 0 := dep_all fun d hd => by
    obtain ⟨n, _, rfl⟩ := List.mem_map.mp hd
    exact Nat.le_refl _
  show PyData.depthAll (ns.map dn) + 1 ≤ 1
  omega
theorem can_op (o : Op) : PyData.canLay0 (.str o.str) = true := by cases o <;> decide +kernel
theorem can_ex : ∀ e : Ex, e.d.canLay0 = true
  | .num n => by simp only [Ex.d, PyData.canLay0, PyData.canLayAll0]; decide +kernel
  | .cell k => by simp only [Ex.d, PyData.canLay0, PyData.canLayAll0]; decide +kernel
  | .att f n e => by simp only [Ex.d, PyData.canLay0, PyData.canLayAll0, can_ex e]; decide +kernel
  | .neg e => by simp only [Ex.d, PyData.canLay0, PyData.canLayAll0, can_ex e]; decide +kernel
  | .inv e => by simp only [Ex.d, PyData.canLay0, PyData.canLayAll0, can_ex e]; decide +kernel
  | .bin o a b => by
    have h := can_op o
    simp only [Ex.d, PyData.canLay0, PyData.canLayAll0, can_ex a, can_ex b] at h ⊢
    rw [h]
    rfl
theorem dep_ex : ∀ e : Ex, e.d.depth ≤ e.ht + 1
  | .num n => by simp [Ex.d, PyData.depth, PyData.depthAll, Ex.ht]
  | .cell k => by simp [Ex.d, PyData.depth, PyData.depthAll, Ex.ht]
  | .att f n e => by
    have := dep_ex e
    simp only [Ex.d, PyData.depth, PyData.depthAll, Ex.ht]
    omega
  | .neg e => by
    have := dep_ex e
    simp only [Ex.d, PyData.depth, PyData.depthAll, Ex.ht]
    omega
  | .inv e => by
    have := dep_ex e
    simp only [Ex.d, PyData.depth, PyData.depthAll, Ex.ht]
    omega
  | .bin o a b => by
    have h1 := dep_ex a
    have h2 := dep_ex b
    simp only [Ex.d, PyData.depth, PyData.depthAll, Ex.ht]
    omega
theorem can_sm {ps : List Nat} {D i : Nat} {S : Fp} {s : Sm} (h : SmOk ps D i S s) : s.d.canLay0 = true := by
  induction h with
  | skip => decide +kernel
  | stop => decide +kernel
  | @set D i S t e a b => simp only [Sm.d, PyData.canLay0, PyData.canLayAll0, can_ex]; decide +kernel
  | give a b => simp only [Sm.d, PyData.canLay0, PyData.canLayAll0, can_ex]; decide +kernel
  | take a b => simp only [Sm.d, PyData.canLay0, PyData.canLayAll0, can_ex]; decide +kernel
  | @seq D i S ss a ih =>
    have e : PyData.canLayAll0 (smsD ss) = true := by
      rw [smsD_map]
      refine can_all fun d hd => ?_
      obtain ⟨s, hs, rfl⟩ := List.mem_map.mp hd
      exact ih s hs
    simp only [Sm.d, PyData.canLay0, PyData.canLayAll0, e]
    decide +kernel
  | @par D i S rows F a b c q ih =>
    have e : PyData.canLayAll0 (rowsD rows) = true := by
      rw [rowsD_map]
      refine can_all fun d hd => ?_
      obtain ⟨r, hr, rfl⟩ := List.mem_map.mp hd
      simp only [PyData.canLay0, PyData.canLayAll0, ih r.1 r.2 hr, Bool.and_self]
    simp only [Sm.d, PyData.canLay0, PyData.canLayAll0, e]
    decide +kernel
  | ite a _ _ i1 i2 => simp only [Sm.d, PyData.canLay0, PyData.canLayAll0, can_ex, i1, i2]; decide +kernel
  | rep a _ i1 => simp only [Sm.d, PyData.canLay0, PyData.canLayAll0, can_ex, i1]; decide +kernel
theorem dep_sm {ps : List Nat} {D i : Nat} {S : Fp} {s : Sm} (h : SmOk ps D i S s) : s.d.depth ≤ 3 * D + 6 := by
  induction h with
  | skip => simp only [Sm.d, PyData.depth, PyData.depthAll]; omega
  | stop => simp only [Sm.d, PyData.depth, PyData.depthAll]; omega
  | @set D i S t e a b =>
    have h1 := dep_ex t
    have h2 := dep_ex e
    have h3 := a.ht
    have h4 := b.ht
    simp only [Sm.d, PyData.depth, PyData.depthAll]
    omega
  | @give D i S c e a b =>
    have h2 := dep_ex e
    have h4 := b.ht
    simp only [Sm.d, PyData.depth, PyData.depthAll]
    omega
  | @take D i S c t a b =>
    have h2 := dep_ex t
    have h4 := b.ht
    simp only [Sm.d, PyData.depth, PyData.depthAll]
    omega
  | @seq D i S ss a ih =>
    have e : PyData.depthAll (smsD ss) ≤ 3 * D + 6 := by
      rw [smsD_map]
      refine dep_all fun d hd => ?_
      obtain ⟨s, hs, rfl⟩ := List.mem_map.mp hd
      exact ih s hs
    simp only [Sm.d, PyData.depth, PyData.depthAll]
    omega
  | @par D i S rows F a b c q ih =>
    have e : PyData.depthAll (rowsD rows) ≤ 3 * D + 7 := by
      rw [rowsD_map]
      refine dep_all fun d hd => ?_
      obtain ⟨r, hr, rfl⟩ := List.mem_map.mp hd
      have := ih r.1 r.2 hr
      simp only [PyData.depth, PyData.depthAll]
      omega
    simp only [Sm.d, PyData.depth, PyData.depthAll]
    omega
  | @ite D i S e a b x _ _ i1 i2 =>
    have h2 := dep_ex e
    have h4 := x.ht
    simp only [Sm.d, PyData.depth, PyData.depthAll]
    omega
  | @rep D i S e n s x _ i1 =>
    have h2 := dep_ex e
    have h4 := x.ht
    simp only [Sm.d, PyData.depth, PyData.depthAll]
    omega
theorem can_stk {ps : List Nat} {D i : Nat} {S : Fp} {st : List Sm} (h : ∀ s, s ∈ st → SmOk ps D i S s) : (stk st).canLay0 = true := by
  show PyData.canLayAll0 (st.map Sm.d) = true
  refine can_all fun d hd => ?_
  obtain ⟨s, hs, rfl⟩ := List.mem_map.mp hd
  exact can_sm (h s hs)
theorem dep_stk {ps : List Nat} {D i : Nat} {S : Fp} {st : List Sm} (h : ∀ s, s ∈ st → SmOk ps D i S s) : (stk st).depth ≤ 3 * D + 7 := by
  have e : PyData.depthAll (st.map Sm.d) ≤ 3 * D + 6 := dep_all fun d hd => by
    obtain ⟨s, hs, rfl⟩ := List.mem_map.mp hd
    exact dep_sm (h s hs)
  show PyData.depthAll (st.map Sm.d) + 1 ≤ _
  omega
theorem cond_shape {ps : List Nat} {D t : Nat} {S : Fp} {c : Cond} (h : CondOk ps D S t c) : c.d.canLay0 = true ∧ c.d.depth ≤ 3 * D + 8 := by
  have c1 : ∀ {st : List Sm}, (∀ s, s ∈ st → SmOk ps D t S s) → PyData.canLayAll0 (st.map Sm.d) = true := fun h => can_stk h
  have d1 : ∀ {st : List Sm}, (∀ s, s ∈ st → SmOk ps D t S s) → PyData.depthAll (st.map Sm.d) + 1 ≤ 3 * D + 7 := fun h => dep_stk h
  cases c with
  | idle => exact ⟨by decide +kernel, by simp only [Cond.d, PyData.depth, PyData.depthAll]; omega⟩
  | done => exact ⟨by decide +kernel, by simp only [Cond.d, PyData.depth, PyData.depthAll]; omega⟩
  | stopped => exact ⟨by decide +kernel, by simp only [Cond.d, PyData.depth, PyData.depthAll]; omega⟩
  | faulted => exact ⟨by decide +kernel, by simp only [Cond.d, PyData.depth, PyData.depthAll]; omega⟩
  | run st =>
    have a := c1 h.2
    have b := d1 h.2
    refine ⟨?_, ?_⟩
    · simp only [Cond.d, PyData.canLay0, PyData.canLayAll0, a]
      decide +kernel
    · simp only [Cond.d, PyData.depth, PyData.depthAll]
      omega
  | giv x w st =>
    have a := c1 h.2.2
    have b := d1 h.2.2
    refine ⟨?_, ?_⟩
    · simp only [Cond.d, PyData.canLay0, PyData.canLayAll0, a]
      decide +kernel
    · simp only [Cond.d, PyData.depth, PyData.depthAll]
      omega
  | opn x k st =>
    have a := c1 h.2.2
    have b := d1 h.2.2
    refine ⟨?_, ?_⟩
    · simp only [Cond.d, PyData.canLay0, PyData.canLayAll0, a]
      decide +kernel
    · simp only [Cond.d, PyData.depth, PyData.depthAll]
      omega
  | join ts st =>
    have a := c1 h.2
    have b := d1 h.2
    have a2 : PyData.canLayAll0 (ts.map dn) = true := can_dns ts
    have b2 : PyData.depthAll (ts.map dn) + 1 ≤ 1 := dep_dns ts
    refine ⟨?_, ?_⟩
    · simp only [Cond.d, PyData.canLay0, PyData.canLayAll0, a, a2]
      decide +kernel
    · simp only [Cond.d, PyData.depth, PyData.depthAll]
      omega
theorem shaped_of {d : PyData} (h : d.canLay0 = true) (q : d.depth ≤ 64) : SeqAt.shaped d = true := by
  unfold SeqAt.shaped
  rw [h, decide_eq_true q]
  rfl
theorem eqv_self {d : PyData} (h : d.canLay0 = true) : PyData.eqv d d = true := SeqAt.eqv_refl d h

/-! ### measured along a run -/
theorem mem_sets {α : Type} {y : α} : ∀ {ps : List (Nat × α)} {l : List α}, y ∈ sets l ps → y ∈ l ∨ ∃ p, p ∈ ps ∧ y = p.2
  | [], l, h => .inl h
  | p :: ps, l, h => by
    have h' : y ∈ sets (l.set p.1 p.2) ps := h
    rcases mem_sets h' with z | ⟨q, hq, e⟩
    · rcases mem_set' z with w | w
      · exact .inl w
      · exact .inr ⟨p, List.mem_cons_self .., w⟩
    · exact .inr ⟨q, List.mem_cons_of_mem _ hq, e⟩
structure SX (N : Nat) (σ : State) : Prop where
  ms : σ.ms ≤ N
  row : ∀ r, r ∈ σ.outs → r.length + σ.ms ≤ N
  join : ∀ ts st, Cond.join ts st ∈ σ.th → ts.length ≤ N
theorem mkAt_join {st st' : List Sm} {ts : List Nat} (h : mkAt st = .join ts st') : False := by cases st <;> cases h
theorem stepCond_join {cs : List Nat} {rest st : List Sm} {s : Sm} {ts : List Nat} (h : stepCond cs rest s = .join ts st) : False := by
  cases s with
  | skip => exact mkAt_join h
  | stop => cases h
  | set t e => cases h
  | par rows => cases h
  | give c e => simp only [stepCond] at h; split at h <;> cases h
  | take c e => simp only [stepCond] at h; split at h <;> cases h
  | seq ss => exact mkAt_join h
  | ite e a b => simp only [stepCond] at h; split at h <;> cases h
  | rep e n s =>
    simp only [stepCond] at h
    split at h
    · exact mkAt_join h
    · split at h
      · cases h
      · split at h
        · exact mkAt_join h
        · cases h
theorem stepEff_join {cs : List Nat} {t : Nat} {rest st : List Sm} {s : Sm} {ts : List Nat} {p : Nat × Cond} (hp : p ∈ (stepEff cs t rest s).ths) (e : p.2 = .join ts st) : ts.length ≤ s.wk := by
  cases s with
  | set tg x =>
    simp only [stepEff] at hp
    split at hp
    · rw [List.mem_singleton.mp hp] at e; cases e
    · split at hp
      · rw [List.mem_singleton.mp hp] at e; cases e
      · rw [List.mem_singleton.mp hp] at e; exact (mkAt_join e).elim
  | par rows =>
    rcases List.mem_cons.mp hp with z | z
    · rw [z] at e
      cases e
      have := len_wkR rows
      rw [List.length_map]
      simp only [Sm.wk]
      omega
    · obtain ⟨r, _, rfl⟩ := List.mem_map.mp z
      cases e
  | skip => rw [List.mem_singleton.mp hp] at e; exact (stepCond_join (cs := cs) (rest := rest) (s := .skip) e).elim
  | stop => rw [List.mem_singleton.mp hp] at e; exact (stepCond_join (cs := cs) (rest := rest) (s := .stop) e).elim
  | give c x => rw [List.mem_singleton.mp hp] at e; exact (stepCond_join (cs := cs) (rest := rest) (s := .give c x) e).elim
  | take c x => rw [List.mem_singleton.mp hp] at e; exact (stepCond_join (cs := cs) (rest := rest) (s := .take c x) e).elim
  | seq ss => rw [List.mem_singleton.mp hp] at e; exact (stepCond_join (cs := cs) (rest := rest) (s := .seq ss) e).elim
  | ite x a b => rw [List.mem_singleton.mp hp] at e; exact (stepCond_join (cs := cs) (rest := rest) (s := .ite x a b) e).elim
  | rep x n a => rw [List.mem_singleton.mp hp] at e; exact (stepCond_join (cs := cs) (rest := rest) (s := .rep x n a) e).elim
theorem eff_join {g : Cfg} {σ : State} {r : Rx} {ts : List Nat} {st : List Sm} {p : Nat × Cond} (hp : p ∈ (eff g σ r).ths) (e : p.2 = .join ts st) : ts.length ≤ σ.ms := by
  cases r with
  | step t =>
    simp only [eff] at hp
    split at hp
    · rename_i s rest h
      have h1 := stepEff_join hp e
      have h2 : wkL (s :: rest) ≤ σ.ms := ms_get h
      have h3 : wkL (s :: rest) = s.wk + wkL rest := rfl
      omega
    · simp at hp
  | meet c a t =>
    simp only [eff] at hp
    split at hp
    · split at hp
      · simp at hp
        rcases hp with z | z <;> (rw [z] at e; exact (mkAt_join e).elim)
      · simp at hp
    · simp at hp
  | input c t =>
    simp only [eff] at hp
    split at hp
    · rw [List.mem_singleton.mp hp] at e; exact (mkAt_join e).elim
    · simp at hp
  | output c t =>
    simp only [eff] at hp
    split at hp
    · rw [List.mem_singleton.mp hp] at e; exact (mkAt_join e).elim
    · simp at hp
  | fin t =>
    simp only [eff] at hp
    split at hp
    · rw [List.mem_singleton.mp hp] at e; exact (mkAt_join e).elim
    · simp at hp
theorem SX.perform {N : Nat} {g : Cfg} {σ : State} {r : Rx} (X : SX N σ) (h : En g σ r) : SX N (perform g σ r) := by
  have hm := perform_ms h
  refine ⟨Nat.le_of_lt (Nat.lt_of_lt_of_le hm X.ms), fun row hr => ?_, fun ts st hj => ?_⟩
  · have hr' : row ∈ (match (eff g σ r).out with | none => σ.outs | some (i, w) => σ.outs.set i (σ.outs.getD i [] ++ [w])) := hr
    have old : ∀ q, q ∈ σ.outs → q.length + (Pa.perform g σ r).ms ≤ N := fun q hq => by
      have := X.row q hq
      omega
    split at hr'
    · exact old row hr'
    · rename_i i w _
      rcases mem_set' hr' with z | z
      · exact old row z
      · rw [z, List.length_append]
        show _ + 1 + _ ≤ _
        by_cases hi : i < σ.outs.length
        · have : σ.outs.getD i [] ∈ σ.outs := by
            rw [List.getD_eq_getElem?_getD, List.getElem?_eq_getElem hi]
            exact List.getElem_mem hi
          have := X.row _ this
          omega
        · have e0 : σ.outs.getD i [] = [] := by rw [List.getD_eq_getElem?_getD, List.getElem?_eq_none (by omega)]; rfl
          rw [e0]
          have := X.ms
          show 0 + 1 + _ ≤ _
          omega
  · rcases mem_sets (show Cond.join ts st ∈ sets σ.th (eff g σ r).ths from hj) with z | ⟨p, hp, e⟩
    · exact X.join ts st z
    · exact Nat.le_trans (eff_join hp e.symm) X.ms
theorem SX.start {g : Cfg} {nc nth : Nat} {body : Sm} {N : Nat} (h : body.wk ≤ N) : SX N (start g nc nth body) := by
  have hm := start_ms g nc nth body
  refine ⟨Nat.le_trans hm h, fun r hr => ?_, fun ts st hj => ?_⟩
  · rw [List.eq_of_mem_replicate hr]
    show 0 + _ ≤ N
    omega
  · rcases mem_set' hj with z | z
    · have := List.eq_of_mem_replicate z
      cases this
    · cases z
theorem SX.path {N : Nat} {g : Cfg} {σ σ' : State} {n : Nat} {evs : List (Nat × Nat)} (p : Path g σ n evs σ') (X : SX N σ) : SX N σ' := by
  induction p with
  | nil => exact X
  | cons h _ ih => exact ih (X.perform h)
/-- what a core and its inputs must be -/
structure Good (g : Cfg) (m nc : Nat) (ps : List Nat) (B : Fp) : Prop where
  nin : g.nIn ≤ 1000
  nout : g.nOut ≤ 1000
  inp : g.inp.length = g.nIn
  words : g.Words
  cells : nc ≤ 100000
  thr : ps.length ≤ 100000
  br : ∀ k, B.R k → k < nc
  bw : ∀ k, B.W k → k < nc
  bg : ∀ c, B.G c → c < g.nIn + g.nOut + m
  bt : ∀ c, B.T c → c < g.nIn + g.nOut + m
section
variable {g : Cfg} {m nc : Nat} {ps : List Nat} {B : Fp} {σ : State}
theorem Good.sz (G : Good g m nc ps B) (I : SInv g ps 16 nc B σ) (X : SX 100000 σ) : Sz g σ := by
  obtain ⟨F, J⟩ := I.ex
  refine ⟨by rw [I.nc]; have := G.cells; omega, by rw [J.len]; have := G.thr; omega, by have := X.ms; omega, I.tk, I.ou, G.nin, G.nout, G.inp, fun r hr => by have := X.row r hr; omega, I.wd, fun t s rest e => ?_, fun t c k st e => ?_⟩
  · have h1 := (J.ok t _ e).2 s (List.mem_cons_self ..)
    have l := J.le t _ e trivial
    refine ⟨?_, fun rows hs r hr => ?_⟩
    · rw [I.nc]
      exact fit_of h1 (fun k hk => G.br k (l.r k hk)) (fun k hk => G.bw k (l.w k hk))
    · rw [hs] at h1
      have := (par_rows (k := r.1) (s := r.2) h1 hr).1
      rw [J.len]
      exact (List.getElem?_eq_some_iff.mp this).1
  · have h1 := J.ok t _ e
    have l := J.le t _ e trivial
    rw [I.nc]
    exact G.bw k (l.w k h1.2.1)
theorem SInv.shp (I : SInv g ps 16 nc B σ) : ∀ c, c ∈ σ.th → c.d.canLay0 = true ∧ c.d.depth ≤ 56 := by
  obtain ⟨F, J⟩ := I.ex
  intro c hc
  obtain ⟨t, ht, e⟩ := List.getElem_of_mem hc
  exact cond_shape (J.ok t c (by rw [← e]; exact List.getElem?_eq_getElem ht))
theorem Good.sc (G : Good g m nc ps B) (I : SInv g ps 16 nc B σ) (X : SX 100000 σ) : Sc g m σ := by
  have sh := I.shp
  obtain ⟨F, J⟩ := I.ex
  refine ⟨fun t c k st e => ?_, fun t c k st e => ?_, fun t ts st e => ?_, fun c hc => shaped_of (sh c hc).1 (by have := (sh c hc).2; omega)⟩
  · exact G.bt c ((J.le t _ e trivial).t c (J.ok t _ e).1)
  · exact G.bg c ((J.le t _ e trivial).g c (J.ok t _ e).1)
  · refine ⟨by have := X.join ts st (List.mem_of_getElem? e); omega, fun k hk => ?_⟩
    have := ((J.ok t _ e).1 k hk).1
    rw [J.len]
    exact (List.getElem?_eq_some_iff.mp this).1
/-- a state's data are equal to themselves, their depth is small -/
theorem SInv.shaped (I : SInv g ps 16 nc B σ) : SeqAt.shaped σ.d = true := by
  have sh := I.shp
  have e1 : PyData.canLayAll0 (σ.th.map Cond.d) = true := can_all fun d hd => by
    obtain ⟨c, hc, rfl⟩ := List.mem_map.mp hd
    exact (sh c hc).1
  have e2 : PyData.depthAll (σ.th.map Cond.d) ≤ 56 := dep_all fun d hd => by
    obtain ⟨c, hc, rfl⟩ := List.mem_map.mp hd
    exact (sh c hc).2
  have e3 : PyData.canLayAll0 (σ.outs.map dns) = true := can_all fun d hd => by
    obtain ⟨c, hc, rfl⟩ := List.mem_map.mp hd
    exact can_dns c
  have e4 : PyData.depthAll (σ.outs.map dns) ≤ 1 := dep_all fun d hd => by
    obtain ⟨c, hc, rfl⟩ := List.mem_map.mp hd
    exact dep_dns c
  have e5 : ∀ ns : List Nat, PyData.canLayAll0 (ns.map dn) = true := fun ns => can_dns ns
  have e6 : ∀ ns : List Nat, PyData.depthAll (ns.map dn) ≤ 0 := fun ns => by
    have h : PyData.depthAll (ns.map dn) + 1 ≤ 1 := dep_dns ns
    omega
  refine shaped_of ?_ ?_
  · simp only [State.d, PyData.canLay0, PyData.canLayAll0, e1, e3, e5, Bool.and_self]
  · have h1 := e6 σ.cells
    have h2 := e6 σ.taken
    simp only [State.d, PyData.depth, PyData.depthAll]
    omega
end
end Pa
/-! Run, go_on, run_from, run, steps -/
namespace Pa
open PySem L2 PyProof.Rows
local macro_rules | `(tactic| walk_at "ed") => `(tactic| first
  | ((with_reducible show ED _ (tVar _) _ _); exact ed_var rfl)
  | ((with_reducible show ED _ (tC _) _ _); first | exact ed_int | exact ed_str | exact ed_non | exact ed_bl | exact ed_tupC T.fF | exact ed_tupC T.fS)
  | ((with_reducible show EA _ tNil _ _); exact ea_nil) | ((with_reducible show EA _ (tCons _ _) _ _); exact ea_cons (by walk_at "ed") (by walk_at "ed"))
  | ((with_reducible show ED _ (tTup _) _ _); exact ed_tup (by walk_at "ed")) | ((with_reducible show ED _ (tLst _) _ _); exact ed_lst (by walk_at "ed"))
  | ((with_reducible show ED _ (tOp (rI0 fun i j => V.int (i + j)) _ _) _ _); exact ed_add (by walk_at "ed") (by walk_at "ed"))
  | ((with_reducible show ED _ (tOp (rI0 fun i j => V.int (i - j)) _ _) _ _); exact ed_sub (by walk_at "ed") (by walk_at "ed"))
  | ((with_reducible show ED _ (tOp (rI0 fun i j => V.int (Builtin.bitAnd i j)) _ _) _ _); exact ed_and (by walk_at "ed") (by walk_at "ed"))
  | ((with_reducible show ED _ (tOp (rIxT _) _ (tC (.int 0))) _ _); exact ed_ix0 (by walk_at "ed")) | ((with_reducible show ED _ (tOp (rIxT _) _ (tC (.int 1))) _ _); exact ed_ix1 (by walk_at "ed"))
  | ((with_reducible show ED _ (tOp (rIxT _) _ (tC (.int 2))) _ _); exact ed_ix2 (by walk_at "ed")) | ((with_reducible show ED _ (tOp (rIxT _) _ (tC (.int 3))) _ _); exact ed_ix3 (by walk_at "ed"))
  | ((with_reducible show ED _ (tSl _ _ tNoPart (tPart _)) _ _); exact ed_take (by walk_at "ed") (by walk_at "ed")) | ((with_reducible show ED _ (tSl _ _ (tPart _) tNoPart) _ _); exact ed_dropI (by walk_at "ed") (by walk_at "ed") rfl)
  | ((with_reducible show ED _ (tOp rEq _ _) _ _); exact ed_eqS (by walk_at "ed") (by walk_at "ed"))
  | ((with_reducible show ED _ (tOp rEq _ _) _ _); exact ed_eqI (by walk_at "ed") (by walk_at "ed"))
  | ((with_reducible show ED _ (tOp (fun x y H Q => y = V.non ∧ Q (V.bl (decide (x = V.non))) H) _ _) _ _); exact ed_isN (by walk_at "ed"))
  | ((with_reducible show ED _ (tOp (rIn _ false) _ _) _ _); exact ed_in2 (by walk_at "ed"))
  | ((with_reducible show ED _ (tCB _ _) _ _); exact ed_len (by walk_at "ed")))
local macro_rules | `(tactic| walk_at "eb") => `(tactic| first
  | ((with_reducible show EB _ (tTest (tOp (rIn _ false) _ _)) _ _); exact (eb_cmp (ed_in2 (by walk_at "ed"))).eq (by decide +kernel))
  | ((with_reducible show EB _ (tTest (tOp rEq _ _)) _ _); exact (eb_cmp (ed_eqS (by walk_at "ed") (by walk_at "ed"))).eq (by decide +kernel)))

abbrev s_Run___init__ : Stmt := inClass (topS 32) 0
theorem sc_Run___init__ : FnScope ["self", "state"] ["self", "state"] (defScope s_Run___init__) := ⟨rfl, rfl, rfl, by decide +kernel, rfl, by decide +kernel, by decide +kernel⟩
/-- the class Run as it stands behind the top -/
structure RunC (K : PySem.W.Frag) (mg : Str → Option Value) (C : Addr) : Prop where
  gRun : mg "Run" = some (.ref C)
  cls : Cls K C
  nS : NoAttr K C "state"
  nE : NoAttr K C "events"
  nM : NoAttr K C "many"
  init : ∃ f fd, Fun K "__init__" "Run.__init__" s_Run___init__ f fd ∧ Mk K C f
abbrev runF (v : V) (p : Addr) (n : Nat) : List (Str × V) := [("state", v), ("events", .ref p), ("many", .int (n : Int))]
section
variable {P : Program} {w : World} {K : PySem.W.Frag} {mg : Str → Option Value} {base : Heap} {tW : Tok} {aF aS : Addr}
def spInit (C : Addr) : Sp := fun vs H Q _ => ∃ (x : Addr) (st : V) (dx : Addr), vs = [.ref x, st] ∧ H x = some (.ins C dx []) ∧
  ∀ (p : Addr) (H' : Hp), H p = none → H' x = some (.ins C dx (runF st p 0)) → H' p = some (.lst []) → (∀ b o, b ≠ x → H b = some o → H' b = some o) → Q .non H'
theorem ok_init {C : Addr} (RC : RunC K mg C) {fi : Addr} {fdi : FuncData} (F : Fun K "__init__" "Run.__init__" s_Run___init__ fi fdi) : FnOk P w K mg base CX0 1 fi fdi ["self", "state"] (spInit C) :=
  F.ok sc_Run___init__ (fun vs H Q E ⟨x, st, dx, z, _⟩ => by rw [z]; rfl) fun cdv A outer s H vs Q E hr ⟨x, st, dx, z, hx, q⟩ => by
    subst z
    refine ⟨_, 
      (pss_cons (ps_fld (pv 0) (pv 1) rfl) (pss_cons (ps_fld (pv 0) (pe_lst pa_nil) rfl) (pss_one (ps_fld (pv 0) pe_int rfl)))), ?_⟩
    refine ⟨_, rfl, _, rfl, x, C, dx, [], rfl, hx, RC.cls, RC.nS, by decide, ?_⟩
    refine ⟨Nat.zero_le _, fun p hp => ?_⟩
    have npx : p ≠ x := fun z => by rw [z, upd_same] at hp; cases hp
    refine ⟨_, rfl, x, C, dx, _, rfl, by rw [upd_ne (Ne.symm npx), upd_same], RC.cls, RC.nE, Nat.lt_of_lt_of_le (show 1 < 2 from by decide) (by decide), ?_⟩
    refine ⟨_, rfl, x, C, dx, _, rfl, upd_same, RC.cls, RC.nM, Nat.lt_of_lt_of_le (show 2 < 3 from by decide) (by decide), ?_⟩
    refine q p _ (by rw [upd_ne npx] at hp; exact hp) upd_same (by rw [upd_ne npx, upd_ne npx, upd_same]) fun b o nb hb => ?_
    have nbp : b ≠ p := fun z => by
      rw [z] at hb
      rw [upd_ne npx] at hp
      rw [hp] at hb
      cases hb
    rw [upd_ne nb, upd_ne nb, upd_ne nbp, upd_ne nb]
    exact hb

/-- the object of class Run in slot 4 -/
structure Gs (K : PySem.W.Frag) (C x p : Addr) (F H : Hp) (σ : L2.St) (v : V) (n : Nat) (evs : List (Nat × Nat)) (st : State) : Prop where
  at4 : σ[4]? = some (some (.ref x))
  nx : F x = none
  np : F p = none
  ne : p ≠ x
  obj : ∃ dx, H x = some (.ins C dx (runF v p n))
  da : Da K F v st.d
  ev : ∃ xs, H p = some (.lst xs) ∧ Das K F xs (evs.map evD)
section
variable {C x p : Addr} {F H F' H' : Hp} {σ : L2.St} {v : V} {n : Nat} {evs : List (Nat × Nat)} {st : State}
theorem Gs.thru (G : Gs K C x p F H σ v n evs st) (z : Fz F H F' H') : Gs K C x p F' H' σ v n evs st := by
  obtain ⟨dx, hx⟩ := G.obj
  obtain ⟨xs, hp, ha⟩ := G.ev
  exact ⟨G.at4, z.away G.nx (by rw [hx]; exact fun q => nomatch q), z.away G.np (by rw [hp]; exact fun q => nomatch q), G.ne, ⟨dx, z.h _ _ hx⟩, G.da.mono z.f, xs, z.h _ _ hp, ha.mono z.f⟩
theorem Gs.set (G : Gs K C x p F H σ v n evs st) {i : Nat} {y : Option V} (h : i ≠ 4) : Gs K C x p F H (σ.set i y) v n evs st :=
  ⟨by rw [List.getElem?_set_ne h]; exact G.at4, G.nx, G.np, G.ne, G.obj, G.da, G.ev⟩
theorem Gs.state (RC : RunC K mg C) (G : Gs K C x p F H σ v n evs st) {Q : VK} (q : Q v H) : tFld K (tVar 4) "state" σ H Q := by
  obtain ⟨dx, hx⟩ := G.obj
  exact ⟨_, G.at4, x, C, dx, _, v, rfl, hx, RC.cls, RC.nS, rfl, q⟩
theorem Gs.events (RC : RunC K mg C) (G : Gs K C x p F H σ v n evs st) {Q : VK} (q : Q (.ref p) H) : tFld K (tVar 4) "events" σ H Q := by
  obtain ⟨dx, hx⟩ := G.obj
  exact ⟨_, G.at4, x, C, dx, _, .ref p, rfl, hx, RC.cls, RC.nE, rfl, q⟩
theorem Gs.many (RC : RunC K mg C) (G : Gs K C x p F H σ v n evs st) {Q : VK} (q : Q (.int (n : Int)) H) : tFld K (tVar 4) "many" σ H Q := by
  obtain ⟨dx, hx⟩ := G.obj
  exact ⟨_, G.at4, x, C, dx, _, _, rfl, hx, RC.cls, RC.nM, rfl, q⟩
end
theorem SD.hide {F : Hp} {σ : L2.St} {e : DE} (s : SD K F σ e) {i : Nat} {y : Option V} (h : e[i]? = some none) : SD K F (σ.set i y) e := by
  refine ⟨by rw [List.length_set]; exact s.len, fun j c x => ?_⟩
  have n : i ≠ j := fun z => by
    subst z
    rw [h] at x
    cases x
  rw [List.getElem?_set_ne n]
  exact s.get j c x
abbrev choicesD (cs : List Int) : PyData := .list (cs.map .int)
theorem put_state {v v' : V} {p : Addr} {n : Nat} : putF "state" v' (runF v p n) = runF v' p n := by simp [putF, runF]
theorem put_many {v : V} {p : Addr} {n k : Nat} : putF "many" (.int (k : Int)) (runF v p n) = runF v p k := by
  have h1 : ("state" : Str) ≠ "many" := by decide +kernel
  have h2 : ("events" : Str) ≠ "many" := by decide +kernel
  simp only [putF, runF, if_neg h1, if_neg h2, if_pos rfl, if_true]
abbrev tLen (K : PySem.W.Frag) (te : TE) : TE := tCB (fun xs H Q => ∃ p ys, xs = [V.ref p] ∧ (SqL K H p ys ∨ SqT K H p ys) ∧ Q (V.int ys.length) H) (tCons te tNil)
section
variable {C x p : Addr} {F H F' H' : Hp} {σ : L2.St} {v : V} {n : Nat} {evs : List (Nat × Nat)} {st : State} {e : DE} {cs : List Int}
theorem go_choice (RC : RunC K mg C) (G : Gs K C x p F H σ v n evs st) (fs : Same F H) (sd : SD K F σ e) (h3 : e[3]? = some (some (choicesD cs))) {Q : VK} (q : ∀ i F' H', Fz F H F' H' → Q (.int i) H') :
    tIf (tTest (tOp rEq (tLen K (tVar 3)) (tC (.int 0)))) (tC (.int 0)) (tOp (rIxL K) (tVar 3) (tOp (rI (fun x j => 0 < j) fun i j => V.int (i % j)) (tFld K (tVar 4) "many") (tLen K (tVar 3)))) σ H Q := by
  refine eb_cmp (ed_eqI (ed_len (ed_var h3)) ed_int) σ F H _ fs sd fun F1 H1 z1 => ?_
  rw [List.length_map]
  by_cases h : cs.length = 0
  · rw [decide_eq_true (show (cs.length : Int) = 0 by omega)]
    exact (if_pos rfl).mpr (q 0 F1 H1 z1)
  · rw [decide_eq_false (show ¬ (cs.length : Int) = 0 by omega)]
    refine (if_neg Bool.false_ne_true).mpr ?_
    have sd1 := sd.mono z1.f
    have G1 := G.thru z1
    obtain ⟨w, e3, a3⟩ := sd1.get 3 _ h3
    obtain ⟨a, xs, rfl, h4, h5⟩ := a3.lstI
    refine ⟨_, e3, G1.many RC ?_⟩
    refine ed_len (ed_var h3) σ F1 H1 _ z1.sub sd1 fun w2 F2 H2 z2 a2 => ?_
    cases a2.intI
    rw [List.length_map]
    have hpos : (0 : Int) < (cs.length : Int) := by omega
    have hk : ((n : Int) % (cs.length : Int)).toNat < cs.length := by
      have h1 := Int.emod_nonneg (n : Int) (show (cs.length : Int) ≠ 0 by omega)
      have h2 := Int.emod_lt_of_pos (n : Int) hpos
      omega
    have hk2 : (((n : Int) % (cs.length : Int)).toNat : Int) = (n : Int) % (cs.length : Int) := Int.toNat_of_nonneg (Int.emod_nonneg (n : Int) (show (cs.length : Int) ≠ 0 by omega))
    obtain ⟨c, hc⟩ : ∃ c, cs[((n : Int) % (cs.length : Int)).toNat]? = some c := ⟨_, List.getElem?_eq_getElem hk⟩
    have hk3 : (cs.map PyData.int)[((n : Int) % (cs.length : Int)).toNat]? = some (.int c) := by rw [List.getElem?_map, hc]; rfl
    obtain ⟨y, h6, h7⟩ := (h5.mono z2.f).get hk3
    cases h7.intI
    have h8 := atI_nat h6
    rw [hk2] at h8
    exact ⟨_, _, rfl, rfl, hpos, a, xs, _, _, rfl, rfl, SqL.of (z2.sub _ _ (z2.f _ _ h4)), h8, q c F2 H2 (z1.trans z2)⟩
theorem go_args {R : List PyData → PyData → Prop} {d0 d1 d7 d : PyData} (RC : RunC K mg C) (G : Gs K C x p F H σ v n evs st) (fs : Same F H) (sd : SD K F σ e) (h0 : e[0]? = some (some d0)) (h1 : e[1]? = some (some d1)) (h7 : e[7]? = some (some d7)) (hR : R [d0, d1, st.d, d7] d) {Q : VK}
    (q : ∀ w F' H', Fz F H F' H' → Da K F' w d → Q w H') : tCall (spD K R) [] E0 (tCons (tVar 0) (tCons (tVar 1) (tCons (tFld K (tVar 4) "state") (tCons (tVar 7) tNil)))) σ H Q := by
  obtain ⟨w0, e0, a0⟩ := sd.get 0 _ h0
  obtain ⟨w1, e1, a1⟩ := sd.get 1 _ h1
  obtain ⟨w7, e7, a7⟩ := sd.get 7 _ h7
  exact ⟨w0, e0, w1, e1, G.state RC ⟨w7, e7, F, _, d, fs, .cons a0 (.cons a1 (.cons G.da (.cons a7 .nil))), hR, q⟩⟩
theorem go_args3 {R : List PyData → PyData → Prop} {d0 d1 d : PyData} (RC : RunC K mg C) (G : Gs K C x p F H σ v n evs st) (fs : Same F H) (sd : SD K F σ e) (h0 : e[0]? = some (some d0)) (h1 : e[1]? = some (some d1)) (hR : R [d0, d1, st.d] d) {Q : VK}
    (q : ∀ w F' H', Fz F H F' H' → Da K F' w d → Q w H') : tCall (spD K R) [] E0 (tCons (tVar 0) (tCons (tVar 1) (tCons (tFld K (tVar 4) "state") tNil))) σ H Q := by
  obtain ⟨w0, e0, a0⟩ := sd.get 0 _ h0
  obtain ⟨w1, e1, a1⟩ := sd.get 1 _ h1
  exact ⟨w0, e0, w1, e1, G.state RC ⟨F, _, d, fs, .cons a0 (.cons a1 (.cons G.da .nil)), hR, q⟩⟩
theorem go_tail {g : Cfg} {m nc : Nat} {body : Sm} {r : Rx} {H0 F0 : Hp} {D : Ends} (RC : RunC K mg C) (z : Fz F0 H0 F H) (hx : H0 x = none) (G : Gs K C x p F H σ v n evs st) (sd : SD K F σ e) (h0 : e[0]? = some (some (coreD g m nc body))) (h1 : e[1]? = some (some (inpD g.inp))) (h7 : e[7]? = some (some r.d))
    (hP : rPerform [coreD g m nc body, inpD g.inp, st.d, r.d] (perform g st r).d) (hR : rRedexes [coreD g m nc body, inpD g.inp, (perform g st r).d] (rxsD (redexes g (perform g st r))))
    (q : ∀ v' w F' H', Fz F0 H0 F' H' → SD K F' (σ.set 5 (some w)) (e.set 5 (some (rxsD (redexes g (perform g st r))))) → Gs K C x p F' H' (σ.set 5 (some w)) v' (n + 1) evs (perform g st r) → D.nx (σ.set 5 (some w)) H') :
    tSeq (sFld K (tVar 4) (tCall (spD K rPerform) [] E0 (tCons (tVar 0) (tCons (tVar 1) (tCons (tFld K (tVar 4) "state") (tCons (tVar 7) tNil))))) "state")
      (tSeq (sFld K (tVar 4) (tOp (rI0 fun i j => V.int (i + j)) (tFld K (tVar 4) "many") (tC (.int 1))) "many")
        (tAsg (tCall (spD K rRedexes) [] E0 (tCons (tVar 0) (tCons (tVar 1) (tCons (tFld K (tVar 4) "state") tNil)))) (gName 5))) D σ H := by
  refine sfld_next ?_
  refine go_args RC G z.sub sd h0 h1 h7 hP fun v' F1 H1 z1 a1 => ?_
  have G1 := G.thru z1
  obtain ⟨dx, ho⟩ := G1.obj
  refine ⟨_, G1.at4, x, C, dx, _, rfl, ho, RC.cls, RC.nS, by show 3 < 1000; decide, ?_⟩
  rw [put_state]
  have z2 : Fz F0 H0 F1 (upd H1 x (.ins C dx (runF v' p n))) := (z.trans z1).mut hx G1.nx
  have G2 : Gs K C x p F1 (upd H1 x (.ins C dx (runF v' p n))) σ v' n evs (perform g st r) := by
    obtain ⟨xs, h5, h6⟩ := G1.ev
    exact ⟨G1.at4, G1.nx, G1.np, G1.ne, ⟨dx, upd_same⟩, a1, xs, by rw [upd_ne G1.ne]; exact h5, h6⟩
  refine sfld_next ?_
  refine G2.many RC ?_
  refine ⟨_, _, rfl, rfl, ?_⟩
  refine ⟨_, G2.at4, x, C, dx, _, rfl, upd_same, RC.cls, RC.nM, by show 3 < 1000; decide, ?_⟩
  have pm : putF "many" ((fun i j => V.int (i + j)) (n : Int) 1) (runF v' p n) = runF v' p (n + 1) := put_many (k := n + 1)
  rw [pm]
  have z3 : Fz F0 H0 F1 (upd (upd H1 x (.ins C dx (runF v' p n))) x (.ins C dx (runF v' p (n + 1)))) := z2.mut hx G1.nx
  have G3 : Gs K C x p F1 (upd (upd H1 x (.ins C dx (runF v' p n))) x (.ins C dx (runF v' p (n + 1)))) σ v' (n + 1) evs (perform g st r) := by
    obtain ⟨xs, h5, h6⟩ := G2.ev
    exact ⟨G1.at4, G1.nx, G1.np, G1.ne, ⟨dx, upd_same⟩, a1, xs, by rw [upd_ne G1.ne]; exact h5, h6⟩
  refine asg_last ?_
  refine go_args3 RC G3 z3.sub (sd.mono z1.f) h0 h1 hR fun w F4 H4 z4 a4 => ?_
  exact q v' w F4 H4 (z3.trans z4) ((sd.mono (z1.f.trans z4.f)).set a4) ((G3.thru z4).set (by decide))
end
abbrev s_go_on : Stmt := topS 33
theorem sc_go_on : FnScope ["core", "inputs", "state", "choices", "found", "rows", "choice", "redex", "made"] ["core", "inputs", "state", "choices"] (defScope s_go_on) := ⟨rfl, rfl, rfl, by decide +kernel, rfl, by decide +kernel, by decide +kernel⟩
/-- some maximal run -/
def spGo (K : PySem.W.Frag) (C : Addr) : Sp := fun vs H Q _ => ∃ (F : Hp) (g : Cfg) (m nc : Nat) (body : Sm) (ps : List Nat) (B : Fp) (σ : State) (cs : List Int), Same F H ∧ Das K F vs [coreD g m nc body, inpD g.inp, σ.d, choicesD cs] ∧
  Good g m nc ps B ∧ SInv g ps 16 nc B σ ∧ SX 100000 σ ∧ cs.length ≤ 1000 ∧
  ∀ (x p : Addr) (dx : Addr) (v : V) (xs : List V) (n : Nat) (evs : List (Nat × Nat)) (σ' : State) (F' H' : Hp), Path g σ n evs σ' → redexes g σ' = [] → Fz F H F' H' → H p = none → F' p = none → H' x = some (.ins C dx (runF v p n)) → Da K F' v σ'.d → H' p = some (.lst xs) → Das K F' xs (evs.map evD) → Q (.ref x) H'
theorem ok_go_on {C : Addr} (RC : RunC K mg C) (T : Txt K mg tW aF aS) (d : Def K mg "go_on" s_go_on) (c_redexes : Cal P w K mg base 4 "redexes" ["core", "inputs", "state"] (spD K rRedexes)) (c_event : Cal P w K mg base 1 "event" ["core", "inputs", "state", "redex"] (spD K rEvent))
    (c_perform : Cal P w K mg base 18 "perform" ["core", "inputs", "state", "redex"] (spD K rPerform)) : Cal P w K mg base 19 "go_on" ["core", "inputs", "state", "choices"] (spGo K C) := by
  obtain ⟨fi, fdi, FI, MR⟩ := RC.init
  have GR : FnOk P w K mg base CX0 1 fi fdi ["self", "state"] (spInit C) := ok_init RC FI
  have bR : Binds K fdi ["self", "state"] [] := FI.binds fun _ _ _ _ _ _ us hl => match us, hl with | [_, _], _ => rfl
  refine d.cal sc_go_on (fun vs H Q E ⟨F, g, m, nc, body, ps, B, σ, cs, _, a, _⟩ => a.length) (fun _ _ _ _ _ _ us hl => match us, hl with | [_, _, _, _], _ => rfl) fun f cdv A outer s H vs Q E hr ⟨F, g, m, nc, body, ps, B, σ0, cs, fs, a, G, I, X, hcs, q⟩ => ?_
  refine ⟨_, 
      (pss_cons (ps_set (i := 4) sc_go_on.nd rfl (Or.inl rfl) (pe_make MR GR (hr.mono (by decide)) rfl RC.gRun bR .nil pass0 (pa_cons (pv 2) pa_nil)))
      (pss_cons (ps_set (i := 5) sc_go_on.nd rfl (Or.inl rfl) (pe_cal c_redexes (hr.mono (by decide)) (pa_cons (pv 0) (pa_cons (pv 1) (pa_cons (pv 2) pa_nil)))))
      (pss_cons (ps_while PassesOwn.never (pt_cmpR op_gt (pe_callB call_len_seq (by rfl) T.len (by decide +kernel) (pa_cons (pv 5) pa_nil)) pe_int (nomark _))
      (pss_cons (ps_set (i := 6) sc_go_on.nd rfl (Or.inl rfl) (pe_ifExp (pt_cmpR op_eq (pe_callB call_len_seq (by rfl) T.len (by decide +kernel) (pa_cons (pv 3) pa_nil)) pe_int (nomark _)) pe_int (pe_ix ix_list (pv 3) (pe_op op_mod (pe_fld (pv 4) rfl) (pe_callB call_len_seq (by rfl) T.len (by decide +kernel) (pa_cons (pv 3) pa_nil))) (fun _ _ => rfl))))
      (pss_cons (ps_set (i := 7) sc_go_on.nd rfl (Or.inl rfl) (pe_ix ix_list (pv 5) (pe_op op_mod (pv 6) (pe_callB call_len_seq (by rfl) T.len (by decide +kernel) (pa_cons (pv 5) pa_nil))) (fun _ _ => rfl)))
      (pss_cons (ps_set (i := 8) sc_go_on.nd rfl (Or.inl rfl) (pe_cal c_event (hr.mono (by decide)) (pa_cons (pv 0) (pa_cons (pv 1) (pa_cons (pe_fld (pv 4) rfl) (pa_cons (pv 7) pa_nil))))))
      (pss_cons (ps_if (pt_cmpR op_notN (pv 8) pe_non (nomark _))
      (pss_one (ps_expr (pe_bm PySem.F.plainAttrs_list PySem.F.slot_list_append PySem.F.type_list_append mt_append (pe_fld (pv 4) rfl) (pa_cons (pv 8) pa_nil)))) pss_nil)
      (pss_cons (ps_fld (pv 4) (pe_cal c_perform (hr.mono (by decide)) (pa_cons (pv 0) (pa_cons (pv 1) (pa_cons (pe_fld (pv 4) rfl) (pa_cons (pv 7) pa_nil))))) rfl)
      (pss_cons (ps_fld (pv 4) (pe_op op_add (pe_fld (pv 4) rfl) pe_int) rfl)
      (pss_one (ps_set (i := 5) sc_go_on.nd rfl (Or.inl rfl) (pe_cal c_redexes (hr.mono (by decide)) (pa_cons (pv 0) (pa_cons (pv 1) (pa_cons (pe_fld (pv 4) rfl) pa_nil)))))))))))))
      (pss_one (ps_ret (pv 4)))))), ?_⟩
  have sd := SD.start (N := ["core", "inputs", "state", "choices", "found", "rows", "choice", "redex", "made"]) a
  obtain ⟨v0, v1, v2, v3, rfl, a0, a1, a2, a3⟩ := a.inv4
  -- the object is made
  refine asg_next ?_
  refine ⟨v2, rfl, fun x dx hx hdx ndx => ⟨x, v2, dx, rfl, upd_same, fun p H1 np hx1 hp1 hk1 => ⟨rfl, ?_⟩⟩⟩
  have npx : p ≠ x := fun z => by rw [z, upd_same] at np; cases np
  have hp : H p = none := by
    by_cases y : p = dx
    · rw [y]; exact hdx
    · rw [upd_ne npx, upd_ne y] at np; exact np
  have z1 : Fz F H F H1 := ⟨fun b o hb => hk1 b o (ne_of_none hb hx) (by rw [upd_ne (ne_of_none hb hx), upd_ne (ne_of_none hb hdx)]; exact hb), Same.refl F, fun b o hb => by
    have hb' := fs b o hb
    exact hk1 b o (ne_of_none hb' hx) (by rw [upd_ne (ne_of_none hb' hx), upd_ne (ne_of_none hb' hdx)]; exact hb'), fun _ _ h => .inl h⟩
  let e1 : List Rx → DE := fun r => [some (coreD g m nc body), some (inpD g.inp), some σ0.d, some (choicesD cs), none, some (rxsD r), none, none, none]
  have sd1 : SD K F ((L2.start ["core", "inputs", "state", "choices", "found", "rows", "choice", "redex", "made"] [v0, v1, v2, v3]).set 4 (some (V.ref x))) [some (coreD g m nc body), some (inpD g.inp), some σ0.d, some (choicesD cs), none, none, none, none, none] := sd.hide rfl
  have G1 : Gs K C x p F H1 ((L2.start ["core", "inputs", "state", "choices", "found", "rows", "choice", "redex", "made"] [v0, v1, v2, v3]).set 4 (some (V.ref x))) v2 0 [] σ0 :=
    ⟨rfl, fs.free hx, fs.free hp, npx, ⟨dx, hx1⟩, a2, [], hp1, .nil⟩
  have rx : ∀ {n : Nat} {evs : List (Nat × Nat)} {st : State}, Path g σ0 n evs st → rRedexes [coreD g m nc body, inpD g.inp, st.d] (rxsD (redexes g st)) := fun {n evs st} pt =>
    ⟨g, m, nc, body, st, rfl, G.sz (pt.inv G.words I) (X.path pt), G.sc (pt.inv G.words I) (X.path pt), rfl⟩
  refine asg_next ?_
  refine ed_call (K := K) (ea_cons (ed_var (i := 0) rfl) (ea_cons (ed_var (i := 1) rfl) (ea_cons (ed_var (i := 2) rfl) ea_nil))) (rx .nil) _ F H1 _ z1.sub sd1 fun v5 F2 H2 z2 a5 => ?_
  have sd2 := (sd1.mono z2.f).set (i := 5) a5
  have G2 := (G1.thru z2).set (i := 5) (y := some v5) (by decide)
  -- the loop
  refine seq_intro ?_
  refine ⟨fun k σ' H' => ∃ x p F' n evs st v, k = st.ms ∧ Fz F H F' H' ∧ SD K F' σ' (e1 (redexes g st)) ∧ H x = none ∧ H p = none ∧ Gs K C x p F' H' σ' v n evs st ∧ Path g σ0 n evs st,
    ⟨σ0.ms, x, p, F2, 0, [], σ0, v2, rfl, z1.trans z2, sd2, hx, hp, G2, .nil⟩, ?_⟩
  rintro k σ' H' ⟨x, p, F', n, evs, st, v, rfl, z, sd, hx, hp, G', pt⟩
  have I' := pt.inv G.words I
  have X' := X.path pt
  have Z' := G.sz I' X'
  refine eb_cmp (ed_gt (ed_len (ed_var (i := 5) rfl)) ed_int) σ' F' H' _ z.sub sd fun F3 H3 z3 => ?_
  rw [List.length_map]
  by_cases hr0 : redexes g st = []
  · -- the end
    rw [hr0]
    show tRet (tVar 4) _ σ' H3
    have G3 := G'.thru z3
    obtain ⟨dx, h1⟩ := G3.obj
    obtain ⟨xs, h2, h3⟩ := G3.ev
    exact ⟨_, G3.at4, q x p dx v xs n evs st F3 H3 pt hr0 (z.trans z3) hp G3.np h1 G3.da h2 h3⟩
  · have hpos : 0 < (redexes g st).length := List.length_pos_iff.mpr hr0
    rw [decide_eq_true (show (0 : Int) < (redexes g st).length by omega)]
    refine (if_pos rfl).mpr ⟨_, fun _ _ h => h, ?_⟩
    have sd3 := sd.mono z3.f
    have G3 := G'.thru z3
    have zz3 := z.trans z3
    have hR : ∀ r, r ∈ redexes g st → En g st r := fun r hr => redexes_en I' hr
    refine asg_next ?_
    refine go_choice (cs := cs) RC G3 z3.sub sd3 rfl fun i F4 H4 z4 => ?_
    have sd4 := (sd3.mono z4.f).set (i := 6) (Da.int i)
    have G4 := (G3.thru z4).set (i := 6) (y := some (V.int i)) (by decide)
    have zz4 := zz3.trans z4
    have hk1 := Int.emod_nonneg i (show ((redexes g st).length : Int) ≠ 0 by omega)
    have hk2 := Int.emod_lt_of_pos i (show (0 : Int) < ((redexes g st).length : Int) by omega)
    have hk : (i % ((redexes g st).length : Int)).toNat < (redexes g st).length := by omega
    have hkr : (redexes g st)[(i % ((redexes g st).length : Int)).toNat]? = some (redexes g st)[(i % ((redexes g st).length : Int)).toNat] := List.getElem?_eq_getElem hk
    generalize hr1 : (redexes g st)[(i % ((redexes g st).length : Int)).toNat] = r at hkr
    have en : En g st r := hR r (List.mem_of_getElem? hkr)
    refine asg_next ?_
    refine ed_ixL (K := K) (n := (i % ((redexes g st).length : Int)).toNat) (d := r.d) (ds := (redexes g st).map Rx.d) (ed_var (i := 5) rfl) ((ed_mod (ed_var (i := 6) rfl) (ed_len (ds := (redexes g st).map Rx.d) (ed_var (i := 5) rfl)) (by rw [List.length_map]; omega)).eq (by rw [List.length_map]; exact congrArg PyData.int (Int.toNat_of_nonneg hk1).symm)) (by rw [List.getElem?_map, hkr]; rfl) _ F4 H4 _ z4.sub sd4 fun v7 F5 H5 z5 a5 => ?_
    have sd5 := (sd4.mono z5.f).set (i := 7) a5
    have G5 := (G4.thru z5).set (i := 7) (y := some v7) (by decide)
    have zz5 := zz4.trans z5
    refine asg_next ?_
    refine go_args RC G5 z5.sub sd5 rfl rfl rfl (show rEvent [coreD g m nc body, inpD g.inp, st.d, r.d] (evO (event g st r)) from ⟨g, m, nc, body, st, r, rfl, en, Z', rfl⟩) fun v8 F6 H6 z6 a6 => ?_
    have sd6 := (sd5.mono z6.f).set (i := 8) a6
    have G6 := (G5.thru z6).set (i := 8) (y := some v8) (by decide)
    have zz6 := zz5.trans z6
    have hP : rPerform [coreD g m nc body, inpD g.inp, st.d, r.d] (perform g st r).d := ⟨g, m, nc, body, st, r, rfl, en, Z', rfl⟩
    have hms := perform_ms en
    refine seq_intro ?_
    cases hev : event g st r with
    | none =>
      rw [hev] at sd6
      refine (eb_notF (i := 8) rfl) _ F6 H6 _ z6.sub sd6 fun F7 H7 z7 => ?_
      refine (if_neg Bool.false_ne_true).mpr ?_
      have pt' := pt.snoc en
      rw [hev] at pt'
      have ee : evs ++ evL none = evs := List.append_nil evs
      rw [ee] at pt'
      refine go_tail (m := m) (nc := nc) (body := body) (r := r) RC (zz6.trans z7) hx (G6.thru z7) (sd6.mono z7.f) rfl rfl rfl hP (rx pt') fun v' w2 F9 H9 z9 s9 G9 => ?_
      refine ⟨_, hms, x, p, F9, n + 1, evs, perform g st r, v', rfl, z9, s9.forg ?_, hx, hp, G9, pt'⟩
      exact .keep (.keep (.keep (.keep (.keep (.keep (.drop (.drop (.drop .nil))))))))
    | some ev =>
      rw [hev] at sd6 a6
      refine (eb_notT (i := 8) rfl) _ F6 H6 _ z6.sub sd6 fun F7 H7 z7 => ?_
      refine (if_pos rfl).mpr ?_
      have G7 := G6.thru z7
      have sd7 := sd6.mono z7.f
      have zz7 := zz6.trans z7
      have pt' := pt.snoc en
      rw [hev] at pt'
      obtain ⟨xs, h5, h6⟩ := G7.ev
      have hlen : xs.length < sizeLine := by
        rw [h6.length, List.length_map]
        have h1 := pt.evs_le
        have h2 := pt.ms
        have h3 := X.ms
        exact line_lt (by omega)
      refine drop_app (K := K) ?_
      refine G7.events RC ?_
      refine ⟨.inl ⟨rfl, _, SqL.of h5⟩, v8, by rw [List.getElem?_set_self (by rw [sd5.len]; show 8 < 9; decide)], p, xs, v8, rfl, rfl, h5, hlen, ?_⟩
      have G8 : Gs K C x p F7 (upd H7 p (.lst (xs ++ [v8]))) _ v n (evs ++ evL (some ev)) st :=
        ⟨G7.at4, G7.nx, G7.np, G7.ne, (by
          obtain ⟨dx, h8⟩ := G7.obj
          exact ⟨dx, by rw [upd_ne (Ne.symm G7.ne)]; exact h8⟩), G7.da, _, upd_same, by
            rw [List.map_append]
            exact h6.append (Das.one (a6.mono z7.f))⟩
      refine go_tail (m := m) (nc := nc) (body := body) (r := r) RC (zz7.mut hp G7.np) hx G8 sd7 rfl rfl rfl hP (rx pt') fun v' w2 F9 H9 z9 s9 G9 => ?_
      refine ⟨_, hms, x, p, F9, n + 1, evs ++ evL (some ev), perform g st r, v', rfl, z9, s9.forg ?_, hx, hp, G9, pt'⟩
      exact .keep (.keep (.keep (.keep (.keep (.keep (.drop (.drop (.drop .nil))))))))
theorem fz_freeze {F H F' H' : Hp} {p : Addr} {xs : List V} {ds : List PyData} (z : Fz F H F' H') (hp : H p = none) (np : F' p = none) (h : H' p = some (.lst xs)) (a : Das K F' xs ds) :
    Fz F H (upd F' p (.lst xs)) H' ∧ Da K (upd F' p (.lst xs)) (.ref p) (.list ds) := by
  refine ⟨⟨z.h, z.f.trans (same_upd np), fun b o hb => ?_, fun b o hb => ?_⟩, da_lst np a⟩
  · by_cases y : b = p
    · subst y; rw [upd_same] at hb; rw [← hb]; exact h
    · rw [upd_ne y] at hb; exact z.sub _ _ hb
  · by_cases y : b = p
    · subst y; exact .inr hp
    · rw [upd_ne y] at hb; exact z.fresh _ _ hb
abbrev s_run_from : Stmt := topS 34
theorem sc_run_from : FnScope ["core", "inputs", "state", "choices", "found"] ["core", "inputs", "state", "choices"] (defScope s_run_from) := ⟨rfl, rfl, rfl, by decide +kernel, rfl, by decide +kernel, by decide +kernel⟩
def spRunFrom (K : PySem.W.Frag) : Sp := fun vs H Q _ => ∃ (F : Hp) (g : Cfg) (m nc : Nat) (body : Sm) (ps : List Nat) (B : Fp) (σ : State) (cs : List Int), Same F H ∧ Das K F vs [coreD g m nc body, inpD g.inp, σ.d, choicesD cs] ∧
  Good g m nc ps B ∧ SInv g ps 16 nc B σ ∧ SX 100000 σ ∧ cs.length ≤ 1000 ∧
  ∀ (v : V) (n : Nat) (evs : List (Nat × Nat)) (σ' : State) (F' H' : Hp), Path g σ n evs σ' → redexes g σ' = [] → Fz F H F' H' → Da K F' v (.tuple [σ'.d, .list (evs.map evD)]) → Q v H'
theorem ok_run_from {C : Addr} (RC : RunC K mg C) (d : Def K mg "run_from" s_run_from) (c_go_on : Cal P w K mg base 19 "go_on" ["core", "inputs", "state", "choices"] (spGo K C)) : Cal P w K mg base 20 "run_from" ["core", "inputs", "state", "choices"] (spRunFrom K) := by
  refine d.cal sc_run_from (fun vs H Q E ⟨F, g, m, nc, body, ps, B, σ, cs, _, a, _⟩ => a.length) (fun _ _ _ _ _ _ us hl => match us, hl with | [_, _, _, _], _ => rfl) fun f cdv A outer s H vs Q E hr ⟨F, g, m, nc, body, ps, B, σ0, cs, fs, a, G, I, X, hcs, q⟩ => ?_
  refine ⟨_, 
      (pss_cons (ps_set (i := 4) sc_run_from.nd rfl (Or.inl rfl) (pe_cal c_go_on (hr.mono (by decide)) (pa_cons (pv 0) (pa_cons (pv 1) (pa_cons (pv 2) (pa_cons (pv 3) pa_nil))))))
      (pss_one (ps_ret (pe_tup (pa_cons (pe_fld (pv 4) rfl) (pa_cons (pe_fld (pv 4) rfl) pa_nil)))))), ?_⟩
  obtain ⟨v0, v1, v2, v3, rfl, a0, a1, a2, a3⟩ := a.inv4
  refine asg_next ?_
  refine ⟨v0, rfl, v1, rfl, v2, rfl, v3, rfl, F, g, m, nc, body, ps, B, σ0, cs, fs, a, G, I, X, hcs, fun x p dx v xs n evs σ' F' H' pt hr z hp np hx hv hl hxs => ?_⟩
  obtain ⟨z2, hev⟩ := fz_freeze z hp np hl hxs
  refine ⟨_, rfl, x, C, dx, _, v, rfl, hx, RC.cls, RC.nS, rfl, ?_⟩
  refine ⟨_, rfl, x, C, dx, _, .ref p, rfl, hx, RC.cls, RC.nE, rfl, line_le (show 2 ≤ 16000000 by decide), fun t ht => ?_⟩
  have hds : Das K (upd F' p (.lst xs)) [v, .ref p] [σ'.d, .list (evs.map evD)] := .cons (hv.mono (same_upd np)) (.cons hev .nil)
  obtain ⟨z3, z4⟩ := fz_tup (K := K) z2.sub ht hds
  exact q _ n evs σ' _ _ pt hr (z2.trans z3) z4
/-- what is asked of a core, its inputs, the choices -/
structure Runs (g : Cfg) (m nc : Nat) (ps : List Nat) (B : Fp) (body : Sm) (cs : List Int) : Prop where
  good : Good g m nc ps B
  ok : SmOk ps 16 0 B body
  nb : ps.length = body.nb + 1
  wk : body.wk ≤ 100000
  cs : cs.length ≤ 1000
theorem Runs.sinv {g : Cfg} {m nc : Nat} {ps : List Nat} {B : Fp} {body : Sm} {cs : List Int} (h : Runs g m nc ps B body cs) : SInv g ps 16 nc B (start g nc (body.nb + 1) body) := by
  rw [← h.nb]
  exact start_inv h.ok
theorem Runs.init {g : Cfg} {m nc : Nat} {ps : List Nat} {B : Fp} {body : Sm} {cs : List Int} (h : Runs g m nc ps B body cs) : rInitial [coreD g m nc body] (start g nc (body.nb + 1) body).d :=
  ⟨g, m, nc, ps, 0, B, body, rfl, h.ok, by have := h.good.thr; have := h.nb; omega, h.good.cells, h.good.nin, h.good.nout, rfl⟩
abbrev s_run : Stmt := topS 35
theorem sc_run : FnScope ["core", "inputs", "choices"] ["core", "inputs", "choices"] (defScope s_run) := ⟨rfl, rfl, rfl, by decide +kernel, rfl, by decide +kernel, by decide +kernel⟩
def spRun (K : PySem.W.Frag) : Sp := fun vs H Q _ => ∃ (F : Hp) (g : Cfg) (m nc : Nat) (body : Sm) (ps : List Nat) (B : Fp) (cs : List Int), Same F H ∧ Das K F vs [coreD g m nc body, inpD g.inp, choicesD cs] ∧ Runs g m nc ps B body cs ∧
  ∀ (v : V) (n : Nat) (evs : List (Nat × Nat)) (σ' : State) (F' H' : Hp), Path g (start g nc (body.nb + 1) body) n evs σ' → redexes g σ' = [] → Fz F H F' H' → Da K F' v (.tuple [σ'.d, .list (evs.map evD)]) → Q v H'
theorem ok_run (d : Def K mg "run" s_run) (c_initial : Cal P w K mg base 20 "initial" ["core"] (spD K rInitial)) (c_run_from : Cal P w K mg base 20 "run_from" ["core", "inputs", "state", "choices"] (spRunFrom K)) : Cal P w K mg base 21 "run" ["core", "inputs", "choices"] (spRun K) := by
  refine d.cal sc_run (fun vs H Q E ⟨F, g, m, nc, body, ps, B, cs, _, a, _⟩ => a.length) (fun _ _ _ _ _ _ us hl => match us, hl with | [_, _, _], _ => rfl) fun f cdv A outer s H vs Q E hr ⟨F, g, m, nc, body, ps, B, cs, fs, a, R, q⟩ => ?_
  refine ⟨_, 
      (pss_one (ps_ret (pe_cal c_run_from (hr.mono (by decide)) (pa_cons (pv 0) (pa_cons (pv 1) (pa_cons (pe_cal c_initial (hr.mono (by decide)) (pa_cons (pv 0) pa_nil)) (pa_cons (pv 2) pa_nil))))))), ?_⟩
  refine ret_call ?_
  refine (ea_cons (ed_var (i := 0) rfl) (ea_cons (ed_var (i := 1) rfl) (ea_cons (ed_call (ea_cons (ed_var (i := 0) rfl) ea_nil) R.init) (ea_cons (ed_var (i := 2) rfl) ea_nil)))) _ F H _ fs (SD.start (N := ["core", "inputs", "choices"]) a) fun ws F1 H1 z1 a1 => ?_
  exact ⟨F1, g, m, nc, body, ps, B, _, cs, z1.sub, by rw [List.append_nil]; exact a1, R.good, R.sinv, SX.start R.wk, R.cs, fun v n evs σ' F' H' pt hr z hv => q v n evs σ' F' H' pt hr (z1.trans z) hv⟩
abbrev s_steps : Stmt := topS 36
theorem sc_steps : FnScope ["core", "inputs", "choices"] ["core", "inputs", "choices"] (defScope s_steps) := ⟨rfl, rfl, rfl, by decide +kernel, rfl, by decide +kernel, by decide +kernel⟩
def spSteps (K : PySem.W.Frag) : Sp := fun vs H Q _ => ∃ (F : Hp) (g : Cfg) (m nc : Nat) (body : Sm) (ps : List Nat) (B : Fp) (cs : List Int), Same F H ∧ Das K F vs [coreD g m nc body, inpD g.inp, choicesD cs] ∧ Runs g m nc ps B body cs ∧
  ∀ (n : Nat) (evs : List (Nat × Nat)) (σ' : State) (F' H' : Hp), Path g (start g nc (body.nb + 1) body) n evs σ' → redexes g σ' = [] → Fz F H F' H' → Q (.int (n : Int)) H'
theorem ok_steps {C : Addr} (RC : RunC K mg C) (d : Def K mg "steps" s_steps) (c_initial : Cal P w K mg base 20 "initial" ["core"] (spD K rInitial)) (c_go_on : Cal P w K mg base 19 "go_on" ["core", "inputs", "state", "choices"] (spGo K C)) : Cal P w K mg base 21 "steps" ["core", "inputs", "choices"] (spSteps K) := by
  refine d.cal sc_steps (fun vs H Q E ⟨F, g, m, nc, body, ps, B, cs, _, a, _⟩ => a.length) (fun _ _ _ _ _ _ us hl => match us, hl with | [_, _, _], _ => rfl) fun f cdv A outer s H vs Q E hr ⟨F, g, m, nc, body, ps, B, cs, fs, a, R, q⟩ => ?_
  refine ⟨_, 
      (pss_one (ps_ret (pe_fld (pe_cal c_go_on (hr.mono (by decide)) (pa_cons (pv 0) (pa_cons (pv 1) (pa_cons (pe_cal c_initial (hr.mono (by decide)) (pa_cons (pv 0) pa_nil)) (pa_cons (pv 2) pa_nil))))) rfl))), ?_⟩
  refine ret_fldCall ?_
  refine (ea_cons (ed_var (i := 0) rfl) (ea_cons (ed_var (i := 1) rfl) (ea_cons (ed_call (ea_cons (ed_var (i := 0) rfl) ea_nil) R.init) (ea_cons (ed_var (i := 2) rfl) ea_nil)))) _ F H _ fs (SD.start (N := ["core", "inputs", "choices"]) a) fun ws F1 H1 z1 a1 => ?_
  refine ⟨F1, g, m, nc, body, ps, B, _, cs, z1.sub, by rw [List.append_nil]; exact a1, R.good, R.sinv, SX.start R.wk, R.cs, fun x p dx v xs n evs σ' F' H' pt hr z hp np hx hv hl hxs => ?_⟩
  exact ⟨x, C, dx, _, _, rfl, hx, RC.cls, RC.nM, rfl, q n evs σ' F' H' pt hr (z1.trans z)⟩
end
end Pa
/-! Readings whose answer is one of many, beside things that change: the resource R names them (M: their addresses). -/
namespace Pa
open PySem L2 PyProof.Rows
/-- all but M stands; what is newly frozen is new, or of O -/
structure Gr (M O : Addr → Prop) (F H F' H' : Hp) : Prop where
  h : ∀ b o, ¬ M b → H b = some o → H' b = some o
  f : Same F F'
  sub : Same F' H'
  fresh : ∀ a o, F' a = some o → F a = some o ∨ H a = none ∨ O a
  there : ∀ b, H b ≠ none → H' b ≠ none
abbrev No : Addr → Prop := fun _ => False
section
variable {M M' O O' : Addr → Prop} {F H F1 H1 F2 H2 : Hp}
theorem Gr.refl (s : Same F H) : Gr M O F H F H := ⟨fun _ _ _ q => q, Same.refl F, s, fun _ _ h => .inl h, fun _ h => h⟩
theorem some_ne {H : Hp} {a : Addr} {o : HO} (h : H a = some o) : H a ≠ none := fun z => by rw [h] at z; cases z
theorem Gr.trans (a : Gr M No F H F1 H1) (b : Gr M O F1 H1 F2 H2) : Gr M O F H F2 H2 := by
  refine ⟨fun c o n q => b.h c o n (a.h c o n q), a.f.trans b.f, b.sub, fun c o q => ?_, fun c q => b.there c (a.there c q)⟩
  rcases b.fresh c o q with z | z | z
  · exact (a.fresh c o z).elim .inl fun w => w.elim (fun w => .inr (.inl w)) False.elim
  · right; left
    by_cases n : H c = none
    · exact n
    · exact absurd z (a.there c n)
  · exact .inr (.inr z)
theorem Fz.gr (a : Fz F H F1 H1) : Gr M O F H F1 H1 := ⟨fun b o _ q => a.h b o q, a.f, a.sub, fun c o q => (a.fresh c o q).imp id .inl, fun b q => by
  cases e : H b with
  | none => exact absurd e q
  | some o => rw [a.h b o e]; exact fun z => nomatch z⟩
theorem Gr.mono (a : Gr M O F H F1 H1) (hm : ∀ b, M b → M' b) (ho : ∀ b, O b → O' b) : Gr M' O' F H F1 H1 := ⟨fun b o n q => a.h b o (fun z => n (hm b z)) q, a.f, a.sub, fun c o q => (a.fresh c o q).imp id fun w => w.imp id (ho c), a.there⟩
theorem Gr.away (a : Gr M No F H F1 H1) {p : Addr} (h : F p = none) (q : H p ≠ none) : F1 p = none := by
  cases e : F1 p with
  | none => rfl
  | some o =>
    rcases a.fresh p o e with z | z | z
    · rw [h] at z; cases z
    · exact absurd z q
    · exact z.elim
/-- something of M is changed -/
theorem Gr.put {p : Addr} {o : HO} (s : Same F H) (hm : M p) (hf : F p = none) : Gr M O F H F (upd H p o) := by
  refine ⟨fun b u n q => ?_, Same.refl F, fun b u q => ?_, fun _ _ h => .inl h, fun b q => ?_⟩
  · have nb : b ≠ p := fun z => n (z ▸ hm)
    rw [upd_ne nb]; exact q
  · rw [upd_ne (ne_of_none q hf)]; exact s b u q
  · by_cases z : b = p
    · subst z; rw [upd_same]; exact fun y => nomatch y
    · rw [upd_ne z]; exact q
/-- something new is changed -/
theorem Gr.mut (a : Gr M O F H F1 H1) {x : Addr} {o : HO} (hx : H x = none) (fx : F1 x = none) : Gr M O F H F1 (upd H1 x o) :=
  ⟨fun b u n hb => by rw [upd_ne (ne_of_none hb hx)]; exact a.h b u n hb, a.f, fun b u hb => by rw [upd_ne (ne_of_none hb fx)]; exact a.sub b u hb, a.fresh, fun b hb => by
    by_cases z : b = x
    · subst z; rw [upd_same]; exact fun y => nomatch y
    · rw [upd_ne z]; exact a.there b hb⟩
theorem Gr.none_of (a : Gr M O F H F1 H1) {b : Addr} (h : H1 b = none) : H b = none := by
  by_cases n : H b = none
  · exact n
  · exact absurd h (a.there b n)
end
/-- things that change: their addresses, what is known of them (γ: their values) -/
structure Res (Γ : Type) where
  M : Addr → Prop
  J : Γ → Hp → Hp → Prop
  thru : ∀ γ F H F' H', J γ F H → Fz F H F' H' → J γ F' H'
  frz : ∀ γ F H p o, J γ F H → ¬ M p → F p = none → J γ (upd F p o) H
  ex : ∀ γ F H b, J γ F H → M b → H b ≠ none ∧ F b = none
  oth : ∀ γ F H p o, J γ F H → ¬ M p → F p = none → J γ F (upd H p o)
def Pins (σ : L2.St) (pn : List (Nat × V)) : Prop := ∀ i v, (i, v) ∈ pn → σ[i]? = some (some v)
theorem Pins.set {σ : L2.St} {pn : List (Nat × V)} {i : Nat} {y : Option V} (h : Pins σ pn) (hi : (pn.map Prod.fst).contains i = false) : Pins (σ.set i y) pn := fun j v hj => by
  have n : i ≠ j := fun z => by
    have : (pn.map Prod.fst).contains i = true := by
      rw [List.contains_iff_mem]
      exact List.mem_map.mpr ⟨(j, v), hj, z.symm⟩
    rw [hi] at this
    cases this
  rw [List.getElem?_set_ne n]
  exact h j v hj
theorem Pins.wipe {σ σ' : L2.St} {pn : List (Nat × V)} {ws : List Nat} (h : Pins σ pn) (hw : (pn.map Prod.fst).all (fun i => !ws.contains i) = true) (e : L2.wipe σ' ws = L2.wipe σ ws) : Pins σ' pn := fun j v hj => by
  have n : j ∉ ws := fun z => by
    have := List.all_eq_true.mp hw j (List.mem_map.mpr ⟨(j, v), hj, rfl⟩)
    rw [Bool.not_eq_true', List.contains_eq_mem, decide_eq_false_iff_not] at this
    exact this z
  rw [← wipe_get n, e, wipe_get n]
  exact h j v hj
theorem Pins.wiped {σ : L2.St} {pn : List (Nat × V)} {ws : List Nat} (h : Pins σ pn) (hw : (pn.map Prod.fst).all (fun i => !ws.contains i) = true) : Pins (L2.wipe σ ws) pn := h.wipe hw (wipe_wipe σ ws)
section
variable {K : PySem.W.Frag} {Γ : Type} {R : Res Γ}
def XE (K : PySem.W.Frag) (R : Res Γ) (te : TE) (e : DE) (pn : List (Nat × V)) (γ : Γ) (P : PyData → Γ → Prop) : Prop := ∀ (σ : L2.St) (F H : Hp) (Q : VK), Same F H → SD K F σ e → Pins σ pn → R.J γ F H →
  (∀ v d γ' F' H', Gr R.M No F H F' H' → R.J γ' F' H' → P d γ' → Da K F' v d → Q v H') → te σ H Q
def XB (K : PySem.W.Frag) (R : Res Γ) (tt : TT) (e : DE) (pn : List (Nat × V)) (γ : Γ) (P : Bool → Γ → Prop) : Prop := ∀ (σ : L2.St) (F H : Hp) (Q : Bool → Hp → Prop), Same F H → SD K F σ e → Pins σ pn → R.J γ F H →
  (∀ b γ' F' H', Gr R.M No F H F' H' → R.J γ' F' H' → P b γ' → Q b H') → tt σ H Q
def XA (K : PySem.W.Frag) (R : Res Γ) (ta : TA) (e : DE) (pn : List (Nat × V)) (γ : Γ) (P : List PyData → Γ → Prop) : Prop := ∀ (σ : L2.St) (F H : Hp) (Q : List V → Hp → Prop), Same F H → SD K F σ e → Pins σ pn → R.J γ F H →
  (∀ vs ds γ' F' H', Gr R.M No F H F' H' → R.J γ' F' H' → P ds γ' → Das K F' vs ds → Q vs H') → ta σ H Q
/-- a statement: where it goes on (N), what it hands back (Z; O: own things that may be frozen then) -/
def XS (K : PySem.W.Frag) (R : Res Γ) (ts : TS) (e : DE) (pn : List (Nat × V)) (γ : Γ) (N : DE → Γ → Prop) (Z : PyData → Γ → Prop) : Prop := ∀ (D : Ends) (σ : L2.St) (F H : Hp), Same F H → SD K F σ e → Pins σ pn → R.J γ F H →
  (∀ σ' e' γ' F' H', Gr R.M No F H F' H' → R.J γ' F' H' → SD K F' σ' e' → Pins σ' pn → N e' γ' → D.nx σ' H') →
  (∀ v d γ' F' H', Gr R.M No F H F' H' → R.J γ' F' H' → Da K F' v d → Z d γ' → D.rt v H') → ts D σ H
variable {σ : L2.St} {F H : Hp} {e e1 : DE} {pn : List (Nat × V)} {γ : Γ} {te ta tb : TE} {tt tu : TT} {tr : TA} {t u : TS} {d : PyData} {ds : List PyData} {b : Bool} {P P' P1 : PyData → Γ → Prop} {PB PB1 : Bool → Γ → Prop} {PA : List PyData → Γ → Prop} {N N1 N' : DE → Γ → Prop} {Z Z' : PyData → Γ → Prop} {i n : Nat}
theorem xe_ed (h : ED K te e d) : XE K R te e pn γ (fun d' γ' => d' = d ∧ γ' = γ) := fun σ F H Q f s p j q => h σ F H Q f s fun v F' H' z a => q v d γ F' H' z.gr (R.thru _ _ _ _ _ j z) ⟨rfl, rfl⟩ a
theorem xb_eb (h : EB K tt e b) : XB K R tt e pn γ (fun b' γ' => b' = b ∧ γ' = γ) := fun σ F H Q f s p j q => h σ F H Q f s fun F' H' z => q b γ F' H' z.gr (R.thru _ _ _ _ _ j z) ⟨rfl, rfl⟩
theorem XE.mono (h : XE K R te e pn γ P) (k : ∀ d γ', P d γ' → P' d γ') : XE K R te e pn γ P' := fun σ F H Q f s p j q => h σ F H Q f s p j fun v d γ' F' H' g jj x a => q v d γ' F' H' g jj (k _ _ x) a
theorem XB.mono (h : XB K R tt e pn γ PB) (k : ∀ b γ', PB b γ' → PB1 b γ') : XB K R tt e pn γ PB1 := fun σ F H Q f s p j q => h σ F H Q f s p j fun b γ' F' H' g jj x => q b γ' F' H' g jj (k _ _ x)
theorem XA.mono {PA' : List PyData → Γ → Prop} (h : XA K R tr e pn γ PA) (k : ∀ ds γ', PA ds γ' → PA' ds γ') : XA K R tr e pn γ PA' := fun σ F H Q f s p j q => h σ F H Q f s p j fun vs ds γ' F' H' g jj x a => q vs ds γ' F' H' g jj (k _ _ x) a
theorem XS.mono (h : XS K R t e pn γ N Z) (k : ∀ e' γ', N e' γ' → N' e' γ') (l : ∀ d γ', Z d γ' → Z' d γ') : XS K R t e pn γ N' Z' := fun D σ F H f s p j q r => h D σ F H f s p j (fun σ' e' γ' F' H' g jj s' p' x => q σ' e' γ' F' H' g jj s' p' (k _ _ x)) fun v d γ' F' H' g jj a x => r v d γ' F' H' g jj a (l _ _ x)
theorem xa_nil : XA K R tNil e pn γ (fun ds γ' => ds = [] ∧ γ' = γ) := fun σ F H Q f s p j q => q [] [] γ F H (Gr.refl f) j ⟨rfl, rfl⟩ .nil
theorem xa_cons {P2 : PyData → List PyData → Γ → Prop} (h : XE K R te e pn γ P1) (h2 : ∀ d γ1, P1 d γ1 → XA K R tr e pn γ1 (P2 d)) : XA K R (tCons te tr) e pn γ (fun ds γ' => ∃ d r, ds = d :: r ∧ P2 d r γ') := fun σ F H Q f s p j q =>
  h σ F H _ f s p j fun v d γ1 F1 H1 g1 j1 x1 a1 => h2 d γ1 x1 σ F1 H1 _ g1.sub (s.mono g1.f) p j1 fun vs ds γ2 F2 H2 g2 j2 x2 a2 => q (v :: vs) (d :: ds) γ2 F2 H2 (g1.trans g2) j2 ⟨d, ds, rfl, x2⟩ (.cons (a1.mono g2.f) a2)
/-- the answers are as data are -/
theorem xe_op {P2 : PyData → PyData → Γ → Prop} {r : R2} {res : PyData → PyData → PyData} (ha : XE K R ta e pn γ P1) (hb : ∀ d γ1, P1 d γ1 → XE K R tb e pn γ1 (P2 d)) (hr : ∀ d1 d2 γ2, P2 d1 d2 γ2 → RD K r d1 d2 (res d1 d2)) :
    XE K R (tOp r ta tb) e pn γ (fun d γ' => ∃ d1 d2, P2 d1 d2 γ' ∧ d = res d1 d2) := fun σ F H Q f s p j q =>
  ha σ F H _ f s p j fun v d γ1 F1 H1 g1 j1 x1 a1 => hb d γ1 x1 σ F1 H1 _ g1.sub (s.mono g1.f) p j1 fun v2 d2 γ2 F2 H2 g2 j2 x2 a2 =>
    hr d d2 γ2 x2 v v2 F2 H2 Q g2.sub (a1.mono g2.f) a2 fun v3 F3 H3 z a3 => q v3 _ γ2 F3 H3 ((g1.trans g2).trans z.gr) (R.thru _ _ _ _ _ j2 z) ⟨d, d2, x2, rfl⟩ a3
theorem xe_tup (h : XA K R tr e pn γ PA) (hz : ∀ ds γ', PA ds γ' → ds.length ≤ 16000000) : XE K R (tTup tr) e pn γ (fun d γ' => ∃ ds, PA ds γ' ∧ d = .tuple ds) := fun σ F H Q f s p j q =>
  h σ F H _ f s p j fun vs ds γ1 F1 H1 g1 j1 x1 a1 => ⟨by rw [a1.length]; exact line_le (hz _ _ x1), fun t ht => by
    obtain ⟨z1, z2⟩ := fz_tup (K := K) g1.sub ht a1
    exact q _ _ γ1 _ _ (g1.trans z1.gr) (R.thru _ _ _ _ _ j1 z1) ⟨ds, x1, rfl⟩ z2⟩
theorem xe_lst (h : XA K R tr e pn γ PA) (hz : ∀ ds γ', PA ds γ' → ds.length ≤ 16000000) : XE K R (tLst tr) e pn γ (fun d γ' => ∃ ds, PA ds γ' ∧ d = .list ds) := fun σ F H Q f s p j q =>
  h σ F H _ f s p j fun vs ds γ1 F1 H1 g1 j1 x1 a1 => ⟨by rw [a1.length]; exact line_le (hz _ _ x1), fun t ht => by
    obtain ⟨z1, z2⟩ := fz_lst (K := K) g1.sub ht a1
    exact q _ _ γ1 _ _ (g1.trans z1.gr) (R.thru _ _ _ _ _ j1 z1) ⟨ds, x1, rfl⟩ z2⟩
theorem xe_if (hc : XB K R tt e pn γ PB) (h1 : ∀ γ1, PB true γ1 → XE K R ta e pn γ1 P) (h2 : ∀ γ1, PB false γ1 → XE K R tb e pn γ1 P) : XE K R (tIf tt ta tb) e pn γ P := fun σ F H Q f s p j q =>
  hc σ F H _ f s p j fun b γ1 F1 H1 g1 j1 x1 => by
    cases b with
    | true => exact h1 γ1 x1 σ F1 H1 Q g1.sub (s.mono g1.f) p j1 fun v d γ2 F2 H2 g2 j2 x2 a2 => q v d γ2 F2 H2 (g1.trans g2) j2 x2 a2
    | false => exact h2 γ1 x1 σ F1 H1 Q g1.sub (s.mono g1.f) p j1 fun v d γ2 F2 H2 g2 j2 x2 a2 => q v d γ2 F2 H2 (g1.trans g2) j2 x2 a2
theorem xb_and (h1 : XB K R tt e pn γ PB1) (h2 : ∀ γ1, PB1 true γ1 → XB K R tu e pn γ1 PB) (h3 : ∀ γ1, PB1 false γ1 → PB false γ1) : XB K R (tAnd tt tu) e pn γ PB := fun σ F H Q f s p j q =>
  h1 σ F H _ f s p j fun b γ1 F1 H1 g1 j1 x1 => by
    cases b with
    | true => exact h2 γ1 x1 σ F1 H1 Q g1.sub (s.mono g1.f) p j1 fun b γ2 F2 H2 g2 j2 x2 => q b γ2 F2 H2 (g1.trans g2) j2 x2
    | false => exact q false γ1 F1 H1 g1 j1 (h3 γ1 x1)
theorem xb_or (h1 : XB K R tt e pn γ PB1) (h2 : ∀ γ1, PB1 false γ1 → XB K R tu e pn γ1 PB) (h3 : ∀ γ1, PB1 true γ1 → PB true γ1) : XB K R (tOr tt tu) e pn γ PB := fun σ F H Q f s p j q =>
  h1 σ F H _ f s p j fun b γ1 F1 H1 g1 j1 x1 => by
    cases b with
    | false => exact h2 γ1 x1 σ F1 H1 Q g1.sub (s.mono g1.f) p j1 fun b γ2 F2 H2 g2 j2 x2 => q b γ2 F2 H2 (g1.trans g2) j2 x2
    | true => exact q true γ1 F1 H1 g1 j1 (h3 γ1 x1)
/-- a comparison's answer -/
theorem xb_cmp {r : R2} {P : PyData → Γ → Prop} (h : XE K R (tOp r ta tb) e pn γ P) (hb : ∀ d γ', P d γ' → ∃ b, d = .bool b) : XB K R (tTest (tOp r ta tb)) e pn γ (fun b γ' => P (.bool b) γ') := fun σ F H Q f s p j q =>
  h σ F H _ f s p j fun v d γ1 F1 H1 g1 j1 x1 a1 => by
    obtain ⟨b, rfl⟩ := hb d γ1 x1
    cases a1.blI
    exact ⟨b, rfl, q b γ1 F1 H1 g1 j1 x1⟩
/-! statements -/
theorem xs_next : XS K R tNext e pn γ (fun e' γ' => e' = e ∧ γ' = γ) Z := fun D σ F H f s p j q r => q σ e γ F H (Gr.refl f) j s p ⟨rfl, rfl⟩
theorem xs_seq (h1 : XS K R t e pn γ N1 Z) (h2 : ∀ e1 γ1, N1 e1 γ1 → XS K R u e1 pn γ1 N Z) : XS K R (tSeq t u) e pn γ N Z := fun D σ F H f s p j q r =>
  h1 { D with nx := u D } σ F H f s p j (fun σ1 e1 γ1 F1 H1 g1 j1 s1 p1 x1 => h2 e1 γ1 x1 D σ1 F1 H1 g1.sub s1 p1 j1 (fun σ2 e2 γ2 F2 H2 g2 j2 s2 p2 x2 => q σ2 e2 γ2 F2 H2 (g1.trans g2) j2 s2 p2 x2) fun v d γ2 F2 H2 g2 j2 a2 x2 => r v d γ2 F2 H2 (g1.trans g2) j2 a2 x2) r
theorem xs_set (h : XE K R te e pn γ P) (hi : (pn.map Prod.fst).contains i = false := by rfl) : XS K R (tAsg te (gName i)) e pn γ (fun e' γ' => ∃ d, P d γ' ∧ e' = e.set i (some d)) Z := fun D σ F H f s p j q r =>
  h σ F H _ f s p j fun v d γ1 F1 H1 g1 j1 x1 a1 => q _ _ γ1 F1 H1 g1 j1 ((s.mono g1.f).set a1) (p.set hi) ⟨d, x1, rfl⟩
theorem xs_let (h : XE K R te e pn γ P) (h2 : ∀ d γ1, P d γ1 → XS K R u (e.set i (some d)) pn γ1 N Z) (hi : (pn.map Prod.fst).contains i = false := by rfl) : XS K R (tSeq (tAsg te (gName i)) u) e pn γ N Z :=
  xs_seq (xs_set h hi) fun e1 γ1 ⟨d, x, z⟩ => by rw [z]; exact h2 d γ1 x
theorem xs_ret (h : XE K R te e pn γ Z) : XS K R (tRet te) e pn γ N Z := fun D σ F H f s p j q r => h σ F H _ f s p j fun v d γ1 F1 H1 g1 j1 x1 a1 => r v d γ1 F1 H1 g1 j1 a1 x1
theorem xs_if (hc : XB K R tt e pn γ PB) (h1 : ∀ γ1, PB true γ1 → XS K R t e pn γ1 N Z) (h2 : ∀ γ1, PB false γ1 → XS K R u e pn γ1 N Z) : XS K R (tIfS tt t u) e pn γ N Z := fun D σ F H f s p j q r =>
  hc σ F H _ f s p j fun b γ1 F1 H1 g1 j1 x1 => by
    have k : XS K R (if b = true then t else u) e pn γ1 N Z := by
      cases b with
      | true => exact h1 γ1 x1
      | false => exact h2 γ1 x1
    have k2 := k D σ F1 H1 g1.sub (s.mono g1.f) p j1 (fun σ2 e2 γ2 F2 H2 g2 j2 s2 p2 x2 => q σ2 e2 γ2 F2 H2 (g1.trans g2) j2 s2 p2 x2) fun v d γ2 F2 H2 g2 j2 a2 x2 => r v d γ2 F2 H2 (g1.trans g2) j2 a2 x2
    cases b <;> exact k2
/-- if .. : return .. ; what follows -/
theorem xs_guard (hc : XB K R tt e pn γ PB) (h1 : ∀ γ1, PB true γ1 → XS K R t e pn γ1 (fun _ _ => False) Z) (h2 : ∀ γ1, PB false γ1 → XS K R u e pn γ1 N Z) : XS K R (tSeq (tIfS tt t tNext) u) e pn γ N Z :=
  xs_seq (N1 := fun e1 γ1 => e1 = e ∧ PB false γ1) (xs_if hc (fun γ1 x => (h1 γ1 x).mono (fun _ _ z => z.elim) fun _ _ z => z) fun γ1 x => xs_next.mono (fun e' γ' z => ⟨z.1, by rw [z.2]; exact x⟩) fun _ _ z => z) fun e1 γ1 ⟨z, x⟩ => by rw [z]; exact h2 γ1 x
theorem XS.forg (h : XS K R t e pn γ N Z) (k : ∀ e' γ', N e' γ' → ∃ e2, Forg e' e2 ∧ N' e2 γ') : XS K R t e pn γ N' Z := fun D σ F H f s p j q r => h D σ F H f s p j (fun σ' e' γ' F' H' g jj s' p' x => by
  obtain ⟨e2, y1, y2⟩ := k _ _ x
  exact q σ' e2 γ' F' H' g jj (s'.forg y1) p' y2) r
/-- for over a frozen list -/
theorem xs_for {g : TG} {ws : List Nat} {tl : TE} (I : Nat → Γ → Prop) (hl : ED K tl e (.list ds)) (h0 : I 0 γ) (hw : (pn.map Prod.fst).all (fun i => !ws.contains i) = true)
    (hs : ∀ k x γ1, ds[k]? = some x → I k γ1 → ∃ e', EG K g ws x e e' ∧ XS K R t e' pn γ1 (fun e2 γ2 => Forg e2 e ∧ I (k + 1) γ2) Z) : XS K R (tFor (iList K tl) g t) e pn γ (fun e' γ' => e' = e ∧ I ds.length γ') Z := fun D σ F H f s p j q r => hl σ F H _ f s fun v F1 H1 z a1 => by
  obtain ⟨a, xs, rfl, h1, h2⟩ := a1.lstI
  have hz := h2.length
  refine ⟨a, rfl, ⟨xs, SqL.of (z.sub _ _ h1)⟩, for_list (K := K) (a := a) (xs := xs) (fun k σ' H' => ∃ γ' F', Gr R.M No F1 H1 F' H' ∧ R.J γ' F' H' ∧ SD K F' σ' e ∧ Pins σ' pn ∧ I k γ') ⟨γ, F1, Gr.refl z.sub, R.thru _ _ _ _ _ j z, s.mono z.f, p, h0⟩ (fun k σ' H' _ ⟨γ', F', w, _⟩ => SqL.of (w.sub _ _ (w.f _ _ h1))) (fun k x σ' H' hx ⟨γ', F', w1, w2, w3, w4, w5⟩ => ?_) (fun σ' H' ⟨γ', F', w1, w2, w3, w4, w5⟩ => ?_)⟩
  · obtain ⟨d, hd, had⟩ := h2.get' hx
    obtain ⟨e', g1, g2⟩ := hs k d γ' hd w5
    refine g1 x σ' F' H' _ w1.sub w3 (had.mono w1.f) fun σ2 s2 hwp => g2 _ σ2 F' H' w1.sub s2 (w4.wipe hw hwp) w2 (fun σ3 e3 γ3 F3 H3 y1 y2 y3 y4 ⟨y5, y6⟩ => ⟨γ3, F3, w1.trans y1, y2, y3.forg y5, y4, y6⟩) fun v d γ3 F3 H3 y1 y2 y3 y4 => r v d γ3 F3 H3 ((z.gr.trans w1).trans y1) y2 y3 y4
  · rw [hz] at w5
    exact q σ' e γ' F' H' (z.gr.trans w1) w2 w3 w4 ⟨rfl, w5⟩
/-- for over range(n) -/
theorem xs_range {g : TG} {ws : List Nat} {tl : TE} (I : Nat → Γ → Prop) (hl : XE K R tl e pn γ (fun d γ' => ∃ n : Nat, d = (.int (n : Int)) ∧ P1 (.int (n : Int)) γ')) (hn : ∀ n : Nat, ∀ γ1, P1 (.int (n : Int)) γ1 → n ≤ 1000000000 ∧ I 0 γ1) (hw : (pn.map Prod.fst).all (fun i => !ws.contains i) = true)
    (hs : ∀ (n : Nat) (γ0 : Γ) (k : Nat) (γ1 : Γ), P1 (.int (n : Int)) γ0 → k < n → I k γ1 → ∃ e', EG K g ws (.int (k : Int)) e e' ∧ XS K R t e' pn γ1 (fun e2 γ2 => Forg e2 e ∧ I (k + 1) γ2) Z) : XS K R (tFor (iRng1 (tCons tl tNil)) g t) e pn γ (fun e' γ' => e' = e ∧ ∃ (n : Nat) (γ0 : Γ), P1 (.int (n : Int)) γ0 ∧ I n γ') Z := fun D σ F H f s p j q r => hl σ F H _ f s p j fun v d γ0 F1 H1 z j1 ⟨n, hd, hp⟩ a1 => by
  subst hd
  cases a1.intI
  obtain ⟨hn1, h0⟩ := hn n γ0 hp
  refine ⟨(n : Int), rfl, by omega, by omega, ?_⟩
  rw [Int.toNat_natCast]
  refine for_range (fun k σ' H' => ∃ γ' F', Gr R.M No F1 H1 F' H' ∧ R.J γ' F' H' ∧ SD K F' σ' e ∧ Pins σ' pn ∧ I k γ') ⟨γ0, F1, Gr.refl z.sub, j1, s.mono z.f, p, h0⟩ (fun k σ' H' hk ⟨γ', F', w1, w2, w3, w4, w5⟩ => ?_) (fun σ' H' ⟨γ', F', w1, w2, w3, w4, w5⟩ => q σ' e γ' F' H' (z.trans w1) w2 w3 w4 ⟨rfl, n, γ0, hp, w5⟩)
  obtain ⟨e', g1, g2⟩ := hs n γ0 k γ' hp hk w5
  rw [Int.zero_add]
  exact g1 _ σ' F' H' _ w1.sub w3 (.int _) fun σ2 s2 hwp => g2 _ σ2 F' H' w1.sub s2 (w4.wipe hw hwp) w2 (fun σ3 e3 γ3 F3 H3 y1 y2 y3 y4 ⟨y5, y6⟩ => ⟨γ3, F3, w1.trans y1, y2, y3.forg y5, y4, y6⟩) fun v d γ3 F3 H3 y1 y2 y3 y4 => r v d γ3 F3 H3 ((z.trans w1).trans y1) y2 y3 y4
/-! an own list beside R -/
theorem own_ne {M : Addr → Prop} {p b : Addr} (h : ¬ (M b ∨ b = p)) : ¬ M b ∧ b ≠ p := ⟨fun z => h (.inl z), fun z => h (.inr z)⟩
def Res.own (K : PySem.W.Frag) (R : Res Γ) (p : Addr) : Res (Γ × List PyData) where
  M := fun b => R.M b ∨ b = p
  J := fun γ F H => R.J γ.1 F H ∧ ¬ R.M p ∧ F p = none ∧ ∃ xs, H p = some (.lst xs) ∧ Das K F xs γ.2
  thru := fun γ F H F' H' ⟨j, m, n, xs, h1, h2⟩ z => ⟨R.thru _ _ _ _ _ j z, m, z.away n (some_ne h1), xs, z.h _ _ h1, h2.mono z.f⟩
  frz := fun γ F H q o ⟨j, m, n, xs, h1, h2⟩ nq fq => by
    obtain ⟨n1, n2⟩ := own_ne nq
    exact ⟨R.frz _ _ _ _ _ j n1 fq, m, by rw [upd_ne (Ne.symm n2)]; exact n, xs, h1, h2.mono (same_upd fq)⟩
  ex := fun γ F H b ⟨j, m, n, xs, h1, h2⟩ hb => by
    rcases hb with z | z
    · exact R.ex _ _ _ _ j z
    · subst z; exact ⟨some_ne h1, n⟩
  oth := fun γ F H q o ⟨j, m, n, xs, h1, h2⟩ nq fq => by
    obtain ⟨n1, n2⟩ := own_ne nq
    exact ⟨R.oth _ _ _ _ _ j n1 fq, m, n, xs, by rw [upd_ne (Ne.symm n2)]; exact h1, h2⟩
/-- R is a part of R' -/
structure Lift {Γ Δ : Type} (R : Res Γ) (R' : Res Δ) (get : Δ → Γ) (put : Δ → Γ → Δ) : Prop where
  m : ∀ b, R.M b → R'.M b
  j : ∀ δ F H, R'.J δ F H → R.J (get δ) F H
  b : ∀ δ F H γ' F' H', R'.J δ F H → Gr R.M No F H F' H' → R.J γ' F' H' → R'.J (put δ γ') F' H'
theorem lift_own {p : Addr} : Lift R (R.own K p) Prod.fst (fun δ γ' => (γ', δ.2)) :=
  ⟨fun _ h => .inl h, fun _ _ _ h => h.1, fun δ F H γ' F' H' ⟨j, m, n, xs, h1, h2⟩ g jj => ⟨jj, m, g.away n (some_ne h1), xs, g.h p _ m h1, h2.mono g.f⟩⟩
section
variable {Δ : Type} {R' : Res Δ} {get : Δ → Γ} {put : Δ → Γ → Δ} {δ : Δ}
theorem XE.lift (L : Lift R R' get put) (h : XE K R te e pn (get δ) P) : XE K R' te e pn δ (fun d δ' => ∃ γ', P d γ' ∧ δ' = put δ γ') := fun σ F H Q f s p j q =>
  h σ F H Q f s p (L.j _ _ _ j) fun v d γ' F' H' g jj x a => q v d (put δ γ') F' H' (g.mono L.m fun _ z => z) (L.b _ _ _ _ _ _ j g jj) ⟨γ', x, rfl⟩ a
theorem XB.lift (L : Lift R R' get put) (h : XB K R tt e pn (get δ) PB) : XB K R' tt e pn δ (fun b δ' => ∃ γ', PB b γ' ∧ δ' = put δ γ') := fun σ F H Q f s p j q =>
  h σ F H Q f s p (L.j _ _ _ j) fun b γ' F' H' g jj x => q b (put δ γ') F' H' (g.mono L.m fun _ z => z) (L.b _ _ _ _ _ _ j g jj) ⟨γ', x, rfl⟩
theorem XA.lift (L : Lift R R' get put) (h : XA K R tr e pn (get δ) PA) : XA K R' tr e pn δ (fun ds δ' => ∃ γ', PA ds γ' ∧ δ' = put δ γ') := fun σ F H Q f s p j q =>
  h σ F H Q f s p (L.j _ _ _ j) fun vs ds γ' F' H' g jj x a => q vs ds (put δ γ') F' H' (g.mono L.m fun _ z => z) (L.b _ _ _ _ _ _ j g jj) ⟨γ', x, rfl⟩ a
end
theorem XS.lift {Δ : Type} {R' : Res Δ} {get : Δ → Γ} {put : Δ → Γ → Δ} {δ : Δ} (L : Lift R R' get put) (h : XS K R t e pn (get δ) N Z) : XS K R' t e pn δ (fun e' δ' => ∃ γ', N e' γ' ∧ δ' = put δ γ') (fun d δ' => ∃ γ', Z d γ' ∧ δ' = put δ γ') := fun D σ F H f s p j q r =>
  h D σ F H f s p (L.j _ _ _ j) (fun σ' e' γ' F' H' g jj s' p' x => q σ' e' (put δ γ') F' H' (g.mono L.m fun _ z => z) (L.b _ _ _ _ _ _ j g jj) s' p' ⟨γ', x, rfl⟩) fun v d γ' F' H' g jj a x => r v d (put δ γ') F' H' (g.mono L.m fun _ z => z) (L.b _ _ _ _ _ _ j g jj) a ⟨γ', x, rfl⟩
/-- found.append(e), found.extend(e) -/
theorem xs_app {p : Addr} {Z : PyData → Γ × List PyData → Prop} (h : XE K R te e pn γ P) (hz : ds.length ≤ 15000000) (hi : (i, V.ref p) ∈ pn) : XS K (R.own K p) (tDrop (tBM K "list" rAppend (tVar i) (tCons te tNil))) e pn (γ, ds) (fun e' γ' => e' = e ∧ ∃ d, P d γ'.1 ∧ γ'.2 = ds ++ [d]) Z := fun D σ F H f s pi j q r => by
  obtain ⟨jj, m, n, xs, h1, h2⟩ := j
  refine ⟨_, pi i _ hi, .inl ⟨rfl, _, SqL.of h1⟩, h σ F H _ f s pi jj fun v d γ1 F1 H1 g1 j1 x1 a1 => ?_⟩
  have h3 := g1.h p _ m h1
  have n1 := g1.away n (some_ne h1)
  refine ⟨p, xs, v, rfl, rfl, h3, by rw [h2.length]; exact line_lt (by show ds.length ≤ _; omega), ?_⟩
  have g2 : Gr (R.own K p).M No F1 H1 F1 (upd H1 p (.lst (xs ++ [v]))) := Gr.put g1.sub (.inr rfl) n1
  exact q σ e (γ1, ds ++ [d]) F1 _ ((g1.mono (fun _ z => .inl z) fun _ z => z).trans g2) ⟨R.oth _ _ _ _ _ j1 m n1, m, n1, _, upd_same, (h2.mono g1.f).append (Das.one a1)⟩ (s.mono g1.f) pi ⟨rfl, d, x1, rfl⟩
/-- found = []; .. ; return found -/
theorem xs_ownRet (hn : e[i]? = some none) (h : ∀ p, XS K (R.own K p) t e ((i, V.ref p) :: pn) (γ, []) (fun _ γ' => Z (.list γ'.2) γ'.1) (fun _ _ => False)) (hi : (pn.map Prod.fst).contains i = false := by rfl) : XS K R (tSeq (tAsg (tLst tNil) (gName i)) (tSeq t (tRet (tVar i)))) e pn γ N Z := fun D σ F H f s pi j q r => by
  refine ⟨Nat.zero_le _, fun p hp => ?_⟩
  have np : ¬ R.M p := fun z => (R.ex _ _ _ _ j z).1 hp
  have z : Fz F H F (upd H p (.lst [])) := Fz.loose f hp
  have sg : SD K F (σ.set i (some (.ref p))) e := by
    refine ⟨by rw [List.length_set]; exact s.len, fun k c x => ?_⟩
    have n : i ≠ k := fun y => by
      subst y
      rw [hn] at x
      cases x
    rw [List.getElem?_set_ne n]
    exact s.get k c x
  have pg : Pins (σ.set i (some (.ref p))) ((i, V.ref p) :: pn) := fun k v hk => by
    rcases List.mem_cons.mp hk with y | y
    · cases y
      exact List.getElem?_set_self (by rw [s.len]; exact (List.getElem?_eq_some_iff.mp hn).1)
    · exact pi.set hi k v y
  refine h p { D with nx := tRet (tVar i) D } (σ.set i (some (.ref p))) F (upd H p (.lst [])) z.sub sg pg ⟨R.thru _ _ _ _ _ j z, np, f.free hp, [], upd_same, .nil⟩ (fun σ1 e1 γ1 F1 H1 g1 j1 s1 p1 x1 => ?_) (fun v d γ1 F1 H1 _ _ _ x => x.elim)
  obtain ⟨jj, m, n, xs, h1, h2⟩ := j1
  refine ⟨_, p1 i _ (List.mem_cons_self ..), ?_⟩
  refine r _ _ γ1.1 (upd F1 p (.lst xs)) H1 ⟨fun b o nm hb => ?_, g1.f.trans (same_upd n), fun b o hb => ?_, fun b o hb => ?_, fun b hb => ?_⟩ (R.frz _ _ _ _ _ jj m n) (da_lst n h2) x1
  · have nb : b ≠ p := ne_of_none hb hp
    exact g1.h b o (fun y => y.elim nm nb) (by rw [upd_ne nb]; exact hb)
  · by_cases y : b = p
    · subst y; rw [upd_same] at hb; rw [← hb]; exact h1
    · rw [upd_ne y] at hb; exact g1.sub _ _ hb
  · by_cases y : b = p
    · subst y; exact .inr (.inl hp)
    · rw [upd_ne y] at hb
      rcases g1.fresh b o hb with w | w | w
      · exact .inl w
      · rw [upd_ne y] at w; exact .inr (.inl w)
      · exact w.elim
  · refine g1.there b ?_
    by_cases y : b = p
    · subst y; rw [upd_same]; exact fun z => nomatch z
    · rw [upd_ne y]; exact hb
/-- a new list, not frozen -/
def XL (K : PySem.W.Frag) (R : Res Γ) (te : TE) (e : DE) (pn : List (Nat × V)) (γ : Γ) (P : List PyData → Γ → Prop) : Prop := ∀ (σ : L2.St) (F H : Hp) (Q : VK), Same F H → SD K F σ e → Pins σ pn → R.J γ F H →
  (∀ p xs ds γ' F' H', Gr R.M No F H F' H' → R.J γ' F' H' → P ds γ' → H p = none → F' p = none → ¬ R.M p → H' p = some (.lst xs) → Das K F' xs ds → Q (.ref p) H') → te σ H Q
theorem gr_freeze {M : Addr → Prop} {F H F1 H1 : Hp} {p : Addr} {o : HO} (g : Gr M No F H F1 H1) (hp : H p = none) (n : F1 p = none) (h1 : H1 p = some o) : Gr M No F H (upd F1 p o) H1 := by
  refine ⟨g.h, g.f.trans (same_upd n), fun b u hb => ?_, fun b u hb => ?_, g.there⟩
  · by_cases y : b = p
    · subst y; rw [upd_same] at hb; rw [← hb]; exact h1
    · rw [upd_ne y] at hb; exact g.sub _ _ hb
  · by_cases y : b = p
    · subst y; exact .inr (.inl hp)
    · rw [upd_ne y] at hb; exact g.fresh b u hb
theorem XL.xe (h : XL K R te e pn γ PA) : XE K R te e pn γ (fun d γ' => ∃ ds, d = .list ds ∧ PA ds γ') := fun σ F H Q f s p j q =>
  h σ F H Q f s p j fun a xs ds γ' F' H' g jj x hp n m h1 h2 => q _ _ γ' _ H' (gr_freeze g hp n h1) (R.frz _ _ _ _ _ jj m n) ⟨ds, rfl, x⟩ (da_lst n h2)
/-- a comprehension over range(n) -/
theorem xl_lcR {g : TG} {ws : List Nat} {tl : TE} (I : Nat → List PyData → Γ → Prop) (hl : XE K R tl e pn γ (fun d γ' => ∃ n : Nat, d = .int (n : Int) ∧ P1 (.int (n : Int)) γ')) (hn : ∀ n : Nat, ∀ γ1, P1 (.int (n : Int)) γ1 → n ≤ 1000000 ∧ I 0 [] γ1) (hw : (pn.map Prod.fst).all (fun i => !ws.contains i) = true)
    (hI : ∀ k acc γ1, I k acc γ1 → acc.length ≤ k)
    (hs : ∀ (n : Nat) (γ0 : Γ) (k : Nat) (acc : List PyData) (γ1 : Γ), P1 (.int (n : Int)) γ0 → k < n → I k acc γ1 → ∃ e', EG K g ws (.int (k : Int)) (wipeD e ws) e' ∧ XE K R te e' pn γ1 (fun d γ2 => I (k + 1) (acc ++ [d]) γ2)) :
    XL K R (tLc (iRng1 (tCons tl tNil)) g tYes te ws) e pn γ (fun ds γ' => ∃ (n : Nat) (γ0 : Γ), P1 (.int (n : Int)) γ0 ∧ I n ds γ') := fun σ F H Q f s p j q => hl σ F H _ f s p j fun v d γ0 F1 H1 z j1 ⟨n, hd, hp⟩ a1 => by
  subst hd
  cases a1.intI
  obtain ⟨hn1, h0⟩ := hn n γ0 hp
  have sw := (s.mono z.f).wipe ws
  have pw : Pins (L2.wipe σ ws) pn := p.wiped hw
  refine ⟨(n : Int), rfl, by omega, by omega, ?_⟩
  rw [Int.toNat_natCast]
  refine fun C nC => ?_
  have mC : ¬ R.M C := fun y => (R.ex _ _ _ _ j1 y).1 nC
  refine lc_range (fun k H' => ∃ γ' F' acc ds, Gr (R.own K C).M No F1 (upd H1 C (.lst [])) F' H' ∧ R.J γ' F' H' ∧ F' C = none ∧ H' C = some (.lst acc) ∧ Das K F' acc ds ∧ I k ds γ') ⟨γ0, F1, [], [], Gr.refl (Fz.loose z.sub nC).sub, R.oth _ _ _ _ _ j1 mC (z.sub.free nC), z.sub.free nC, upd_same, .nil, h0⟩
    (fun k H' hk ⟨γ', F', acc, ds, w1, w2, w3, w4, w5, w6⟩ => ?_) (fun H' ⟨γ', F', acc, ds, w1, w2, w3, w4, w5, w6⟩ => ?_)
  · obtain ⟨e', g1, g2⟩ := hs n γ0 k ds γ' hp hk w6
    rw [Int.zero_add]
    refine g1 _ _ F' H' _ w1.sub (sw.mono w1.f) (.int _) fun σ2 s2 hwp => ⟨hwp.trans (wipe_wipe σ ws), ?_⟩
    show te σ2 H' _
    refine g2 σ2 F' H' _ w1.sub s2 (pw.wipe hw hwp) w2 fun y d γ3 F3 H3 y1 y2 y3 y4 => ?_
    have hC3 := y1.h C _ mC w4
    have nC3 := y1.away w3 (some_ne w4)
    refine ⟨acc, hC3, ?_, γ3, F3, acc ++ [y], ds ++ [d], (w1.trans (y1.mono (fun _ h => .inl h) fun _ h => h)).trans (Gr.put y1.sub (.inr rfl) nC3), R.oth _ _ _ _ _ y2 mC nC3, nC3, upd_same, (w5.mono y1.f).append (Das.one y4), y3⟩
    have := hI _ _ _ w6
    rw [w5.length]
    exact line_lt (by omega)
  · have hC1 : H C = none := z.none_of nC
    refine q C acc ds γ' F' H' ⟨fun b o nm hb => ?_, z.f.trans w1.f, w1.sub, fun b o hb => ?_, fun b hb => ?_⟩ w2 ⟨n, γ0, hp, w6⟩ hC1 w3 mC w4 w5
    · have nb : b ≠ C := ne_of_none (z.h b o nm hb) nC
      exact w1.h b o (fun y => y.elim nm nb) (by rw [upd_ne nb]; exact z.h b o nm hb)
    · rcases w1.fresh b o hb with y | y | y
      · exact z.fresh b o y
      · by_cases w : b = C
        · subst w; exact .inr (.inl hC1)
        · rw [upd_ne w] at y; exact .inr (.inl (z.none_of y))
      · exact y.elim
    · refine w1.there b ?_
      by_cases y : b = C
      · subst y; rw [upd_same]; exact fun z => nomatch z
      · rw [upd_ne y]; exact z.there b hb
/-- a comprehension over a frozen list, with a test -/
theorem xl_lcL {g : TG} {ws : List Nat} {tl : TE} (c : PyData → Bool) (I : Nat → List PyData → Γ → Prop) (hl : ED K tl e (.list ds)) (hz : ds.length ≤ 1000000) (h0 : I 0 [] γ) (hw : (pn.map Prod.fst).all (fun i => !ws.contains i) = true)
    (hI : ∀ k acc γ1, I k acc γ1 → acc.length ≤ k)
    (hs : ∀ (k : Nat) (x : PyData) (acc : List PyData) (γ1 : Γ), ds[k]? = some x → I k acc γ1 → ∃ e', EG K g ws x (wipeD e ws) e' ∧ EB K tt e' (c x) ∧ (c x = true → XE K R te e' pn γ1 (fun d γ2 => I (k + 1) (acc ++ [d]) γ2)) ∧ (c x = false → I (k + 1) acc γ1)) :
    XL K R (tLc (iList K tl) g tt te ws) e pn γ (fun ds' γ' => I ds.length ds' γ') := fun σ F H Q f s p j q => hl σ F H _ f s fun v F1 H1 zz a1 => by
  obtain ⟨a, xs, rfl, h1, h2⟩ := a1.lstI
  have hlen := h2.length
  have z : Gr R.M No F H F1 H1 := zz.gr
  have j1 := R.thru _ _ _ _ _ j zz
  have sw := (s.mono z.f).wipe ws
  have pw : Pins (L2.wipe σ ws) pn := p.wiped hw
  refine ⟨a, rfl, ⟨xs, SqL.of (z.sub _ _ h1)⟩, fun C nC => ?_⟩
  have mC : ¬ R.M C := fun y => (R.ex _ _ _ _ j1 y).1 nC
  refine lc_list (K := K) (a := a) (xs := xs) (fun k H' => ∃ γ' F' acc ds', Gr (R.own K C).M No F1 (upd H1 C (.lst [])) F' H' ∧ R.J γ' F' H' ∧ F' C = none ∧ H' C = some (.lst acc) ∧ Das K F' acc ds' ∧ I k ds' γ') ⟨γ, F1, [], [], Gr.refl (Fz.loose z.sub nC).sub, R.oth _ _ _ _ _ j1 mC (z.sub.free nC), z.sub.free nC, upd_same, .nil, h0⟩
    (fun k H' _ ⟨γ', F', acc, ds', w1, _⟩ => SqL.of (w1.sub _ _ (w1.f _ _ h1))) (fun k x H' hx ⟨γ', F', acc, ds', w1, w2, w3, w4, w5, w6⟩ => ?_) (fun H' ⟨γ', F', acc, ds', w1, w2, w3, w4, w5, w6⟩ => ?_)
  · obtain ⟨d, hd, had⟩ := h2.get' hx
    have hk : k < ds.length := (List.getElem?_eq_some_iff.mp hd).1
    obtain ⟨e', g1, g2, g3, g4⟩ := hs k d ds' γ' hd w6
    refine g1 x _ F' H' _ w1.sub (sw.mono w1.f) (had.mono w1.f) fun σ2 s2 hwp => ⟨hwp.trans (wipe_wipe σ ws), ?_⟩
    refine g2 σ2 F' H' _ w1.sub s2 fun F2 H2 s3 => ?_
    have hC2 := s3.h C _ w4
    have nC2 := s3.away w3 (some_ne w4)
    cases hc : c d with
    | true =>
      refine (if_pos rfl).mpr (g3 hc σ2 F2 H2 _ s3.sub (s2.mono s3.f) (pw.wipe hw hwp) (R.thru _ _ _ _ _ w2 s3) fun y d γ3 F3 H3 y1 y2 y3 y4 => ?_)
      have hC3 := y1.h C _ mC hC2
      have nC3 := y1.away nC2 (some_ne hC2)
      refine ⟨acc, hC3, ?_, γ3, F3, acc ++ [y], ds' ++ [d], ((w1.trans s3.gr).trans (y1.mono (fun _ h => .inl h) fun _ h => h)).trans (Gr.put y1.sub (.inr rfl) nC3), R.oth _ _ _ _ _ y2 mC nC3, nC3, upd_same, (w5.mono (s3.f.trans y1.f)).append (Das.one y4), y3⟩
      have := hI _ _ _ w6
      rw [w5.length]
      exact line_lt (by omega)
    | false =>
      exact (if_neg Bool.false_ne_true).mpr ⟨γ', F2, acc, ds', w1.trans s3.gr, R.thru _ _ _ _ _ w2 s3, nC2, hC2, w5.mono s3.f, g4 hc⟩
  · have hC1 : H C = none := z.none_of nC
    rw [hlen] at w6
    refine q C acc ds' γ' F' H' ⟨fun b o nm hb => ?_, z.f.trans w1.f, w1.sub, fun b o hb => ?_, fun b hb => ?_⟩ w2 w6 hC1 w3 mC w4 w5
    · have nb : b ≠ C := ne_of_none (z.h b o nm hb) nC
      exact w1.h b o (fun y => y.elim nm nb) (by rw [upd_ne nb]; exact z.h b o nm hb)
    · rcases w1.fresh b o hb with y | y | y
      · exact z.fresh b o y
      · by_cases w : b = C
        · subst w; exact .inr (.inl hC1)
        · rw [upd_ne w] at y; exact .inr (.inl (z.none_of y))
      · exact y.elim
    · refine w1.there b ?_
      by_cases y : b = C
      · subst y; rw [upd_same]; exact fun z => nomatch z
      · rw [upd_ne y]; exact z.there b hb
end
end Pa
/-! The drawing state; _law_draw, _law_pick -/
namespace Pa
open PySem L2 PyProof.Rows
local macro_rules | `(tactic| walk_at "ed") => `(tactic| first
  | ((with_reducible show ED _ (tVar _) _ _); exact ed_var rfl)
  | ((with_reducible show ED _ (tC _) _ _); first | exact ed_int | exact ed_str | exact ed_non | exact ed_bl | exact ed_tupC T.fF | exact ed_tupC T.fS)
  | ((with_reducible show EA _ tNil _ _); exact ea_nil) | ((with_reducible show EA _ (tCons _ _) _ _); exact ea_cons (by walk_at "ed") (by walk_at "ed"))
  | ((with_reducible show ED _ (tTup _) _ _); exact ed_tup (by walk_at "ed")) | ((with_reducible show ED _ (tLst _) _ _); exact ed_lst (by walk_at "ed"))
  | ((with_reducible show ED _ (tOp (rI0 fun i j => V.int (i + j)) _ _) _ _); exact ed_add (by walk_at "ed") (by walk_at "ed"))
  | ((with_reducible show ED _ (tOp (rI0 fun i j => V.int (i - j)) _ _) _ _); exact ed_sub (by walk_at "ed") (by walk_at "ed"))
  | ((with_reducible show ED _ (tOp (rI0 fun i j => V.int (Builtin.bitAnd i j)) _ _) _ _); exact ed_and (by walk_at "ed") (by walk_at "ed"))
  | ((with_reducible show ED _ (tOp (rIxT _) _ (tC (.int 0))) _ _); exact ed_ix0 (by walk_at "ed")) | ((with_reducible show ED _ (tOp (rIxT _) _ (tC (.int 1))) _ _); exact ed_ix1 (by walk_at "ed"))
  | ((with_reducible show ED _ (tOp (rIxT _) _ (tC (.int 2))) _ _); exact ed_ix2 (by walk_at "ed")) | ((with_reducible show ED _ (tOp (rIxT _) _ (tC (.int 3))) _ _); exact ed_ix3 (by walk_at "ed"))
  | ((with_reducible show ED _ (tSl _ _ tNoPart (tPart _)) _ _); exact ed_take (by walk_at "ed") (by walk_at "ed")) | ((with_reducible show ED _ (tSl _ _ (tPart _) tNoPart) _ _); exact ed_dropI (by walk_at "ed") (by walk_at "ed") rfl)
  | ((with_reducible show ED _ (tOp rEq _ _) _ _); exact ed_eqS (by walk_at "ed") (by walk_at "ed"))
  | ((with_reducible show ED _ (tOp rEq _ _) _ _); exact ed_eqI (by walk_at "ed") (by walk_at "ed"))
  | ((with_reducible show ED _ (tOp (fun x y H Q => y = V.non ∧ Q (V.bl (decide (x = V.non))) H) _ _) _ _); exact ed_isN (by walk_at "ed"))
  | ((with_reducible show ED _ (tOp (rIn _ false) _ _) _ _); exact ed_in2 (by walk_at "ed"))
  | ((with_reducible show ED _ (tCB _ _) _ _); exact ed_len (by walk_at "ed")))
local macro_rules | `(tactic| walk_at "eb") => `(tactic| first
  | ((with_reducible show EB _ (tTest (tOp (rIn _ false) _ _)) _ _); exact (eb_cmp (ed_in2 (by walk_at "ed"))).eq (by decide +kernel))
  | ((with_reducible show EB _ (tTest (tOp rEq _ _)) _ _); exact (eb_cmp (ed_eqS (by walk_at "ed") (by walk_at "ed"))).eq (by decide +kernel)))

/-- the drawing state at a, its cells at c -/
structure StA (a c : Addr) (ns : List Int) (seed : Int) (F H : Hp) : Prop where
  ne : a ≠ c
  fa : F a = none
  fc : F c = none
  ha : H a = some (.lst [.ref c, .int seed])
  hc : H c = some (.lst (ns.map V.int))
  nn : ∀ n, n ∈ ns → 0 ≤ n
  len : ns.length ≤ 1000
  s0 : 0 ≤ seed
  s1 : seed < 4294967296
theorem StA.to {a c : Addr} {ns : List Int} {seed : Int} {F H F' H' : Hp} (S : StA a c ns seed F H) (h1 : F' a = none) (h2 : F' c = none) (h3 : H' a = H a) (h4 : H' c = H c) : StA a c ns seed F' H' :=
  ⟨S.ne, h1, h2, h3.trans S.ha, h4.trans S.hc, S.nn, S.len, S.s0, S.s1⟩
def RS (a c : Addr) : Res Unit where
  M := fun b => b = a ∨ b = c
  J := fun _ F H => ∃ ns seed, StA a c ns seed F H
  thru := fun _ F H F' H' ⟨ns, seed, S⟩ z => ⟨ns, seed, S.to (z.away S.fa (some_ne S.ha)) (z.away S.fc (some_ne S.hc)) (by rw [S.ha]; exact z.h _ _ S.ha) (by rw [S.hc]; exact z.h _ _ S.hc)⟩
  frz := fun _ F H p o ⟨ns, seed, S⟩ m _ => ⟨ns, seed, S.to (by rw [upd_ne fun y => m (.inl y.symm)]; exact S.fa) (by rw [upd_ne fun y => m (.inr y.symm)]; exact S.fc) rfl rfl⟩
  ex := fun _ F H b ⟨ns, seed, S⟩ m => by
    rcases m with z | z
    · subst z; exact ⟨some_ne S.ha, S.fa⟩
    · subst z; exact ⟨some_ne S.hc, S.fc⟩
  oth := fun _ F H p o ⟨ns, seed, S⟩ m _ => ⟨ns, seed, S.to S.fa S.fc (by rw [upd_ne fun y => m (.inl y.symm)]) (by rw [upd_ne fun y => m (.inr y.symm)])⟩
/-- the promise of a def that draws: the drawing state, then data -/
def spS (K : PySem.W.Frag) (Pre : List PyData → Prop) (Rr : List PyData → PyData → Prop) : Sp := fun vs H Q _ => ∃ (a c : Addr) (F : Hp) (ws : List V) (ds : List PyData), vs = .ref a :: ws ∧ Same F H ∧ (RS a c).J () F H ∧ Das K F ws ds ∧ Pre ds ∧
  ∀ v d F' H', Gr (RS a c).M No F H F' H' → (RS a c).J () F' H' → Rr ds d → Da K F' v d → Q v H'
section
variable {P : Program} {w : World} {K : PySem.W.Frag} {mg : Str → Option Value} {base : Heap} {tW : Tok} {aF aS : Addr}
theorem xe_callS {a c : Addr} {ta : TA} {e : DE} {pn : List (Nat × V)} {PA : List PyData → Unit → Prop} {Pre : List PyData → Prop} {Rr : List PyData → PyData → Prop} {E : XK} (ha : XA K (RS a c) ta e pn () PA) (hp : ∀ ds, PA ds () → Pre ds) (h0 : (0, V.ref a) ∈ pn) :
    XE K (RS a c) (tCall (spS K Pre Rr) [] E (tCons (tVar 0) ta)) e pn () (fun d _ => ∃ ds, PA ds () ∧ Rr ds d) := fun σ F H Q f s p j q =>
  ⟨_, p 0 _ h0, ha σ F H _ f s p j fun vs ds γ' F1 H1 g1 j1 x1 a1 => ⟨a, c, F1, vs, ds, by rw [List.append_nil], g1.sub, j1, a1, hp ds x1, fun v d F' H' g2 j2 r2 a2 => q v d () F' H' (g1.trans g2) j2 ⟨ds, x1, r2⟩ a2⟩⟩
theorem SD.startS {N : List Str} {F : Hp} {a : Addr} {vs : List V} {ds : List PyData} (h : Das K F vs ds) : SD K F (L2.start N (.ref a :: vs)) (none :: (ds.map some ++ List.replicate (N.length - (ds.length + 1)) none)) := by
  have hl := h.length
  refine ⟨?_, fun i d q => ?_⟩
  · unfold L2.start
    simp [hl]
  · cases i with
    | zero => cases q
    | succ i =>
      have q' : (ds.map some ++ List.replicate (N.length - (ds.length + 1)) none)[i]? = some (some d) := q
      by_cases hi : i < ds.length
      · rw [List.getElem?_append_left (by rw [List.length_map]; exact hi), List.getElem?_map] at q'
        cases e : ds[i]? with
        | none => rw [e] at q'; cases q'
        | some c =>
          rw [e] at q'
          have z : c = d := Option.some.inj (Option.some.inj q')
          subst z
          obtain ⟨v, a1, b⟩ := h.get e
          refine ⟨v, ?_, b⟩
          unfold L2.start
          rw [List.getElem?_append_left (by rw [List.length_map, List.length_cons]; omega), List.getElem?_map, List.getElem?_cons_succ, a1]
          rfl
      · rw [List.getElem?_append_right (by rw [List.length_map]; omega)] at q'
        have := List.eq_of_mem_replicate (List.mem_of_getElem? q')
        cases this
/-- the rule for a def that draws -/
theorem Def.genS {x : Str} {st : Stmt} {N ps : List Str} {k : Nat} {Pre : List PyData → Prop} {Rr : List PyData → PyData → Prop} (D : Def K mg x st) (S : FnScope N ps (defScope st)) (len : ∀ ds, Pre ds → ds.length + 1 = ps.length)
    (hb : ∀ (kV doc pm : Value) (an : Option Addr) (cdv ct : Value) (us : List Value), us.length = ps.length → bindArgs (PySem.W.fnOf x x (defArgs st) (defBody st) (defScope st) .none kV doc pm an cdv ct) ⟨us, []⟩ = Pure.pure (ps.zip us))
    (hbody : ∀ (f : Addr) (cdv : Value) (A : Around) (outer : List Env) (s : Shared) (H : Hp) (E : XK) (a c : Addr) (ds : List PyData), Room k (A.deeper (envOfC x (defScope st) s.heap.objs.size f cdv)) → Pre ds →
      ∃ t, PSs (cxOf CX0 P w K mg base N x (defScope st) f cdv A outer s H E).nox (defBody st) t ∧ XS K (RS a c) t (none :: (ds.map some ++ List.replicate (N.length - (ds.length + 1)) none)) [(0, V.ref a)] () (fun _ _ => False) (fun d _ => Rr ds d)) : Cal P w K mg base (k + 1) x ps (spS K Pre Rr) := by
  refine D.cal S (fun vs H Q E ⟨a, c, F, ws, ds, z, _, _, h, pr, _⟩ => by rw [z, List.length_cons, h.length]; exact len ds pr) hb fun f cdv A outer s H vs Q E hr ⟨a, c, F, ws, ds, z, fs, j, h, pr, q⟩ => ?_
  obtain ⟨t, h1, h2⟩ := hbody f cdv A outer s H E a c ds hr pr
  subst z
  have hN : ps.length ≤ N.length := by have := congrArg List.length S.pre; rw [List.length_take] at this; omega
  refine ⟨t, h1, h2 _ _ F H fs (SD.startS h) (fun i v hi => ?_) j (fun _ _ _ _ _ _ _ _ _ x => x.elim) fun v d γ' F' H' g jj aa x => q v d F' H' g jj x aa⟩
  cases List.mem_singleton.mp hi
  rfl
theorem rd_len {σ : L2.St} {H : Hp} {Q : VK} {i : Nat} {c : Addr} {xs : List V} (h : σ[i]? = some (some (.ref c))) (hc : H c = some (.lst xs)) (q : Q (.int xs.length) H) :
    tCB (fun xs H Q => ∃ p ys, xs = [V.ref p] ∧ (SqL K H p ys ∨ SqT K H p ys) ∧ Q (V.int ys.length) H) (tCons (tVar i) tNil) σ H Q := ⟨_, h, c, xs, rfl, .inl (SqL.of hc), q⟩
theorem rd_ix {σ : L2.St} {H : Hp} {Q : VK} {i : Nat} {k : Int} {c : Addr} {xs : List V} {v : V} (h : σ[i]? = some (some (.ref c))) (hc : H c = some (.lst xs)) (hk : atI xs k = some v) (q : Q v H) :
    tOp (rIxL K) (tVar i) (tC (.int k)) σ H Q := ⟨_, h, c, xs, k, v, rfl, rfl, SqL.of hc, hk, q⟩
abbrev tLenL (K : PySem.W.Frag) (te : TE) : TE := tCB (fun xs H Q => ∃ p ys, xs = [V.ref p] ∧ (SqL K H p ys ∨ SqT K H p ys) ∧ Q (V.int ys.length) H) (tCons te tNil)
abbrev tIntC (te : TE) : TE := tCB (fun xs H Q => (∃ i, xs = [V.int i] ∧ Q (V.int i) H) ∨ ∃ k, xs = [V.bl k] ∧ Q (V.int (if k = true then 1 else 0)) H) (tCons te tNil)
theorem rt_gt {σ : L2.St} {H : Hp} {Q : Bool → Hp → Prop} {i : Nat} {c : Addr} {xs : List V} (h : σ[i]? = some (some (.ref c))) (hc : H c = some (.lst xs)) (q : Q (decide ((0 : Int) < (xs.length : Int))) H) :
    tTest (tOp (rI0 fun i j => V.bl (decide (j < i))) (tLenL K (tVar i)) (tC (.int 0))) σ H Q := ⟨_, h, c, xs, rfl, .inl (SqL.of hc), _, _, rfl, rfl, _, rfl, q⟩
theorem rt_eq0 {σ : L2.St} {H : Hp} {Q : Bool → Hp → Prop} {i : Nat} {k z x : Int} {c : Addr} {xs : List V} (h : σ[i]? = some (some (.ref c))) (hc : H c = some (.lst xs)) (hk : atI xs k = some (.int x)) (q : Q (decide (V.int x = V.int z)) H) :
    tTest (tOp rEq (tOp (rIxL K) (tVar i) (tC (.int k))) (tC (.int z))) σ H Q := ⟨_, h, c, xs, k, _, rfl, rfl, SqL.of hc, hk, rfl, _, rfl, q⟩
theorem if_intro {c : TT} {t u : TS} {D : Ends} {σ : L2.St} {H : Hp} (h : c σ H fun b H1 => if b = true then t D σ H1 else u D σ H1) : tIfS c t u D σ H := h
theorem seq0 {n : Nat} (h : 0 < n) : seqIndex? 0 n = some 0 := by
  have l3 : (0 : Int) < (n : Int) := by omega
  unfold seqIndex?
  simp only [Int.lt_irrefl, if_false, Int.le_refl, decide_true, Bool.true_and, decide_eq_true l3, if_true]
  rfl
theorem next_intro {D : Ends} {σ : L2.St} {H : Hp} (h : D.nx σ H) : tNext D σ H := h
theorem and_intro {t u : TT} {σ : L2.St} {H : Hp} {Q : Bool → Hp → Prop} (h : t σ H fun c H1 => if c = true then u σ H1 Q else Q false H1) : tAnd t u σ H Q := h
theorem draw_tail {D : Ends} {a c : Addr} {ns : List Int} {seed : Int} {F H : Hp} {n : Nat} (S : StA a c ns seed F H) (fs : Same F H) (n0 : 0 < n) (n1 : n ≤ 1000000)
    (fin : ∀ (H' : Hp) (ns' : List Int) (seed' x : Int), Gr (RS a c).M No F H F H' → StA a c ns' seed' F H' → D.rt (.int (x % (n : Int))) H') :
    tSeq (tIfS (tTest (tOp (rI0 fun i j => V.bl (decide (j < i))) (tLenL K (tVar 2)) (tC (.int 0))))
        (tSeq (tAsg (tOp (rIxL K) (tVar 2) (tC (.int 0))) (gName 3)) (tSeq (tAsg (tOp (rI CDiv fun i j => V.int (i / j)) (tVar 3) (tVar 1)) (gSub (tVar 2) (tC (.int 0)) rSetL)) (tRet (tOp (rI (fun x j => 0 < j) fun i j => V.int (i % j)) (tIntC (tVar 3)) (tVar 1))))) tNext)
      (tSeq (tAsg (tOp (rI (fun x j => 0 < j) fun i j => V.int (i % j)) (tIntC (tOp (rI0 fun i j => V.int (i + j)) (tOp (rI CMul fun i j => V.int (i * j)) (tOp (rIxL K) (tVar 0) (tC (.int 1))) (tC (.int 48271))) (tC (.int 12345)))) (tC (.int 2147483647))) (gName 4))
        (tSeq (tAsg (tVar 4) (gSub (tVar 0) (tC (.int 1)) rSetL))
          (tRet (tOp (rI (fun x j => 0 < j) fun i j => V.int (i % j)) (tIntC (tOp (rI CDiv fun i j => V.int (i / j)) (tVar 4) (tC (.int 64)))) (tVar 1))))) D
      [some (.ref a), some (.int (n : Int)), some (.ref c), none, none] H := by
  refine seq_intro (if_intro ?_)
  refine rt_gt (c := c) rfl S.hc ?_
  rw [List.length_map]
  cases ns with
  | cons x r =>
    rw [decide_eq_true (show (0 : Int) < ((x :: r).length : Int) by rw [List.length_cons]; omega)]
    refine (if_pos rfl).mpr ?_
    refine asg_next ?_
    refine rd_ix (c := c) (v := .int x) rfl S.hc (atI_nat (j := 0) rfl) ?_
    refine seq_intro ?_
    refine ⟨_, rfl, _, rfl, _, _, rfl, rfl, ⟨by omega, by omega⟩, ?_⟩
    refine ⟨_, rfl, c, _, 0, 0, rfl, rfl, S.hc, ixN_at (j := 0) (by simp), ?_⟩
    have hx := S.nn x (List.mem_cons_self ..)
    have S2 : StA a c (x / (n : Int) :: r) seed F (upd H c (.lst ((x / (n : Int) :: r).map V.int))) := ⟨S.ne, S.fa, S.fc, by rw [upd_ne S.ne]; exact S.ha, upd_same, fun y hy => by
      rcases List.mem_cons.mp hy with z | z
      · rw [z]; exact Int.ediv_nonneg hx (by omega)
      · exact S.nn y (List.mem_cons_of_mem _ z), S.len, S.s0, S.s1⟩
    exact ⟨_, rfl, .inl ⟨x, rfl, _, rfl, _, _, rfl, rfl, by omega, fin _ _ seed x (Gr.put fs (.inr rfl) S.fc) S2⟩⟩
  | nil =>
    refine (if_neg Bool.false_ne_true).mpr (next_intro ?_)
    dsimp only
    refine asg_next ?_
    refine ⟨_, rfl, a, _, 1, .int seed, rfl, rfl, SqL.of S.ha, atI_nat (j := 1) rfl, _, _, rfl, rfl, .inr ⟨by decide, by decide⟩, _, _, rfl, rfl, .inl ⟨_, rfl, _, _, rfl, rfl, (show (0 : Int) < 2147483647 by decide), ?_⟩⟩
    refine seq_intro ?_
    have h1 := Int.emod_nonneg (seed * 48271 + 12345) (show (2147483647 : Int) ≠ 0 by decide)
    have h2 := Int.emod_lt_of_pos (seed * 48271 + 12345) (show (0 : Int) < 2147483647 by decide)
    refine ⟨_, rfl, _, rfl, a, _, 1, 1, rfl, rfl, S.ha, ixN_at (j := 1) (by simp), ?_⟩
    have S2 : StA a c [] ((seed * 48271 + 12345) % 2147483647) F (upd H a (.lst [.ref c, .int ((seed * 48271 + 12345) % 2147483647)])) := ⟨S.ne, S.fa, S.fc, upd_same, by rw [upd_ne (Ne.symm S.ne)]; exact S.hc, S.nn, S.len, h1, by omega⟩
    exact ⟨_, rfl, _, _, rfl, rfl, ⟨by decide, by decide⟩, .inl ⟨_, rfl, _, rfl, _, _, rfl, rfl, by omega, fin _ [] _ _ (Gr.put fs (.inl rfl) S.fa) S2⟩⟩
abbrev s_draw : Stmt := topS 39
theorem sc_draw : FnScope ["_law_state_here", "_law_many", "_law_cells", "_law_number_here", "_law_mixed"] ["_law_state_here", "_law_many"] (defScope s_draw) := ⟨rfl, rfl, rfl, by decide +kernel, rfl, by decide +kernel, by decide +kernel⟩
def preDraw : List PyData → Prop := fun ds => ∃ n : Nat, ds = [dn n] ∧ 0 < n ∧ n ≤ 1000000
def rDraw : List PyData → PyData → Prop := fun ds d => ∃ n k : Nat, ds = [dn n] ∧ d = dn k ∧ k < n
theorem ok_draw (T : Txt K mg tW aF aS) (d : Def K mg "_law_draw" s_draw) : Cal P w K mg base 1 "_law_draw" ["_law_state_here", "_law_many"] (spS K preDraw rDraw) := by
  refine d.cal sc_draw (fun vs H Q E ⟨a, c, F, ws, ds, z, _, _, h, ⟨n, pr, _⟩, _⟩ => by rw [z, List.length_cons, h.length, pr]; rfl) (fun _ _ _ _ _ _ us hl => match us, hl with | [_, _], _ => rfl) fun f cdv A outer s H vs Q E hr ⟨a, c, F, ws, ds, z, fs, ⟨ns, seed, S⟩, h, ⟨n, pr, n0, n1⟩, q⟩ => ?_
  subst z
  subst pr
  obtain ⟨v1, rfl, hv1⟩ := h.inv1
  cases hv1.intI
  refine ⟨_, 
      (pss_cons (ps_set (i := 2) sc_draw.nd rfl (Or.inl rfl) (pe_ix ix_list (pv 0) pe_int (fun _ _ => rfl)))
      (pss_cons (ps_while PassesOwn.never (PW.pt (pw_and (pt_cmpR op_gt (pe_callB call_len_seq (by rfl) T.len (by decide +kernel) (pa_cons (pv 2) pa_nil)) pe_int (nomark _)) (pw_and1 (pt_cmpR op_eq (pe_ix ix_list (pv 2) pe_int (fun _ _ => rfl)) pe_int (nomark _)))))
      (pss_one (ps_expr (pe_bm PySem.F.plainAttrs_list PySem.F.slot_list_pop PySem.F.type_list_pop mt_popAt (pv 2) (pa_cons pe_int pa_nil)))))
      (pss_cons (ps_if (pt_cmpR op_gt (pe_callB call_len_seq (by rfl) T.len (by decide +kernel) (pa_cons (pv 2) pa_nil)) pe_int (nomark _))
      (pss_cons (ps_set (i := 3) sc_draw.nd rfl (Or.inl rfl) (pe_ix ix_list (pv 2) pe_int (fun _ _ => rfl))) (pss_cons (ps_asg (pe_op op_fdiv (pv 3) (pv 1)) (pg_sub (pv 2) pe_int set_list))
      (pss_one (ps_ret (pe_op op_mod (pe_callTy call_int1 (by rfl) T.int (by decide +kernel) (pa_cons (pv 3) pa_nil)) (pv 1)))))) pss_nil)
      (pss_cons (ps_set (i := 4) sc_draw.nd rfl (Or.inl rfl) (pe_op op_mod (pe_callTy call_int1 (by rfl) T.int (by decide +kernel) (pa_cons (pe_op op_add (pe_op op_mul (pe_ix ix_list (pv 0) pe_int (fun _ _ => rfl)) pe_int) pe_int) pa_nil)) pe_int))
      (pss_cons (ps_asg (pv 4) (pg_sub (pv 0) pe_int set_list))
      (pss_one (ps_ret (pe_op op_mod (pe_callTy call_int1 (by rfl) T.int (by decide +kernel) (pa_cons (pe_op op_fdiv (pv 4) pe_int) pa_nil)) (pv 1))))))))), ?_⟩
  have hn0 : ((n : Int)) ≠ 0 := by omega
  have fin : ∀ (H' : Hp) (ns' : List Int) (seed' x : Int), Gr (RS a c).M No F H F H' → StA a c ns' seed' F H' → Q (.int (x % (n : Int))) H' := fun H' ns' seed' x g S' => by
    have h1 := Int.emod_nonneg x hn0
    have h2 := Int.emod_lt_of_pos x (show (0 : Int) < (n : Int) by omega)
    have h3 : ((x % (n : Int)).toNat : Int) = x % (n : Int) := Int.toNat_of_nonneg h1
    refine q _ (dn (x % (n : Int)).toNat) F H' g ⟨ns', seed', S'⟩ ⟨n, _, rfl, rfl, by omega⟩ ?_
    rw [← h3]
    exact .int _
  refine asg_next ?_
  refine ⟨_, rfl, a, [.ref c, .int seed], 0, .ref c, rfl, rfl, SqL.of S.ha, rfl, ?_⟩
  refine seq_intro ?_
  refine ⟨fun m σ' H' => σ' = [some (.ref a), some (.int (n : Int)), some (.ref c), none, none] ∧ Gr (RS a c).M No F H F H' ∧ ∃ ns', m = ns'.length ∧ StA a c ns' seed F H', ⟨_, rfl, Gr.refl fs, ns, rfl, S⟩, ?_⟩
  rintro m σ' H1 ⟨rfl, g1, ns1, rfl, S1⟩
  refine and_intro ?_
  refine rt_gt (c := c) rfl S1.hc ?_
  rw [List.length_map]
  cases ns1 with
  | nil =>
    refine (if_neg Bool.false_ne_true).mpr ?_
    refine (if_neg Bool.false_ne_true).mpr ?_
    exact draw_tail S1 g1.sub n0 n1 fun H' ns' seed' x g S' => fin H' ns' seed' x (g1.trans g) S'
  | cons x r =>
    rw [decide_eq_true (show (0 : Int) < ((x :: r).length : Int) by rw [List.length_cons]; omega)]
    refine (if_pos rfl).mpr ?_
    refine rt_eq0 (c := c) (x := x) rfl S1.hc (atI_nat (j := 0) rfl) ?_
    by_cases hx : x = 0
    · subst hx
      refine (if_pos (decide_eq_true rfl)).mpr ⟨_, fun _ _ h => h, ?_⟩
      refine ⟨_, rfl, .inl ⟨rfl, _, SqL.of S1.hc⟩, c, _, 0, 0, _, rfl, rfl, S1.hc, by decide, by decide, seq0 (by rw [List.length_map]; exact Nat.succ_pos _), rfl, ?_⟩
      refine ⟨r.length, Nat.lt_succ_self _, rfl, g1.trans (Gr.put g1.sub (.inr rfl) S1.fc), r, rfl, ⟨S1.ne, S1.fa, S1.fc, by rw [upd_ne S1.ne]; exact S1.ha, upd_same, fun y hy => S1.nn y (List.mem_cons_of_mem _ hy), by have := S1.len; rw [List.length_cons] at this; omega, S1.s0, S1.s1⟩⟩
    · refine (if_neg (by rw [decide_eq_false (fun z => hx (V.int.inj z))]; exact Bool.false_ne_true)).mpr ?_
      exact draw_tail S1 g1.sub n0 n1 fun H' ns' seed' x g S' => fin H' ns' seed' x (g1.trans g) S'
abbrev s_pick : Stmt := topS 40
theorem sc_pick : FnScope ["_law_state_here", "_law_row"] ["_law_state_here", "_law_row"] (defScope s_pick) := ⟨rfl, rfl, rfl, by decide +kernel, rfl, by decide +kernel, by decide +kernel⟩
def prePick : List PyData → Prop := fun ds => ∃ xs : List PyData, ds = [.list xs] ∧ 0 < xs.length ∧ xs.length ≤ 100000
def rPick : List PyData → PyData → Prop := fun ds d => ∃ xs : List PyData, ds = [.list xs] ∧ d ∈ xs
theorem ok_pick (T : Txt K mg tW aF aS) (d : Def K mg "_law_pick" s_pick) (c_draw : Cal P w K mg base 1 "_law_draw" ["_law_state_here", "_law_many"] (spS K preDraw rDraw)) : Cal P w K mg base 2 "_law_pick" ["_law_state_here", "_law_row"] (spS K prePick rPick) := by
  refine d.genS sc_pick (fun ds ⟨xs, z, _⟩ => by rw [z]; rfl) (fun _ _ _ _ _ _ us hl => match us, hl with | [_, _], _ => rfl) fun f cdv A outer s H E a c ds hr ⟨xs, z, h0, h1⟩ => ?_
  subst z
  refine ⟨_, 
      (pss_one (ps_ret (pe_ix ix_list (pv 1) (pe_cal c_draw (hr.mono (by decide)) (pa_cons (pv 0) (pa_cons (pe_callB call_len_seq (by rfl) T.len (by decide +kernel) (pa_cons (pv 1) pa_nil)) pa_nil))) (fun _ _ => rfl)))), ?_⟩
  refine xs_ret ?_
  refine (xe_op (res := fun d1 d2 => match d1, d2 with | .list xs, .int k => xs.getD k.toNat .none | _, _ => .none) (P2 := fun d1 d2 _ => d1 = .list xs ∧ ∃ k : Nat, d2 = dn k ∧ k < xs.length) (xe_ed (ed_var (i := 1) rfl)) (fun d1 γ1 hd1 => (xe_callS (c := c) (xa_cons (P2 := fun d1 r _ => d1 = dn xs.length ∧ r = []) (xe_ed (ed_len (ed_var (i := 1) rfl))) fun d γ1 hd => xa_nil.mono fun ds γ' x => ⟨hd.1, x.1⟩) (fun ds x => ?_) (List.mem_singleton.mpr rfl)).mono fun d2 γ2 x => ?_) fun d1 d2 γ2 x => ?_).mono fun d γ' x => ?_
  · obtain ⟨d, r, rfl, rfl, rfl⟩ := x
    exact ⟨xs.length, rfl, h0, by omega⟩
  · obtain ⟨ds, ⟨d, r, rfl, rfl, rfl⟩, n, k, e1, rfl, hk⟩ := x
    have : n = xs.length := by
      have := List.cons.inj e1
      have e2 : dn xs.length = dn n := this.1
      exact (Int.ofNat.inj (PyData.int.inj e2)).symm
    subst this
    exact ⟨hd1.1, k, rfl, hk⟩
  · obtain ⟨rfl, k, rfl, hk⟩ := x
    intro v1 v2 F1 H1 Q f a1 a2 q
    obtain ⟨p, vs, rfl, y1, y2⟩ := a1.lstI
    cases a2.intI
    have hg : xs[k]? = some (xs.getD k .none) := by rw [List.getD_eq_getElem?_getD, List.getElem?_eq_getElem hk]; rfl
    obtain ⟨v, y3, y4⟩ := y2.get hg
    exact ⟨p, vs, _, v, rfl, rfl, SqL.of (f _ _ y1), atI_nat y3, q v F1 H1 (Fz.refl f) y4⟩
  · obtain ⟨d1, d2, ⟨rfl, k, rfl, hk⟩, rfl⟩ := x
    refine ⟨xs, rfl, ?_⟩
    show xs.getD k .none ∈ xs
    rw [List.getD_eq_getElem?_getD, List.getElem?_eq_getElem hk]
    exact List.getElem_mem hk
end
end Pa
/-! Environments; numbers, operators, expressions, simple statements, drawn. -/
namespace Pa
open PySem L2 PyProof.Rows
local macro_rules | `(tactic| walk_at "ed") => `(tactic| first
  | ((with_reducible show ED _ (tVar _) _ _); exact ed_var rfl)
  | ((with_reducible show ED _ (tC _) _ _); first | exact ed_int | exact ed_str | exact ed_non | exact ed_bl | exact ed_tupC T.fF | exact ed_tupC T.fS)
  | ((with_reducible show EA _ tNil _ _); exact ea_nil) | ((with_reducible show EA _ (tCons _ _) _ _); exact ea_cons (by walk_at "ed") (by walk_at "ed"))
  | ((with_reducible show ED _ (tTup _) _ _); exact ed_tup (by walk_at "ed")) | ((with_reducible show ED _ (tLst _) _ _); exact ed_lst (by walk_at "ed"))
  | ((with_reducible show ED _ (tOp (rI0 fun i j => V.int (i + j)) _ _) _ _); exact ed_add (by walk_at "ed") (by walk_at "ed"))
  | ((with_reducible show ED _ (tOp (rI0 fun i j => V.int (i - j)) _ _) _ _); exact ed_sub (by walk_at "ed") (by walk_at "ed"))
  | ((with_reducible show ED _ (tOp (rI0 fun i j => V.int (Builtin.bitAnd i j)) _ _) _ _); exact ed_and (by walk_at "ed") (by walk_at "ed"))
  | ((with_reducible show ED _ (tOp (rIxT _) _ (tC (.int 0))) _ _); exact ed_ix0 (by walk_at "ed")) | ((with_reducible show ED _ (tOp (rIxT _) _ (tC (.int 1))) _ _); exact ed_ix1 (by walk_at "ed"))
  | ((with_reducible show ED _ (tOp (rIxT _) _ (tC (.int 2))) _ _); exact ed_ix2 (by walk_at "ed")) | ((with_reducible show ED _ (tOp (rIxT _) _ (tC (.int 3))) _ _); exact ed_ix3 (by walk_at "ed"))
  | ((with_reducible show ED _ (tSl _ _ tNoPart (tPart _)) _ _); exact ed_take (by walk_at "ed") (by walk_at "ed")) | ((with_reducible show ED _ (tSl _ _ (tPart _) tNoPart) _ _); exact ed_dropI (by walk_at "ed") (by walk_at "ed") rfl)
  | ((with_reducible show ED _ (tOp rEq _ _) _ _); exact ed_eqS (by walk_at "ed") (by walk_at "ed"))
  | ((with_reducible show ED _ (tOp rEq _ _) _ _); exact ed_eqI (by walk_at "ed") (by walk_at "ed"))
  | ((with_reducible show ED _ (tOp (fun x y H Q => y = V.non ∧ Q (V.bl (decide (x = V.non))) H) _ _) _ _); exact ed_isN (by walk_at "ed"))
  | ((with_reducible show ED _ (tOp (rIn _ false) _ _) _ _); exact ed_in2 (by walk_at "ed"))
  | ((with_reducible show ED _ (tCB _ _) _ _); exact ed_len (by walk_at "ed")))
local macro_rules | `(tactic| walk_at "eb") => `(tactic| first
  | ((with_reducible show EB _ (tTest (tOp (rIn _ false) _ _)) _ _); exact (eb_cmp (ed_in2 (by walk_at "ed"))).eq (by decide +kernel))
  | ((with_reducible show EB _ (tTest (tOp rEq _ _)) _ _); exact (eb_cmp (ed_eqS (by walk_at "ed") (by walk_at "ed"))).eq (by decide +kernel)))

/-- an environment: cells written, read, spans (first, size), channels given on, taken from -/
structure Sur where
  cells : List Nat
  reads : List Nat
  spans : List (Nat × Nat)
  gives : List Nat
  takes : List Nat
abbrev spD1 (s : Nat × Nat) : PyData := .tuple [dn s.1, dn s.2]
abbrev spansD (l : List (Nat × Nat)) : PyData := .list (l.map spD1)
def Sur.d (E : Sur) : PyData := .dict [(.str "cells", dns E.cells), (.str "reads", dns E.reads), (.str "spans", spansD E.spans), (.str "gives", dns E.gives), (.str "takes", dns E.takes)]
structure SurOk (E : Sur) : Prop where
  c0 : 0 < E.cells.length
  r0 : 0 < E.reads.length
  c1 : E.cells.length ≤ 10000
  r1 : E.reads.length ≤ 10000
  s1 : E.spans.length ≤ 10000
  g1 : E.gives.length ≤ 10000
  t1 : E.takes.length ≤ 10000
  sz : ∀ s, s ∈ E.spans → s.2 < 65536
structure SurIn (E : Sur) (S : Fp) : Prop where
  cells : ∀ k, k ∈ E.cells → S.R k ∧ S.W k
  reads : ∀ k, k ∈ E.reads → S.R k
  spans : ∀ s, s ∈ E.spans → ∀ k, s.1 ≤ k → k < s.1 + s.2 → S.R k ∧ S.W k
  gives : ∀ k, k ∈ E.gives → S.G k
  takes : ∀ k, k ∈ E.takes → S.T k
abbrev envKV (x0 x1 x2 x3 x4 : V) : List (Key × V) := [(.inr "cells", x0), (.inr "reads", x1), (.inr "spans", x2), (.inr "gives", x3), (.inr "takes", x4)]
def unS : PyData → Str
  | .str x => x
  | _ => ""
section
variable {K : PySem.W.Frag} {F : Hp}
theorem Da.dicI {v : V} {kvs : List (PyData × PyData)} (h : Da K F v (.dict kvs)) : ∃ (a : Addr) (ks : List Str) (xs : List V) (ds : List PyData), v = .ref a ∧ ks.length = ds.length ∧ kvs = (ks.map PyData.str).zip ds ∧ F a = some (.dK ((ks.map Sum.inr).zip xs)) ∧ Das K F xs ds := by
  cases h with
  | dic l e h r => exact ⟨_, _, _, _, rfl, l, e, h, r⟩
theorem Da.envI {v : V} {E : Sur} (h : Da K F v E.d) : ∃ a x0 x1 x2 x3 x4, v = .ref a ∧ F a = some (.dK (envKV x0 x1 x2 x3 x4)) ∧ Da K F x0 (dns E.cells) ∧ Da K F x1 (dns E.reads) ∧ Da K F x2 (spansD E.spans) ∧ Da K F x3 (dns E.gives) ∧ Da K F x4 (dns E.takes) := by
  obtain ⟨a, ks, xs, ds, rfl, hl, he, hF, hd⟩ := Da.dicI h
  have e1 := congrArg (List.map fun p => unS p.1) he
  have e2 := congrArg (List.map Prod.snd) he
  have e3 : ((ks.map PyData.str).zip ds).map (fun p => unS p.1) = ks := by
    have : (fun p : PyData × PyData => unS p.1) = unS ∘ Prod.fst := rfl
    rw [this, ← List.map_map, List.map_fst_zip (by rw [List.length_map]; omega), List.map_map]
    exact List.map_id _
  rw [e3] at e1
  rw [List.map_snd_zip (by rw [List.length_map]; omega)] at e2
  subst e1
  subst e2
  obtain ⟨x0, x1, x2, x3, x4, rfl, a0, a1, a2, a3, a4⟩ := hd.inv5
  exact ⟨a, x0, x1, x2, x3, x4, rfl, hF, a0, a1, a2, a3, a4⟩
theorem Da.env {a : Addr} {x0 x1 x2 x3 x4 : V} {E : Sur} (hF : F a = some (.dK (envKV x0 x1 x2 x3 x4))) (a0 : Da K F x0 (dns E.cells)) (a1 : Da K F x1 (dns E.reads)) (a2 : Da K F x2 (spansD E.spans)) (a3 : Da K F x3 (dns E.gives)) (a4 : Da K F x4 (dns E.takes)) : Da K F (.ref a) E.d :=
  .dic (ks := ["cells", "reads", "spans", "gives", "takes"]) (xs := [x0, x1, x2, x3, x4]) (ds := [dns E.cells, dns E.reads, spansD E.spans, dns E.gives, dns E.takes]) rfl rfl hF (.cons a0 (.cons a1 (.cons a2 (.cons a3 (.cons a4 .nil)))))
variable {te : TE} {e : DE} {E : Sur}
theorem env_get {k : Str} {d : PyData} (h : ED K te e E.d) (hk : ∀ F a x0 x1 x2 x3 x4, F a = some (.dK (envKV x0 x1 x2 x3 x4)) → Da K F x0 (dns E.cells) → Da K F x1 (dns E.reads) → Da K F x2 (spansD E.spans) → Da K F x3 (dns E.gives) → Da K F x4 (dns E.takes) → ∃ v, valV (envKV x0 x1 x2 x3 x4) (.inr k) = some v ∧ Da K F v d) : ED K (tDGet te (tC (.str k))) e d := fun σ F H Q f s q => h σ F H _ f s fun v F1 H1 z a => by
  obtain ⟨p, x0, x1, x2, x3, x4, rfl, hF, a0, a1, a2, a3, a4⟩ := a.envI
  obtain ⟨v, h1, h2⟩ := hk F1 p x0 x1 x2 x3 x4 hF a0 a1 a2 a3 a4
  refine ⟨p, v, rfl, ?_, q v F1 H1 z h2⟩
  have g := DGet.k (k := .inr k) (z.sub _ _ hF)
  rw [h1] at g
  exact g
theorem nk {x y : Str} (h : decide (x = y) = false) : ¬ (Sum.inr x : Key) = Sum.inr y := fun z => by
  rw [decide_eq_false_iff_not] at h
  exact h (Sum.inr.inj z)
theorem ed_cells (h : ED K te e E.d) : ED K (tDGet te (tC (.str "cells"))) e (dns E.cells) := env_get h fun F a x0 x1 x2 x3 x4 _ a0 a1 a2 a3 a4 => ⟨x0, valV_pos rfl, a0⟩
theorem ed_reads (h : ED K te e E.d) : ED K (tDGet te (tC (.str "reads"))) e (dns E.reads) := env_get h fun F a x0 x1 x2 x3 x4 _ a0 a1 a2 a3 a4 => ⟨x1, by rw [envKV, valV_neg (nk (by decide +kernel))]; exact valV_pos rfl, a1⟩
theorem ed_spans (h : ED K te e E.d) : ED K (tDGet te (tC (.str "spans"))) e (spansD E.spans) := env_get h fun F a x0 x1 x2 x3 x4 _ a0 a1 a2 a3 a4 => ⟨x2, by rw [envKV, valV_neg (nk (by decide +kernel)), valV_neg (nk (by decide +kernel))]; exact valV_pos rfl, a2⟩
theorem ed_gives (h : ED K te e E.d) : ED K (tDGet te (tC (.str "gives"))) e (dns E.gives) := env_get h fun F a x0 x1 x2 x3 x4 _ a0 a1 a2 a3 a4 => ⟨x3, by rw [envKV, valV_neg (nk (by decide +kernel)), valV_neg (nk (by decide +kernel)), valV_neg (nk (by decide +kernel))]; exact valV_pos rfl, a3⟩
theorem ed_takes (h : ED K te e E.d) : ED K (tDGet te (tC (.str "takes"))) e (dns E.takes) := env_get h fun F a x0 x1 x2 x3 x4 _ a0 a1 a2 a3 a4 => ⟨x4, by rw [envKV, valV_neg (nk (by decide +kernel)), valV_neg (nk (by decide +kernel)), valV_neg (nk (by decide +kernel)), valV_neg (nk (by decide +kernel))]; exact valV_pos rfl, a4⟩
/-! draws within expressions -/
variable {a c : Addr} {pn : List (Nat × V)} {ta tb : TE} {tr : TA} {P : PyData → Unit → Prop} {j : Int} {m n i : Nat} {Z : PyData → Unit → Prop}
theorem xe_draw (h : XE K (RS a c) te e pn () P) (hp : ∀ d, P d () → ∃ m : Nat, d = dn m ∧ 0 < m ∧ m ≤ 1000000) (h0 : (0, V.ref a) ∈ pn) : XE K (RS a c) (tCall (spS K preDraw rDraw) [] E0 (tCons (tVar 0) (tCons te tNil))) e pn () (fun d _ => ∃ m k : Nat, P (dn m) () ∧ d = dn k ∧ k < m) :=
  (xe_callS (c := c) (xa_cons (P2 := fun d r _ => P d () ∧ r = []) h fun d γ1 hd => xa_nil.mono fun ds γ' x => ⟨hd, x.1⟩) (fun ds x => by
    obtain ⟨d, r, rfl, x1, rfl⟩ := x
    obtain ⟨m, rfl, h1, h2⟩ := hp d x1
    exact ⟨m, rfl, h1, h2⟩) h0).mono fun d γ' x => by
    obtain ⟨ds, ⟨d1, r, rfl, x1, rfl⟩, n, k, e1, rfl, hk⟩ := x
    have e2 := (List.cons.inj e1).1
    subst e2
    exact ⟨n, k, x1, rfl, hk⟩
theorem xe_drawC (h : ED K te e (dn m)) (hm : 0 < m) (hm1 : m ≤ 1000000) (h0 : (0, V.ref a) ∈ pn) : XE K (RS a c) (tCall (spS K preDraw rDraw) [] E0 (tCons (tVar 0) (tCons te tNil))) e pn () (fun d _ => ∃ k : Nat, d = dn k ∧ k < m) :=
  (xe_draw (P := fun d _ => d = dn m) ((xe_ed h).mono fun d γ' x => x.1) (fun d x => ⟨m, x, hm, hm1⟩) h0).mono fun d γ' ⟨m', k, x1, x2, x3⟩ => by
    have : m' = m := Int.ofNat.inj (PyData.int.inj x1)
    subst this
    exact ⟨k, x2, x3⟩
theorem xb_eqC (h : XE K (RS a c) ta e pn () P) (hp : ∀ d, P d () → ∃ k : Nat, d = dn k) : XB K (RS a c) (tTest (tOp rEq ta (tC (.int j)))) e pn () (fun b _ => ∃ k : Nat, P (dn k) () ∧ b = decide ((k : Int) = j)) :=
  (xb_cmp (P := fun d _ => ∃ k : Nat, P (dn k) () ∧ d = .bool (decide ((k : Int) = j))) ((xe_op (res := fun d1 d2 => match d1, d2 with | .int i, .int j => .bool (decide (i = j)) | _, _ => .none) (P2 := fun d1 d2 _ => (∃ k : Nat, d1 = dn k ∧ P (dn k) ()) ∧ d2 = .int j) h (fun d γ1 x => (xe_ed ed_int).mono fun d2 γ2 y => ⟨by
    obtain ⟨k, rfl⟩ := hp d x
    exact ⟨k, rfl, x⟩, y.1⟩) fun d1 d2 γ2 x => by
      obtain ⟨⟨k, rfl, x1⟩, rfl⟩ := x
      intro v w F H Q f hx hy q
      cases hx.intI
      cases hy.intI
      exact ⟨rfl, q _ F H (Fz.refl f) (by rw [dec_I]; exact .bl _)⟩).mono fun d γ' x => by
        obtain ⟨d1, d2, ⟨⟨k, rfl, x1⟩, rfl⟩, rfl⟩ := x
        exact ⟨k, x1, rfl⟩) fun d γ' x => ⟨_, x.choose_spec.2⟩).mono fun b γ' x => by
          obtain ⟨k, x1, x2⟩ := x
          exact ⟨k, x1, PyData.bool.inj x2⟩

theorem xe_pick (h : XE K (RS a c) te e pn () P) (hp : ∀ d, P d () → ∃ xs : List PyData, d = .list xs ∧ 0 < xs.length ∧ xs.length ≤ 100000) (h0 : (0, V.ref a) ∈ pn) : XE K (RS a c) (tCall (spS K prePick rPick) [] E0 (tCons (tVar 0) (tCons te tNil))) e pn () (fun d _ => ∃ xs : List PyData, P (.list xs) () ∧ d ∈ xs) :=
  (xe_callS (c := c) (xa_cons (P2 := fun d r _ => P d () ∧ r = []) h fun d γ1 hd => xa_nil.mono fun ds γ' x => ⟨hd, x.1⟩) (fun ds x => by
    obtain ⟨d, r, rfl, x1, rfl⟩ := x
    obtain ⟨xs, rfl, h1, h2⟩ := hp d x1
    exact ⟨xs, rfl, h1, h2⟩) h0).mono fun d γ' x => by
    obtain ⟨ds, ⟨d1, r, rfl, x1, rfl⟩, xs, e1, hk⟩ := x
    have e2 := (List.cons.inj e1).1
    subst e2
    exact ⟨xs, x1, hk⟩
theorem xe_pickC {xs : List PyData} (h : ED K te e (.list xs)) (h1 : 0 < xs.length) (h2 : xs.length ≤ 100000) (h0 : (0, V.ref a) ∈ pn) : XE K (RS a c) (tCall (spS K prePick rPick) [] E0 (tCons (tVar 0) (tCons te tNil))) e pn () (fun d _ => d ∈ xs) :=
  (xe_pick (P := fun d _ => d = .list xs) ((xe_ed h).mono fun d γ' x => x.1) (fun d x => ⟨xs, x, h1, h2⟩) h0).mono fun d γ' ⟨ys, x1, x2⟩ => by
    have e1 := PyData.list.inj x1
    rw [← e1]
    exact x2
/-- a list display, each item as Pd says -/
theorem xa_allNil {Γ : Type} {R : Res Γ} {γ : Γ} {Pd : PyData → Prop} : XA K R tNil e pn γ (fun ds _ => (∀ d, d ∈ ds → Pd d) ∧ ds.length = 0) := xa_nil.mono fun ds γ' x => by
  rw [x.1]
  exact ⟨fun d h => (nomatch h), rfl⟩
theorem xa_allCons {Γ : Type} {R : Res Γ} {γ : Γ} {Pd : PyData → Prop} (h : XE K R te e pn γ (fun d _ => Pd d)) (h2 : ∀ γ1, XA K R tr e pn γ1 (fun ds _ => (∀ d, d ∈ ds → Pd d) ∧ ds.length = n)) : XA K R (tCons te tr) e pn γ (fun ds _ => (∀ d, d ∈ ds → Pd d) ∧ ds.length = n + 1) :=
  (xa_cons (P2 := fun d r _ => Pd d ∧ (∀ d, d ∈ r → Pd d) ∧ r.length = n) h fun d γ1 hd => (h2 γ1).mono fun ds γ' x => ⟨hd, x⟩).mono fun ds γ' x => by
    obtain ⟨d, r, rfl, x1, x2, x3⟩ := x
    refine ⟨fun y hy => ?_, by rw [List.length_cons, x3]⟩
    rcases List.mem_cons.mp hy with z | z
    · rw [z]; exact x1
    · exact x2 y z
theorem xe_con {Γ : Type} {R : Res Γ} {γ : Γ} {Pd : PyData → Prop} {d : PyData} (h : ED K te e d) (hd : Pd d) : XE K R te e pn γ (fun d _ => Pd d) := (xe_ed h).mono fun d' γ' x => by rw [x.1]; exact hd
theorem xe_pickAll {Pd : PyData → Prop} (h : XA K (RS a c) tr e pn () (fun ds _ => (∀ d, d ∈ ds → Pd d) ∧ ds.length = n)) (hn : 0 < n) (hn1 : n ≤ 1000) (h0 : (0, V.ref a) ∈ pn) : XE K (RS a c) (tCall (spS K prePick rPick) [] E0 (tCons (tVar 0) (tCons (tLst tr) tNil))) e pn () (fun d _ => Pd d) :=
  (xe_pick (P := fun d _ => ∃ ds, ((∀ d, d ∈ ds → Pd d) ∧ ds.length = n) ∧ d = .list ds) (xe_lst h fun ds γ' x => by have := x.2; omega) (fun d x => by
    obtain ⟨ds, ⟨_, x2⟩, rfl⟩ := x
    exact ⟨ds, rfl, by omega, by omega⟩) h0).mono fun d γ' x => by
      obtain ⟨xs, ⟨ds, ⟨x1, _⟩, x3⟩, x4⟩ := x
      have e1 := PyData.list.inj x3
      rw [e1] at x4
      exact x1 d x4
end
section
variable {P : Program} {w : World} {K : PySem.W.Frag} {mg : Str → Option Value} {base : Heap} {tW : Tok} {aF aS : Addr}
abbrev CDraw (P : Program) (w : World) (K : PySem.W.Frag) (mg : Str → Option Value) (base : Heap) : Prop := Cal P w K mg base 1 "_law_draw" ["_law_state_here", "_law_many"] (spS K preDraw rDraw)
abbrev CPick (P : Program) (w : World) (K : PySem.W.Frag) (mg : Str → Option Value) (base : Heap) : Prop := Cal P w K mg base 2 "_law_pick" ["_law_state_here", "_law_row"] (spS K prePick rPick)
abbrev s_number : Stmt := topS 41
theorem sc_number : FnScope ["_law_state_here"] ["_law_state_here"] (defScope s_number) := ⟨rfl, rfl, rfl, by decide +kernel, rfl, by decide +kernel, by decide +kernel⟩
def preNo : List PyData → Prop := fun ds => ds = []
def isNum (d : PyData) : Prop := ∃ k : Nat, k < 65536 ∧ d = dn k
def rNumber : List PyData → PyData → Prop := fun _ d => ∃ k : Nat, k < 65536 ∧ d = (Ex.num k).d
theorem ok_number (T : Txt K mg tW aF aS) (d : Def K mg "_law_number" s_number) (c_draw : CDraw P w K mg base) (c_pick : CPick P w K mg base) : Cal P w K mg base 3 "_law_number" ["_law_state_here"] (spS K preNo rNumber) := by
  refine d.genS sc_number (fun ds z => by rw [z]; rfl) (fun _ _ _ _ _ _ us hl => match us, hl with | [_], _ => rfl) fun f cdv A outer s H E a c ds hr z => ?_
  subst z
  refine ⟨_, 
      (pss_one (ps_ret (pe_tup (pa_cons pe_str (pa_cons (pe_cal c_pick (hr.mono (by decide)) (pa_cons (pv 0) (pa_cons (pe_lst (pa_cons pe_int (pa_cons pe_int (pa_cons pe_int (pa_cons pe_int (pa_cons (pe_cal c_draw (hr.mono (by decide)) (pa_cons (pv 0) (pa_cons pe_int pa_nil))) (pa_cons pe_int (pa_cons (pe_cal c_draw (hr.mono (by decide)) (pa_cons (pv 0) (pa_cons pe_int pa_nil))) pa_nil)))))))) pa_nil))) pa_nil))))), ?_⟩
  have h0 : (0, V.ref a) ∈ [(0, V.ref a)] := List.mem_singleton.mpr rfl
  have dr : ∀ {m : Nat} {e : DE}, m ≤ 65536 → 0 < m → XE K (RS a c) (tCall (spS K preDraw rDraw) [] E0 (tCons (tVar 0) (tCons (tC (.int (m : Int))) tNil))) e [(0, V.ref a)] () (fun d _ => isNum d) := fun hm h1 =>
    (xe_drawC ed_int h1 (by omega) h0).mono fun d γ' ⟨k, z, hk⟩ => ⟨k, by omega, z⟩
  refine xs_ret ?_
  refine (xe_tup (xa_cons (P2 := fun d r _ => d = .str "num" ∧ ∃ x, isNum x ∧ r = [x]) (xe_ed ed_str) fun d γ1 hd => (xa_cons (P2 := fun d r _ => isNum d ∧ r = []) (xe_pickAll (n := 7)
    (xa_allCons (xe_con ed_int ⟨0, by decide, rfl⟩) fun _ => xa_allCons (xe_con ed_int ⟨1, by decide, rfl⟩) fun _ => xa_allCons (xe_con ed_int ⟨2, by decide, rfl⟩) fun _ => xa_allCons (xe_con ed_int ⟨3, by decide, rfl⟩) fun _ =>
      xa_allCons (dr (m := 10) (by decide) (by decide)) fun _ => xa_allCons (xe_con ed_int ⟨65535, by decide, rfl⟩) fun _ => xa_allCons (dr (m := 65536) (by decide) (by decide)) fun _ => xa_allNil) (by decide) (by decide) h0)
    fun d γ1 hd => xa_nil.mono fun ds γ' x => ⟨hd, x.1⟩).mono fun ds γ' x => ?_) fun ds γ' x => ?_).mono fun d γ' x => ?_
  · obtain ⟨y, r, rfl, h1, rfl⟩ := x
    exact ⟨hd.1, y, h1, rfl⟩
  · obtain ⟨_, r, rfl, _, y, _, rfl⟩ := x
    show 2 ≤ 16000000
    decide
  · obtain ⟨ds, ⟨_, r, rfl, rfl, y, ⟨k, hk, rfl⟩, rfl⟩, rfl⟩ := x
    exact ⟨k, hk, rfl⟩
abbrev s_operator : Stmt := topS 42
theorem sc_operator : FnScope ["_law_state_here"] ["_law_state_here"] (defScope s_operator) := ⟨rfl, rfl, rfl, by decide +kernel, rfl, by decide +kernel, by decide +kernel⟩
def isOp (d : PyData) : Prop := ∃ o : Op, d = .str o.str
def rOperator : List PyData → PyData → Prop := fun _ d => isOp d
theorem ok_operator (T : Txt K mg tW aF aS) (d : Def K mg "_law_operator" s_operator) (c_pick : CPick P w K mg base) : Cal P w K mg base 3 "_law_operator" ["_law_state_here"] (spS K preNo rOperator) := by
  refine d.genS sc_operator (fun ds z => by rw [z]; rfl) (fun _ _ _ _ _ _ us hl => match us, hl with | [_], _ => rfl) fun f cdv A outer s H E a c ds hr z => ?_
  subst z
  refine ⟨_, 
      (pss_one (ps_ret (pe_cal c_pick (hr.mono (by decide)) (pa_cons (pv 0) (pa_cons (pe_lst (pa_cons pe_str (pa_cons pe_str (pa_cons pe_str (pa_cons pe_str (pa_cons pe_str (pa_cons pe_str (pa_cons pe_str (pa_cons pe_str (pa_cons pe_str (pa_cons pe_str (pa_cons pe_str (pa_cons pe_str (pa_cons (pe_cal c_pick (hr.mono (by decide)) (pa_cons (pv 0) (pa_cons (pe_lst (pa_cons pe_str (pa_cons pe_str pa_nil))) pa_nil))) pa_nil)))))))))))))) pa_nil))))), ?_⟩
  have h0 : (0, V.ref a) ∈ [(0, V.ref a)] := List.mem_singleton.mpr rfl
  refine xs_ret ?_
  exact xe_pickAll (n := 13)
    (xa_allCons (xe_con ed_str ⟨.add, rfl⟩) fun _ => xa_allCons (xe_con ed_str ⟨.sub, rfl⟩) fun _ => xa_allCons (xe_con ed_str ⟨.mul, rfl⟩) fun _ => xa_allCons (xe_con ed_str ⟨.add, rfl⟩) fun _ => xa_allCons (xe_con ed_str ⟨.sub, rfl⟩) fun _ =>
      xa_allCons (xe_con ed_str ⟨.land, rfl⟩) fun _ => xa_allCons (xe_con ed_str ⟨.lor, rfl⟩) fun _ => xa_allCons (xe_con ed_str ⟨.eq, rfl⟩) fun _ => xa_allCons (xe_con ed_str ⟨.ne, rfl⟩) fun _ => xa_allCons (xe_con ed_str ⟨.lt, rfl⟩) fun _ =>
      xa_allCons (xe_con ed_str ⟨.le, rfl⟩) fun _ => xa_allCons (xe_con ed_str ⟨.add, rfl⟩) fun _ => xa_allCons (xe_pickAll (n := 2) (xa_allCons (xe_con ed_str ⟨.div, rfl⟩) fun _ => xa_allCons (xe_con ed_str ⟨.mod, rfl⟩) fun _ => xa_allNil) (by decide) (by decide) h0) fun _ => xa_allNil) (by decide) (by decide) h0
end
section
variable {K : PySem.W.Frag} {te t1 t2 t3 : TE} {e : DE} {E : Sur} {a c : Addr} {pn : List (Nat × V)} {ta tb : TE} {tr : TA} {P : PyData → Unit → Prop} {P1 P2 P3 : PyData → Prop} {j : Int} {m n i : Nat} {Γ : Type} {R : Res Γ} {γ : Γ} {tg : Str}
theorem xa_one (h : XE K R te e pn γ (fun d _ => P1 d)) : XA K R (tCons te tNil) e pn γ (fun ds _ => ∃ x, ds = [x] ∧ P1 x) := (xa_cons (P2 := fun d r _ => P1 d ∧ r = []) h fun d γ1 hd => xa_nil.mono fun ds γ' x => ⟨hd, x.1⟩).mono fun ds γ' x => by
  obtain ⟨d, r, rfl, h1, rfl⟩ := x
  exact ⟨d, rfl, h1⟩
theorem xa_two {Q : List PyData → Prop} (h : XE K R te e pn γ (fun d _ => P1 d)) (h2 : ∀ γ1, XA K R tr e pn γ1 (fun ds _ => Q ds)) : XA K R (tCons te tr) e pn γ (fun ds _ => ∃ x r, ds = x :: r ∧ P1 x ∧ Q r) := (xa_cons (P2 := fun d r _ => P1 d ∧ Q r) h fun d γ1 hd => (h2 γ1).mono fun ds γ' x => ⟨hd, x⟩)
theorem xe_tup1 (h1 : XE K R t1 e pn γ (fun d _ => P1 d)) : XE K R (tTup (tCons t1 tNil)) e pn γ (fun d _ => ∃ x, d = .tuple [x] ∧ P1 x) := (xe_tup (xa_one h1) fun ds γ' x => by obtain ⟨y, rfl, _⟩ := x; show 1 ≤ 16000000; decide).mono fun d γ' x => by
  obtain ⟨ds, ⟨y, rfl, h⟩, rfl⟩ := x
  exact ⟨y, rfl, h⟩
theorem xe_tup2 (h1 : XE K R t1 e pn γ (fun d _ => P1 d)) (h2 : ∀ γ1, XE K R t2 e pn γ1 (fun d _ => P2 d)) : XE K R (tTup (tCons t1 (tCons t2 tNil))) e pn γ (fun d _ => ∃ x y, d = .tuple [x, y] ∧ P1 x ∧ P2 y) := (xe_tup (xa_two h1 fun γ1 => xa_one (h2 γ1)) fun ds γ' x => by obtain ⟨y, r, rfl, _, z, rfl, _⟩ := x; show 2 ≤ 16000000; decide).mono fun d γ' x => by
  obtain ⟨ds, ⟨y, r, rfl, h, z, rfl, h'⟩, rfl⟩ := x
  exact ⟨y, z, rfl, h, h'⟩
theorem xe_tup3 (h1 : XE K R t1 e pn γ (fun d _ => P1 d)) (h2 : ∀ γ1, XE K R t2 e pn γ1 (fun d _ => P2 d)) (h3 : ∀ γ1, XE K R t3 e pn γ1 (fun d _ => P3 d)) : XE K R (tTup (tCons t1 (tCons t2 (tCons t3 tNil)))) e pn γ (fun d _ => ∃ x y z, d = .tuple [x, y, z] ∧ P1 x ∧ P2 y ∧ P3 z) := (xe_tup (xa_two h1 fun γ1 => xa_two (h2 γ1) fun γ2 => xa_one (h3 γ2)) fun ds γ' x => by obtain ⟨y, r, rfl, _, z, _, rfl, _, u, rfl, _⟩ := x; show 3 ≤ 16000000; decide).mono fun d γ' x => by
  obtain ⟨ds, ⟨y, r, rfl, h, z, _, rfl, h', u, rfl, h''⟩, rfl⟩ := x
  exact ⟨y, z, u, rfl, h, h', h''⟩
theorem xe_tup4 {t4 : TE} {P4 : PyData → Prop} (h1 : XE K R t1 e pn γ (fun d _ => P1 d)) (h2 : ∀ γ1, XE K R t2 e pn γ1 (fun d _ => P2 d)) (h3 : ∀ γ1, XE K R t3 e pn γ1 (fun d _ => P3 d)) (h4 : ∀ γ1, XE K R t4 e pn γ1 (fun d _ => P4 d)) : XE K R (tTup (tCons t1 (tCons t2 (tCons t3 (tCons t4 tNil))))) e pn γ (fun d _ => ∃ x y z u, d = .tuple [x, y, z, u] ∧ P1 x ∧ P2 y ∧ P3 z ∧ P4 u) := (xe_tup (xa_two h1 fun γ1 => xa_two (h2 γ1) fun γ2 => xa_two (h3 γ2) fun γ3 => xa_one (h4 γ3)) fun ds γ' x => by obtain ⟨y, r, rfl, _, z, _, rfl, _, u, _, rfl, _, k, rfl, _⟩ := x; show 4 ≤ 16000000; decide).mono fun d γ' x => by
  obtain ⟨ds, ⟨y, r, rfl, h, z, _, rfl, h', u, _, rfl, h'', k, rfl, h3⟩, rfl⟩ := x
  exact ⟨y, z, u, k, rfl, h, h', h'', h3⟩
theorem xe_strC {x : Str} : XE K R (tC (.str x)) e pn γ (fun d _ => d = .str x) := xe_con ed_str rfl
/-- a call on data that are known -/
theorem xe_callD {ds : List PyData} {Pre : List PyData → Prop} {Rr : List PyData → PyData → Prop} {E0' : XK} (ha : EA K tr e ds) (hp : Pre ds) (h0 : (0, V.ref a) ∈ pn) : XE K (RS a c) (tCall (spS K Pre Rr) [] E0' (tCons (tVar 0) tr)) e pn () (fun d _ => Rr ds d) :=
  (xe_callS (c := c) (PA := fun ds' _ => ds' = ds) (fun σ F H Q f s p jj q => ha σ F H Q f s fun vs F' H' z aa => q vs ds () F' H' z.gr ((RS a c).thru _ _ _ _ _ jj z) rfl aa) (fun ds' x => by rw [x]; exact hp) h0).mono fun d γ' x => by
    obtain ⟨ds', rfl, r⟩ := x
    exact r
theorem xs_unp {tgs : TGs} {ws : List Nat} {N1 : DE → Γ → Prop} {Z : PyData → Γ → Prop} {P : PyData → Γ → Prop} (h : XE K R te e pn γ P) (ht : ∀ d γ1, P d γ1 → ∃ ds e1, d = .tuple ds ∧ ds.length = n ∧ ETs K tgs ws e ds e1 ∧ N1 e1 γ1) (hw : (pn.map Prod.fst).all (fun i => !ws.contains i) = true := by rfl) : XS K R (tAsg te (gTup K n tgs)) e pn γ N1 Z := fun D σ F H f s p jj q r =>
  h σ F H _ f s p jj fun v d γ1 F1 H1 g1 j1 x1 a1 => by
    obtain ⟨ds, e1, rfl, hn, he, hN⟩ := ht d γ1 x1
    obtain ⟨p1, xs, rfl, y1, y2⟩ := a1.tupI
    exact ⟨p1, xs, rfl, SqT.same g1.sub y1, y2.length.trans hn, he xs σ F1 H1 _ g1.sub (s.mono g1.f) y2 fun σ' s' hwp => q σ' e1 γ1 F1 H1 g1 j1 s' (p.wipe hw hwp) hN⟩
theorem xb_span {pin : (0, V.ref a) ∈ pn} (h1 : e[1]? = some (some E.d)) : XB K (RS a c) (tAnd (tTest (tOp (rI0 fun i j => V.bl (decide (j < i))) (tLenL K (tDGet (tVar 1) (tC (.str "spans")))) (tC (.int 0)))) (tTest (tOp rEq (tCall (spS K preDraw rDraw) [] E0 (tCons (tVar 0) (tCons (tC (.int ((4 : Nat) : Int))) tNil))) (tC (.int 0))))) e pn () (fun b _ => b = true → 0 < E.spans.length) := by
  refine xb_and (PB1 := fun b _ => b = decide (0 < E.spans.length)) ((xb_eb (eb_cmp (ed_gt (ed_len (ed_spans (ed_var h1))) ed_int))).mono fun b γ' x => ?_) (fun γ1 hx => (xb_eqC (xe_drawC (m := 4) ed_int (by decide) (by decide) pin) fun d ⟨k, hd, _⟩ => ⟨k, hd⟩).mono fun b γ' _ _ => of_decide_eq_true hx.symm) (fun γ1 hx hb => by cases hb)
  rw [x.1, List.length_map]
  exact decide_eq_decide.mpr (by omega)
end
section
variable {P : Program} {w : World} {K : PySem.W.Frag} {mg : Str → Option Value} {base : Heap} {tW : Tok} {aF aS : Addr}
def IsEx (E : Sur) (n : Nat) (d : PyData) : Prop := ∃ x : Ex, d = x.d ∧ x.ht ≤ n ∧ ∀ S, SurIn E S → ExOk S.R x
def IsTg (E : Sur) (d : PyData) : Prop := ∃ x : Ex, d = x.d ∧ x.ht ≤ 2 ∧ ∀ S, SurIn E S → TgOk S.R S.W x
theorem dns_mem {ns : List Nat} {d : PyData} (h : d ∈ ns.map dn) : ∃ k, k ∈ ns ∧ d = dn k := by
  obtain ⟨k, hk, e⟩ := List.mem_map.mp h
  exact ⟨k, hk, e.symm⟩
theorem dn_inj {a b : Nat} (h : dn a = dn b) : a = b := Int.ofNat.inj (PyData.int.inj h)
theorem map_inj {α : Type} {f : α → PyData} (hf : ∀ x y, f x = f y → x = y) : ∀ {l m : List α}, l.map f = m.map f → l = m
  | [], [], _ => rfl
  | [], _ :: _, h => by simp at h
  | _ :: _, [], h => by simp at h
  | x :: l, y :: m, h => by
    rw [List.map_cons, List.map_cons] at h
    have h1 := List.cons.inj h
    rw [hf x y h1.1, map_inj hf h1.2]
theorem Sur.inj {E E' : Sur} (h : E.d = E'.d) : E = E' := by
  unfold Sur.d at h
  have h1 := PyData.dict.inj h
  simp only [List.cons.injEq, Prod.mk.injEq, true_and, and_true, PyData.list.injEq] at h1
  obtain ⟨e1, e2, e3, e4, e5⟩ := h1
  have f1 := map_inj (fun _ _ => dn_inj) e1
  have f2 := map_inj (fun _ _ => dn_inj) e2
  have f4 := map_inj (fun _ _ => dn_inj) e4
  have f5 := map_inj (fun _ _ => dn_inj) e5
  have f3 := map_inj (f := spD1) (fun x y q => by
    have h2 := PyData.tuple.inj q
    simp only [List.cons.injEq, and_true] at h2
    exact Prod.ext (dn_inj h2.1) (dn_inj h2.2)) e3
  cases E
  cases E'
  simp only at f1 f2 f3 f4 f5
  subst f1 f2 f3 f4 f5
  rfl
abbrev s_index : Stmt := topS 43
theorem sc_index : FnScope ["_law_state_here", "_law_env_here", "_law_size", "_law_cell"] ["_law_state_here", "_law_env_here", "_law_size"] (defScope s_index) := ⟨rfl, rfl, rfl, by decide +kernel, rfl, by decide +kernel, by decide +kernel⟩
def preIndex : List PyData → Prop := fun ds => ∃ (E : Sur) (n : Nat), ds = [E.d, dn n] ∧ SurOk E ∧ n < 65536
def rIndex : List PyData → PyData → Prop := fun ds d => ∃ (E : Sur) (n : Nat), ds = [E.d, dn n] ∧ IsEx E 1 d
theorem ok_index (T : Txt K mg tW aF aS) (d : Def K mg "_law_index" s_index) (c_draw : CDraw P w K mg base) (c_pick : CPick P w K mg base) : Cal P w K mg base 3 "_law_index" ["_law_state_here", "_law_env_here", "_law_size"] (spS K preIndex rIndex) := by
  refine d.genS sc_index (fun ds ⟨E, n, z, _⟩ => by rw [z]; rfl) (fun _ _ _ _ _ _ us hl => match us, hl with | [_, _, _], _ => rfl) fun f cdv A outer s H E0' a c ds hr ⟨E, n, z, hE, hn⟩ => ?_
  subst z
  have hu := hu_of hr
  refine ⟨_, 
      (pss_cons (ps_set (i := 3) sc_index.nd rfl (Or.inl rfl) (pe_tup (pa_cons pe_str (pa_cons (pe_cal c_pick (hr.mono (by decide)) (pa_cons (pv 0) (pa_cons (pe_dget hu (pv 1) pe_str (fun _ _ => rfl)) pa_nil))) pa_nil))))
      (pss_one (ps_ret (pe_ifExp (pt_cmpR op_eq (pe_cal c_draw (hr.mono (by decide)) (pa_cons (pv 0) (pa_cons pe_int pa_nil))) pe_int (nomark _)) (pv 3) (pe_tup (pa_cons pe_str (pa_cons (pv 3) (pa_cons (pe_tup (pa_cons pe_str (pa_cons (pv 2) pa_nil))) pa_nil)))))))), ?_⟩
  have h0 : (0, V.ref a) ∈ [(0, V.ref a)] := List.mem_singleton.mpr rfl
  refine XS.mono (Z := fun d _ => IsEx E 1 d) ?_ (fun _ _ x => x) fun d γ' x => ⟨E, n, rfl, x⟩
  · refine xs_let (xe_tup2 xe_strC fun γ1 => xe_pickC (ed_reads (ed_var (i := 1) rfl)) (by rw [List.length_map]; exact hE.r0) (by rw [List.length_map]; have := hE.r1; omega) h0) fun d γ1 hd => ?_
    obtain ⟨_, y, rfl, rfl, hy⟩ := hd
    obtain ⟨k, hk, rfl⟩ := dns_mem hy
    refine xs_ret (xe_if (xb_eqC (xe_drawC (m := 8) ed_int (by decide) (by decide) h0) fun d ⟨k, hd, _⟩ => ⟨k, hd⟩) (fun _ _ => xe_con (ed_var (i := 3) rfl) ⟨.cell k, rfl, Nat.zero_le _, fun S hS => hS.reads k hk⟩) fun _ _ => xe_con (ed_tup (ea_cons ed_str (ea_cons (ed_var (i := 3) rfl) (ea_cons (ed_tup (ea_cons ed_str (ea_cons (ed_var (i := 2) rfl) ea_nil))) ea_nil)))) ⟨.bin .mod (.cell k) (.num n), rfl, (by show max 0 0 + 1 ≤ 1; decide), fun S hS => ⟨hS.reads k hk, hn⟩⟩)
abbrev CIndex (P : Program) (w : World) (K : PySem.W.Frag) (mg : Str → Option Value) (base : Heap) : Prop := Cal P w K mg base 3 "_law_index" ["_law_state_here", "_law_env_here", "_law_size"] (spS K preIndex rIndex)
def preEnv : List PyData → Prop := fun ds => ∃ E : Sur, ds = [E.d] ∧ SurOk E
/-- .. span .. -/
theorem at_tail {a c : Addr} {E : Sur} {e : DE} {f n i j : Nat} (hE : SurOk E) (hs : (f, n) ∈ E.spans) (h1 : e[1]? = some (some E.d)) (hi : e[i]? = some (some (dn f))) (hj : e[j]? = some (some (dn n))) {pn : List (Nat × V)} (h0 : (0, V.ref a) ∈ pn) :
    XE K (RS a c) (tTup (tCons (tC (.str "at")) (tCons (tVar i) (tCons (tVar j) (tCons (tCall (spS K preIndex rIndex) [] E0 (tCons (tVar 0) (tCons (tVar 1) (tCons (tVar j) tNil)))) tNil))))) e pn () (fun d _ => ∃ x : Ex, d = (Ex.att f n x).d ∧ x.ht ≤ 1 ∧ ∀ S, SurIn E S → ExOk S.R x) :=
  (xe_tup4 (P4 := fun d => IsEx E 1 d) xe_strC (fun _ => xe_con (ed_var hi) rfl) (fun _ => xe_con (ed_var hj) rfl) fun _ => (xe_callD (ds := [E.d, dn n]) (ea_cons (ed_var h1) (ea_cons (ed_var hj) ea_nil)) ⟨E, n, rfl, hE, hE.sz _ hs⟩ h0).mono fun d γ' ⟨E', n', e1, x⟩ => by
    simp only [List.cons.injEq, and_true] at e1
    rw [Sur.inj e1.1]
    exact x).mono fun d γ' x => by
      obtain ⟨_, _, _, u, rfl, rfl, rfl, rfl, y, rfl, h1, h2⟩ := x
      exact ⟨y, rfl, h1, h2⟩
theorem xs_unp2 {Γ : Type} {R : Res Γ} {γ : Γ} {te : TE} {e : DE} {i j : Nat} {pn : List (Nat × V)} {P : PyData → PyData → Γ → Prop} {u : TS} {N : DE → Γ → Prop} {Z : PyData → Γ → Prop} (h : XE K R te e pn γ (fun d γ' => ∃ x y, d = .tuple [x, y] ∧ P x y γ')) (h2 : ∀ x y γ1, P x y γ1 → XS K R u ((e.set i (some x)).set j (some y)) pn γ1 N Z) (hw : (pn.map Prod.fst).all (fun k => ![i, j].contains k) = true := by rfl) : XS K R (tSeq (tAsg te (gTup K 2 (gCons (gName i) (gCons (gName j) gNil)))) u) e pn γ N Z :=
  xs_seq (xs_unp (N1 := fun e1 γ1 => ∃ x y, P x y γ1 ∧ e1 = (e.set i (some x)).set j (some y)) (ws := [i, j]) h (fun d γ1 ⟨x, y, z, q⟩ => ⟨[x, y], _, z, rfl, et_cons (et_cons et_nil (by simp)) (by simp), x, y, q, rfl⟩) hw) fun e1 γ1 ⟨x, y, q, z⟩ => by rw [z]; exact h2 x y γ1 q
theorem pick_span {a c : Addr} {E : Sur} {e : DE} {pn : List (Nat × V)} (hE : SurOk E) (hb : 0 < E.spans.length) (h1 : e[1]? = some (some E.d)) (h0 : (0, V.ref a) ∈ pn) : XE K (RS a c) (tCall (spS K prePick rPick) [] E0 (tCons (tVar 0) (tCons (tDGet (tVar 1) (tC (.str "spans"))) tNil))) e pn () (fun d _ => ∃ x y, d = .tuple [x, y] ∧ ∃ f n : Nat, x = dn f ∧ y = dn n ∧ (f, n) ∈ E.spans) :=
  (xe_pickC (ed_spans (ed_var h1)) (by rw [List.length_map]; exact hb) (by rw [List.length_map]; have := hE.s1; omega) h0).mono fun d γ' x => by
    obtain ⟨s, hs, rfl⟩ := List.mem_map.mp x
    exact ⟨_, _, rfl, s.1, s.2, rfl, rfl, hs⟩
abbrev s_read : Stmt := topS 44
theorem sc_read : FnScope ["_law_state_here", "_law_env_here", "_law_first", "_law_size"] ["_law_state_here", "_law_env_here"] (defScope s_read) := ⟨rfl, rfl, rfl, by decide +kernel, rfl, by decide +kernel, by decide +kernel⟩
def rRead : List PyData → PyData → Prop := fun ds d => ∃ E : Sur, ds = [E.d] ∧ IsEx E 2 d
theorem ok_read (T : Txt K mg tW aF aS) (d : Def K mg "_law_read" s_read) (c_draw : CDraw P w K mg base) (c_pick : CPick P w K mg base) (c_index : CIndex P w K mg base) : Cal P w K mg base 4 "_law_read" ["_law_state_here", "_law_env_here"] (spS K preEnv rRead) := by
  refine d.genS sc_read (fun ds ⟨E, z, _⟩ => by rw [z]; rfl) (fun _ _ _ _ _ _ us hl => match us, hl with | [_, _], _ => rfl) fun f cdv A outer s H E0' a c ds hr ⟨E, z, hE⟩ => ?_
  subst z
  have hu := hu_of hr
  refine ⟨_, 
      (pss_cons (ps_if (PW.pt (pw_and (pt_cmpR op_gt (pe_callB call_len_seq (by rfl) T.len (by decide +kernel) (pa_cons (pe_dget hu (pv 1) pe_str (fun _ _ => rfl)) pa_nil)) pe_int (nomark _)) (pw_and1 (pt_cmpR op_eq (pe_cal c_draw (hr.mono (by decide)) (pa_cons (pv 0) (pa_cons pe_int pa_nil))) pe_int (nomark _)))))
      (pss_cons (ps_asg (pe_cal c_pick (hr.mono (by decide)) (pa_cons (pv 0) (pa_cons (pe_dget hu (pv 1) pe_str (fun _ _ => rfl)) pa_nil))) (pg_tup rfl (pgs_cons (pg_name (i := 2) sc_read.nd rfl (Or.inl rfl)) (pgs_cons (pg_name (i := 3) sc_read.nd rfl (Or.inl rfl)) pgs_nil))))
      (pss_one (ps_ret (pe_tup (pa_cons pe_str (pa_cons (pv 2) (pa_cons (pv 3) (pa_cons (pe_cal c_index (hr.mono (by decide)) (pa_cons (pv 0) (pa_cons (pv 1) (pa_cons (pv 3) pa_nil)))) pa_nil)))))))) pss_nil)
      (pss_one (ps_ret (pe_tup (pa_cons pe_str (pa_cons (pe_cal c_pick (hr.mono (by decide)) (pa_cons (pv 0) (pa_cons (pe_dget hu (pv 1) pe_str (fun _ _ => rfl)) pa_nil))) pa_nil)))))), ?_⟩
  have h0 : (0, V.ref a) ∈ [(0, V.ref a)] := List.mem_singleton.mpr rfl
  refine XS.mono (Z := fun d _ => IsEx E 2 d) ?_ (fun _ _ x => x) fun d γ' x => ⟨E, rfl, x⟩
  refine xs_guard (xb_span (pin := h0) (E := E) rfl) (fun γ1 hb => ?_) fun γ1 hb => ?_
  · refine xs_unp2 (pick_span hE (hb rfl) rfl h0) fun x y γ1 ⟨f, n, hx, hy, hs⟩ => ?_
    subst hx
    subst hy
    refine xs_ret ((at_tail (i := 2) (j := 3) hE hs rfl rfl rfl h0).mono fun d γ' ⟨x, hd, h1, h2⟩ => ⟨.att f n x, hd, by show x.ht + 1 ≤ 2; omega, fun S hS => ⟨fun k k1 k2 => (hS.spans _ hs k k1 k2).1, h2 S hS⟩⟩)
  · refine xs_ret ((xe_tup2 xe_strC fun _ => xe_pickC (ed_reads (ed_var (i := 1) rfl)) (by rw [List.length_map]; exact hE.r0) (by rw [List.length_map]; have := hE.r1; omega) h0).mono fun d γ' x => ?_)
    obtain ⟨_, y, rfl, rfl, hy⟩ := x
    obtain ⟨k, hk, rfl⟩ := dns_mem hy
    exact ⟨.cell k, rfl, Nat.zero_le _, fun S hS => hS.reads k hk⟩
abbrev s_target : Stmt := topS 46
theorem sc_target : FnScope ["_law_state_here", "_law_env_here", "_law_first", "_law_size"] ["_law_state_here", "_law_env_here"] (defScope s_target) := ⟨rfl, rfl, rfl, by decide +kernel, rfl, by decide +kernel, by decide +kernel⟩
def rTarget : List PyData → PyData → Prop := fun ds d => ∃ E : Sur, ds = [E.d] ∧ IsTg E d
theorem ok_target (T : Txt K mg tW aF aS) (d : Def K mg "_law_target" s_target) (c_draw : CDraw P w K mg base) (c_pick : CPick P w K mg base) (c_index : CIndex P w K mg base) : Cal P w K mg base 4 "_law_target" ["_law_state_here", "_law_env_here"] (spS K preEnv rTarget) := by
  refine d.genS sc_target (fun ds ⟨E, z, _⟩ => by rw [z]; rfl) (fun _ _ _ _ _ _ us hl => match us, hl with | [_, _], _ => rfl) fun f cdv A outer s H E0' a c ds hr ⟨E, z, hE⟩ => ?_
  subst z
  have hu := hu_of hr
  refine ⟨_, 
      (pss_cons (ps_if (PW.pt (pw_and (pt_cmpR op_gt (pe_callB call_len_seq (by rfl) T.len (by decide +kernel) (pa_cons (pe_dget hu (pv 1) pe_str (fun _ _ => rfl)) pa_nil)) pe_int (nomark _)) (pw_and1 (pt_cmpR op_eq (pe_cal c_draw (hr.mono (by decide)) (pa_cons (pv 0) (pa_cons pe_int pa_nil))) pe_int (nomark _)))))
      (pss_cons (ps_asg (pe_cal c_pick (hr.mono (by decide)) (pa_cons (pv 0) (pa_cons (pe_dget hu (pv 1) pe_str (fun _ _ => rfl)) pa_nil))) (pg_tup rfl (pgs_cons (pg_name (i := 2) sc_target.nd rfl (Or.inl rfl)) (pgs_cons (pg_name (i := 3) sc_target.nd rfl (Or.inl rfl)) pgs_nil))))
      (pss_one (ps_ret (pe_tup (pa_cons pe_str (pa_cons (pv 2) (pa_cons (pv 3) (pa_cons (pe_cal c_index (hr.mono (by decide)) (pa_cons (pv 0) (pa_cons (pv 1) (pa_cons (pv 3) pa_nil)))) pa_nil)))))))) pss_nil)
      (pss_one (ps_ret (pe_tup (pa_cons pe_str (pa_cons (pe_cal c_pick (hr.mono (by decide)) (pa_cons (pv 0) (pa_cons (pe_dget hu (pv 1) pe_str (fun _ _ => rfl)) pa_nil))) pa_nil)))))), ?_⟩
  have h0 : (0, V.ref a) ∈ [(0, V.ref a)] := List.mem_singleton.mpr rfl
  refine XS.mono (Z := fun d _ => IsTg E d) ?_ (fun _ _ x => x) fun d γ' x => ⟨E, rfl, x⟩
  refine xs_guard (xb_span (pin := h0) (E := E) rfl) (fun γ1 hb => ?_) fun γ1 hb => ?_
  · refine xs_unp2 (pick_span hE (hb rfl) rfl h0) fun x y γ1 ⟨f, n, hx, hy, hs⟩ => ?_
    subst hx
    subst hy
    refine xs_ret ((at_tail (i := 2) (j := 3) hE hs rfl rfl rfl h0).mono fun d γ' ⟨x, hd, h1, h2⟩ => ⟨.att f n x, hd, by show x.ht + 1 ≤ 2; omega, fun S hS => ⟨fun k k1 k2 => (hS.spans _ hs k k1 k2).2, h2 S hS⟩⟩)
  · refine xs_ret ((xe_tup2 xe_strC fun _ => xe_pickC (ed_cells (ed_var (i := 1) rfl)) (by rw [List.length_map]; exact hE.c0) (by rw [List.length_map]; have := hE.c1; omega) h0).mono fun d γ' x => ?_)
    obtain ⟨_, y, rfl, rfl, hy⟩ := x
    obtain ⟨k, hk, rfl⟩ := dns_mem hy
    exact ⟨.cell k, rfl, Nat.zero_le _, fun S hS => (hS.cells k hk).2⟩
end
end Pa
/-! expression, set, simple -/
namespace Pa
open PySem L2 PyProof.Rows
local macro_rules | `(tactic| walk_at "ed") => `(tactic| first
  | ((with_reducible show ED _ (tVar _) _ _); exact ed_var rfl)
  | ((with_reducible show ED _ (tC _) _ _); first | exact ed_int | exact ed_str | exact ed_non | exact ed_bl | exact ed_tupC T.fF | exact ed_tupC T.fS)
  | ((with_reducible show EA _ tNil _ _); exact ea_nil) | ((with_reducible show EA _ (tCons _ _) _ _); exact ea_cons (by walk_at "ed") (by walk_at "ed"))
  | ((with_reducible show ED _ (tTup _) _ _); exact ed_tup (by walk_at "ed")) | ((with_reducible show ED _ (tLst _) _ _); exact ed_lst (by walk_at "ed"))
  | ((with_reducible show ED _ (tOp (rI0 fun i j => V.int (i + j)) _ _) _ _); exact ed_add (by walk_at "ed") (by walk_at "ed"))
  | ((with_reducible show ED _ (tOp (rI0 fun i j => V.int (i - j)) _ _) _ _); exact ed_sub (by walk_at "ed") (by walk_at "ed"))
  | ((with_reducible show ED _ (tOp (rI0 fun i j => V.int (Builtin.bitAnd i j)) _ _) _ _); exact ed_and (by walk_at "ed") (by walk_at "ed"))
  | ((with_reducible show ED _ (tOp (rIxT _) _ (tC (.int 0))) _ _); exact ed_ix0 (by walk_at "ed")) | ((with_reducible show ED _ (tOp (rIxT _) _ (tC (.int 1))) _ _); exact ed_ix1 (by walk_at "ed"))
  | ((with_reducible show ED _ (tOp (rIxT _) _ (tC (.int 2))) _ _); exact ed_ix2 (by walk_at "ed")) | ((with_reducible show ED _ (tOp (rIxT _) _ (tC (.int 3))) _ _); exact ed_ix3 (by walk_at "ed"))
  | ((with_reducible show ED _ (tSl _ _ tNoPart (tPart _)) _ _); exact ed_take (by walk_at "ed") (by walk_at "ed")) | ((with_reducible show ED _ (tSl _ _ (tPart _) tNoPart) _ _); exact ed_dropI (by walk_at "ed") (by walk_at "ed") rfl)
  | ((with_reducible show ED _ (tOp rEq _ _) _ _); exact ed_eqS (by walk_at "ed") (by walk_at "ed"))
  | ((with_reducible show ED _ (tOp rEq _ _) _ _); exact ed_eqI (by walk_at "ed") (by walk_at "ed"))
  | ((with_reducible show ED _ (tOp (fun x y H Q => y = V.non ∧ Q (V.bl (decide (x = V.non))) H) _ _) _ _); exact ed_isN (by walk_at "ed"))
  | ((with_reducible show ED _ (tOp (rIn _ false) _ _) _ _); exact ed_in2 (by walk_at "ed"))
  | ((with_reducible show ED _ (tCB _ _) _ _); exact ed_len (by walk_at "ed")))
local macro_rules | `(tactic| walk_at "eb") => `(tactic| first
  | ((with_reducible show EB _ (tTest (tOp (rIn _ false) _ _)) _ _); exact (eb_cmp (ed_in2 (by walk_at "ed"))).eq (by decide +kernel))
  | ((with_reducible show EB _ (tTest (tOp rEq _ _)) _ _); exact (eb_cmp (ed_eqS (by walk_at "ed") (by walk_at "ed"))).eq (by decide +kernel)))

section
variable {P : Program} {w : World} {K : PySem.W.Frag} {mg : Str → Option Value} {base : Heap} {tW : Tok} {aF aS : Addr}
abbrev CRead (P : Program) (w : World) (K : PySem.W.Frag) (mg : Str → Option Value) (base : Heap) : Prop := Cal P w K mg base 4 "_law_read" ["_law_state_here", "_law_env_here"] (spS K preEnv rRead)
abbrev CTarget (P : Program) (w : World) (K : PySem.W.Frag) (mg : Str → Option Value) (base : Heap) : Prop := Cal P w K mg base 4 "_law_target" ["_law_state_here", "_law_env_here"] (spS K preEnv rTarget)
abbrev CNumber (P : Program) (w : World) (K : PySem.W.Frag) (mg : Str → Option Value) (base : Heap) : Prop := Cal P w K mg base 3 "_law_number" ["_law_state_here"] (spS K preNo rNumber)
abbrev COperator (P : Program) (w : World) (K : PySem.W.Frag) (mg : Str → Option Value) (base : Heap) : Prop := Cal P w K mg base 3 "_law_operator" ["_law_state_here"] (spS K preNo rOperator)
theorem xb_gtC {a c : Addr} {ta : TE} {e : DE} {pn : List (Nat × V)} {j : Int} {Pk : PyData → Unit → Prop} (h : XE K (RS a c) ta e pn () Pk) (hp : ∀ d, Pk d () → ∃ k : Nat, d = dn k) : XB K (RS a c) (tTest (tOp (rI0 fun i j => V.bl (decide (j < i))) ta (tC (.int j)))) e pn () (fun _ _ => True) :=
  (xb_cmp (P := fun d _ => ∃ b, d = .bool b) ((xe_op (res := fun d1 d2 => match d1, d2 with | .int i, .int j => .bool (decide (j < i)) | _, _ => .none) (P2 := fun d1 d2 _ => (∃ k : Nat, d1 = dn k) ∧ d2 = .int j) h (fun d γ1 x => (xe_ed ed_int).mono fun d2 γ2 y => ⟨hp d x, y.1⟩) fun d1 d2 γ2 x => by
      obtain ⟨⟨k, rfl⟩, rfl⟩ := x
      exact rd_I0 (f := fun i j => .bool (decide (j < i))) fun i j H => .bl _).mono fun d γ' x => by
        obtain ⟨d1, d2, ⟨⟨k, rfl⟩, rfl⟩, rfl⟩ := x
        exact ⟨_, rfl⟩) fun d γ' x => x).mono fun _ _ _ => trivial
abbrev s_expression : Stmt := topS 45
theorem sc_expression : FnScope ["_law_state_here", "_law_env_here", "_law_deep", "_law_kind", "_law_first"] ["_law_state_here", "_law_env_here", "_law_deep"] (defScope s_expression) := ⟨rfl, rfl, rfl, by decide +kernel, rfl, by decide +kernel, by decide +kernel⟩
def preExpr : Nat → List PyData → Prop
  | 0 => fun _ => False
  | N + 1 => fun ds => ∃ (E : Sur) (n : Nat), ds = [E.d, dn n] ∧ SurOk E ∧ n ≤ N
def rExpr : List PyData → PyData → Prop := fun ds d => ∃ (E : Sur) (n : Nat), ds = [E.d, dn n] ∧ IsEx E (n + 2) d
theorem IsEx.mono {E : Sur} {n m : Nat} {d : PyData} (h : IsEx E n d) (q : n ≤ m) : IsEx E m d := by
  obtain ⟨x, e, h1, h2⟩ := h
  exact ⟨x, e, Nat.le_trans h1 q, h2⟩
theorem spS_no {Rr : List PyData → PyData → Prop} : ∀ vs H Q E, ¬ spS K (fun _ => False) Rr vs H Q E := fun vs H Q E ⟨_, _, _, _, _, _, _, _, _, x, _⟩ => x
theorem ok_expression (T : Txt K mg tW aF aS) (d : Def K mg "_law_expression" s_expression) (c_draw : CDraw P w K mg base) (c_pick : CPick P w K mg base) (c_read : CRead P w K mg base) (c_number : CNumber P w K mg base) (c_operator : COperator P w K mg base) :
    ∀ N : Nat, Cal P w K mg base (N + 4) "_law_expression" ["_law_state_here", "_law_env_here", "_law_deep"] (spS K (preExpr N) rExpr)
  | 0 => d.never (fun vs H Q E => spS_no vs H Q E) (fun _ _ _ _ _ _ us hl => match us, hl with | [_, _, _], _ => rfl)
  | N + 1 => by
    have c_expression := ok_expression T d c_draw c_pick c_read c_number c_operator N
    refine d.genS sc_expression (fun ds ⟨E, n, z, _⟩ => by rw [z]; rfl) (fun _ _ _ _ _ _ us hl => match us, hl with | [_, _, _], _ => rfl) fun f cdv A outer s H E0' a c ds hr ⟨E, n, z, hE, hn⟩ => ?_
    subst z
    have hu := hu_of hr
    refine ⟨_, 
      (pss_cons (ps_set (i := 3) sc_expression.nd rfl (Or.inl rfl) (pe_cal c_draw (hr.mono (by omega)) (pa_cons (pv 0) (pa_cons pe_int pa_nil))))
      (pss_cons (ps_if (PW.pt (pw_or (pt_cmpR op_eq (pv 2) pe_int (nomark _)) (pw_or1 (pt_cmpR op_lt (pv 3) pe_int (nomark _)))))
      (pss_cons (ps_if (PW.pt (pw_and (pt_cmpR op_gt (pe_callB call_len_seq (by rfl) T.len (by decide +kernel) (pa_cons (pe_dget hu (pv 1) pe_str (fun _ _ => rfl)) pa_nil)) pe_int (nomark _)) (pw_and1 (pt_cmpR op_gt (pe_cal c_draw (hr.mono (by omega)) (pa_cons (pv 0) (pa_cons pe_int pa_nil))) pe_int (nomark _)))))
      (pss_one (ps_ret (pe_cal c_read (hr.mono (by omega)) (pa_cons (pv 0) (pa_cons (pv 1) pa_nil))))) pss_nil)
      (pss_one (ps_ret (pe_cal c_number (hr.mono (by omega)) (pa_cons (pv 0) pa_nil))))) pss_nil) (pss_cons (ps_if (pt_cmpR op_eq (pv 3) pe_int (nomark _))
      (pss_one (ps_ret (pe_tup (pa_cons (pe_cal c_pick (hr.mono (by omega)) (pa_cons (pv 0) (pa_cons (pe_lst (pa_cons pe_str (pa_cons pe_str pa_nil))) pa_nil))) (pa_cons (pe_cal c_expression (hr.mono (by omega)) (pa_cons (pv 0) (pa_cons (pv 1) (pa_cons (pe_op op_sub (pv 2) pe_int) pa_nil)))) pa_nil))))) pss_nil)
      (pss_cons (ps_set (i := 4) sc_expression.nd rfl (Or.inl rfl) (pe_cal c_expression (hr.mono (by omega)) (pa_cons (pv 0) (pa_cons (pv 1) (pa_cons (pe_op op_sub (pv 2) pe_int) pa_nil)))))
      (pss_one (ps_ret (pe_tup (pa_cons (pe_cal c_operator (hr.mono (by omega)) (pa_cons (pv 0) pa_nil)) (pa_cons (pv 4) (pa_cons (pe_cal c_expression (hr.mono (by omega)) (pa_cons (pv 0) (pa_cons (pv 1) (pa_cons (pe_op op_sub (pv 2) pe_int) pa_nil)))) pa_nil)))))))))), ?_⟩
    have h0 : (0, V.ref a) ∈ [(0, V.ref a)] := List.mem_singleton.mpr rfl
    refine XS.mono (Z := fun d _ => IsEx E (n + 2) d) ?_ (fun _ _ x => x) fun d γ' x => ⟨E, n, rfl, x⟩
    refine xs_let (xe_drawC (m := 7) ed_int (by decide) (by decide) h0) fun d1 γ1 ⟨k, hk, hk7⟩ => ?_
    subst hk
    refine xs_guard (PB := fun b _ => b = false → 0 < n) (xb_or (PB1 := fun b _ => b = decide ((n : Int) = 0)) ((xb_eb (eb_cmp (ed_eqI (ed_var (i := 2) rfl) ed_int))).mono fun b γ' x => x.1) (fun γ1 hx => (xb_eb (eb_cmp (ed_lt (ed_var (i := 3) rfl) ed_int))).mono fun b γ' x hb => ?_) fun γ1 hx hb => by cases hb) (fun γ1 _ => ?_) fun γ1 hb => ?_
    · have := of_decide_eq_false hx.symm
      omega
    · refine xs_guard (PB := fun _ _ => True) (xb_and (PB1 := fun _ _ => True) ((xb_eb (eb_cmp (ed_gt (ed_len (ed_reads (ed_var (i := 1) rfl))) ed_int))).mono fun b γ' x => trivial) (fun γ1 hx => xb_gtC (xe_drawC (m := 3) ed_int (by decide) (by decide) h0) fun d ⟨k, hd, _⟩ => ⟨k, hd⟩) fun γ1 hx => trivial) (fun γ1 _ => ?_) fun γ1 _ => ?_
      · refine xs_ret ((xe_callD (ds := [E.d]) (ea_cons (ed_var (i := 1) rfl) ea_nil) ⟨E, rfl, hE⟩ h0).mono fun d γ' ⟨E', e1, x⟩ => ?_)
        simp only [List.cons.injEq, and_true] at e1
        rw [Sur.inj e1]
        exact x.mono (by omega)
      · refine xs_ret ((xe_callD (ds := []) ea_nil (show preNo [] from rfl) h0).mono fun d γ' ⟨k, hk, e1⟩ => ⟨.num k, e1, Nat.zero_le _, fun S hS => hk⟩)
    · have hn0 := hb rfl
      have hd1 : ED K (tOp (rI0 fun i j => V.int (i - j)) (tVar 2) (tC (.int 1))) [none, some E.d, some (dn n), some (dn k), none] (dn (n - 1)) := (ed_sub (ed_var (i := 2) rfl) ed_int).eq (congrArg PyData.int (by omega))
      have hN : ∃ M, N = M + 1 := ⟨N - 1, by omega⟩
      have pre : preExpr N [E.d, dn (n - 1)] := by
        obtain ⟨M, rfl⟩ := hN
        exact ⟨E, n - 1, rfl, hE, by omega⟩
      have fix : ∀ {d : PyData}, rExpr [E.d, dn (n - 1)] d → IsEx E (n + 1) d := fun {d} ⟨E', n', e1, x⟩ => by
        simp only [List.cons.injEq, and_true] at e1
        have e3 := dn_inj e1.2
        rw [Sur.inj e1.1]
        exact x.mono (by omega)
      refine xs_guard (xb_eb (eb_cmp (ed_eqI (ed_var (i := 3) rfl) ed_int))) (fun γ1 _ => ?_) fun γ1 _ => ?_
      · refine xs_ret ((xe_tup2 (P1 := fun d => d = .str "neg" ∨ d = .str "not") (P2 := fun d => IsEx E (n + 1) d) ((xe_pickC (xs := [.str "neg", .str "not"]) (ed_lst (ea_cons ed_str (ea_cons ed_str ea_nil))) (by decide) (by decide) h0).mono fun d γ' x => by simpa using x)
          fun _ => (xe_callD (ds := [E.d, dn (n - 1)]) (ea_cons (ed_var (i := 1) rfl) (ea_cons hd1 ea_nil)) pre h0).mono fun d γ' x => fix x).mono fun d γ' x => ?_)
        obtain ⟨x1, y1, rfl, hx, y, rfl, h1, h2⟩ := x
        rcases hx with rfl | rfl
        · exact ⟨.neg y, rfl, by show y.ht + 1 ≤ n + 2; omega, fun S hS => h2 S hS⟩
        · exact ⟨.inv y, rfl, by show y.ht + 1 ≤ n + 2; omega, fun S hS => h2 S hS⟩
      · refine xs_let ((xe_callD (ds := [E.d, dn (n - 1)]) (ea_cons (ed_var (i := 1) rfl) (ea_cons hd1 ea_nil)) pre h0).mono (P' := fun d _ => IsEx E (n + 1) d) fun d γ' x => fix x) fun d1 γ1 hd => ?_
        obtain ⟨x, rfl, h1, h2⟩ := hd
        have hd2 : ED K (tOp (rI0 fun i j => V.int (i - j)) (tVar 2) (tC (.int 1))) [none, some E.d, some (dn n), some (dn k), some x.d] (dn (n - 1)) := (ed_sub (ed_var (i := 2) rfl) ed_int).eq (congrArg PyData.int (by omega))
        refine xs_ret ((xe_tup3 (P1 := isOp) (P2 := fun d => d = x.d) (P3 := fun d => IsEx E (n + 1) d) ((xe_callD (ds := []) ea_nil (show preNo [] from rfl) h0).mono fun d γ' x => x) (fun _ => xe_con (ed_var (i := 4) rfl) rfl)
          fun _ => (xe_callD (ds := [E.d, dn (n - 1)]) (ea_cons (ed_var (i := 1) rfl) (ea_cons hd2 ea_nil)) pre h0).mono fun d γ' x => fix x).mono fun d γ' q => ?_)
        obtain ⟨_, _, _, rfl, ⟨o, rfl⟩, rfl, y, rfl, h3, h4⟩ := q
        exact ⟨.bin o x y, rfl, by show max x.ht y.ht + 1 ≤ n + 2; omega, fun S hS => ⟨h2 S hS, h4 S hS⟩⟩
abbrev CExpr (P : Program) (w : World) (K : PySem.W.Frag) (mg : Str → Option Value) (base : Heap) : Prop := Cal P w K mg base 7 "_law_expression" ["_law_state_here", "_law_env_here", "_law_deep"] (spS K (preExpr 3) rExpr)
/-- a statement without branches, of height at most D, of work at most m -/
def IsSm (E : Sur) (D m : Nat) (d : PyData) : Prop := ∃ s : Sm, d = s.d ∧ s.nb = 0 ∧ s.wk ≤ m ∧ ∀ ps i S, SurIn E S → SmOk ps D i S s
theorem IsSm.mono {E : Sur} {D D' m m' : Nat} {d : PyData} (h : IsSm E D m d) (q : D ≤ D') (q2 : m ≤ m') : IsSm E D' m' d := by
  obtain ⟨s, e, h1, h2, h3⟩ := h
  exact ⟨s, e, h1, Nat.le_trans h2 q2, fun ps i S hS => (h3 ps i S hS).mono (fun _ _ z => z) q (Fp.Le.refl S)⟩
/-- the calls, as seen by their users -/
theorem xe_expr {a c : Addr} {E : Sur} {e : DE} {te : TE} {n : Nat} {pn : List (Nat × V)} (hE : SurOk E) (hn : n ≤ 2) (h1 : e[1]? = some (some E.d)) (h2 : ED K te e (dn n)) (h0 : (0, V.ref a) ∈ pn) : XE K (RS a c) (tCall (spS K (preExpr 3) rExpr) [] E0 (tCons (tVar 0) (tCons (tVar 1) (tCons te tNil)))) e pn () (fun d _ => IsEx E (n + 2) d) :=
  (xe_callD (ds := [E.d, dn n]) (ea_cons (ed_var h1) (ea_cons h2 ea_nil)) ⟨E, n, rfl, hE, hn⟩ h0).mono fun d γ' ⟨E', n', e1, x⟩ => by
    simp only [List.cons.injEq, and_true] at e1
    have e3 := dn_inj e1.2
    rw [Sur.inj e1.1, e3]
    exact x
theorem xe_target {a c : Addr} {E : Sur} {e : DE} {pn : List (Nat × V)} (hE : SurOk E) (h1 : e[1]? = some (some E.d)) (h0 : (0, V.ref a) ∈ pn) : XE K (RS a c) (tCall (spS K preEnv rTarget) [] E0 (tCons (tVar 0) (tCons (tVar 1) tNil))) e pn () (fun d _ => IsTg E d) :=
  (xe_callD (ds := [E.d]) (ea_cons (ed_var h1) ea_nil) ⟨E, rfl, hE⟩ h0).mono fun d γ' ⟨E', e1, x⟩ => by
    simp only [List.cons.injEq, and_true] at e1
    rw [Sur.inj e1]
    exact x
theorem ExT.of {E : Sur} {S : Fp} {x : Ex} {n : Nat} (h1 : x.ht ≤ n) (h2 : ∀ S, SurIn E S → ExOk S.R x) (hS : SurIn E S) (hn : n ≤ 6 := by decide) : ExT S x := ⟨h2 S hS, by omega⟩
abbrev s_set : Stmt := topS 47
theorem sc_set : FnScope ["_law_state_here", "_law_env_here"] ["_law_state_here", "_law_env_here"] (defScope s_set) := ⟨rfl, rfl, rfl, by decide +kernel, rfl, by decide +kernel, by decide +kernel⟩
def rSet : List PyData → PyData → Prop := fun ds d => ∃ E : Sur, ds = [E.d] ∧ IsSm E 1 1 d
theorem ok_set (T : Txt K mg tW aF aS) (d : Def K mg "_law_set" s_set) (c_target : CTarget P w K mg base) (c_expression : CExpr P w K mg base) : Cal P w K mg base 8 "_law_set" ["_law_state_here", "_law_env_here"] (spS K preEnv rSet) := by
  refine d.genS sc_set (fun ds ⟨E, z, _⟩ => by rw [z]; rfl) (fun _ _ _ _ _ _ us hl => match us, hl with | [_, _], _ => rfl) fun f cdv A outer s H E0' a c ds hr ⟨E, z, hE⟩ => ?_
  subst z
  have hu := hu_of hr
  refine ⟨_, 
      (pss_one (ps_ret (pe_tup (pa_cons pe_str (pa_cons (pe_cal c_target (hr.mono (by decide)) (pa_cons (pv 0) (pa_cons (pv 1) pa_nil))) (pa_cons (pe_cal c_expression (hr.mono (by decide)) (pa_cons (pv 0) (pa_cons (pv 1) (pa_cons pe_int pa_nil)))) pa_nil)))))), ?_⟩
  have h0 : (0, V.ref a) ∈ [(0, V.ref a)] := List.mem_singleton.mpr rfl
  refine XS.mono (Z := fun d _ => IsSm E 1 1 d) ?_ (fun _ _ x => x) fun d γ' x => ⟨E, rfl, x⟩
  refine xs_ret ((xe_tup3 xe_strC (fun _ => xe_target hE rfl h0) fun _ => xe_expr (n := 2) hE (by decide) rfl ed_int h0).mono fun d γ' x => ?_)
  obtain ⟨_, _, _, rfl, rfl, ⟨t, rfl, h1, h2⟩, x, rfl, h3, h4⟩ := x
  exact ⟨.set t x, rfl, rfl, Nat.le_refl _, fun ps i S hS => .set ⟨h2 S hS, by omega⟩ ⟨h4 S hS, by omega⟩⟩
theorem xe_set {a c : Addr} {E : Sur} {e : DE} {pn : List (Nat × V)} (hE : SurOk E) (h1 : e[1]? = some (some E.d)) (h0 : (0, V.ref a) ∈ pn) : XE K (RS a c) (tCall (spS K preEnv rSet) [] E0 (tCons (tVar 0) (tCons (tVar 1) tNil))) e pn () (fun d _ => IsSm E 1 1 d) :=
  (xe_callD (ds := [E.d]) (ea_cons (ed_var h1) ea_nil) ⟨E, rfl, hE⟩ h0).mono fun d γ' ⟨E', e1, x⟩ => by
    simp only [List.cons.injEq, and_true] at e1
    rw [Sur.inj e1]
    exact x
theorem xe_draw1 {a c : Addr} {e : DE} {m : Nat} {pn : List (Nat × V)} (hm : 0 < m) (hm1 : m ≤ 1000000) (h0 : (0, V.ref a) ∈ pn) : XE K (RS a c) (tOp (rI0 fun i j => V.int (i + j)) (tC (.int 1)) (tCall (spS K preDraw rDraw) [] E0 (tCons (tVar 0) (tCons (tC (.int (m : Int))) tNil)))) e pn () (fun d _ => ∃ k : Nat, k < m ∧ d = dn (k + 1)) :=
  (xe_op (res := fun d1 d2 => match d1, d2 with | .int i, .int j => .int (i + j) | _, _ => .none) (P2 := fun d1 d2 _ => d1 = .int 1 ∧ ∃ k : Nat, k < m ∧ d2 = dn k) (xe_ed ed_int) (fun d γ1 x => (xe_drawC (m := m) ed_int hm hm1 h0).mono fun d2 γ2 ⟨k, hk, hm⟩ => ⟨x.1, k, hm, hk⟩) fun d1 d2 γ2 x => by
    obtain ⟨rfl, k, _, rfl⟩ := x
    exact rd_I0 (f := fun i j => .int (i + j)) fun i j H => .int _).mono fun d γ' x => by
      obtain ⟨d1, d2, ⟨rfl, k, hk, rfl⟩, rfl⟩ := x
      exact ⟨k, hk, congrArg PyData.int (by omega)⟩
abbrev s_simple : Stmt := topS 48
theorem sc_simple : FnScope ["_law_state_here", "_law_env_here", "_law_kind", "_law_cell", "_law_more"] ["_law_state_here", "_law_env_here"] (defScope s_simple) := ⟨rfl, rfl, rfl, by decide +kernel, rfl, by decide +kernel, by decide +kernel⟩
def rSimple : List PyData → PyData → Prop := fun ds d => ∃ E : Sur, ds = [E.d] ∧ IsSm E 3 7 d
abbrev CSet (P : Program) (w : World) (K : PySem.W.Frag) (mg : Str → Option Value) (base : Heap) : Prop := Cal P w K mg base 8 "_law_set" ["_law_state_here", "_law_env_here"] (spS K preEnv rSet)
theorem ok_simple (T : Txt K mg tW aF aS) (d : Def K mg "_law_simple" s_simple) (c_draw : CDraw P w K mg base) (c_pick : CPick P w K mg base) (c_expression : CExpr P w K mg base) (c_set : CSet P w K mg base) : Cal P w K mg base 9 "_law_simple" ["_law_state_here", "_law_env_here"] (spS K preEnv rSimple) := by
  refine d.genS sc_simple (fun ds ⟨E, z, _⟩ => by rw [z]; rfl) (fun _ _ _ _ _ _ us hl => match us, hl with | [_, _], _ => rfl) fun f cdv A outer s H E0' a c ds hr ⟨E, z, hE⟩ => ?_
  subst z
  have hu := hu_of hr
  refine ⟨_, 
      (pss_cons (ps_set (i := 2) sc_simple.nd rfl (Or.inl rfl) (pe_cal c_draw (hr.mono (by decide)) (pa_cons (pv 0) (pa_cons pe_int pa_nil))))
      (pss_cons (ps_if (pt_cmpR op_eq (pv 2) pe_int (nomark _)) (pss_one (ps_ret (pe_tup (pa_cons pe_str pa_nil)))) pss_nil)
      (pss_cons (ps_if (PW.pt (pw_and (pt_cmpR op_eq (pv 2) pe_int (nomark _)) (pw_and1 (pt_cmpR op_eq (pe_cal c_draw (hr.mono (by decide)) (pa_cons (pv 0) (pa_cons pe_int pa_nil))) pe_int (nomark _)))))
      (pss_one (ps_ret (pe_tup (pa_cons pe_str pa_nil)))) pss_nil) (pss_cons (ps_if (pt_cmpR op_eq (pv 2) pe_int (nomark _))
      (pss_one (ps_ret (pe_tup (pa_cons pe_str (pa_cons (pe_cal c_expression (hr.mono (by decide)) (pa_cons (pv 0) (pa_cons (pv 1) (pa_cons pe_int pa_nil)))) (pa_cons (pe_cal c_set (hr.mono (by decide)) (pa_cons (pv 0) (pa_cons (pv 1) pa_nil))) (pa_cons (pe_tup (pa_cons pe_str (pa_cons (pe_lst (pa_cons (pe_cal c_set (hr.mono (by decide)) (pa_cons (pv 0) (pa_cons (pv 1) pa_nil))) (pa_cons (pe_cal c_set (hr.mono (by decide)) (pa_cons (pv 0) (pa_cons (pv 1) pa_nil))) pa_nil))) pa_nil))) pa_nil))))))) pss_nil)
      (pss_cons (ps_if (pt_cmpR op_eq (pv 2) pe_int (nomark _))
      (pss_cons (ps_set (i := 3) sc_simple.nd rfl (Or.inl rfl) (pe_tup (pa_cons pe_str (pa_cons (pe_cal c_pick (hr.mono (by decide)) (pa_cons (pv 0) (pa_cons (pe_dget hu (pv 1) pe_str (fun _ _ => rfl)) pa_nil))) pa_nil))))
      (pss_cons (ps_set (i := 4) sc_simple.nd rfl (Or.inl rfl) (pe_tup (pa_cons pe_str (pa_cons (pv 3) (pa_cons (pe_tup (pa_cons pe_str (pa_cons (pv 3) (pa_cons (pe_tup (pa_cons pe_str (pa_cons (pe_op op_add pe_int (pe_cal c_draw (hr.mono (by decide)) (pa_cons (pv 0) (pa_cons pe_int pa_nil)))) pa_nil))) pa_nil)))) pa_nil)))))
      (pss_one (ps_ret (pe_tup (pa_cons pe_str (pa_cons (pe_tup (pa_cons pe_str (pa_cons (pv 3) (pa_cons (pe_tup (pa_cons pe_str (pa_cons (pe_cal c_draw (hr.mono (by decide)) (pa_cons (pv 0) (pa_cons pe_int pa_nil))) pa_nil))) pa_nil)))) (pa_cons (pe_cal c_draw (hr.mono (by decide)) (pa_cons (pv 0) (pa_cons pe_int pa_nil))) (pa_cons (pv 4) pa_nil))))))))) pss_nil)
      (pss_one (ps_ret (pe_cal c_set (hr.mono (by decide)) (pa_cons (pv 0) (pa_cons (pv 1) pa_nil)))))))))), ?_⟩
  have h0 : (0, V.ref a) ∈ [(0, V.ref a)] := List.mem_singleton.mpr rfl
  refine XS.mono (Z := fun d _ => IsSm E 3 7 d) ?_ (fun _ _ x => x) fun d γ' x => ⟨E, rfl, x⟩
  refine xs_let (xe_drawC (m := 14) ed_int (by decide) (by decide) h0) fun d1 γ1 ⟨k, hk, hk7⟩ => ?_
  subst hk
  refine xs_guard (xb_eb (eb_cmp (ed_eqI (ed_var (i := 2) rfl) ed_int))) (fun γ1 _ => ?_) fun γ1 _ => ?_
  · exact xs_ret (xe_con (ed_tup (ea_cons ed_str ea_nil)) ⟨.skip, rfl, rfl, by decide, fun ps i S hS => .skip⟩)
  refine xs_guard (PB := fun _ _ => True) (xb_and (PB1 := fun _ _ => True) ((xb_eb (eb_cmp (ed_eqI (ed_var (i := 2) rfl) ed_int))).mono fun b γ' x => trivial) (fun γ1 hx => (xb_eqC (xe_drawC (m := 6) ed_int (by decide) (by decide) h0) fun d ⟨k, hd, _⟩ => ⟨k, hd⟩).mono fun _ _ _ => trivial) fun γ1 hx => trivial) (fun γ1 _ => ?_) fun γ1 _ => ?_
  · exact xs_ret (xe_con (ed_tup (ea_cons ed_str ea_nil)) ⟨.stop, rfl, rfl, by decide, fun ps i S hS => .stop⟩)
  refine xs_guard (xb_eb (eb_cmp (ed_eqI (ed_var (i := 2) rfl) ed_int))) (fun γ1 _ => ?_) fun γ1 _ => ?_
  · refine xs_ret ((xe_tup4 xe_strC (fun _ => xe_expr (n := 1) hE (by decide) rfl ed_int h0) (fun _ => xe_set hE rfl h0) fun _ => xe_tup2 xe_strC fun _ => xe_lst (xa_two (xe_set hE rfl h0) fun _ => xa_one (xe_set hE rfl h0)) fun ds γ' x => by
      obtain ⟨y, r, rfl, _, z, rfl, _⟩ := x
      show 2 ≤ 16000000
      decide).mono fun d γ' x => ?_)
    obtain ⟨_, _, _, _, rfl, rfl, ⟨x, rfl, h1, h2⟩, ⟨s1, rfl, n1, w1, k1⟩, _, _, rfl, rfl, _, ⟨_, _, rfl, ⟨s2, rfl, n2, w2, k2⟩, _, rfl, s3, rfl, n3, w3, k3⟩, rfl⟩ := x
    refine ⟨.ite x s1 (.seq [s2, s3]), rfl, ?_, ?_, fun ps i S hS => .ite ⟨h2 S hS, by omega⟩ ((k1 ps i S hS).mono (fun _ _ z => z) (by decide) (Fp.Le.refl S)) (.seq fun y hy => ?_)⟩
    · simp only [Sm.nb, nbL, n1, n2, n3]
    · simp only [Sm.wk, wkL]
      omega
    · simp only [List.mem_cons, List.not_mem_nil, or_false] at hy
      rcases hy with rfl | rfl
      · exact k2 ps i S hS
      · exact k3 ps i S hS
  refine xs_guard (xb_eb (eb_cmp (ed_eqI (ed_var (i := 2) rfl) ed_int))) (fun γ1 _ => ?_) fun γ1 _ => xs_ret ((xe_set hE rfl h0).mono fun d γ' x => x.mono (by decide) (by decide))
  refine xs_let (xe_tup2 xe_strC fun _ => xe_pickC (ed_cells (ed_var (i := 1) rfl)) (by rw [List.length_map]; exact hE.c0) (by rw [List.length_map]; have := hE.c1; omega) h0) fun d γ1 hd => ?_
  obtain ⟨_, y, rfl, rfl, hy⟩ := hd
  obtain ⟨q, hq, rfl⟩ := dns_mem hy
  refine xs_let (xe_tup3 xe_strC (fun _ => xe_con (ed_var (i := 3) rfl) rfl) fun _ => xe_tup3 xe_strC (fun _ => xe_con (ed_var (i := 3) rfl) rfl) fun _ => xe_tup2 xe_strC fun _ => xe_draw1 (m := 3) (by decide) (by decide) h0) fun d γ1 hd => ?_
  obtain ⟨_, _, _, rfl, rfl, rfl, _, _, _, rfl, rfl, rfl, _, _, rfl, rfl, k1, hk1, rfl⟩ := hd
  refine xs_ret ((xe_tup4 xe_strC (fun _ => xe_tup3 xe_strC (fun _ => xe_con (ed_var (i := 3) rfl) rfl) fun _ => xe_tup2 xe_strC fun _ => xe_drawC (m := 9) ed_int (by decide) (by decide) h0) (fun _ => xe_drawC (m := 4) ed_int (by decide) (by decide) h0) fun _ => xe_con (ed_var (i := 4) rfl) rfl).mono fun d γ' x => ?_)
  obtain ⟨_, _, _, _, rfl, rfl, ⟨_, _, _, rfl, rfl, rfl, _, _, rfl, rfl, k2, rfl, hk2⟩, ⟨k3, rfl, hk3⟩, rfl⟩ := x
  refine ⟨.rep (.bin .lt (.cell q) (.num k2)) k3 (.set (.cell q) (.bin .add (.cell q) (.num (k1 + 1)))), rfl, rfl, ?_, fun ps i S hS => ?_⟩
  · simp only [Sm.wk]
    omega
  · obtain ⟨h1, h2⟩ := hS.cells q hq
    exact .rep ⟨⟨h1, show k2 < 65536 by omega⟩, by show max 0 0 + 1 ≤ 6; decide⟩ (.set ⟨h2, Nat.zero_le _⟩ ⟨⟨h1, show k1 + 1 < 65536 by omega⟩, by show max 0 0 + 1 ≤ 6; decide⟩)
theorem xe_simple {a c : Addr} {E : Sur} {e : DE} {pn : List (Nat × V)} (hE : SurOk E) (h1 : e[1]? = some (some E.d)) (h0 : (0, V.ref a) ∈ pn) : XE K (RS a c) (tCall (spS K preEnv rSimple) [] E0 (tCons (tVar 0) (tCons (tVar 1) tNil))) e pn () (fun d _ => IsSm E 3 7 d) :=
  (xe_callD (ds := [E.d]) (ea_cons (ed_var h1) ea_nil) ⟨E, rfl, hE⟩ h0).mono fun d γ' ⟨E', e1, x⟩ => by
    simp only [List.cons.injEq, and_true] at e1
    rw [Sur.inj e1]
    exact x
end
end Pa
/-! faulty, inputs, choices -/
namespace Pa
open PySem L2 PyProof.Rows
local macro_rules | `(tactic| walk_at "ed") => `(tactic| first
  | ((with_reducible show ED _ (tVar _) _ _); exact ed_var rfl)
  | ((with_reducible show ED _ (tC _) _ _); first | exact ed_int | exact ed_str | exact ed_non | exact ed_bl | exact ed_tupC T.fF | exact ed_tupC T.fS)
  | ((with_reducible show EA _ tNil _ _); exact ea_nil) | ((with_reducible show EA _ (tCons _ _) _ _); exact ea_cons (by walk_at "ed") (by walk_at "ed"))
  | ((with_reducible show ED _ (tTup _) _ _); exact ed_tup (by walk_at "ed")) | ((with_reducible show ED _ (tLst _) _ _); exact ed_lst (by walk_at "ed"))
  | ((with_reducible show ED _ (tOp (rI0 fun i j => V.int (i + j)) _ _) _ _); exact ed_add (by walk_at "ed") (by walk_at "ed"))
  | ((with_reducible show ED _ (tOp (rI0 fun i j => V.int (i - j)) _ _) _ _); exact ed_sub (by walk_at "ed") (by walk_at "ed"))
  | ((with_reducible show ED _ (tOp (rI0 fun i j => V.int (Builtin.bitAnd i j)) _ _) _ _); exact ed_and (by walk_at "ed") (by walk_at "ed"))
  | ((with_reducible show ED _ (tOp (rIxT _) _ (tC (.int 0))) _ _); exact ed_ix0 (by walk_at "ed")) | ((with_reducible show ED _ (tOp (rIxT _) _ (tC (.int 1))) _ _); exact ed_ix1 (by walk_at "ed"))
  | ((with_reducible show ED _ (tOp (rIxT _) _ (tC (.int 2))) _ _); exact ed_ix2 (by walk_at "ed")) | ((with_reducible show ED _ (tOp (rIxT _) _ (tC (.int 3))) _ _); exact ed_ix3 (by walk_at "ed"))
  | ((with_reducible show ED _ (tSl _ _ tNoPart (tPart _)) _ _); exact ed_take (by walk_at "ed") (by walk_at "ed")) | ((with_reducible show ED _ (tSl _ _ (tPart _) tNoPart) _ _); exact ed_dropI (by walk_at "ed") (by walk_at "ed") rfl)
  | ((with_reducible show ED _ (tOp rEq _ _) _ _); exact ed_eqS (by walk_at "ed") (by walk_at "ed"))
  | ((with_reducible show ED _ (tOp rEq _ _) _ _); exact ed_eqI (by walk_at "ed") (by walk_at "ed"))
  | ((with_reducible show ED _ (tOp (fun x y H Q => y = V.non ∧ Q (V.bl (decide (x = V.non))) H) _ _) _ _); exact ed_isN (by walk_at "ed"))
  | ((with_reducible show ED _ (tOp (rIn _ false) _ _) _ _); exact ed_in2 (by walk_at "ed"))
  | ((with_reducible show ED _ (tCB _ _) _ _); exact ed_len (by walk_at "ed")))
local macro_rules | `(tactic| walk_at "eb") => `(tactic| first
  | ((with_reducible show EB _ (tTest (tOp (rIn _ false) _ _)) _ _); exact (eb_cmp (ed_in2 (by walk_at "ed"))).eq (by decide +kernel))
  | ((with_reducible show EB _ (tTest (tOp rEq _ _)) _ _); exact (eb_cmp (ed_eqS (by walk_at "ed") (by walk_at "ed"))).eq (by decide +kernel)))

section
variable {P : Program} {w : World} {K : PySem.W.Frag} {mg : Str → Option Value} {base : Heap} {tW : Tok} {aF aS : Addr}
theorem xe_drawE {a c : Addr} {e : DE} {te : TE} {pn : List (Nat × V)} {m : Nat} (h : ED K te e (dn m)) (hm : 0 < m) (hm1 : m ≤ 1000000) (h0 : (0, V.ref a) ∈ pn) : XE K (RS a c) (tCall (spS K preDraw rDraw) [] E0 (tCons (tVar 0) (tCons te tNil))) e pn () (fun d _ => ∃ k : Nat, d = dn k ∧ k < m) := xe_drawC h hm hm1 h0
abbrev s_faulty : Stmt := topS 56
theorem sc_faulty : FnScope ["_law_state_here", "_law_script", "_law_at"] ["_law_state_here", "_law_script"] (defScope s_faulty) := ⟨rfl, rfl, rfl, by decide +kernel, rfl, by decide +kernel, by decide +kernel⟩
def preFaulty : List PyData → Prop := fun ds => ∃ xs : List PyData, ds = [.list xs] ∧ xs.length ≤ 100000
def rFaulty : List PyData → PyData → Prop := fun ds d => ∃ xs ys : List PyData, ds = [.list xs] ∧ d = .list ys ∧ (∀ y, y ∈ ys → y ∈ xs) ∧ ys.length ≤ xs.length
theorem ok_faulty (T : Txt K mg tW aF aS) (d : Def K mg "_law_faulty" s_faulty) (c_draw : CDraw P w K mg base) : Cal P w K mg base 2 "_law_faulty" ["_law_state_here", "_law_script"] (spS K preFaulty rFaulty) := by
  refine d.genS sc_faulty (fun ds ⟨xs, z, _⟩ => by rw [z]; rfl) (fun _ _ _ _ _ _ us hl => match us, hl with | [_, _], _ => rfl) fun f cdv A outer s H E0' a c ds hr ⟨xs, z, hx⟩ => ?_
  subst z
  refine ⟨_, 
      (pss_cons (ps_if (PW.pt (pw_and (pt_cmpR op_gt (pe_callB call_len_seq (by rfl) T.len (by decide +kernel) (pa_cons (pv 1) pa_nil)) pe_int (nomark _)) (pw_and1 (pt_cmpR op_eq (pe_cal c_draw (hr.mono (by decide)) (pa_cons (pv 0) (pa_cons pe_int pa_nil))) pe_int (nomark _)))))
      (pss_cons (ps_set (i := 2) sc_faulty.nd rfl (Or.inl rfl) (pe_cal c_draw (hr.mono (by decide)) (pa_cons (pv 0) (pa_cons (pe_op op_sub (pe_callB call_len_seq (by rfl) T.len (by decide +kernel) (pa_cons (pv 1) pa_nil)) pe_int) pa_nil))))
      (pss_one (ps_ret (pe_op op_cat (pe_op op_cat (pe_slice sl_list (pv 1) po_none (po_some (pv 2))) (pe_lst (pa_cons (pe_ix ix_list (pv 1) (pe_op op_add (pv 2) pe_int) (fun _ _ => rfl)) (pa_cons (pe_ix ix_list (pv 1) (pv 2) (fun _ _ => rfl)) pa_nil)))) (pe_slice sl_list (pv 1) (po_some (pe_op op_add (pv 2) pe_int)) po_none))))) pss_nil)
      (pss_cons (ps_if (PW.pt (pw_and (pt_cmpR op_gt (pe_callB call_len_seq (by rfl) T.len (by decide +kernel) (pa_cons (pv 1) pa_nil)) pe_int (nomark _)) (pw_and1 (pt_cmpR op_eq (pe_cal c_draw (hr.mono (by decide)) (pa_cons (pv 0) (pa_cons pe_int pa_nil))) pe_int (nomark _)))))
      (pss_cons (ps_set (i := 2) sc_faulty.nd rfl (Or.inl rfl) (pe_cal c_draw (hr.mono (by decide)) (pa_cons (pv 0) (pa_cons (pe_callB call_len_seq (by rfl) T.len (by decide +kernel) (pa_cons (pv 1) pa_nil)) pa_nil))))
      (pss_one (ps_ret (pe_op op_cat (pe_slice sl_list (pv 1) po_none (po_some (pv 2))) (pe_slice sl_list (pv 1) (po_some (pe_op op_add (pv 2) pe_int)) po_none))))) pss_nil)
      (pss_one (ps_ret (pv 1))))), ?_⟩
  have h0 : (0, V.ref a) ∈ [(0, V.ref a)] := List.mem_singleton.mpr rfl
  refine XS.mono (Z := fun d _ => ∃ ys : List PyData, d = .list ys ∧ (∀ y, y ∈ ys → y ∈ xs) ∧ ys.length ≤ xs.length) ?_ (fun _ _ x => x) fun d γ' ⟨ys, x⟩ => ⟨xs, ys, rfl, x⟩
  refine xs_guard (PB := fun b _ => b = true → 1 < xs.length) (xb_and (PB1 := fun b _ => b = decide ((1 : Int) < (xs.length : Int))) ((xb_eb (eb_cmp (ed_gt (ed_len (ed_var (i := 1) rfl)) ed_int))).mono fun b γ' x => x.1) (fun γ1 hx => (xb_eqC (xe_drawC (m := 6) ed_int (by decide) (by decide) h0) fun d ⟨k, hd, _⟩ => ⟨k, hd⟩).mono fun _ _ _ _ => by have := of_decide_eq_true hx.symm; omega) fun γ1 hx hb => by cases hb) (fun γ1 hb => ?_) fun γ1 _ => ?_
  · have hl := hb rfl
    refine xs_let (xe_drawE (m := xs.length - 1) ((ed_sub (ed_len (ed_var (i := 1) rfl)) ed_int).eq (congrArg PyData.int (by omega))) (by omega) (by omega) h0) fun d γ1 ⟨k, hk, hk1⟩ => ?_
    subst hk
    have g1 : xs[k + 1]? = some xs[k + 1] := List.getElem?_eq_getElem (by omega)
    have g2 : xs[k]? = some xs[k] := List.getElem?_eq_getElem (by omega)
    refine xs_ret (xe_con (ed_cat (ed_cat (ed_take (ed_var (i := 1) rfl) (ed_var (i := 2) rfl)) (ed_lst (ea_cons (ed_ixL (n := k + 1) (ed_var (i := 1) rfl) ((ed_add (ed_var (i := 2) rfl) ed_int).eq (congrArg PyData.int (by omega))) g1) (ea_cons (ed_ixL (n := k) (ed_var (i := 1) rfl) (ed_var (i := 2) rfl) g2) ea_nil))) ?_)
      (ed_dropI (n := k + 2) (ed_var (i := 1) rfl) (ed_add (ed_var (i := 2) rfl) ed_int) (by omega)) ?_) ⟨_, rfl, fun y hy => ?_, ?_⟩)
    · rw [List.length_take]; show _ + 2 ≤ _; omega
    · rw [List.length_append, List.length_take, List.length_drop]; show _ + 2 + _ ≤ _; omega
    · simp only [List.mem_append, List.mem_cons, List.not_mem_nil, or_false] at hy
      rcases hy with (hy | hy | hy) | hy
      · exact List.mem_of_mem_take hy
      · rw [hy]; exact List.getElem_mem _
      · rw [hy]; exact List.getElem_mem _
      · exact List.mem_of_mem_drop hy
    · simp only [List.length_append, List.length_take, List.length_drop, List.length_cons, List.length_nil]
      omega
  refine xs_guard (PB := fun b _ => b = true → 0 < xs.length) (xb_and (PB1 := fun b _ => b = decide ((0 : Int) < (xs.length : Int))) ((xb_eb (eb_cmp (ed_gt (ed_len (ed_var (i := 1) rfl)) ed_int))).mono fun b γ' x => x.1) (fun γ1 hx => (xb_eqC (xe_drawC (m := 12) ed_int (by decide) (by decide) h0) fun d ⟨k, hd, _⟩ => ⟨k, hd⟩).mono fun _ _ _ _ => by have := of_decide_eq_true hx.symm; omega) fun γ1 hx hb => by cases hb) (fun γ1 hb => ?_) fun γ1 _ => ?_
  · have hl := hb rfl
    refine xs_let (xe_drawE (m := xs.length) (ed_len (ed_var (i := 1) rfl)) hl (by omega) h0) fun d γ1 ⟨k, hk, hk1⟩ => ?_
    subst hk
    refine xs_ret (xe_con (ed_cat (ed_take (ed_var (i := 1) rfl) (ed_var (i := 2) rfl)) (ed_dropI (n := k + 1) (ed_var (i := 1) rfl) (ed_add (ed_var (i := 2) rfl) ed_int) (by omega)) ?_) ⟨_, rfl, fun y hy => ?_, ?_⟩)
    · rw [List.length_take, List.length_drop]; omega
    · simp only [List.mem_append] at hy
      rcases hy with hy | hy
      · exact List.mem_of_mem_take hy
      · exact List.mem_of_mem_drop hy
    · simp only [List.length_append, List.length_take, List.length_drop]
      omega
  · exact xs_ret (xe_con (ed_var (i := 1) rfl) ⟨_, rfl, fun y hy => hy, Nat.le_refl _⟩)
abbrev s_choices : Stmt := topS 60
theorem sc_choices : FnScope ["_law_state_here", "_law_k"] ["_law_state_here"] (defScope s_choices) := ⟨rfl, rfl, rfl, by decide +kernel, rfl, by decide +kernel, by decide +kernel⟩
def rChoices : List PyData → PyData → Prop := fun _ d => ∃ cs : List Int, d = .list (cs.map .int) ∧ cs.length ≤ 30
theorem xe_pickI {a c : Addr} {e : DE} {te : TE} {pn : List (Nat × V)} {ns : List Nat} (h : ED K te e (dns ns)) (h1 : 0 < ns.length) (h2 : ns.length ≤ 1000) (h0 : (0, V.ref a) ∈ pn) : XE K (RS a c) (tCall (spS K prePick rPick) [] E0 (tCons (tVar 0) (tCons te tNil))) e pn () (fun d _ => ∃ k, k ∈ ns ∧ d = dn k) :=
  (xe_pickC h (by rw [List.length_map]; exact h1) (by rw [List.length_map]; omega) h0).mono fun d γ' x => dns_mem x
theorem ok_choices (T : Txt K mg tW aF aS) (d : Def K mg "_law_choices" s_choices) (c_draw : CDraw P w K mg base) (c_pick : CPick P w K mg base) : Cal P w K mg base 3 "_law_choices" ["_law_state_here"] (spS K preNo rChoices) := by
  refine d.genS sc_choices (fun ds z => by rw [z]; rfl) (fun _ _ _ _ _ _ us hl => match us, hl with | [_], _ => rfl) fun f cdv A outer s H E0' a c ds hr z => ?_
  subst z
  refine ⟨_, 
      (pss_one (ps_ret (pe_lc (own := [("_law_k", 1)]) (g := gName 1) (tt := tYes) rfl sc_choices.nd (pi_range1 rfl T.range (pa_cons (pe_cal c_pick (hr.mono (by decide)) (pa_cons (pv 0) (pa_cons (pe_lst (pa_cons pe_int (pa_cons pe_int (pa_cons pe_int (pa_cons pe_int pa_nil))))) pa_nil))) pa_nil)) (blkOk_by (own := [("_law_k", 1)]) (N := ["_law_state_here", "_law_k"]) (sc := defScope s_choices) (by decide +kernel)) (fun _ _ _ _ _ => (pg_name (i := 1) sc_choices.nd rfl (Or.inl rfl))) (fun _ _ _ _ _ => pts_nil) (fun _ _ _ _ _ => (pe_cal c_draw (hr.mono (by decide)) (pa_cons (pv 0) (pa_cons (pe_cal c_pick (hr.mono (by decide)) (pa_cons (pv 0) (pa_cons (pe_lst (pa_cons pe_int (pa_cons pe_int (pa_cons pe_int pa_nil)))) pa_nil))) pa_nil))))))), ?_⟩
  have h0 : (0, V.ref a) ∈ [(0, V.ref a)] := List.mem_singleton.mpr rfl
  refine xs_ret ((xl_lcR (ws := [1]) (P1 := fun d _ => ∃ k, k ∈ [0, 1, 5, 30] ∧ d = dn k) (fun k acc _ => ∃ cs : List Int, acc = cs.map .int ∧ cs.length = k) ((xe_pickI (ns := [0, 1, 5, 30]) (ed_lst (ea_cons ed_int (ea_cons ed_int (ea_cons ed_int (ea_cons ed_int ea_nil))))) (by decide) (by decide) h0).mono fun d γ' ⟨k, hk, e⟩ => ⟨k, e, k, hk, rfl⟩)
    (fun n γ1 ⟨k, hk, e⟩ => ⟨?_, [], rfl, rfl⟩) rfl (fun k acc γ1 ⟨cs, h1, h2⟩ => by rw [h1, List.length_map]; omega) fun n γ0 k acc γ1 _ hk ⟨cs, h1, h2⟩ => ⟨_, eg_name, ?_⟩).xe.mono fun d γ' x => ?_)
  · have := dn_inj e
    subst this
    simp only [List.mem_cons, List.not_mem_nil, or_false] at hk
    omega
  · refine (xe_draw (P := fun d _ => ∃ k, k ∈ [2, 7, 1000] ∧ d = dn k) (xe_pickI (ns := [2, 7, 1000]) (ed_lst (ea_cons ed_int (ea_cons ed_int (ea_cons ed_int ea_nil)))) (by decide) (by decide) h0) (fun d ⟨k, hk, e⟩ => ⟨k, e, ?_⟩) h0).mono fun d γ' ⟨m, k, _, e, _⟩ => ⟨cs ++ [(k : Int)], ?_, by rw [List.length_append, h2]; rfl⟩
    · simp only [List.mem_cons, List.not_mem_nil, or_false] at hk
      omega
    · rw [h1, e, List.map_append]; rfl
  · obtain ⟨ds, rfl, n, γ0, ⟨k, hk, e⟩, cs, h1, h2⟩ := x
    have := dn_inj e
    subst this
    refine ⟨cs, by rw [h1], ?_⟩
    simp only [List.mem_cons, List.not_mem_nil, or_false] at hk
    omega
def lcScope : Expr → Scope
  | .ListComp _ _ sc _ => sc
  | _ => { kind := .function, names := [], isGenerator := false, isCoroutine := false }
def retE : List Stmt → Expr
  | .Return (some e) _ :: _ => e
  | _ => .Name "x" ⟨0, 0, 0, 0⟩
def relab (sc o : Scope) : Scope := { sc with names := sc.names.map fun (n, k) => if (k == NameKind.free && o.kind == .function && o.names.lookup n == some .cell) then (n, NameKind.cell) else (n, k) }
abbrev s_inputs : Stmt := topS 59
theorem sc_inputs : FnScope ["_law_state_here", "_law_core_here", "_law_kind", "_law_k"] ["_law_state_here", "_law_core_here"] (defScope s_inputs) := ⟨rfl, rfl, rfl, by decide +kernel, rfl, by decide +kernel, by decide +kernel⟩
def preInputs : List PyData → Prop := fun ds => ∃ (nc : Nat) (ks : List Str) (b : PyData), ds = [.tuple [.str "core", dn nc, .list (ks.map .str), b]] ∧ ks.length ≤ 100000
def rInputs : List PyData → PyData → Prop := fun ds d => ∃ (nc : Nat) (ks : List Str) (b : PyData) (inp : List (List Nat)), ds = [.tuple [.str "core", dn nc, .list (ks.map .str), b]] ∧ d = .list (inp.map dns) ∧ inp.length = ks.countP (fun k => decide (k = ("in" : Str))) ∧ ∀ row, row ∈ inp → ∀ x, x ∈ row → x < 65536
def isIn : PyData → Bool
  | .str x => decide (x = ("in" : Str))
  | _ => false
theorem ok_inputs (T : Txt K mg tW aF aS) (d : Def K mg "_law_inputs" s_inputs) (c_draw : CDraw P w K mg base) (c_pick : CPick P w K mg base) : Cal P w K mg base 3 "_law_inputs" ["_law_state_here", "_law_core_here"] (spS K preInputs rInputs) := by
  refine d.genS sc_inputs (fun ds ⟨_, _, _, z, _⟩ => by rw [z]; rfl) (fun _ _ _ _ _ _ us hl => match us, hl with | [_, _], _ => rfl) fun f cdv A outer s H E0' a c ds hr ⟨nc, ks, b, z, hk⟩ => ?_
  subst z
  refine ⟨_, 
      (pss_one (ps_ret (pe_lc (own := [("_law_kind", 2)]) (g := gName 2) (tt := (tTest (tOp rEq (tVar 2) (tC (.str "in"))))) rfl sc_inputs.nd (pi_list (pe_ix ix_tup (pv 1) pe_int (fun _ _ => rfl))) (blkOk_by (own := [("_law_kind", 2)]) (N := ["_law_state_here", "_law_core_here", "_law_kind", "_law_k"]) (sc := defScope s_inputs) (by decide +kernel)) (fun _ _ _ _ _ => (pg_name (i := 2) sc_inputs.nd rfl (Or.inl rfl))) (fun _ _ _ _ _ => pts_one (pt_cmpR op_eq (pv 2) pe_str (nomark _))) (fun _ _ _ _ _ => (pe_lc (own := [("_law_k", 3)]) (g := gName 3) (tt := tYes) rfl sc_inputs.nd (pi_range1 rfl T.range (pa_cons (pe_cal c_draw (hr.mono (by decide)) (pa_cons (pv 0) (pa_cons pe_int pa_nil))) pa_nil)) (by show BlkOk ["_law_state_here", "_law_core_here", "_law_kind", "_law_k"] (relab (lcScope (retE (defBody s_inputs))) (defScope s_inputs)) _ _; exact blkOk_by (by decide +kernel)) (fun _ _ _ _ _ => (pg_name (i := 3) sc_inputs.nd rfl (Or.inl rfl))) (fun _ _ _ _ _ => pts_nil) (fun _ _ _ _ _ => (pe_cal c_draw (hr.mono (by decide)) (pa_cons (pv 0) (pa_cons (pe_cal c_pick (hr.mono (by decide)) (pa_cons (pv 0) (pa_cons (pe_lst (pa_cons pe_int (pa_cons pe_int pa_nil))) pa_nil))) pa_nil))))))))), ?_⟩
  have h0 : (0, V.ref a) ∈ [(0, V.ref a)] := List.mem_singleton.mpr rfl
  refine xs_ret ((xl_lcL (ws := [2]) (ds := ks.map .str) isIn (fun k acc _ => ∃ inp : List (List Nat), acc = inp.map dns ∧ inp.length = (ks.take k).countP (fun k => decide (k = ("in" : Str))) ∧ ∀ row, row ∈ inp → ∀ x, x ∈ row → x < 65536) (ed_ix2 (ed_var (i := 1) rfl)) (by rw [List.length_map]; omega) ⟨[], rfl, rfl, fun _ h => (nomatch h)⟩ rfl
    (fun k acc γ1 ⟨inp, h1, h2, _⟩ => ?_) fun k x acc γ1 hx ⟨inp, h1, h2, h3⟩ => ?_).xe.mono fun d γ' x => ?_)
  · rw [h1, List.length_map, h2]
    have h4 := List.countP_le_length (p := fun k => decide (k = ("in" : Str))) (l := ks.take k)
    rw [List.length_take] at h4
    omega
  · rw [List.getElem?_map] at hx
    cases e : ks[k]? with
    | none => rw [e] at hx; cases hx
    | some y =>
    rw [e] at hx
    have z := Option.some.inj hx
    subst z
    have et : ks.take (k + 1) = ks.take k ++ [y] := by rw [List.take_add_one, e]; rfl
    refine ⟨_, eg_name, (eb_cmp (ed_eqS (ed_var rfl) ed_str)).eq rfl, fun hc => ?_, fun hc => ⟨inp, h1, ?_, h3⟩⟩
    · refine (xl_lcR (ws := [3]) (P1 := fun d _ => ∃ k : Nat, d = dn k ∧ k < 6) (fun k acc _ => ∃ row : List Nat, acc = row.map dn ∧ row.length = k ∧ ∀ x, x ∈ row → x < 65536) ((xe_drawC (m := 6) ed_int (by decide) (by decide) h0).mono fun d γ' ⟨k, e, hk⟩ => ⟨k, e, k, rfl, hk⟩)
        (fun n γ1 ⟨k, e, hk⟩ => ⟨?_, [], rfl, rfl, fun _ h => (nomatch h)⟩) rfl (fun k acc γ1 ⟨row, q1, q2, _⟩ => by rw [q1, List.length_map]; omega) fun n γ0 k acc γ1 _ hk ⟨row, q1, q2, q3⟩ => ⟨_, eg_name, ?_⟩).xe.mono fun d γ' q => ?_
      · have := dn_inj e
        omega
      · refine (xe_draw (P := fun d _ => ∃ k, k ∈ [4, 65536] ∧ d = dn k) (xe_pickI (ns := [4, 65536]) (ed_lst (ea_cons ed_int (ea_cons ed_int ea_nil))) (by decide) (by decide) h0) (fun d ⟨k, hk, e⟩ => ⟨k, e, ?_⟩) h0).mono fun d γ' ⟨m, k, ⟨m', hm, em⟩, e, hk⟩ => ⟨row ++ [k], by rw [q1, e, List.map_append]; rfl, by rw [List.length_append, q2]; rfl, fun x hx => ?_⟩
        · simp only [List.mem_cons, List.not_mem_nil, or_false] at hk
          omega
        · rcases List.mem_append.mp hx with z | z
          · exact q3 x z
          · rw [List.mem_singleton.mp z]
            have := dn_inj em
            simp only [List.mem_cons, List.not_mem_nil, or_false] at hm
            omega
      · obtain ⟨ds, rfl, n, γ0, _, row, q1, q2, q3⟩ := q
        refine ⟨inp ++ [row], by rw [h1, q1, List.map_append]; rfl, ?_, fun r hr => ?_⟩
        · have hc' : decide (y = ("in" : Str)) = true := hc
          rw [List.length_append, h2, et, List.countP_append, List.countP_singleton, hc']
          rfl
        · rcases List.mem_append.mp hr with z | z
          · exact h3 r z
          · rw [List.mem_singleton.mp z]; exact q3
    · have hc' : decide (y = ("in" : Str)) = false := hc
      rw [h2, et, List.countP_append, List.countP_singleton, hc']
      rfl
  · obtain ⟨ds, rfl, inp, h1, h2, h3⟩ := x
    rw [List.length_map, List.take_length] at h2
    exact ⟨nc, ks, b, inp, rfl, by rw [h1], h2, h3⟩
end
end Pa
/-! The world: its dict, the channels; more_cells, env, wrapped -/
namespace Pa
open PySem L2 PyProof.Rows
local macro_rules | `(tactic| walk_at "ed") => `(tactic| first
  | ((with_reducible show ED _ (tVar _) _ _); exact ed_var rfl)
  | ((with_reducible show ED _ (tC _) _ _); first | exact ed_int | exact ed_str | exact ed_non | exact ed_bl | exact ed_tupC T.fF | exact ed_tupC T.fS)
  | ((with_reducible show EA _ tNil _ _); exact ea_nil) | ((with_reducible show EA _ (tCons _ _) _ _); exact ea_cons (by walk_at "ed") (by walk_at "ed"))
  | ((with_reducible show ED _ (tTup _) _ _); exact ed_tup (by walk_at "ed")) | ((with_reducible show ED _ (tLst _) _ _); exact ed_lst (by walk_at "ed"))
  | ((with_reducible show ED _ (tOp (rI0 fun i j => V.int (i + j)) _ _) _ _); exact ed_add (by walk_at "ed") (by walk_at "ed"))
  | ((with_reducible show ED _ (tOp (rI0 fun i j => V.int (i - j)) _ _) _ _); exact ed_sub (by walk_at "ed") (by walk_at "ed"))
  | ((with_reducible show ED _ (tOp (rI0 fun i j => V.int (Builtin.bitAnd i j)) _ _) _ _); exact ed_and (by walk_at "ed") (by walk_at "ed"))
  | ((with_reducible show ED _ (tOp (rIxT _) _ (tC (.int 0))) _ _); exact ed_ix0 (by walk_at "ed")) | ((with_reducible show ED _ (tOp (rIxT _) _ (tC (.int 1))) _ _); exact ed_ix1 (by walk_at "ed"))
  | ((with_reducible show ED _ (tOp (rIxT _) _ (tC (.int 2))) _ _); exact ed_ix2 (by walk_at "ed")) | ((with_reducible show ED _ (tOp (rIxT _) _ (tC (.int 3))) _ _); exact ed_ix3 (by walk_at "ed"))
  | ((with_reducible show ED _ (tSl _ _ tNoPart (tPart _)) _ _); exact ed_take (by walk_at "ed") (by walk_at "ed")) | ((with_reducible show ED _ (tSl _ _ (tPart _) tNoPart) _ _); exact ed_dropI (by walk_at "ed") (by walk_at "ed") rfl)
  | ((with_reducible show ED _ (tOp rEq _ _) _ _); exact ed_eqS (by walk_at "ed") (by walk_at "ed"))
  | ((with_reducible show ED _ (tOp rEq _ _) _ _); exact ed_eqI (by walk_at "ed") (by walk_at "ed"))
  | ((with_reducible show ED _ (tOp (fun x y H Q => y = V.non ∧ Q (V.bl (decide (x = V.non))) H) _ _) _ _); exact ed_isN (by walk_at "ed"))
  | ((with_reducible show ED _ (tOp (rIn _ false) _ _) _ _); exact ed_in2 (by walk_at "ed"))
  | ((with_reducible show ED _ (tCB _ _) _ _); exact ed_len (by walk_at "ed")))
local macro_rules | `(tactic| walk_at "eb") => `(tactic| first
  | ((with_reducible show EB _ (tTest (tOp (rIn _ false) _ _)) _ _); exact (eb_cmp (ed_in2 (by walk_at "ed"))).eq (by decide +kernel))
  | ((with_reducible show EB _ (tTest (tOp rEq _ _)) _ _); exact (eb_cmp (ed_eqS (by walk_at "ed") (by walk_at "ed"))).eq (by decide +kernel)))

/-- what is known of the world; nth: the number of threads -/
structure Wo where
  nth : Nat
  left : Nat
  items : Nat
  cells : Nat
  ch : List Str
  loops : Bool
abbrev dnV (n : Nat) : V := .int (n : Int)
abbrev worldKV (ω : Wo) (ch : Addr) : List (Key × V) := [(.inr "threads", .int (ω.nth : Int)), (.inr "left", .int (ω.left : Int)), (.inr "items", .int (ω.items : Int)), (.inr "cells", .int (ω.cells : Int)), (.inr "channels", .ref ch), (.inr "alts", .bl false), (.inr "loops", .bl ω.loops)]
structure WdA (a c wd ch : Addr) (ω : Wo) (F H : Hp) : Prop where
  st : (RS a c).J () F H
  n1 : wd ≠ a
  n2 : wd ≠ c
  n3 : ch ≠ a
  n4 : ch ≠ c
  n5 : ch ≠ wd
  fw : F wd = none
  fc : F ch = none
  hw : H wd = some (.dK (worldKV ω ch))
  hc : H ch = some (.lst (ω.ch.map V.str))
theorem WdA.to {a c wd ch : Addr} {ω : Wo} {F H F' H' : Hp} (W : WdA a c wd ch ω F H) (st : (RS a c).J () F' H') (h1 : F' wd = none) (h2 : F' ch = none) (h3 : H' wd = H wd) (h4 : H' ch = H ch) : WdA a c wd ch ω F' H' :=
  ⟨st, W.n1, W.n2, W.n3, W.n4, W.n5, h1, h2, h3.trans W.hw, h4.trans W.hc⟩
def RW (a c wd ch : Addr) : Res Wo where
  M := fun b => (RS a c).M b ∨ b = wd ∨ b = ch
  J := fun ω F H => WdA a c wd ch ω F H
  thru := fun ω F H F' H' W z => W.to ((RS a c).thru _ _ _ _ _ W.st z) (z.away W.fw (some_ne W.hw)) (z.away W.fc (some_ne W.hc)) (by rw [W.hw]; exact z.h _ _ W.hw) (by rw [W.hc]; exact z.h _ _ W.hc)
  frz := fun ω F H p o W m fp => W.to ((RS a c).frz _ _ _ _ _ W.st (fun y => m (.inl y)) fp) (by rw [upd_ne fun y => m (.inr (.inl y.symm))]; exact W.fw) (by rw [upd_ne fun y => m (.inr (.inr y.symm))]; exact W.fc) rfl rfl
  ex := fun ω F H b W m => by
    rcases m with z | z | z
    · exact (RS a c).ex _ _ _ _ W.st z
    · subst z; exact ⟨some_ne W.hw, W.fw⟩
    · subst z; exact ⟨some_ne W.hc, W.fc⟩
  oth := fun ω F H p o W m fp => W.to ((RS a c).oth _ _ _ _ _ W.st (fun y => m (.inl y)) fp) W.fw W.fc (by rw [upd_ne fun y => m (.inr (.inl y.symm))]) (by rw [upd_ne fun y => m (.inr (.inr y.symm))])
theorem lift_RW {a c wd ch : Addr} : Lift (RS a c) (RW a c wd ch) (fun _ => ()) (fun ω _ => ω) :=
  ⟨fun _ h => .inl h, fun _ _ _ W => W.st, fun ω F H γ' F' H' W g jj => W.to jj (g.away W.fw (some_ne W.hw)) (g.away W.fc (some_ne W.hc))
    (by rw [W.hw]; exact g.h _ _ (fun y => y.elim W.n1 W.n2) W.hw) (by rw [W.hc]; exact g.h _ _ (fun y => y.elim W.n3 W.n4) W.hc)⟩
section
variable {K : PySem.W.Frag} {e : DE} {pn : List (Nat × V)} {te : TE} {a c wd ch : Addr} {ω : Wo} {P : PyData → Unit → Prop} {i : Nat} {Q : PyData → Prop}
/-- a reading that draws, beside the world -/
theorem XE.w (h : XE K (RS a c) te e pn () P) : XE K (RW a c wd ch) te e pn ω (fun d ω' => P d () ∧ ω' = ω) := (XE.lift lift_RW h).mono fun d δ ⟨γ', x, y⟩ => ⟨x, y⟩
theorem XB.w {tt : TT} {PB : Bool → Unit → Prop} (h : XB K (RS a c) tt e pn () PB) : XB K (RW a c wd ch) tt e pn ω (fun b ω' => PB b () ∧ ω' = ω) := (XB.lift lift_RW h).mono fun d δ ⟨γ', x, y⟩ => ⟨x, y⟩
theorem w_get {k : Str} {d : PyData} (hi : (i, V.ref wd) ∈ pn) (hk : ∃ v, valV (worldKV ω ch) (.inr k) = some v ∧ ∀ F, Da K F v d) : XE K (RW a c wd ch) (tDGet (tVar i) (tC (.str k))) e pn ω (fun d' ω' => d' = d ∧ ω' = ω) := fun σ F H Q f s p W q => by
  obtain ⟨v, h1, h2⟩ := hk
  have g := DGet.k (k := .inr k) W.hw
  rw [h1] at g
  exact ⟨_, p i _ hi, wd, v, rfl, g, q v d ω F H (Gr.refl f) W ⟨rfl, rfl⟩ (h2 F)⟩
theorem w_threads (hi : (i, V.ref wd) ∈ pn) : XE K (RW a c wd ch) (tDGet (tVar i) (tC (.str "threads"))) e pn ω (fun d' ω' => d' = dn ω.nth ∧ ω' = ω) := w_get hi ⟨_, valV_pos rfl, fun F => .int _⟩
theorem w_left (hi : (i, V.ref wd) ∈ pn) : XE K (RW a c wd ch) (tDGet (tVar i) (tC (.str "left"))) e pn ω (fun d' ω' => d' = dn ω.left ∧ ω' = ω) := w_get hi ⟨_, by rw [worldKV, valV_neg (nk (by decide +kernel))]; exact valV_pos rfl, fun F => .int _⟩
theorem w_items (hi : (i, V.ref wd) ∈ pn) : XE K (RW a c wd ch) (tDGet (tVar i) (tC (.str "items"))) e pn ω (fun d' ω' => d' = dn ω.items ∧ ω' = ω) := w_get hi ⟨_, by rw [worldKV, valV_neg (nk (by decide +kernel)), valV_neg (nk (by decide +kernel))]; exact valV_pos rfl, fun F => .int _⟩
theorem w_cells (hi : (i, V.ref wd) ∈ pn) : XE K (RW a c wd ch) (tDGet (tVar i) (tC (.str "cells"))) e pn ω (fun d' ω' => d' = dn ω.cells ∧ ω' = ω) := w_get hi ⟨_, by rw [worldKV, valV_neg (nk (by decide +kernel)), valV_neg (nk (by decide +kernel)), valV_neg (nk (by decide +kernel))]; exact valV_pos rfl, fun F => .int _⟩
theorem w_alts (hi : (i, V.ref wd) ∈ pn) : XE K (RW a c wd ch) (tDGet (tVar i) (tC (.str "alts"))) e pn ω (fun d' ω' => d' = .bool false ∧ ω' = ω) := w_get hi ⟨_, by rw [worldKV, valV_neg (nk (by decide +kernel)), valV_neg (nk (by decide +kernel)), valV_neg (nk (by decide +kernel)), valV_neg (nk (by decide +kernel)), valV_neg (nk (by decide +kernel))]; exact valV_pos rfl, fun F => .bl _⟩
theorem w_loops (hi : (i, V.ref wd) ∈ pn) : XE K (RW a c wd ch) (tDGet (tVar i) (tC (.str "loops"))) e pn ω (fun d' ω' => d' = .bool ω.loops ∧ ω' = ω) := w_get hi ⟨_, by rw [worldKV, valV_neg (nk (by decide +kernel)), valV_neg (nk (by decide +kernel)), valV_neg (nk (by decide +kernel)), valV_neg (nk (by decide +kernel)), valV_neg (nk (by decide +kernel)), valV_neg (nk (by decide +kernel))]; exact valV_pos rfl, fun F => .bl _⟩
theorem putK_map {kvs : List (Key × V)} {k : Key} {v : V} (h : (valV kvs k).isSome = true) : putK kvs k v = kvs.map fun kv => if kv.1 = k then (kv.1, v) else kv := by
  unfold putK
  rw [valV_any, h]
  exact if_pos rfl
/-- world[k] = e -/
theorem xs_wput {k : Str} {P : PyData → Wo → Prop} {N : Wo → Prop} {Z : PyData → Wo → Prop} (hi : (i, V.ref wd) ∈ pn) (h : XE K (RW a c wd ch) te e pn ω P) (hu : ∀ d ω1, P d ω1 → ∃ (n : Nat) (ω2 : Wo), d = dn n ∧ putK (worldKV ω1 ch) (.inr k) (.int (n : Int)) = worldKV ω2 ch ∧ ω2.ch = ω1.ch ∧ N ω2) :
    XS K (RW a c wd ch) (sDPut (tVar i) (tC (.str k)) te) e pn ω (fun e' ω' => e' = e ∧ N ω') Z := fun D σ F H f s p W q r => h σ F H _ f s p W fun v d ω1 F1 H1 g1 W1 x1 a1 => by
  obtain ⟨n, ω2, rfl, h1, h2, h3⟩ := hu d ω1 x1
  cases a1.intI
  refine ⟨_, p i _ hi, wd, _, rfl, DPut.k (k := .inr k) W1.hw (line_lt (show 7 ≤ 16000000 by decide)), ?_⟩
  rw [h1]
  have g2 : Gr (RW a c wd ch).M No F1 H1 F1 (upd H1 wd (.dK (worldKV ω2 ch))) := Gr.put g1.sub (.inr (.inl rfl)) W1.fw
  refine q σ e ω2 F1 _ (g1.trans g2) ⟨(RS a c).oth _ _ _ _ _ W1.st (fun y => y.elim W1.n1 W1.n2) W1.fw, W1.n1, W1.n2, W1.n3, W1.n4, W1.n5, W1.fw, W1.fc, upd_same, ?_⟩ (s.mono g1.f) p ⟨rfl, h3⟩
  rw [upd_ne W1.n5, h2]
  exact W1.hc
theorem nk2 {x y : Str} (h : decide (x = y) = false) : ((Sum.inr x : Key) = Sum.inr y) = False := propext ⟨nk h, False.elim⟩
theorem put_cells {n : Nat} : putK (worldKV ω ch) (.inr "cells") (.int (n : Int)) = worldKV { ω with cells := n } ch := by
  rw [putK_map (by rw [worldKV, valV_neg (nk (by decide +kernel)), valV_neg (nk (by decide +kernel)), valV_neg (nk (by decide +kernel)), valV_pos rfl]; rfl)]
  simp only [worldKV, List.map_cons, List.map_nil, nk2 (x := "threads") (y := "cells") (by decide +kernel), nk2 (x := "left") (y := "cells") (by decide +kernel), nk2 (x := "items") (y := "cells") (by decide +kernel), nk2 (x := "channels") (y := "cells") (by decide +kernel), nk2 (x := "alts") (y := "cells") (by decide +kernel), nk2 (x := "loops") (y := "cells") (by decide +kernel), if_false, if_true]
theorem put_items {n : Nat} : putK (worldKV ω ch) (.inr "items") (.int (n : Int)) = worldKV { ω with items := n } ch := by
  rw [putK_map (by rw [worldKV, valV_neg (nk (by decide +kernel)), valV_neg (nk (by decide +kernel)), valV_pos rfl]; rfl)]
  simp only [worldKV, List.map_cons, List.map_nil, nk2 (x := "threads") (y := "items") (by decide +kernel), nk2 (x := "left") (y := "items") (by decide +kernel), nk2 (x := "cells") (y := "items") (by decide +kernel), nk2 (x := "channels") (y := "items") (by decide +kernel), nk2 (x := "alts") (y := "items") (by decide +kernel), nk2 (x := "loops") (y := "items") (by decide +kernel), if_false, if_true]
theorem put_left {n : Nat} : putK (worldKV ω ch) (.inr "left") (.int (n : Int)) = worldKV { ω with left := n } ch := by
  rw [putK_map (by rw [worldKV, valV_neg (nk (by decide +kernel)), valV_pos rfl]; rfl)]
  simp only [worldKV, List.map_cons, List.map_nil, nk2 (x := "threads") (y := "left") (by decide +kernel), nk2 (x := "items") (y := "left") (by decide +kernel), nk2 (x := "cells") (y := "left") (by decide +kernel), nk2 (x := "channels") (y := "left") (by decide +kernel), nk2 (x := "alts") (y := "left") (by decide +kernel), nk2 (x := "loops") (y := "left") (by decide +kernel), if_false, if_true]
theorem put_threads {n : Nat} : putK (worldKV ω ch) (.inr "threads") (.int (n : Int)) = worldKV { ω with nth := n } ch := by
  rw [putK_map (by rw [worldKV, valV_pos rfl]; rfl)]
  simp only [worldKV, List.map_cons, List.map_nil, nk2 (x := "left") (y := "threads") (by decide +kernel), nk2 (x := "items") (y := "threads") (by decide +kernel), nk2 (x := "cells") (y := "threads") (by decide +kernel), nk2 (x := "channels") (y := "threads") (by decide +kernel), nk2 (x := "alts") (y := "threads") (by decide +kernel), nk2 (x := "loops") (y := "threads") (by decide +kernel), if_false, if_true]
end
/-- the promise of a def beside the world -/
def spW (K : PySem.W.Frag) (arr : V → V → List V → List V) (Pre : List PyData → Wo → Prop) (Rr : List PyData → Wo → PyData → Wo → Prop) : Sp := fun vs H Q _ => ∃ (a c wd ch : Addr) (F : Hp) (ws : List V) (ds : List PyData) (ω : Wo), vs = arr (.ref a) (.ref wd) ws ∧ Same F H ∧ (RW a c wd ch).J ω F H ∧ Das K F ws ds ∧ Pre ds ω ∧
  ∀ v d ω' F' H', Gr (RW a c wd ch).M No F H F' H' → (RW a c wd ch).J ω' F' H' → Rr ds ω d ω' → Da K F' v d → Q v H'
section
variable {P : Program} {w : World} {K : PySem.W.Frag} {mg : Str → Option Value} {base : Heap} {tW : Tok} {aF aS : Addr}
def arrM : V → V → List V → List V := fun _ w ws => w :: ws
abbrev s_more_cells : Stmt := topS 49
theorem sc_more_cells : FnScope ["_law_world", "_law_many"] ["_law_world", "_law_many"] (defScope s_more_cells) := ⟨rfl, rfl, rfl, by decide +kernel, rfl, by decide +kernel, by decide +kernel⟩
def preMore : List PyData → Wo → Prop := fun ds _ => ∃ n : Nat, ds = [dn n]
def rMore : List PyData → Wo → PyData → Wo → Prop := fun ds ω d ω' => ∃ n : Nat, ds = [dn n] ∧ d = dn ω.cells ∧ ω' = { ω with cells := ω.cells + n }
theorem ok_more_cells (d : Def K mg "_law_more_cells" s_more_cells) : Cal P w K mg base 1 "_law_more_cells" ["_law_world", "_law_many"] (spW K arrM preMore rMore) := by
  refine d.cal sc_more_cells (fun vs H Q E ⟨a, c, wd, ch, F, ws, ds, ω, z, _, _, h, ⟨n, pr⟩, _⟩ => by rw [z]; show (_ :: ws).length = _; rw [List.length_cons, h.length, pr]; rfl) (fun _ _ _ _ _ _ us hl => match us, hl with | [_, _], _ => rfl) fun f cdv A outer s H vs Q E hr ⟨a, c, wd, ch, F, ws, ds, ω, z, fs, W, h, ⟨n, pr⟩, q⟩ => ?_
  subst z
  subst pr
  obtain ⟨v1, rfl, hv1⟩ := h.inv1
  cases hv1.intI
  have hu := hu_of hr
  refine ⟨_, 
      (pss_cons (ps_dput hu (pv 0) pe_str (pe_op op_add (pe_dget hu (pv 0) pe_str (fun _ _ => rfl)) (pv 1)) rfl) (pss_one (ps_ret (pe_op op_sub (pe_dget hu (pv 0) pe_str (fun _ _ => rfl)) (pv 1))))), ?_⟩
  have h0 : (0, V.ref wd) ∈ [(0, V.ref wd)] := List.mem_singleton.mpr rfl
  have X : XS K (RW a c wd ch) (tSeq (sDPut (tVar 0) (tC (.str "cells")) (tOp (rI0 fun i j => V.int (i + j)) (tDGet (tVar 0) (tC (.str "cells"))) (tVar 1))) (tRet (tOp (rI0 fun i j => V.int (i - j)) (tDGet (tVar 0) (tC (.str "cells"))) (tVar 1)))) [none, some (dn n)] [(0, V.ref wd)] ω (fun _ _ => False) (fun d ω' => d = dn ω.cells ∧ ω' = { ω with cells := ω.cells + n }) := by
    refine xs_seq (xs_wput (N := fun ω' => ω' = { ω with cells := ω.cells + n }) h0 (xe_op (res := fun d1 d2 => match d1, d2 with | .int i, .int j => .int (i + j) | _, _ => .none) (P2 := fun d1 d2 ω' => d1 = dn ω.cells ∧ d2 = dn n ∧ ω' = ω) (w_cells h0) (fun d1 ω1 x => (xe_ed (ed_var (i := 1) rfl)).mono fun d2 ω2 y => ⟨x.1, y.1, y.2.trans x.2⟩) fun d1 d2 ω2 x => by
      obtain ⟨rfl, rfl, _⟩ := x
      exact rd_I0 (f := fun i j => .int (i + j)) fun i j H => .int _) fun d ω1 x => ?_) fun e1 ω1 ⟨h1, h2⟩ => ?_
    · obtain ⟨d1, d2, ⟨rfl, rfl, rfl⟩, rfl⟩ := x
      exact ⟨ω1.cells + n, _, rfl, put_cells, rfl, rfl⟩
    · subst h1
      subst h2
      refine xs_ret ((xe_op (res := fun d1 d2 => match d1, d2 with | .int i, .int j => .int (i - j) | _, _ => .none) (P2 := fun d1 d2 ω' => d1 = dn (ω.cells + n) ∧ d2 = dn n ∧ ω' = { ω with cells := ω.cells + n }) (w_cells h0) (fun d1 ω1 x => (xe_ed (ed_var (i := 1) rfl)).mono fun d2 ω2 y => ⟨x.1, y.1, y.2.trans x.2⟩) fun d1 d2 ω2 x => by
        obtain ⟨rfl, rfl, _⟩ := x
        exact rd_I0 (f := fun i j => .int (i - j)) fun i j H => .int _).mono fun d ω' x => ?_)
      obtain ⟨d1, d2, ⟨rfl, rfl, rfl⟩, rfl⟩ := x
      exact ⟨congrArg PyData.int (by omega), rfl⟩
  refine X _ _ F H fs ⟨rfl, fun i d q => ?_⟩ (fun i v hi => ?_) W (fun _ _ _ _ _ _ _ _ _ x => x.elim) fun v d ω' F' H' g W' aa x => q v d ω' F' H' g W' ⟨n, rfl, x.1, x.2⟩ aa
  · match i, q with
    | 1, q => cases q; exact ⟨_, rfl, .int _⟩
  · cases List.mem_singleton.mp hi
    rfl
theorem xe_more {a c wd ch : Addr} {ω : Wo} {e : DE} {te : TE} {pn : List (Nat × V)} {i n : Nat} (h : ED K te e (dn n)) (hi : (i, V.ref wd) ∈ pn) : XE K (RW a c wd ch) (tCall (spW K arrM preMore rMore) [] E0 (tCons (tVar i) (tCons te tNil))) e pn ω (fun d ω' => d = dn ω.cells ∧ ω' = { ω with cells := ω.cells + n }) := fun σ F H Q f s p W q =>
  ⟨_, p i _ hi, h σ F H _ f s fun v F1 H1 z a1 => ⟨a, c, wd, ch, F1, [v], [dn n], ω, rfl, z.sub, (RW a c wd ch).thru _ _ _ _ _ W z, .cons a1 .nil, ⟨n, rfl⟩, fun v2 d ω' F' H' g W' ⟨n', e1, e2, e3⟩ a2 => q v2 d ω' F' H' (z.gr.trans g) W' (by
    simp only [List.cons.injEq, and_true] at e1
    have := dn_inj e1
    subst this
    exact ⟨e2, e3⟩) a2⟩⟩
/-- an environment's dict at d, its lists: cells, reads, gives, takes; the spans frozen -/
structure EnvM (K : PySem.W.Frag) (F H : Hp) (d p0 p1 : Addr) (x2 : V) (p3 p4 : Addr) (E : Sur) : Prop where
  nd : [d, p0, p1, p3, p4].Nodup
  fn : ∀ b, b ∈ [d, p0, p1, p3, p4] → F b = none
  hd : H d = some (.dK (envKV (.ref p0) (.ref p1) x2 (.ref p3) (.ref p4)))
  h0 : H p0 = some (.lst ((E.cells.map dnV)))
  h1 : H p1 = some (.lst ((E.reads.map dnV)))
  a2 : Da K F x2 (spansD E.spans)
  h3 : H p3 = some (.lst ((E.gives.map dnV)))
  h4 : H p4 = some (.lst ((E.takes.map dnV)))
theorem EnvM.some {F H : Hp} {d p0 p1 p3 p4 : Addr} {x2 : V} {E : Sur} (m : EnvM K F H d p0 p1 x2 p3 p4 E) : ∀ b, b ∈ [d, p0, p1, p3, p4] → H b ≠ none := fun b hb => by
  simp only [List.mem_cons, List.not_mem_nil, or_false] at hb
  rcases hb with rfl | rfl | rfl | rfl | rfl
  · exact some_ne m.hd
  · exact some_ne m.h0
  · exact some_ne m.h1
  · exact some_ne m.h3
  · exact some_ne m.h4
theorem EnvM.thru {M : Addr → Prop} {F H F' H' : Hp} {d p0 p1 p3 p4 : Addr} {x2 : V} {E : Sur} (m : EnvM K F H d p0 p1 x2 p3 p4 E) (g : Gr M No F H F' H') (hm : ∀ b, b ∈ [d, p0, p1, p3, p4] → ¬ M b) : EnvM K F' H' d p0 p1 x2 p3 p4 E :=
  ⟨m.nd, fun b hb => g.away (m.fn b hb) (m.some b hb), g.h _ _ (hm d (by simp)) m.hd, g.h _ _ (hm p0 (by simp)) m.h0, g.h _ _ (hm p1 (by simp)) m.h1, m.a2.mono g.f, g.h _ _ (hm p3 (by simp)) m.h3, g.h _ _ (hm p4 (by simp)) m.h4⟩
def spEnv (K : PySem.W.Frag) : Sp := fun vs H Q _ => ∃ (a c wd ch : Addr) (F : Hp) (ω : Wo), vs = [.ref a, .ref wd] ∧ Same F H ∧ (RW a c wd ch).J ω F H ∧
  ∀ (d p0 p1 p3 p4 : Addr) (x2 : V) (k : Nat) (sp : List (Nat × Nat)) (F' H' : Hp), Gr (RW a c wd ch).M No F H F' H' → (RW a c wd ch).J { ω with cells := ω.cells + 2 + k } F' H' → EnvM K F' H' d p0 p1 x2 p3 p4 ⟨[ω.cells, ω.cells + 1], [ω.cells, ω.cells + 1], sp, [], []⟩ →
    (∀ b, b ∈ [d, p0, p1, p3, p4] → H b = none) → k ≤ 4 → (∀ s, s ∈ sp → s = (ω.cells + 2, k)) → sp.length ≤ 1 → Q (.ref d) H'
theorem merge_env {x0 x1 x2 x3 x4 : V} : mergeK [] (envKV x0 x1 x2 x3 x4) = envKV x0 x1 x2 x3 x4 := by
  have h1 : valV ([] : List (Key × V)) (.inr "cells") = none := valV_nil
  have h2 : valV [((.inr "cells" : Key), x0)] (.inr "reads") = none := by rw [valV_neg (nk (by decide +kernel))]; rfl
  have h3 : valV [((.inr "cells" : Key), x0), (.inr "reads", x1)] (.inr "spans") = none := by rw [valV_neg (nk (by decide +kernel)), valV_neg (nk (by decide +kernel))]; rfl
  have h4 : valV [((.inr "cells" : Key), x0), (.inr "reads", x1), (.inr "spans", x2)] (.inr "gives") = none := by rw [valV_neg (nk (by decide +kernel)), valV_neg (nk (by decide +kernel)), valV_neg (nk (by decide +kernel))]; rfl
  have h5 : valV [((.inr "cells" : Key), x0), (.inr "reads", x1), (.inr "spans", x2), (.inr "gives", x3)] (.inr "takes") = none := by rw [valV_neg (nk (by decide +kernel)), valV_neg (nk (by decide +kernel)), valV_neg (nk (by decide +kernel)), valV_neg (nk (by decide +kernel))]; rfl
  unfold mergeK
  simp only [envKV, List.foldl_cons, List.foldl_nil]
  rw [putK_new _ h1]
  simp only [List.nil_append]
  rw [putK_new _ h2]
  simp only [List.cons_append, List.nil_append]
  rw [putK_new _ h3]
  simp only [List.cons_append, List.nil_append]
  rw [putK_new _ h4]
  simp only [List.cons_append, List.nil_append]
  rw [putK_new _ h5]
  rfl
theorem upd_none {H : Hp} {a b : Addr} {o : HO} (h : upd H a o b = none) : b ≠ a ∧ H b = none := by
  by_cases e : b = a
  · subst e; rw [upd_same] at h; cases h
  · rw [upd_ne e] at h; exact ⟨e, h⟩
theorem put_spans {x0 x1 x2 x3 x4 y : V} : putK (envKV x0 x1 x2 x3 x4) (.inr "spans") y = envKV x0 x1 y x3 x4 := by
  rw [putK_map (by rw [envKV, valV_neg (nk (by decide +kernel)), valV_neg (nk (by decide +kernel)), valV_pos rfl]; rfl)]
  simp only [envKV, List.map_cons, List.map_nil, nk2 (x := "cells") (y := "spans") (by decide +kernel), nk2 (x := "reads") (y := "spans") (by decide +kernel), nk2 (x := "gives") (y := "spans") (by decide +kernel), nk2 (x := "takes") (y := "spans") (by decide +kernel), if_false, if_true]
abbrev s_env : Stmt := topS 50
theorem sc_env : FnScope ["_law_state_here", "_law_world", "_law_first", "_law_env_here", "_law_size"] ["_law_state_here", "_law_world"] (defScope s_env) := ⟨rfl, rfl, rfl, by decide +kernel, rfl, by decide +kernel, by decide +kernel⟩
theorem ok_env (T : Txt K mg tW aF aS) (d : Def K mg "_law_env" s_env) (c_draw : CDraw P w K mg base) (c_more_cells : Cal P w K mg base 1 "_law_more_cells" ["_law_world", "_law_many"] (spW K arrM preMore rMore)) : Cal P w K mg base 2 "_law_env" ["_law_state_here", "_law_world"] (spEnv K) := by
  refine d.cal sc_env (fun vs H Q E ⟨a, c, wd, ch, F, ω, z, _⟩ => by rw [z]; rfl) (fun _ _ _ _ _ _ us hl => match us, hl with | [_, _], _ => rfl) fun f cdv A outer s H vs Q E hr ⟨a, c, wd, ch, F, ω, z, fs, W, q⟩ => ?_
  subst z
  have hu := hu_of hr
  refine ⟨_, 
      (pss_cons (ps_set (i := 2) sc_env.nd rfl (Or.inl rfl) (pe_cal c_more_cells (hr.mono (by decide)) (pa_cons (pv 1) (pa_cons pe_int pa_nil))))
      (pss_cons (ps_set (i := 3) sc_env.nd rfl (Or.inl rfl) (pe_disp (pps_cons pe_str (pe_lst (pa_cons (pv 2) (pa_cons (pe_op op_add (pv 2) pe_int) pa_nil))) (pps_cons pe_str (pe_lst (pa_cons (pv 2) (pa_cons (pe_op op_add (pv 2) pe_int) pa_nil))) (pps_cons pe_str (pe_lst pa_nil) (pps_cons pe_str (pe_lst pa_nil) (pps_cons pe_str (pe_lst pa_nil) pps_nil))))) (by rfl) (by rfl) (fun z => by cases z) (by decide)))
      (pss_cons (ps_if (PW.pt (pw_and (pt_cmpR op_lt (pe_dget hu (pv 1) pe_str (fun _ _ => rfl)) pe_int (nomark _)) (pw_and1 (pt_cmpR op_eq (pe_cal c_draw (hr.mono (by decide)) (pa_cons (pv 0) (pa_cons pe_int pa_nil))) pe_int (nomark _)))))
      (pss_cons (ps_set (i := 4) sc_env.nd rfl (Or.inl rfl) (pe_op op_add pe_int (pe_cal c_draw (hr.mono (by decide)) (pa_cons (pv 0) (pa_cons pe_int pa_nil)))))
      (pss_one (ps_dput hu (pv 3) pe_str (pe_lst (pa_cons (pe_tup (pa_cons (pe_cal c_more_cells (hr.mono (by decide)) (pa_cons (pv 1) (pa_cons (pv 4) pa_nil))) (pa_cons (pv 4) pa_nil))) pa_nil)) rfl))) pss_nil)
      (pss_one (ps_ret (pv 3)))))), ?_⟩
  let pn : List (Nat × V) := [(0, V.ref a), (1, V.ref wd)]
  have ha : (0, V.ref a) ∈ pn := List.mem_cons_self ..
  have hw : (1, V.ref wd) ∈ pn := List.mem_cons_of_mem _ (List.mem_cons_self ..)
  have pins : ∀ σ : L2.St, σ[0]? = some (some (.ref a)) → σ[1]? = some (some (.ref wd)) → Pins σ pn := fun σ h0 h1 i v hi => by
    rcases List.mem_cons.mp hi with z | z
    · cases z; exact h0
    · cases List.mem_singleton.mp z; exact h1
  refine asg_next ?_
  refine xe_more (e := [none, none, none, none, none]) (pn := pn) (n := 2) ed_int hw _ F H _ fs ⟨rfl, fun i d q => by match i, q with | 0, q => cases q | 1, q => cases q | 2, q => cases q | 3, q => cases q | 4, q => cases q⟩ (pins _ rfl rfl) W fun v1 dd ω1 F1 H1 g1 W1 hx a1 => ?_
  obtain ⟨rfl, rfl⟩ := hx
  cases a1.intI
  refine asg_next ?_
  refine fun d nd => ?_
  refine ⟨_, rfl, _, rfl, _, _, rfl, rfl, line_le (show 2 ≤ 16000000 by decide), fun p0 n0 => ?_⟩
  refine ⟨_, rfl, _, rfl, _, _, rfl, rfl, line_le (show 2 ≤ 16000000 by decide), fun p1 n1 => ?_⟩
  refine ⟨Nat.zero_le _, fun p2 n2 => ?_⟩
  refine ⟨Nat.zero_le _, fun p3 n3 => ?_⟩
  refine ⟨Nat.zero_le _, fun p4 n4 => ?_⟩
  obtain ⟨d0, n0⟩ := upd_none n0
  obtain ⟨d1, n1⟩ := upd_none n1
  obtain ⟨e1, n1⟩ := upd_none n1
  obtain ⟨d2, n2⟩ := upd_none n2
  obtain ⟨e2, n2⟩ := upd_none n2
  obtain ⟨f2, n2⟩ := upd_none n2
  obtain ⟨d3, n3⟩ := upd_none n3
  obtain ⟨e3, n3⟩ := upd_none n3
  obtain ⟨f3, n3⟩ := upd_none n3
  obtain ⟨g3, n3⟩ := upd_none n3
  obtain ⟨d4, n4⟩ := upd_none n4
  obtain ⟨e4, n4⟩ := upd_none n4
  obtain ⟨f4, n4⟩ := upd_none n4
  obtain ⟨i4, n4⟩ := upd_none n4
  obtain ⟨j4, n4⟩ := upd_none n4
  refine ⟨by rw [upd_ne (Ne.symm j4), upd_ne (Ne.symm g3), upd_ne (Ne.symm f2), upd_ne (Ne.symm e1), upd_ne (Ne.symm d0), upd_same], envKV (.ref p0) (.ref p1) (.ref p2) (.ref p3) (.ref p4), rfl, (show 5 ≤ 15 by decide), ?_⟩
  rw [merge_env]
  have fd := g1.sub.free nd
  have f0 := g1.sub.free n0
  have f1 := g1.sub.free n1
  have fp2 := g1.sub.free n2
  have fp3 := g1.sub.free n3
  have fp4 := g1.sub.free n4
  have fro : ∀ (L0 L1 : List V), L0 = [dnV ω.cells, dnV (ω.cells + 1)] → L1 = [dnV ω.cells, dnV (ω.cells + 1)] → ∀ Hn : Hp, Hn = upd (upd (upd (upd (upd (upd (upd H1 d (.dK [])) p0 (.lst L0)) p1 (.lst L1)) p2 (.lst [])) p3 (.lst [])) p4 (.lst [])) d (.dK (envKV (.ref p0) (.ref p1) (.ref p2) (.ref p3) (.ref p4))) →
      Gr (RW a c wd ch).M No F H (upd F1 p2 (.lst [])) Hn ∧ (RW a c wd ch).J { ω with cells := ω.cells + 2 } (upd F1 p2 (.lst [])) Hn ∧ EnvM K (upd F1 p2 (.lst [])) Hn d p0 p1 (.ref p2) p3 p4 ⟨[ω.cells, ω.cells + 1], [ω.cells, ω.cells + 1], [], [], []⟩ := by
    rintro L0 L1 hL0 hL1 Hn rfl
    have z := (((((((Fz.refl g1.sub).mut (o := .dK []) nd fd).mut (o := .lst L0) n0 f0).mut (o := .lst L1) n1 f1).mut (o := .lst []) n2 fp2).mut (o := .lst []) n3 fp3).mut (o := .lst []) n4 fp4).mut (o := .dK (envKV (.ref p0) (.ref p1) (.ref p2) (.ref p3) (.ref p4))) nd fd
    have hp2 : upd (upd (upd (upd (upd (upd (upd H1 d (.dK [])) p0 (.lst L0)) p1 (.lst L1)) p2 (.lst [])) p3 (.lst [])) p4 (.lst [])) d (.dK (envKV (.ref p0) (.ref p1) (.ref p2) (.ref p3) (.ref p4))) p2 = some (.lst []) := by rw [upd_ne f2, upd_ne (Ne.symm e4), upd_ne (Ne.symm d3), upd_same]
    have m2 : ¬ (RW a c wd ch).M p2 := fun y => ((RW a c wd ch).ex _ _ _ _ W1 y).1 n2
    refine ⟨gr_freeze (g1.trans z.gr) (g1.none_of n2) fp2 hp2, (RW a c wd ch).frz _ _ _ _ _ ((RW a c wd ch).thru _ _ _ _ _ W1 z) m2 fp2, ?_⟩
    refine ⟨by simp [d0, Ne.symm d0, d1, Ne.symm d1, e1, Ne.symm e1, e3, Ne.symm e3, f3, Ne.symm f3, g3, Ne.symm g3, d4, Ne.symm d4, f4, Ne.symm f4, i4, Ne.symm i4, j4, Ne.symm j4], fun b hb => ?_, upd_same, ?_, ?_, ?_, ?_, ?_⟩
    · simp only [List.mem_cons, List.not_mem_nil, or_false] at hb
      rcases hb with rfl | rfl | rfl | rfl | rfl
      · rw [upd_ne (Ne.symm f2)]; exact fd
      · rw [upd_ne (Ne.symm e2)]; exact f0
      · rw [upd_ne (Ne.symm d2)]; exact f1
      · rw [upd_ne d3]; exact fp3
      · rw [upd_ne e4]; exact fp4
    · rw [upd_ne d0, upd_ne (Ne.symm i4), upd_ne (Ne.symm f3), upd_ne (Ne.symm e2), upd_ne (Ne.symm d1), upd_same, hL0]; rfl
    · rw [upd_ne e1, upd_ne (Ne.symm f4), upd_ne (Ne.symm e3), upd_ne (Ne.symm d2), upd_same, hL1]; rfl
    · exact .lst upd_same .nil
    · rw [upd_ne g3, upd_ne (Ne.symm d4), upd_same]; rfl
    · rw [upd_ne j4, upd_same]; rfl
  dsimp only
  obtain ⟨gn, Wn, En⟩ := fro [V.int (ω.cells : Int), V.int ((ω.cells : Int) + 1)] [V.int (ω.cells : Int), V.int ((ω.cells : Int) + 1)] rfl rfl _ rfl
  generalize upd (upd (upd (upd (upd (upd (upd H1 d (.dK [])) p0 (.lst [V.int (ω.cells : Int), V.int ((ω.cells : Int) + 1)])) p1 (.lst [V.int (ω.cells : Int), V.int ((ω.cells : Int) + 1)])) p2 (.lst [])) p3 (.lst [])) p4 (.lst [])) d (.dK (envKV (.ref p0) (.ref p1) (.ref p2) (.ref p3) (.ref p4))) = Hn at gn Wn En ⊢
  generalize upd F1 p2 (.lst []) = Fn at gn Wn En
  have new : ∀ b, b ∈ [d, p0, p1, p3, p4] → H b = none := fun b hb => by
    simp only [List.mem_cons, List.not_mem_nil, or_false] at hb
    rcases hb with rfl | rfl | rfl | rfl | rfl
    · exact g1.none_of nd
    · exact g1.none_of n0
    · exact g1.none_of n1
    · exact g1.none_of n3
    · exact g1.none_of n4
  have nm : ∀ b, b ∈ [d, p0, p1, p3, p4] → ¬ (RW a c wd ch).M b := fun b hb y => ((RW a c wd ch).ex _ _ _ _ W y).1 (new b hb)
  let e3 : DE := [none, none, some (dn ω.cells), none, none]
  have sd3 : SD K Fn [some (.ref a), some (.ref wd), some (.int (ω.cells : Int)), some (.ref d), none] e3 := ⟨rfl, fun i x q => by match i, q with | 0, q => cases q | 1, q => cases q | 2, q => (cases q; exact ⟨_, rfl, .int _⟩) | 3, q => cases q | 4, q => cases q⟩
  refine seq_intro (if_intro ?_)
  refine (xb_and (PB1 := fun _ ω' => ω' = { ω with cells := ω.cells + 2 }) (PB := fun _ ω' => ω' = { ω with cells := ω.cells + 2 }) ((xb_cmp (P := fun d ω' => (∃ b, d = .bool b) ∧ ω' = { ω with cells := ω.cells + 2 }) ((xe_op (res := fun d1 d2 => match d1, d2 with | .int i, .int j => .bool (decide (i < j)) | _, _ => .none) (P2 := fun d1 d2 ω' => d1 = dn (ω.cells + 2) ∧ d2 = .int 30 ∧ ω' = { ω with cells := ω.cells + 2 }) (w_cells hw) (fun d1 ω1 x => (xe_ed ed_int).mono fun d2 ω2 y => ⟨x.1, y.1, y.2.trans x.2⟩) fun d1 d2 ω2 x => by
      obtain ⟨rfl, rfl, _⟩ := x
      exact rd_I0 (f := fun i j => .bool (decide (i < j))) fun i j H => .bl _).mono fun d ω' x => by
        obtain ⟨d1, d2, ⟨rfl, rfl, h⟩, rfl⟩ := x
        exact ⟨⟨_, rfl⟩, h⟩) fun d ω' x => x.1).mono fun b ω' x => x.2) (fun ω1 h1 => (XB.w (xb_eqC (xe_drawC (m := 3) ed_int (by decide) (by decide) ha) fun d ⟨k, hd, _⟩ => ⟨k, hd⟩)).mono fun b ω' x => x.2.trans h1) (fun ω1 h1 => h1)) _ Fn Hn _ gn.sub sd3 (pins _ rfl rfl) Wn fun b ω3 F3 H3 g3' W3 hω => ?_
  subst hω
  have E3 := En.thru g3' nm
  cases b with
  | false =>
    refine (if_neg Bool.false_ne_true).mpr (next_intro ?_)
    exact ⟨_, rfl, q d p0 p1 p3 p4 _ 0 [] F3 H3 (gn.trans g3') W3 E3 new (Nat.zero_le _) (fun _ h => (nomatch h)) (Nat.zero_le _)⟩
  | true =>
    refine (if_pos rfl).mpr (asg_next ?_)
    refine (XE.w (xe_draw1 (m := 4) (by decide) (by decide) ha)) _ F3 H3 _ g3'.sub (sd3.mono g3'.f) (pins _ rfl rfl) W3 fun v4 d4 ω4 F4 H4 g4 W4 hx a4 => ?_
    obtain ⟨⟨k, hk, rfl⟩, rfl⟩ := hx
    cases a4.intI
    have sd4 := ((sd3.mono g3'.f).mono g4.f).set (i := 4) (Da.int ((k + 1 : Nat) : Int))
    refine (xe_lst (PA := fun ds ω' => ds = [spD1 (ω.cells + 2, k + 1)] ∧ ω' = { ω with cells := ω.cells + 2 + (k + 1) }) ((xa_cons (P2 := fun d r ω' => d = spD1 (ω.cells + 2, k + 1) ∧ r = [] ∧ ω' = { ω with cells := ω.cells + 2 + (k + 1) }) ((xe_tup (PA := fun ds ω' => ds = [dn (ω.cells + 2), dn (k + 1)] ∧ ω' = { ω with cells := ω.cells + 2 + (k + 1) }) ((xa_cons (P2 := fun d r ω' => d = dn (ω.cells + 2) ∧ r = [dn (k + 1)] ∧ ω' = { ω with cells := ω.cells + 2 + (k + 1) }) (xe_more (n := k + 1) (ed_var (i := 4) rfl) hw) fun d ω1 x => (xa_cons (P2 := fun d r ω' => d = dn (k + 1) ∧ r = [] ∧ ω' = ω1) (xe_ed (ed_var (i := 4) rfl)) fun d2 ω2 y => xa_nil.mono fun ds γ' u => ⟨y.1, u.1, u.2.trans y.2⟩).mono fun ds γ' y => ?_).mono fun ds γ' y => ?_) fun ds γ' y => by rw [y.1]; show 2 ≤ 16000000; decide).mono (P' := fun d ω' => d = spD1 (ω.cells + 2, k + 1) ∧ ω' = { ω with cells := ω.cells + 2 + (k + 1) }) fun d γ' y => ?_) fun d ω1 x => xa_nil.mono fun ds γ' u => ⟨x.1, u.1, u.2.trans x.2⟩).mono fun ds γ' y => ?_) fun ds γ' y => by rw [y.1]; show 1 ≤ 16000000; decide) _ F4 H4 _ g4.sub sd4 (pins _ rfl rfl) W4 fun v5 d5 ω5 F5 H5 g5 W5 hx a5 => ?_
    · obtain ⟨d', r, rfl, rfl, rfl, rfl⟩ := y
      exact ⟨x.1, rfl, x.2⟩
    · obtain ⟨d', r, rfl, rfl, rfl, h⟩ := y
      exact ⟨rfl, h⟩
    · obtain ⟨ds, ⟨rfl, h⟩, rfl⟩ := y
      exact ⟨rfl, h⟩
    · obtain ⟨d', r, rfl, rfl, rfl, h⟩ := y
      exact ⟨rfl, h⟩
    · obtain ⟨ds, ⟨rfl, rfl⟩, rfl⟩ := hx
      have E5 := (E3.thru g4 nm).thru g5 nm
      refine ⟨_, rfl, d, _, rfl, DPut.k (k := .inr "spans") E5.hd (line_lt (show 5 ≤ 16000000 by decide)), ?_⟩
      rw [put_spans]
      have fd5 := E5.fn d (by simp)
      have hnd := E5.nd
      simp only [List.nodup_cons, List.mem_cons, List.not_mem_nil, or_false, not_or] at hnd
      refine ⟨_, rfl, q d p0 p1 p3 p4 v5 (k + 1) [(ω.cells + 2, k + 1)] F5 _ ((((gn.trans g3').trans g4).trans g5).mut (new d (by simp)) fd5) ((RW a c wd ch).oth _ _ _ _ _ W5 (nm d (by simp)) fd5) ⟨E5.nd, E5.fn, upd_same, ?_, ?_, a5, ?_, ?_⟩ new (by omega) (fun s hs => List.mem_singleton.mp hs) (Nat.le_refl _)⟩
      · rw [upd_ne (Ne.symm hnd.1.1)]; exact E5.h0
      · rw [upd_ne (Ne.symm hnd.1.2.1)]; exact E5.h1
      · rw [upd_ne (Ne.symm hnd.1.2.2.1)]; exact E5.h3
      · rw [upd_ne (Ne.symm hnd.1.2.2.2)]; exact E5.h4
end
end Pa
/-! What the world's change is; wrapped -/
namespace Pa
open PySem L2 PyProof.Rows
local macro_rules | `(tactic| walk_at "ed") => `(tactic| first
  | ((with_reducible show ED _ (tVar _) _ _); exact ed_var rfl)
  | ((with_reducible show ED _ (tC _) _ _); first | exact ed_int | exact ed_str | exact ed_non | exact ed_bl | exact ed_tupC T.fF | exact ed_tupC T.fS)
  | ((with_reducible show EA _ tNil _ _); exact ea_nil) | ((with_reducible show EA _ (tCons _ _) _ _); exact ea_cons (by walk_at "ed") (by walk_at "ed"))
  | ((with_reducible show ED _ (tTup _) _ _); exact ed_tup (by walk_at "ed")) | ((with_reducible show ED _ (tLst _) _ _); exact ed_lst (by walk_at "ed"))
  | ((with_reducible show ED _ (tOp (rI0 fun i j => V.int (i + j)) _ _) _ _); exact ed_add (by walk_at "ed") (by walk_at "ed"))
  | ((with_reducible show ED _ (tOp (rI0 fun i j => V.int (i - j)) _ _) _ _); exact ed_sub (by walk_at "ed") (by walk_at "ed"))
  | ((with_reducible show ED _ (tOp (rI0 fun i j => V.int (Builtin.bitAnd i j)) _ _) _ _); exact ed_and (by walk_at "ed") (by walk_at "ed"))
  | ((with_reducible show ED _ (tOp (rIxT _) _ (tC (.int 0))) _ _); exact ed_ix0 (by walk_at "ed")) | ((with_reducible show ED _ (tOp (rIxT _) _ (tC (.int 1))) _ _); exact ed_ix1 (by walk_at "ed"))
  | ((with_reducible show ED _ (tOp (rIxT _) _ (tC (.int 2))) _ _); exact ed_ix2 (by walk_at "ed")) | ((with_reducible show ED _ (tOp (rIxT _) _ (tC (.int 3))) _ _); exact ed_ix3 (by walk_at "ed"))
  | ((with_reducible show ED _ (tSl _ _ tNoPart (tPart _)) _ _); exact ed_take (by walk_at "ed") (by walk_at "ed")) | ((with_reducible show ED _ (tSl _ _ (tPart _) tNoPart) _ _); exact ed_dropI (by walk_at "ed") (by walk_at "ed") rfl)
  | ((with_reducible show ED _ (tOp rEq _ _) _ _); exact ed_eqS (by walk_at "ed") (by walk_at "ed"))
  | ((with_reducible show ED _ (tOp rEq _ _) _ _); exact ed_eqI (by walk_at "ed") (by walk_at "ed"))
  | ((with_reducible show ED _ (tOp (fun x y H Q => y = V.non ∧ Q (V.bl (decide (x = V.non))) H) _ _) _ _); exact ed_isN (by walk_at "ed"))
  | ((with_reducible show ED _ (tOp (rIn _ false) _ _) _ _); exact ed_in2 (by walk_at "ed"))
  | ((with_reducible show ED _ (tCB _ _) _ _); exact ed_len (by walk_at "ed")))
local macro_rules | `(tactic| walk_at "eb") => `(tactic| first
  | ((with_reducible show EB _ (tTest (tOp (rIn _ false) _ _)) _ _); exact (eb_cmp (ed_in2 (by walk_at "ed"))).eq (by decide +kernel))
  | ((with_reducible show EB _ (tTest (tOp rEq _ _)) _ _); exact (eb_cmp (ed_eqS (by walk_at "ed") (by walk_at "ed"))).eq (by decide +kernel)))

/-- how the world may change -/
structure Wle (ω ω' : Wo) : Prop where
  lo : ω'.loops = ω.loops
  it : ω'.items ≤ ω.items
  th : ω'.nth + ω'.left = ω.nth + ω.left
  le : ω'.left ≤ ω.left
  ce : ω.cells ≤ ω'.cells
  pot : ω'.cells + 40 * ω'.left + ω'.items ≤ ω.cells + 40 * ω.left + ω.items
  ch : ∃ m, ω'.ch = ω.ch ++ List.replicate m ("inner" : Str)
  c24 : ω.ch.length ≤ 24 → ω'.ch.length ≤ 24
theorem Wle.refl (ω : Wo) : Wle ω ω := ⟨rfl, Nat.le_refl _, rfl, Nat.le_refl _, Nat.le_refl _, Nat.le_refl _, ⟨0, by simp⟩, fun h => h⟩
theorem Wle.trans {ω ω1 ω2 : Wo} (a : Wle ω ω1) (b : Wle ω1 ω2) : Wle ω ω2 := by
  obtain ⟨m, h1⟩ := a.ch
  obtain ⟨n, h2⟩ := b.ch
  exact ⟨b.lo.trans a.lo, Nat.le_trans b.it a.it, b.th.trans a.th, Nat.le_trans b.le a.le, Nat.le_trans a.ce b.ce, Nat.le_trans b.pot a.pot, ⟨m + n, by rw [h2, h1, List.append_assoc, List.replicate_append_replicate]⟩, fun h => b.c24 (a.c24 h)⟩
theorem Wle.chl {ω ω' : Wo} (a : Wle ω ω') : ω.ch.length ≤ ω'.ch.length := by
  obtain ⟨m, h⟩ := a.ch
  rw [h, List.length_append]
  omega
theorem Wle.nt {ω ω' : Wo} (a : Wle ω ω') : ω.nth ≤ ω'.nth := by
  have h1 := a.th
  have h2 := a.le
  omega
/-- no less of anything -/
structure Wmo (ω ω' : Wo) : Prop where
  nt : ω.nth ≤ ω'.nth
  ce : ω.cells ≤ ω'.cells
  chl : ω.ch.length ≤ ω'.ch.length
theorem Wle.mo {ω ω' : Wo} (a : Wle ω ω') : Wmo ω ω' := ⟨a.nt, a.ce, a.chl⟩
theorem Wmo.refl (ω : Wo) : Wmo ω ω := ⟨Nat.le_refl _, Nat.le_refl _, Nat.le_refl _⟩
theorem Wmo.trans {ω ω1 ω2 : Wo} (a : Wmo ω ω1) (b : Wmo ω1 ω2) : Wmo ω ω2 := ⟨Nat.le_trans a.nt b.nt, Nat.le_trans a.ce b.ce, Nat.le_trans a.chl b.chl⟩
/-- S has what is new -/
structure NewIn (ω ω' : Wo) (S : Fp) : Prop where
  cell : ∀ k, ω.cells ≤ k → k < ω'.cells → S.R k ∧ S.W k
  chan : ∀ c, ω.ch.length ≤ c → c < ω'.ch.length → S.G c ∧ S.T c
theorem NewIn.left {ω ω1 ω2 : Wo} {S : Fp} (h : NewIn ω ω2 S) (b : Wmo ω1 ω2) : NewIn ω ω1 S := ⟨fun k h1 h2 => h.cell k h1 (by have := b.ce; omega), fun c h1 h2 => h.chan c h1 (by have := b.chl; omega)⟩
theorem NewIn.right {ω ω1 ω2 : Wo} {S : Fp} (h : NewIn ω ω2 S) (a : Wmo ω ω1) : NewIn ω1 ω2 S := ⟨fun k h1 h2 => h.cell k (by have := a.ce; omega) h2, fun c h1 h2 => h.chan c (by have := a.chl; omega) h2⟩
/-- statements made while the world changed from ω to ω', of thread i, beside the own cells X -/
def Made (E : Sur) (X : List Nat) (D : Nat) (ω ω' : Wo) (ss : List Sm) : Prop := ∀ (i : Nat) (ps : List Nat) (S : Fp), ps.length = ω.nth → i < ω.nth → SurIn E S → (∀ k, k ∈ X → S.R k ∧ S.W k) → NewIn ω ω' S → ∃ more, (ps ++ more).length = ω'.nth ∧ ∀ s, s ∈ ss → SmOk (ps ++ more) D i S s
theorem get_app {ps more : List Nat} : ∀ (k i : Nat), ps[k]? = some i → (ps ++ more)[k]? = some i := fun k i h => by
  rw [List.getElem?_append_left (List.getElem?_eq_some_iff.mp h).1]
  exact h
theorem Made.nil {E : Sur} {X : List Nat} {D : Nat} {ω : Wo} : Made E X D ω ω [] := fun i ps S h1 h2 h3 h4 h5 => ⟨[], by rw [List.append_nil]; exact h1, fun s hs => (nomatch hs)⟩
theorem Made.app {E : Sur} {X : List Nat} {D : Nat} {ω ω1 ω2 : Wo} {ss ts : List Sm} (a : Made E X D ω ω1 ss) (b : Made E X D ω1 ω2 ts) (h1 : Wmo ω ω1) (h2 : Wmo ω1 ω2) : Made E X D ω ω2 (ss ++ ts) := fun i ps S hp hi hE hX hN => by
  obtain ⟨m1, q1, q2⟩ := a i ps S hp hi hE hX (hN.left h2)
  obtain ⟨m2, q3, q4⟩ := b i (ps ++ m1) S q1 (by have := h1.nt; omega) hE hX (hN.right h1)
  refine ⟨m1 ++ m2, by rw [← List.append_assoc]; exact q3, fun s hs => ?_⟩
  rw [← List.append_assoc]
  rcases List.mem_append.mp hs with z | z
  · exact (q2 s z).mono get_app (Nat.le_refl D) (Fp.Le.refl S)
  · exact q4 s z
theorem Made.conv {E : Sur} {X : List Nat} {D : Nat} {ω ω1 ω' : Wo} {ss : List Sm} (a : Made E X D ω ω' ss) (h1 : ω1.nth = ω.nth) (h2 : ω1.cells = ω.cells) (h3 : ω1.ch = ω.ch) : Made E X D ω1 ω' ss := fun i ps S hp hi hE hX hN =>
  a i ps S (hp.trans h1) (by omega) hE hX ⟨fun k k1 k2 => hN.cell k (by omega) k2, fun c k1 k2 => hN.chan c (by rw [h3]; exact k1) k2⟩
theorem Made.mono {E : Sur} {X : List Nat} {D D' : Nat} {ω ω' : Wo} {ss : List Sm} (a : Made E X D ω ω' ss) (h : D ≤ D') : Made E X D' ω ω' ss := fun i ps S hp hi hE hX hN => by
  obtain ⟨m, q1, q2⟩ := a i ps S hp hi hE hX hN
  exact ⟨m, q1, fun s hs => (q2 s hs).mono (fun _ _ z => z) h (Fp.Le.refl S)⟩
theorem Made.one {E : Sur} {X : List Nat} {D : Nat} {ω : Wo} {s : Sm} (h : ∀ ps i S, SurIn E S → SmOk ps D i S s) : Made E X D ω ω [s] := fun i ps S h1 h2 h3 h4 h5 => ⟨[], by rw [List.append_nil]; exact h1, fun t ht => by
  rw [List.mem_singleton.mp ht]
  exact h _ i S h3⟩
def arr3 : V → V → List V → List V := fun s w ws => [s, ws.getD 0 .non, w, ws.getD 1 .non]
def spW3 (K : PySem.W.Frag) (Pre : PyData → PyData → Wo → Prop) (Rr : PyData → PyData → Wo → PyData → Wo → Prop) : Sp := spW K arr3 (fun ds ω => ∃ d0 d1, ds = [d0, d1] ∧ Pre d0 d1 ω) (fun ds ω d ω' => ∃ d0 d1, ds = [d0, d1] ∧ Rr d0 d1 ω d ω')
section
variable {P : Program} {w : World} {K : PySem.W.Frag} {mg : Str → Option Value} {base : Heap} {tW : Tok} {aF aS : Addr}
theorem xe_callW3 {a c wd ch : Addr} {ω : Wo} {e : DE} {pn : List (Nat × V)} {t1 t3 : TE} {d0 : PyData} {Pk : PyData → Wo → Prop} {Pre : PyData → PyData → Wo → Prop} {Rr : PyData → PyData → Wo → PyData → Wo → Prop} {E : XK} (ha : (0, V.ref a) ∈ pn) (hw : (2, V.ref wd) ∈ pn) (h1 : ED K t1 e d0) (h3 : XE K (RW a c wd ch) t3 e pn ω Pk) (hp : ∀ d1 ω1, Pk d1 ω1 → Pre d0 d1 ω1) :
    XE K (RW a c wd ch) (tCall (spW3 K Pre Rr) [] E (tCons (tVar 0) (tCons t1 (tCons (tVar 2) (tCons t3 tNil))))) e pn ω (fun d ω' => ∃ d1 ω1, Pk d1 ω1 ∧ Rr d0 d1 ω1 d ω') := fun σ F H Q f s p W q =>
  ⟨_, p 0 _ ha, h1 σ F H _ f s fun v1 F1 H1 z1 a1 => ⟨_, p 2 _ hw, h3 σ F1 H1 _ z1.sub (s.mono z1.f) p ((RW a c wd ch).thru _ _ _ _ _ W z1) fun v3 d1 ω1 F2 H2 g2 W2 x2 a2 => ⟨a, c, wd, ch, F2, [v1, v3], [d0, d1], ω1, rfl, g2.sub, W2, .cons (a1.mono g2.f) (.cons a2 .nil), ⟨d0, d1, rfl, hp d1 ω1 x2⟩, fun v d ω' F' H' g W' ⟨d0', d1', e1, r⟩ aa => q v d ω' F' H' ((z1.gr.trans g2).trans g) W' (by
    simp only [List.cons.injEq, and_true] at e1
    rw [← e1.1, ← e1.2] at r
    exact ⟨d1, ω1, x2, r⟩) aa⟩⟩⟩
theorem Def.genW3 {x : Str} {st : Stmt} {N ps : List Str} {k : Nat} {Pre : PyData → PyData → Wo → Prop} {Rr : PyData → PyData → Wo → PyData → Wo → Prop} (D : Def K mg x st) (S : FnScope N ps (defScope st)) (hps : ps.length = 4)
    (hb : ∀ (kV doc pm : Value) (an : Option Addr) (cdv ct : Value) (us : List Value), us.length = ps.length → bindArgs (PySem.W.fnOf x x (defArgs st) (defBody st) (defScope st) .none kV doc pm an cdv ct) ⟨us, []⟩ = Pure.pure (ps.zip us))
    (hbody : ∀ (f : Addr) (cdv : Value) (A : Around) (outer : List Env) (s : Shared) (H : Hp) (E : XK) (a c wd ch : Addr) (d0 d1 : PyData) (ω : Wo), Room k (A.deeper (envOfC x (defScope st) s.heap.objs.size f cdv)) → Pre d0 d1 ω →
      ∃ t, PSs (cxOf CX0 P w K mg base N x (defScope st) f cdv A outer s H E).nox (defBody st) t ∧ XS K (RW a c wd ch) t (none :: some d0 :: none :: some d1 :: List.replicate (N.length - 4) none) [(0, V.ref a), (2, V.ref wd)] ω (fun _ _ => False) (fun d ω' => Rr d0 d1 ω d ω')) : Cal P w K mg base (k + 1) x ps (spW3 K Pre Rr) := by
  refine D.cal S (fun vs H Q E ⟨a, c, wd, ch, F, ws, ds, ω, z, _⟩ => by rw [z, hps]; rfl) hb fun f cdv A outer s H vs Q E hr ⟨a, c, wd, ch, F, ws, ds, ω, z, fs, W, h, ⟨d0, d1, e1, pr⟩, q⟩ => ?_
  obtain ⟨t, h1, h2⟩ := hbody f cdv A outer s H E a c wd ch d0 d1 ω hr pr
  subst e1
  obtain ⟨v0, v1, rfl, a0, a1⟩ := h.inv2
  subst z
  have hN : 4 ≤ N.length := by have := congrArg List.length S.pre; rw [List.length_take] at this; omega
  refine ⟨t, h1, h2 _ _ F H fs ⟨?_, fun i d hi => ?_⟩ (fun i v hi => ?_) W (fun _ _ _ _ _ _ _ _ _ x => x.elim) fun v d ω' F' H' g W' aa x => q v d ω' F' H' g W' ⟨d0, d1, rfl, x⟩ aa⟩
  · unfold L2.start arr3
    simp
  · match i, hi with
    | 0, hi => cases hi
    | 1, hi => cases hi; exact ⟨v0, rfl, a0⟩
    | 2, hi => cases hi
    | 3, hi => cases hi; exact ⟨v1, rfl, a1⟩
    | i + 4, hi =>
      have hi' : (List.replicate (N.length - 4) (none : Option PyData))[i]? = some (some d) := hi
      have := List.eq_of_mem_replicate (List.mem_of_getElem? hi')
      cases this
  · rcases List.mem_cons.mp hi with z | z
    · cases z; rfl
    · cases List.mem_singleton.mp z; rfl
theorem xb_val {Γ : Type} {R : Res Γ} {γ : Γ} {te : TE} {e : DE} {pn : List (Nat × V)} {Pk : PyData → Γ → Prop} (h : XE K R te e pn γ Pk) (hb : ∀ d γ', Pk d γ' → ∃ b, d = .bool b) : XB K R (tB te) e pn γ (fun b γ' => Pk (.bool b) γ') := fun σ F H Q f s p j q => h σ F H _ f s p j fun v d γ1 F1 H1 g1 j1 x1 a1 => by
  obtain ⟨b, rfl⟩ := hb d γ1 x1
  cases a1.blI
  exact ⟨b, rfl, q b γ1 F1 H1 g1 j1 x1⟩
theorem xe_tup2L {Γ : Type} {R : Res Γ} {γ : Γ} {t1 t2 : TE} {e : DE} {pn : List (Nat × V)} {d1 : PyData} {Pk : PyData → Γ → Prop} (h1 : ED K t1 e d1) (h2 : XE K R t2 e pn γ Pk) : XE K R (tTup (tCons t1 (tCons t2 tNil))) e pn γ (fun d γ' => ∃ x, Pk x γ' ∧ d = .tuple [d1, x]) :=
  (xe_tup (PA := fun ds γ' => ∃ x, Pk x γ' ∧ ds = [d1, x]) ((xa_cons (P2 := fun d r γ' => d = d1 ∧ ∃ x, Pk x γ' ∧ r = [x]) (xe_ed h1) fun d γ1 hd => (xa_cons (P1 := Pk) (P2 := fun d r γ' => Pk d γ' ∧ r = []) (by rw [hd.2]; exact h2) fun d2 γ2 h => xa_nil.mono fun ds γ' x => ⟨by rw [x.2]; exact h, x.1⟩).mono fun ds γ' x => by
    obtain ⟨x, r, rfl, h, rfl⟩ := x
    exact ⟨hd.1, x, h, rfl⟩).mono fun ds γ' x => by
      obtain ⟨d, r, rfl, rfl, x, h, rfl⟩ := x
      exact ⟨x, h, rfl⟩) fun ds γ' ⟨x, _, h⟩ => by rw [h]; show 2 ≤ 16000000; decide).mono fun d γ' ⟨ds, ⟨x, h, e1⟩, e2⟩ => ⟨x, h, by rw [e2, e1]⟩
theorem xb_wle {a c wd ch : Addr} {ω : Wo} {e : DE} {pn : List (Nat × V)} {i : Nat} {j : Int} (hi : (i, V.ref wd) ∈ pn) : XB K (RW a c wd ch) (tTest (tOp (rI0 fun i j => V.bl (decide (i ≤ j))) (tDGet (tVar i) (tC (.str "cells"))) (tC (.int j)))) e pn ω (fun _ ω' => ω' = ω) :=
  (xb_cmp (P := fun d ω' => (∃ b, d = .bool b) ∧ ω' = ω) ((xe_op (res := fun d1 d2 => match d1, d2 with | .int i, .int j => .bool (decide (i ≤ j)) | _, _ => .none) (P2 := fun d1 d2 ω' => d1 = dn ω.cells ∧ d2 = .int j ∧ ω' = ω) (w_cells hi) (fun d1 ω1 x => (xe_ed ed_int).mono fun d2 ω2 y => ⟨x.1, y.1, y.2.trans x.2⟩) fun d1 d2 ω2 x => by
      obtain ⟨rfl, rfl, _⟩ := x
      exact rd_I0 (f := fun i j => .bool (decide (i ≤ j))) fun i j H => .bl _).mono fun d ω' x => by
        obtain ⟨d1, d2, ⟨rfl, rfl, h⟩, rfl⟩ := x
        exact ⟨⟨_, rfl⟩, h⟩) fun d ω' x => x.1).mono fun b ω' x => x.2
abbrev s_wrapped : Stmt := topS 52
theorem sc_wrapped : FnScope ["_law_state_here", "_law_env_here", "_law_world", "_law_part", "_law_turn", "_law_counter", "_law_turns"] ["_law_state_here", "_law_env_here", "_law_world", "_law_part"] (defScope s_wrapped) := ⟨rfl, rfl, rfl, by decide +kernel, rfl, by decide +kernel, by decide +kernel⟩
def preWrap (d0 _ : PyData) (_ : Wo) : Prop := ∃ E : Sur, d0 = E.d ∧ SurOk E
def Wrap (E : Sur) (d1 : PyData) (ω : Wo) (d : PyData) (ω' : Wo) : Prop := (ω' = ω ∨ ω' = { ω with cells := ω.cells + 1 }) ∧ ∀ p : Sm, d1 = p.d → ∃ q : Sm, d = q.d ∧ q.nb = p.nb ∧ q.wk ≤ 9 + 2 * p.wk ∧
  ∀ D ps i S, SurIn E S → NewIn ω ω' S → 1 ≤ D → SmOk ps D i S p → SmOk ps (D + 3) i S q
def rWrap (d0 d1 : PyData) (ω : Wo) (d : PyData) (ω' : Wo) : Prop := ∃ E : Sur, d0 = E.d ∧ Wrap E d1 ω d ω'
abbrev CSimple (P : Program) (w : World) (K : PySem.W.Frag) (mg : Str → Option Value) (base : Heap) : Prop := Cal P w K mg base 9 "_law_simple" ["_law_state_here", "_law_env_here"] (spS K preEnv rSimple)
abbrev CMore (P : Program) (w : World) (K : PySem.W.Frag) (mg : Str → Option Value) (base : Heap) : Prop := Cal P w K mg base 1 "_law_more_cells" ["_law_world", "_law_many"] (spW K arrM preMore rMore)
theorem ok_wrapped (T : Txt K mg tW aF aS) (d : Def K mg "_law_wrapped" s_wrapped) (c_draw : CDraw P w K mg base) (c_expression : CExpr P w K mg base) (c_set : CSet P w K mg base) (c_more_cells : CMore P w K mg base) :
    Cal P w K mg base 9 "_law_wrapped" ["_law_state_here", "_law_env_here", "_law_world", "_law_part"] (spW3 K preWrap rWrap) := by
  refine d.genW3 sc_wrapped rfl (fun _ _ _ _ _ _ us hl => match us, hl with | [_, _, _, _], _ => rfl) fun f cdv A outer s H E0' a c wd ch d0 d1 ω hr ⟨E, h, hE⟩ => ?_
  subst h
  have hu := hu_of hr
  refine ⟨_, 
      (pss_cons (ps_set (i := 4) sc_wrapped.nd rfl (Or.inl rfl) (pe_cal c_draw (hr.mono (by decide)) (pa_cons (pv 0) (pa_cons pe_int pa_nil))))
      (pss_cons (ps_if (pt_cmpR op_eq (pv 4) pe_int (nomark _))
      (pss_one (ps_ret (pe_tup (pa_cons pe_str (pa_cons (pe_cal c_expression (hr.mono (by decide)) (pa_cons (pv 0) (pa_cons (pv 1) (pa_cons pe_int pa_nil)))) (pa_cons (pv 3) (pa_cons (pe_cal c_set (hr.mono (by decide)) (pa_cons (pv 0) (pa_cons (pv 1) pa_nil))) pa_nil))))))) pss_nil)
      (pss_cons (ps_if (pt_cmpR op_eq (pv 4) pe_int (nomark _))
      (pss_one (ps_ret (pe_tup (pa_cons pe_str (pa_cons (pe_tup (pa_cons pe_str (pa_cons (pe_tup (pa_cons pe_str (pa_cons pe_int pa_nil))) (pa_cons (pe_cal c_expression (hr.mono (by decide)) (pa_cons (pv 0) (pa_cons (pv 1) (pa_cons pe_int pa_nil)))) pa_nil)))) (pa_cons (pe_cal c_set (hr.mono (by decide)) (pa_cons (pv 0) (pa_cons (pv 1) pa_nil))) (pa_cons (pv 3) pa_nil))))))) pss_nil)
      (pss_cons (ps_if (PW.pt (pw_and (pt_cmpR op_lt (pv 4) pe_int (nomark _)) (pw_and (pt_val (pe_dget hu (pv 2) pe_str (fun _ _ => rfl))) (pw_and1 (pt_cmpR op_le (pe_dget hu (pv 2) pe_str (fun _ _ => rfl)) pe_int (nomark _))))))
      (pss_cons (ps_set (i := 5) sc_wrapped.nd rfl (Or.inl rfl) (pe_tup (pa_cons pe_str (pa_cons (pe_cal c_more_cells (hr.mono (by decide)) (pa_cons (pv 2) (pa_cons pe_int pa_nil))) pa_nil))))
      (pss_cons (ps_set (i := 6) sc_wrapped.nd rfl (Or.inl rfl) (pe_tup (pa_cons pe_str (pa_cons (pe_tup (pa_cons pe_str (pa_cons (pv 5) (pa_cons (pe_tup (pa_cons pe_str (pa_cons pe_int pa_nil))) pa_nil)))) (pa_cons pe_int (pa_cons (pe_tup (pa_cons pe_str (pa_cons (pe_lst (pa_cons (pv 3) (pa_cons (pe_tup (pa_cons pe_str (pa_cons (pv 5) (pa_cons (pe_tup (pa_cons pe_str (pa_cons (pv 5) (pa_cons (pe_tup (pa_cons pe_str (pa_cons pe_int pa_nil))) pa_nil)))) pa_nil)))) pa_nil))) pa_nil))) pa_nil))))))
      (pss_one (ps_ret (pe_tup (pa_cons pe_str (pa_cons (pe_lst (pa_cons (pe_tup (pa_cons pe_str (pa_cons (pv 5) (pa_cons (pe_tup (pa_cons pe_str (pa_cons pe_int pa_nil))) pa_nil)))) (pa_cons (pv 6) pa_nil))) pa_nil))))))) pss_nil)
      (pss_one (ps_ret (pv 3))))))), ?_⟩
  have ha : (0, V.ref a) ∈ [(0, V.ref a), (2, V.ref wd)] := List.mem_cons_self ..
  have hw : (2, V.ref wd) ∈ [(0, V.ref a), (2, V.ref wd)] := List.mem_cons_of_mem _ (List.mem_cons_self ..)
  refine XS.mono (Z := fun d ω' => Wrap E d1 ω d ω') ?_ (fun _ _ x => x) fun d γ' x => ⟨E, rfl, x⟩
  refine xs_let (XE.w (xe_drawC (m := 6) ed_int (by decide) (by decide) ha)) fun dt ω1 hx => ?_
  obtain ⟨⟨k, rfl, hk⟩, rfl⟩ := hx
  refine xs_guard (xb_eb (eb_cmp (ed_eqI (ed_var (i := 4) rfl) ed_int))) (fun ω2 hx => ?_) fun ω2 hx => ?_
  · obtain ⟨_, rfl⟩ := hx
    refine xs_ret ((XE.w (xe_tup4 xe_strC (fun _ => xe_expr (n := 1) hE (by decide) rfl ed_int ha) (fun _ => xe_con (ed_var (i := 3) rfl) rfl) fun _ => xe_set hE rfl ha)).mono fun d ω' x => ?_)
    obtain ⟨⟨_, _, _, _, rfl, rfl, ⟨x, rfl, h1, h2⟩, rfl, s1, rfl, n1, w1, k1⟩, rfl⟩ := x
    refine ⟨.inl rfl, fun p hp => ⟨.ite x p s1, by rw [hp]; rfl, ?_, ?_, fun D ps i S hS hN hD hp => ?_⟩⟩
    · simp only [Sm.nb, n1, Nat.add_zero]
    · simp only [Sm.wk]; omega
    · exact (SmOk.ite (D := D) ⟨h2 S hS, by omega⟩ hp ((k1 ps i S hS).mono (fun _ _ z => z) hD (Fp.Le.refl S))).mono (fun _ _ z => z) (by omega) (Fp.Le.refl S)
  obtain ⟨_, rfl⟩ := hx
  refine xs_guard (xb_eb (eb_cmp (ed_eqI (ed_var (i := 4) rfl) ed_int))) (fun ω2 hx => ?_) fun ω2 hx => ?_
  · obtain ⟨_, rfl⟩ := hx
    refine xs_ret ((XE.w (xe_tup4 xe_strC (fun _ => xe_tup3 xe_strC (fun _ => xe_con (ed_tup (ea_cons ed_str (ea_cons ed_int ea_nil))) rfl) fun _ => xe_expr (n := 0) hE (by decide) rfl ed_int ha) (fun _ => xe_set hE rfl ha) fun _ => xe_con (ed_var (i := 3) rfl) rfl)).mono fun d ω' x => ?_)
    obtain ⟨⟨_, _, _, _, rfl, rfl, ⟨_, _, _, rfl, rfl, rfl, x, rfl, h1, h2⟩, ⟨s1, rfl, n1, w1, k1⟩, rfl⟩, rfl⟩ := x
    refine ⟨.inl rfl, fun p hp => ⟨.ite (.bin .lt (.num 1) x) s1 p, by rw [hp]; rfl, ?_, ?_, fun D ps i S hS hN hD hp => ?_⟩⟩
    · simp only [Sm.nb, n1, Nat.zero_add]
    · simp only [Sm.wk]; omega
    · exact (SmOk.ite (D := D) (e := .bin .lt (.num 1) x) ⟨(show ExOk S.R (.bin .lt (.num 1) x) from ⟨(by show 1 < 65536; decide), h2 S hS⟩), by show max 0 x.ht + 1 ≤ 6; omega⟩ ((k1 ps i S hS).mono (fun _ _ z => z) hD (Fp.Le.refl S)) hp).mono (fun _ _ z => z) (by omega) (Fp.Le.refl S)
  obtain ⟨_, rfl⟩ := hx
  refine xs_guard (PB := fun _ ω' => ω' = ω2) (xb_and (PB1 := fun _ ω' => ω' = ω2) ((xb_eb (eb_cmp (ed_lt (ed_var (i := 4) rfl) ed_int))).mono fun b ω' x => x.2) (fun ω3 h3 => by
    subst h3
    exact xb_and (PB1 := fun _ ω' => ω' = ω3) ((xb_val (w_loops hw) fun d ω' x => ⟨_, x.1⟩).mono fun b ω' x => x.2) (fun ω4 h4 => by subst h4; exact xb_wle hw) fun ω4 h4 => h4) fun ω3 h3 => h3) (fun ω3 h3 => ?_) fun ω3 h3 => ?_
  · subst h3
    refine xs_let (xe_tup2L ed_str (xe_more (n := 1) ed_int hw)) fun dx ω4 hx => ?_
    obtain ⟨_, ⟨rfl, rfl⟩, rfl⟩ := hx
    refine xs_let (xe_ed (by walk_at "ed")) fun dy ω4 hy => ?_
    obtain ⟨rfl, rfl⟩ := hy
    refine xs_ret ((xe_ed (by walk_at "ed")).mono fun d ω' hd => ?_)
    obtain ⟨rfl, rfl⟩ := hd
    refine ⟨.inr rfl, fun p hp => ⟨.seq [.set (.cell ω3.cells) (.num 0), .rep (.bin .lt (.cell ω3.cells) (.num 2)) 2 (.seq [p, .set (.cell ω3.cells) (.bin .add (.cell ω3.cells) (.num 1))])], by rw [hp]; rfl, ?_, ?_, fun D ps i S hS hN hD hp => ?_⟩⟩
    · simp only [Sm.nb, nbL, Nat.zero_add, Nat.add_zero]
    · simp only [Sm.wk, wkL]; omega
    · obtain ⟨r1, w1⟩ := hN.cell ω3.cells (Nat.le_refl _) (Nat.lt_succ_self _)
      have z : ∀ {n : Nat}, n < 65536 → n < 65536 := fun h => h
      refine .seq fun y hy => ?_
      simp only [List.mem_cons, List.not_mem_nil, or_false] at hy
      rcases hy with rfl | rfl
      · exact .set ⟨w1, Nat.zero_le _⟩ ⟨(by show 0 < 65536; decide), Nat.zero_le _⟩
      · refine .rep (e := .bin .lt (.cell ω3.cells) (.num 2)) ⟨(show ExOk S.R (.bin .lt (.cell ω3.cells) (.num 2)) from ⟨r1, (by show 2 < 65536; decide)⟩), by show max 0 0 + 1 ≤ 6; decide⟩ (.seq fun y hy => ?_)
        simp only [List.mem_cons, List.not_mem_nil, or_false] at hy
        rcases hy with rfl | rfl
        · exact hp
        · refine SmOk.mono (fun _ _ z => z) (D := 1) (S := S) (.set (t := .cell ω3.cells) (e := .bin .add (.cell ω3.cells) (.num 1)) ⟨w1, Nat.zero_le _⟩ ⟨(show ExOk S.R (.bin .add (.cell ω3.cells) (.num 1)) from ⟨r1, (by show 1 < 65536; decide)⟩), by show max 0 0 + 1 ≤ 6; decide⟩) hD (Fp.Le.refl S)
  · subst h3
    refine xs_ret ((xe_ed (ed_var (i := 3) rfl)).mono fun d ω' hd => ?_)
    obtain ⟨rfl, rfl⟩ := hd
    exact ⟨.inl rfl, fun p hp => ⟨p, hp, rfl, by omega, fun D ps i S hS hN hD h => h.mono (fun _ _ z => z) (by omega) (Fp.Le.refl S)⟩⟩
end
end Pa
/-! items -/
namespace Pa
open PySem L2 PyProof.Rows
local macro_rules | `(tactic| walk_at "ed") => `(tactic| first
  | ((with_reducible show ED _ (tVar _) _ _); exact ed_var rfl)
  | ((with_reducible show ED _ (tC _) _ _); first | exact ed_int | exact ed_str | exact ed_non | exact ed_bl | exact ed_tupC T.fF | exact ed_tupC T.fS)
  | ((with_reducible show EA _ tNil _ _); exact ea_nil) | ((with_reducible show EA _ (tCons _ _) _ _); exact ea_cons (by walk_at "ed") (by walk_at "ed"))
  | ((with_reducible show ED _ (tTup _) _ _); exact ed_tup (by walk_at "ed")) | ((with_reducible show ED _ (tLst _) _ _); exact ed_lst (by walk_at "ed"))
  | ((with_reducible show ED _ (tOp (rI0 fun i j => V.int (i + j)) _ _) _ _); exact ed_add (by walk_at "ed") (by walk_at "ed"))
  | ((with_reducible show ED _ (tOp (rI0 fun i j => V.int (i - j)) _ _) _ _); exact ed_sub (by walk_at "ed") (by walk_at "ed"))
  | ((with_reducible show ED _ (tOp (rI0 fun i j => V.int (Builtin.bitAnd i j)) _ _) _ _); exact ed_and (by walk_at "ed") (by walk_at "ed"))
  | ((with_reducible show ED _ (tOp (rIxT _) _ (tC (.int 0))) _ _); exact ed_ix0 (by walk_at "ed")) | ((with_reducible show ED _ (tOp (rIxT _) _ (tC (.int 1))) _ _); exact ed_ix1 (by walk_at "ed"))
  | ((with_reducible show ED _ (tOp (rIxT _) _ (tC (.int 2))) _ _); exact ed_ix2 (by walk_at "ed")) | ((with_reducible show ED _ (tOp (rIxT _) _ (tC (.int 3))) _ _); exact ed_ix3 (by walk_at "ed"))
  | ((with_reducible show ED _ (tSl _ _ tNoPart (tPart _)) _ _); exact ed_take (by walk_at "ed") (by walk_at "ed")) | ((with_reducible show ED _ (tSl _ _ (tPart _) tNoPart) _ _); exact ed_dropI (by walk_at "ed") (by walk_at "ed") rfl)
  | ((with_reducible show ED _ (tOp rEq _ _) _ _); exact ed_eqS (by walk_at "ed") (by walk_at "ed"))
  | ((with_reducible show ED _ (tOp rEq _ _) _ _); exact ed_eqI (by walk_at "ed") (by walk_at "ed"))
  | ((with_reducible show ED _ (tOp (fun x y H Q => y = V.non ∧ Q (V.bl (decide (x = V.non))) H) _ _) _ _); exact ed_isN (by walk_at "ed"))
  | ((with_reducible show ED _ (tOp (rIn _ false) _ _) _ _); exact ed_in2 (by walk_at "ed"))
  | ((with_reducible show ED _ (tCB _ _) _ _); exact ed_len (by walk_at "ed")))
local macro_rules | `(tactic| walk_at "eb") => `(tactic| first
  | ((with_reducible show EB _ (tTest (tOp (rIn _ false) _ _)) _ _); exact (eb_cmp (ed_in2 (by walk_at "ed"))).eq (by decide +kernel))
  | ((with_reducible show EB _ (tTest (tOp rEq _ _)) _ _); exact (eb_cmp (ed_eqS (by walk_at "ed") (by walk_at "ed"))).eq (by decide +kernel)))

/-- a promise for each ghost g -/
def spWG (K : PySem.W.Frag) {G : Type} (Pre : G → PyData → PyData → Wo → Prop) (Rr : G → PyData → PyData → Wo → PyData → Wo → Prop) : Sp := fun vs H Q E => ∃ g : G, spW3 K (Pre g) (Rr g) vs H Q E
section
variable {P : Program} {w : World} {K : PySem.W.Frag} {mg : Str → Option Value} {base : Heap} {tW : Tok} {aF aS : Addr}
theorem xe_callG {G : Type} {a c wd ch : Addr} {ω : Wo} {e : DE} {pn : List (Nat × V)} {t1 t3 : TE} {d0 : PyData} {Pk : PyData → Wo → Prop} {Pre : G → PyData → PyData → Wo → Prop} {Rr : G → PyData → PyData → Wo → PyData → Wo → Prop} {E : XK} (g : G) (ha : (0, V.ref a) ∈ pn) (hw : (2, V.ref wd) ∈ pn) (h1 : ED K t1 e d0) (h3 : XE K (RW a c wd ch) t3 e pn ω Pk) (hp : ∀ d1 ω1, Pk d1 ω1 → Pre g d0 d1 ω1) :
    XE K (RW a c wd ch) (tCall (spWG K Pre Rr) [] E (tCons (tVar 0) (tCons t1 (tCons (tVar 2) (tCons t3 tNil))))) e pn ω (fun d ω' => ∃ d1 ω1, Pk d1 ω1 ∧ Rr g d0 d1 ω1 d ω') := fun σ F H Q f s p W q =>
  ⟨_, p 0 _ ha, h1 σ F H _ f s fun v1 F1 H1 z1 a1 => ⟨_, p 2 _ hw, h3 σ F1 H1 _ z1.sub (s.mono z1.f) p ((RW a c wd ch).thru _ _ _ _ _ W z1) fun v3 d1 ω1 F2 H2 g2 W2 x2 a2 => ⟨g, a, c, wd, ch, F2, [v1, v3], [d0, d1], ω1, rfl, g2.sub, W2, .cons (a1.mono g2.f) (.cons a2 .nil), ⟨d0, d1, rfl, hp d1 ω1 x2⟩, fun v d ω' F' H' g W' ⟨d0', d1', e1, r⟩ aa => q v d ω' F' H' ((z1.gr.trans g2).trans g) W' (by
    simp only [List.cons.injEq, and_true] at e1
    rw [← e1.1, ← e1.2] at r
    exact ⟨d1, ω1, x2, r⟩) aa⟩⟩⟩
theorem Def.genWG {G : Type} {x : Str} {st : Stmt} {N ps : List Str} {k : Nat} {Pre : G → PyData → PyData → Wo → Prop} {Rr : G → PyData → PyData → Wo → PyData → Wo → Prop} (D : Def K mg x st) (S : FnScope N ps (defScope st)) (hps : ps.length = 4)
    (hb : ∀ (kV doc pm : Value) (an : Option Addr) (cdv ct : Value) (us : List Value), us.length = ps.length → bindArgs (PySem.W.fnOf x x (defArgs st) (defBody st) (defScope st) .none kV doc pm an cdv ct) ⟨us, []⟩ = Pure.pure (ps.zip us))
    (hbody : ∀ (f : Addr) (cdv : Value) (A : Around) (outer : List Env) (s : Shared) (H : Hp) (E : XK) (a c wd ch : Addr) (g : G) (d0 d1 : PyData) (ω : Wo), Room k (A.deeper (envOfC x (defScope st) s.heap.objs.size f cdv)) → Pre g d0 d1 ω →
      ∃ t, PSs (cxOf CX0 P w K mg base N x (defScope st) f cdv A outer s H E).nox (defBody st) t ∧ XS K (RW a c wd ch) t (none :: some d0 :: none :: some d1 :: List.replicate (N.length - 4) none) [(0, V.ref a), (2, V.ref wd)] ω (fun _ _ => False) (fun d ω' => Rr g d0 d1 ω d ω')) : Cal P w K mg base (k + 1) x ps (spWG K Pre Rr) := by
  refine D.cal S (fun vs H Q E ⟨g, a, c, wd, ch, F, ws, ds, ω, z, _⟩ => by rw [z, hps]; rfl) hb fun f cdv A outer s H vs Q E hr ⟨g, a, c, wd, ch, F, ws, ds, ω, z, fs, W, h, ⟨d0, d1, e1, pr⟩, q⟩ => ?_
  obtain ⟨t, h1, h2⟩ := hbody f cdv A outer s H E a c wd ch g d0 d1 ω hr pr
  subst e1
  obtain ⟨v0, v1, rfl, a0, a1⟩ := h.inv2
  subst z
  have hN : 4 ≤ N.length := by have := congrArg List.length S.pre; rw [List.length_take] at this; omega
  refine ⟨t, h1, h2 _ _ F H fs ⟨?_, fun i d hi => ?_⟩ (fun i v hi => ?_) W (fun _ _ _ _ _ _ _ _ _ x => x.elim) fun v d ω' F' H' gr W' aa x => q v d ω' F' H' gr W' ⟨d0, d1, rfl, x⟩ aa⟩
  · unfold L2.start arr3
    simp
  · match i, hi with
    | 0, hi => cases hi
    | 1, hi => cases hi; exact ⟨v0, rfl, a0⟩
    | 2, hi => cases hi
    | 3, hi => cases hi; exact ⟨v1, rfl, a1⟩
    | i + 4, hi =>
      have hi' : (List.replicate (N.length - 4) (none : Option PyData))[i]? = some (some d) := hi
      have := List.eq_of_mem_replicate (List.mem_of_getElem? hi')
      cases this
  · rcases List.mem_cons.mp hi with z | z
    · cases z; rfl
    · cases List.mem_singleton.mp z; rfl
/-- items of scripts -/
def IsPart (E : Sur) (d : PyData) : Prop := (∃ (c : Nat) (x : Str), d = .tuple [.str "give", dn c, .str x] ∧ c ∈ E.gives) ∨ ∃ (c : Nat) (x : Str), d = .tuple [.str "take", dn c, .str x] ∧ c ∈ E.takes
def IsLoop (E : Sur) (X : List Nat) (d : PyData) : Prop := ∃ (n : Nat) (parts : List PyData) (k : Nat), d = .tuple [.str "loop", dn n, .list parts, dn k] ∧ n ≤ 3 ∧ parts.length ≤ 1000 ∧ (∀ p, p ∈ parts → IsPart E p) ∧ k ∈ X
def IsItem (E : Sur) (X : List Nat) : Nat → PyData → Prop
  | 0, _ => False
  | 1, d => IsPart E d
  | 2, d => IsPart E d ∨ IsLoop E X d
  | _, d => IsPart E d ∨ IsLoop E X d ∨ d = .tuple [.str "nest"]
def kap : Nat → Nat
  | 1 => 10
  | 2 => 60
  | _ => 300
def hgt : Nat → Nat
  | 1 => 3
  | 2 => 5
  | _ => 10
/-- the change of the world and what was made of it -/
structure Grown (E : Sur) (X : List Nat) (D κ : Nat) (ω ω' : Wo) (ss : List Sm) : Prop where
  w : Wle ω ω'
  nb : nbL ss + ω.nth = ω'.nth
  wk : wkL ss + κ * ω'.items + 16 * ω'.left ≤ κ * ω.items + 16 * ω.left
  ok : Made E X D ω ω' ss
theorem Grown.nil {E : Sur} {X : List Nat} {D κ : Nat} {ω : Wo} : Grown E X D κ ω ω [] := ⟨Wle.refl ω, Nat.zero_add _, by show 0 + _ + _ ≤ _; omega, Made.nil⟩
theorem Grown.app {E : Sur} {X : List Nat} {D κ : Nat} {ω ω1 ω2 : Wo} {ss ts : List Sm} (a : Grown E X D κ ω ω1 ss) (b : Grown E X D κ ω1 ω2 ts) : Grown E X D κ ω ω2 (ss ++ ts) :=
  ⟨a.w.trans b.w, by rw [nbL_append]; have := a.nb; have := b.nb; omega, by rw [wkL_append]; have := a.wk; have := b.wk; omega, a.ok.app b.ok a.w.mo b.w.mo⟩
/-- the environment's things are there, each once -/
structure SurBd (E : Sur) (ω : Wo) : Prop where
  cN : E.cells.Nodup
  gN : E.gives.Nodup
  tN : E.takes.Nodup
  c : ∀ k, k ∈ E.cells → k < ω.cells
  g : ∀ k, k ∈ E.gives → k < ω.ch.length
  t : ∀ k, k ∈ E.takes → k < ω.ch.length
  pot : ω.cells + 40 * ω.left + ω.items ≤ 5000
  c24 : ω.ch.length ≤ 24
theorem SurBd.go {E : Sur} {ω ω' : Wo} (h : SurBd E ω) (ce : ω.cells ≤ ω'.cells) (chl : ω.ch.length ≤ ω'.ch.length) (pot : ω'.cells + 40 * ω'.left + ω'.items ≤ ω.cells + 40 * ω.left + ω.items) (c24 : ω.ch.length ≤ 24 → ω'.ch.length ≤ 24) : SurBd E ω' :=
  ⟨h.cN, h.gN, h.tN, fun k hk => Nat.lt_of_lt_of_le (h.c k hk) ce, fun k hk => Nat.lt_of_lt_of_le (h.g k hk) chl, fun k hk => Nat.lt_of_lt_of_le (h.t k hk) chl, Nat.le_trans pot h.pot, c24 h.c24⟩
theorem SurBd.mono {E : Sur} {ω ω' : Wo} (h : SurBd E ω) (m : Wle ω ω') : SurBd E ω' := h.go m.ce m.chl m.pot m.c24
def preItems (lvl : Nat) (g : Sur × List Nat) (d0 d1 : PyData) (ω : Wo) : Prop := d0 = g.1.d ∧ SurOk g.1 ∧ SurBd g.1 ω ∧ ω.items ≤ 1000 ∧ ω.left ≤ 1000 ∧ ∃ its : List PyData, d1 = .list its ∧ ∀ it, it ∈ its → IsItem g.1 g.2 lvl it
def rItems (lvl : Nat) (g : Sur × List Nat) (_ _ : PyData) (ω : Wo) (d : PyData) (ω' : Wo) : Prop := ∃ ss : List Sm, d = .list (ss.map Sm.d) ∧ Grown g.1 g.2 (hgt lvl) (kap lvl) ω ω' ss ∧ (lvl ≤ 2 → ω'.left = ω.left)
/-- par, of nesting 0 and 1 -/
def pKap : Nat → Nat
  | 0 => 60
  | _ => 300
def pLam : Nat → Nat
  | 0 => 8
  | _ => 16
def pHgt : Nat → Nat
  | 0 => 7
  | _ => 12
def prePar (deep : Nat) (E : Sur) (d0 d1 : PyData) (ω : Wo) : Prop := d0 = E.d ∧ d1 = dn deep ∧ SurOk E ∧ SurBd E ω ∧ ω.items ≤ 1000 ∧ ω.left ≤ 1000
def rPar (deep : Nat) (E : Sur) (_ _ : PyData) (ω : Wo) (d : PyData) (ω' : Wo) : Prop := ∃ s : Sm, d = s.d ∧ Wle ω ω' ∧ s.nb + ω.nth = ω'.nth ∧ s.wk + pKap deep * ω'.items + pLam deep * ω'.left ≤ 2 + pKap deep * ω.items + pLam deep * ω.left ∧ Made E [] (pHgt deep) ω ω' [s]
theorem xs_yes {Γ : Type} {R : Res Γ} {γ : Γ} {tt : TT} {t u : TS} {e : DE} {pn : List (Nat × V)} {N : DE → Γ → Prop} {Z : PyData → Γ → Prop} (hc : EB K tt e true) (h : XS K R t e pn γ N Z) : XS K R (tIfS tt t u) e pn γ N Z :=
  xs_if (xb_eb hc) (fun γ1 x => by rw [x.2]; exact h) fun γ1 x => by cases x.1
theorem xs_no {Γ : Type} {R : Res Γ} {γ : Γ} {tt : TT} {t u : TS} {e : DE} {pn : List (Nat × V)} {N : DE → Γ → Prop} {Z : PyData → Γ → Prop} (hc : EB K tt e false) (h : XS K R u e pn γ N Z) : XS K R (tIfS tt t u) e pn γ N Z :=
  xs_if (xb_eb hc) (fun γ1 x => by cases x.1) fun γ1 x => by rw [x.2]; exact h
theorem xb_wpos {a c wd ch : Addr} {ω : Wo} {e : DE} {pn : List (Nat × V)} {i : Nat} (hi : (i, V.ref wd) ∈ pn) : XB K (RW a c wd ch) (tTest (tOp (rI0 fun i j => V.bl (decide (j < i))) (tDGet (tVar i) (tC (.str "items"))) (tC (.int 0)))) e pn ω (fun b ω' => b = decide (0 < ω.items) ∧ ω' = ω) :=
  (xb_cmp (P := fun d ω' => d = .bool (decide (0 < ω.items)) ∧ ω' = ω) ((xe_op (res := fun d1 d2 => match d1, d2 with | .int i, .int j => .bool (decide (j < i)) | _, _ => .none) (P2 := fun d1 d2 ω' => d1 = dn ω.items ∧ d2 = .int 0 ∧ ω' = ω) (w_items hi) (fun d1 ω1 x => (xe_ed ed_int).mono fun d2 ω2 y => ⟨x.1, y.1, y.2.trans x.2⟩) fun d1 d2 ω2 x => by
      obtain ⟨rfl, rfl, _⟩ := x
      exact rd_I0 (f := fun i j => .bool (decide (j < i))) fun i j H => .bl _).mono fun d ω' x => by
        obtain ⟨d1, d2, ⟨rfl, rfl, h⟩, rfl⟩ := x
        exact ⟨congrArg PyData.bool (decide_eq_decide.mpr (by omega)), h⟩) fun d ω' x => ⟨_, x.1⟩).mono fun b ω' x => ⟨PyData.bool.inj x.1, x.2⟩
def reD : PyData → PyData
  | .tuple [x, y, _] => .tuple [x, y, .str "loop"]
  | _ => .none
theorem rd_cat {ds es : List PyData} (hz : ds.length + es.length ≤ 16000000) : RD K rCat (.list ds) (.list es) (.list (ds ++ es)) := fun x y F H Q f hx hy q => by
  obtain ⟨a, xs, rfl, h1, h2⟩ := hx.lstI
  obtain ⟨b, ys, rfl, h3, h4⟩ := hy.lstI
  exact ⟨a, b, xs, ys, rfl, rfl, f _ _ h1, f _ _ h3, by rw [h2.length, h4.length]; exact line_le hz, fun p hp => let z := fz_lst f hp (h2.append h4); q _ _ _ z.1 z.2⟩
theorem IsPart.re {E : Sur} {d : PyData} (h : IsPart E d) : IsPart E (reD d) := by
  rcases h with ⟨c, x, rfl, h⟩ | ⟨c, x, rfl, h⟩
  · exact .inl ⟨c, "loop", rfl, h⟩
  · exact .inr ⟨c, "loop", rfl, h⟩
abbrev s_items : Stmt := topS 53
theorem sc_items : FnScope ["_law_state_here", "_law_env_here", "_law_world", "_law_items_here", "_law_found", "_law_item", "_law_row", "_law_counter", "_law_part", "_law_parts", "_law_inner"] ["_law_state_here", "_law_env_here", "_law_world", "_law_items_here"] (defScope s_items) := ⟨rfl, rfl, rfl, by decide +kernel, rfl, by decide +kernel, by decide +kernel⟩
abbrev CWrap (P : Program) (w : World) (K : PySem.W.Frag) (mg : Str → Option Value) (base : Heap) : Prop := Cal P w K mg base 9 "_law_wrapped" ["_law_state_here", "_law_env_here", "_law_world", "_law_part"] (spW3 K preWrap rWrap)
theorem ok_items (T : Txt K mg tW aF aS) (d : Def K mg "_law_items" s_items) (c_draw : CDraw P w K mg base) (c_expression : CExpr P w K mg base) (c_target : CTarget P w K mg base) (c_simple : CSimple P w K mg base) (c_wrapped : CWrap P w K mg base)
    {lvl k : Nat} (hl : 1 ≤ lvl) (hl3 : lvl ≤ 3) {PrI : Sur × List Nat → PyData → PyData → Wo → Prop} (hI : 2 ≤ lvl → ∀ g d0 d1 ω, preItems 1 g d0 d1 ω → PrI g d0 d1 ω) (hk : 9 ≤ k) (c_items : Cal P w K mg base k "_law_items" ["_law_state_here", "_law_env_here", "_law_world", "_law_items_here"] (spWG K PrI (rItems 1)))
    {PrP : Sur → PyData → PyData → Wo → Prop} (hP : lvl = 3 → ∀ E d0 d1 ω, prePar 0 E d0 d1 ω → PrP E d0 d1 ω) (c_par : Cal P w K mg base k "_law_par" ["_law_state_here", "_law_env_here", "_law_world", "_law_deep"] (spWG K PrP (rPar 0))) :
    Cal P w K mg base (k + 1) "_law_items" ["_law_state_here", "_law_env_here", "_law_world", "_law_items_here"] (spWG K (preItems lvl) (rItems lvl)) := by
  refine d.genWG sc_items rfl (fun _ _ _ _ _ _ us hl => match us, hl with | [_, _, _, _], _ => rfl) fun f cdv A outer s H E0' a c wd ch g d0 d1 ω hr ⟨h, hE, hBd, hi, hle, its, h1, h3⟩ => ?_
  subst h
  subst h1
  obtain ⟨E, X⟩ := g
  have hu := hu_of hr
  refine ⟨_, 
      (pss_cons (ps_set (i := 4) sc_items.nd rfl (Or.inl rfl) (pe_lst pa_nil)) (pss_cons (ps_for PassesOwn.never rfl (pi_list (pv 3)) (pg_name (i := 5) sc_items.nd rfl (Or.inl rfl))
      (pss_one (ps_if (pt_cmpR op_gt (pe_dget hu (pv 2) pe_str (fun _ _ => rfl)) pe_int (nomark _))
      (pss_cons (ps_dput hu (pv 2) pe_str (pe_op op_sub (pe_dget hu (pv 2) pe_str (fun _ _ => rfl)) pe_int) rfl)
      (pss_cons (ps_if (pt_cmpR op_eq (pe_cal c_draw (hr.mono (by omega)) (pa_cons (pv 0) (pa_cons pe_int pa_nil))) pe_int (nomark _))
      (pss_one (ps_expr (pe_bm PySem.F.plainAttrs_list PySem.F.slot_list_append PySem.F.type_list_append mt_append (pv 4) (pa_cons (pe_cal c_simple (hr.mono (by omega)) (pa_cons (pv 0) (pa_cons (pv 1) pa_nil))) pa_nil)))) pss_nil)
      (pss_one (ps_if (pt_cmpR op_eq (pe_ix ix_tup (pv 5) pe_int (fun _ _ => rfl)) pe_str (nomark _))
      (pss_one (ps_expr (pe_bm PySem.F.plainAttrs_list PySem.F.slot_list_append PySem.F.type_list_append mt_append (pv 4) (pa_cons (pe_tup (pa_cons pe_str (pa_cons (pe_ix ix_tup (pv 5) pe_int (fun _ _ => rfl)) (pa_cons (pe_cal c_expression (hr.mono (by omega)) (pa_cons (pv 0) (pa_cons (pv 1) (pa_cons pe_int pa_nil)))) pa_nil)))) pa_nil))))
      (pss_one (ps_if (PW.pt (pw_and (pt_cmpR op_eq (pe_ix ix_tup (pv 5) pe_int (fun _ _ => rfl)) pe_str (nomark _)) (pw_and (pt_val (pe_dget hu (pv 2) pe_str (fun _ _ => rfl))) (pw_and1 (pt_cmpR op_eq (pe_cal c_draw (hr.mono (by omega)) (pa_cons (pv 0) (pa_cons pe_int pa_nil))) pe_int (nomark _))))))
      (pss_cons ps_never (pss_one ps_never)) (pss_one (ps_if (pt_cmpR op_eq (pe_ix ix_tup (pv 5) pe_int (fun _ _ => rfl)) pe_str (nomark _))
      (pss_one (ps_expr (pe_bm PySem.F.plainAttrs_list PySem.F.slot_list_append PySem.F.type_list_append mt_append (pv 4) (pa_cons (pe_tup (pa_cons pe_str (pa_cons (pe_ix ix_tup (pv 5) pe_int (fun _ _ => rfl)) (pa_cons (pe_cal c_target (hr.mono (by omega)) (pa_cons (pv 0) (pa_cons (pv 1) pa_nil))) pa_nil)))) pa_nil))))
      (pss_one (ps_if (pt_cmpR op_eq (pe_ix ix_tup (pv 5) pe_int (fun _ _ => rfl)) pe_str (nomark _))
      (pss_cons (ps_set (i := 7) sc_items.nd rfl (Or.inl rfl) (pe_tup (pa_cons pe_str (pa_cons (pe_ix ix_tup (pv 5) pe_int (fun _ _ => rfl)) pa_nil))))
      (pss_cons (ps_setLc (i := 9) (own := [("_law_part", 8)]) (g := gName 8) (tt := tYes) (te := (tTup (tCons (tOp (rIxT K) (tVar 8) (tC (.int 0))) (tCons (tOp (rIxT K) (tVar 8) (tC (.int 1))) (tCons (tC (.str "loop")) tNil))))) rfl sc_items.nd rfl rfl (sw_true rfl rfl rfl (by decide +kernel)) (pi_list (pe_ix ix_tup (pv 5) pe_int (fun _ _ => rfl))) (blkOk_by (own := [("_law_part", 8)]) (N := ["_law_state_here", "_law_env_here", "_law_world", "_law_items_here", "_law_found", "_law_item", "_law_row", "_law_counter", "_law_part", "_law_parts", "_law_inner"]) (sc := defScope s_items) (by decide +kernel)) (fun _ _ _ _ _ => (pg_name (i := 8) sc_items.nd rfl (Or.inl rfl))) (fun _ _ _ _ _ => pts_nil) (fun _ _ _ _ _ => (pe_tup (pa_cons (pe_ix ix_tup (pv 8) pe_int (fun _ _ => rfl)) (pa_cons (pe_ix ix_tup (pv 8) pe_int (fun _ _ => rfl)) (pa_cons pe_str pa_nil))))))
      (pss_cons (ps_set (i := 10) sc_items.nd rfl (Or.inl rfl) (pe_op op_cat (pe_cal c_items (hr.mono (by omega)) (pa_cons (pv 0) (pa_cons (pv 1) (pa_cons (pv 2) (pa_cons (pv 9) pa_nil))))) (pe_lst (pa_cons (pe_tup (pa_cons pe_str (pa_cons (pv 7) (pa_cons (pe_tup (pa_cons pe_str (pa_cons (pv 7) (pa_cons (pe_tup (pa_cons pe_str (pa_cons pe_int pa_nil))) pa_nil)))) pa_nil)))) pa_nil))))
      (pss_cons (ps_expr (pe_bm PySem.F.plainAttrs_list PySem.F.slot_list_append PySem.F.type_list_append mt_append (pv 4) (pa_cons (pe_tup (pa_cons pe_str (pa_cons (pv 7) (pa_cons (pe_tup (pa_cons pe_str (pa_cons pe_int pa_nil))) pa_nil)))) pa_nil)))
      (pss_one (ps_expr (pe_bm PySem.F.plainAttrs_list PySem.F.slot_list_append PySem.F.type_list_append mt_append (pv 4) (pa_cons (pe_tup (pa_cons pe_str (pa_cons (pe_tup (pa_cons pe_str (pa_cons (pv 7) (pa_cons (pe_tup (pa_cons pe_str (pa_cons (pe_ix ix_tup (pv 5) pe_int (fun _ _ => rfl)) pa_nil))) pa_nil)))) (pa_cons (pe_op op_add (pe_ix ix_tup (pv 5) pe_int (fun _ _ => rfl)) (pe_cal c_draw (hr.mono (by omega)) (pa_cons (pv 0) (pa_cons pe_int pa_nil)))) (pa_cons (pe_tup (pa_cons pe_str (pa_cons (pv 10) pa_nil))) pa_nil))))) pa_nil))))))))
      (pss_one (ps_expr (pe_bm PySem.F.plainAttrs_list PySem.F.slot_list_append PySem.F.type_list_append mt_append (pv 4) (pa_cons (pe_cal c_wrapped (hr.mono (by omega)) (pa_cons (pv 0) (pa_cons (pv 1) (pa_cons (pv 2) (pa_cons (pe_cal c_par (hr.mono (by omega)) (pa_cons (pv 0) (pa_cons (pv 1) (pa_cons (pv 2) (pa_cons pe_int pa_nil))))) pa_nil))))) pa_nil)))))))))))))) pss_nil)))
      (pss_one (ps_ret (pv 4))))), ?_⟩
  have ha : (0, V.ref a) ∈ [(0, V.ref a), (2, V.ref wd)] := List.mem_cons_self ..
  have hw : (2, V.ref wd) ∈ [(0, V.ref a), (2, V.ref wd)] := List.mem_cons_of_mem _ (List.mem_cons_self ..)
  let D := hgt lvl
  let κ := kap lvl
  have hD : 3 ≤ hgt lvl := by
    unfold hgt
    split <;> decide
  have hκ : 10 ≤ kap lvl := by
    unfold kap
    split <;> decide
  refine xs_ownRet (i := 4) rfl (fun p => ?_) rfl
  have ha4 : (0, V.ref a) ∈ [(4, V.ref p), (0, V.ref a), (2, V.ref wd)] := by simp
  have hw4 : (2, V.ref wd) ∈ [(4, V.ref p), (0, V.ref a), (2, V.ref wd)] := by simp
  have hp4 : (4, V.ref p) ∈ [(4, V.ref p), (0, V.ref a), (2, V.ref wd)] := by simp
  refine (xs_for (ws := [5]) (fun _ γ' => ∃ ss : List Sm, γ'.2 = ss.map Sm.d ∧ Grown E X (hgt lvl) (kap lvl) ω γ'.1 ss ∧ (lvl ≤ 2 → γ'.1.left = ω.left)) (ed_var (i := 3) rfl) ⟨[], rfl, Grown.nil, fun _ => rfl⟩ rfl fun k x γ1 hx ⟨ss, hs, hg, hlf⟩ => ⟨_, eg_name, ?_⟩).mono (fun e' γ' ⟨_, ss, q1, q2, q3⟩ => ⟨ss, by rw [q1], q2, q3⟩) (fun _ _ z => z)
  obtain ⟨ω1, ds⟩ := γ1
  have hs' : ds = ss.map Sm.d := hs
  subst hs'
  have hit := h3 x (List.mem_of_getElem? hx)
  have b1 : ω1.items ≤ 1000 := Nat.le_trans hg.w.it hi
  have b2 : ω1.left ≤ 1000 := Nat.le_trans hg.w.le hle
  have hBd1 : SurBd E ω1 := hBd.mono hg.w
  have b3 : kap lvl ≤ 300 := by
    unfold kap
    split <;> decide
  have len : ∀ {ts : List Sm}, wkL ts ≤ 10000000 → (ts.map Sm.d).length ≤ 15000000 := fun {ts} h => by
    have := len_wkL ts
    rw [List.length_map]
    omega
  have wb : wkL ss ≤ 400000 := by
    have h1 := hg.wk
    have h2 : kap lvl * ω.items ≤ 300 * 1000 := Nat.mul_le_mul b3 hi
    omega
  let e5 : DE := [none, some E.d, none, some (.list its), none, some x, none, none, none, none, none]
  show XS K ((RW a c wd ch).own K p) _ e5 _ _ _ _
  refine xs_if (XB.lift lift_own (xb_wpos hw4)) (fun γ2 hx => ?_) fun γ2 hx => ?_
  rotate_left
  · obtain ⟨ω', ⟨_, rfl⟩, rfl⟩ := hx
    exact xs_next.mono (fun e' γ' ⟨h1, h2⟩ => ⟨by rw [h1]; exact .keep (.keep (.keep (.keep (.keep (.drop (.keep (.keep (.keep (.keep (.keep .nil)))))))))), by rw [h2]; exact ⟨ss, rfl, hg, hlf⟩⟩) fun _ _ z => z
  obtain ⟨ω', ⟨hpos, rfl⟩, rfl⟩ := hx
  have hpos' : 0 < ω'.items := of_decide_eq_true hpos.symm
  let ω2 : Wo := { ω' with items := ω'.items - 1 }
  have hBd2 : SurBd E ω2 := hBd1.go (Nat.le_refl _) (Nat.le_refl _) (by show ω'.cells + 40 * ω'.left + (ω'.items - 1) ≤ _; omega) fun h => h
  refine xs_seq (N1 := fun e' γ' => e' = e5 ∧ γ' = (ω2, ss.map Sm.d)) ((XS.lift lift_own (xs_wput (N := fun ω3 => ω3 = ω2) (Z := fun _ _ => False) hw4 (xe_op (res := fun d1 d2 => match d1, d2 with | .int i, .int j => .int (i - j) | _, _ => .none) (P2 := fun d1 d2 ω3 => d1 = dn ω'.items ∧ d2 = .int 1 ∧ ω3 = ω') (w_items hw4) (fun d1 ω1 x => (xe_ed ed_int).mono fun d2 ω2 y => ⟨x.1, y.1, y.2.trans x.2⟩) fun d1 d2 ω2 x => by
      obtain ⟨rfl, rfl, _⟩ := x
      exact rd_I0 (f := fun i j => .int (i - j)) fun i j H => .int _) fun d ω3 x => by
        obtain ⟨d1, d2, ⟨rfl, rfl, rfl⟩, rfl⟩ := x
        exact ⟨ω3.items - 1, _, congrArg PyData.int (by omega), put_items, rfl, rfl⟩)).mono (fun e' γ' ⟨ω3, ⟨h1, h2⟩, h3⟩ => ⟨h1, by rw [h3, h2]⟩) fun _ _ ⟨_, z, _⟩ => z) fun e1 γ1 ⟨h1, h2⟩ => ?_
  subst h1
  subst h2
  refine xs_seq (N1 := fun e' γ' => e' = e5 ∧ ∃ sp : List Sm, γ' = (ω2, ss.map Sm.d ++ sp.map Sm.d) ∧ nbL sp = 0 ∧ wkL sp ≤ 7 ∧ Made E X (hgt lvl) ω2 ω2 sp) (xs_if (XB.lift lift_own (XB.w (xb_eqC (xe_drawC (m := 2) ed_int (by decide) (by decide) ha4) fun d ⟨k, hd, _⟩ => ⟨k, hd⟩))) (fun γ2 hx => ?_) fun γ2 hx => ?_) fun e1 γ1 ⟨h1, sp, h2, h4, h5, h6⟩ => ?_
  · obtain ⟨ω3, ⟨_, rfl⟩, rfl⟩ := hx
    refine (xs_app (Z := fun _ _ => False) (XE.w (xe_simple hE rfl ha4)) (len (by omega)) hp4).mono (fun e' γ' ⟨h1, d, ⟨⟨s1, e1, n1, w1, k1⟩, h2⟩, h3⟩ => ⟨h1, [s1], ?_, ?_, ?_, ?_⟩) fun _ _ z => z
    · exact Prod.ext h2 (by rw [h3, e1]; rfl)
    · simp only [nbL, n1]
    · simp only [wkL]; omega
    · exact Made.one fun ps i S hS => (k1 ps i S hS).mono (fun _ _ z => z) hD (Fp.Le.refl S)
  · obtain ⟨ω3, ⟨_, rfl⟩, rfl⟩ := hx
    exact xs_next.mono (fun e' γ' ⟨h1, h2⟩ => ⟨h1, [], by rw [h2]; exact Prod.ext rfl (List.append_nil _).symm, rfl, Nat.zero_le _, Made.nil⟩) fun _ _ z => z
  subst h1
  subst h2
  have hcase : IsPart E x ∨ (IsLoop E X x ∧ 2 ≤ lvl) ∨ (x = .tuple [.str "nest"] ∧ lvl = 3) := by
    have : lvl = 1 ∨ lvl = 2 ∨ lvl = 3 := by omega
    rcases this with z | z | z
    · subst z; exact .inl hit
    · subst z
      exact (show IsPart E x ∨ IsLoop E X x from hit).imp id fun y => .inl ⟨y, by decide⟩
    · subst z
      exact (show IsPart E x ∨ IsLoop E X x ∨ x = .tuple [.str "nest"] from hit).imp id fun y => y.imp (fun y => ⟨y, by decide⟩) fun y => ⟨y, rfl⟩
  refine XS.mono (N := fun e' γ' => Forg e' [none, some E.d, none, some (.list its), none, none, none, none, none, none, none] ∧ ∃ ts : List Sm, γ'.2 = (ss.map Sm.d ++ sp.map Sm.d) ++ ts.map Sm.d ∧ Wle ω' γ'.1 ∧ Wmo ω2 γ'.1 ∧ nbL ts + ω2.nth = γ'.1.nth ∧ wkL ts + kap lvl * γ'.1.items + 16 * γ'.1.left + 7 ≤ kap lvl + kap lvl * ω2.items + 16 * ω2.left ∧ Made E X (hgt lvl) ω2 γ'.1 ts ∧ (lvl ≤ 2 → γ'.1.left = ω2.left)) ?_ (fun e' γ' ⟨q1, ts, q2, q3, q4, q5, q6, q7, q8⟩ => ⟨q1, ss ++ (sp ++ ts), ?_, hg.app ⟨q3, ?_, ?_, ?_⟩, fun h => (q8 h).trans (hlf h)⟩) fun _ _ z => z
  rotate_left
  · rw [q2, List.map_append, List.map_append, List.append_assoc]
  · rw [nbL_append, h4]
    have : ω2.nth = ω'.nth := rfl
    show 0 + nbL ts + ω'.nth = γ'.1.nth
    omega
  · rw [wkL_append]
    have z1 : kap lvl * ω'.items = kap lvl * ω2.items + kap lvl := by
      have : ω'.items = ω2.items + 1 := by show ω'.items = ω'.items - 1 + 1; omega
      rw [this, Nat.mul_add, Nat.mul_one]
    have z2 : ω2.left = ω'.left := rfl
    show wkL sp + wkL ts + kap lvl * γ'.1.items + 16 * γ'.1.left ≤ kap lvl * ω'.items + 16 * ω'.left
    omega
  · exact ((h6.app q7 (Wmo.refl ω2) q4).conv rfl rfl rfl)
  -- the kinds of items
  have same : Wle ω' ω2 := ⟨rfl, Nat.sub_le _ _, rfl, Nat.le_refl _, Nat.le_refl _, by show ω'.cells + 40 * ω'.left + (ω'.items - 1) ≤ _; omega, ⟨0, (List.append_nil _).symm⟩, fun h => h⟩
  have hlen : ((ss.map Sm.d ++ sp.map Sm.d)).length ≤ 15000000 := by
    have z1 := len_wkL ss
    have z2 := len_wkL sp
    rw [List.length_append, List.length_map, List.length_map]
    omega
  have fin : ∀ {t : Sm} {e' : DE} {γ' : Wo × List PyData} {dd : PyData}, e' = e5 → dd = t.d → γ'.1 = ω2 → γ'.2 = (ss.map Sm.d ++ sp.map Sm.d) ++ [dd] → t.nb = 0 → t.wk ≤ 2 → (∀ ps i S, SurIn E S → SmOk ps (hgt lvl) i S t) →
      Forg e' [none, some E.d, none, some (.list its), none, none, none, none, none, none, none] ∧ ∃ ts : List Sm, γ'.2 = (ss.map Sm.d ++ sp.map Sm.d) ++ ts.map Sm.d ∧ Wle ω' γ'.1 ∧ Wmo ω2 γ'.1 ∧ nbL ts + ω2.nth = γ'.1.nth ∧ wkL ts + kap lvl * γ'.1.items + 16 * γ'.1.left + 7 ≤ kap lvl + kap lvl * ω2.items + 16 * ω2.left ∧ Made E X (hgt lvl) ω2 γ'.1 ts ∧ (lvl ≤ 2 → γ'.1.left = ω2.left) := by
    intro t e' γ' dd q1 q2 q3 q4 q5 q6 q7
    refine ⟨by rw [q1]; exact .keep (.keep (.keep (.keep (.keep (.drop (.keep (.keep (.keep (.keep (.keep .nil)))))))))), [t], by rw [q4, q2]; rfl, by rw [q3]; exact same, by rw [q3]; exact Wmo.refl _, ?_, ?_, ?_, fun _ => by rw [q3]⟩
    · rw [q3]; simp only [nbL, q5]; omega
    · rw [q3]; simp only [wkL]; omega
    · rw [q3]; exact Made.one q7
  rcases hcase with (⟨ch1, xx, rfl, hc⟩ | ⟨ch1, xx, rfl, hc⟩) | ⟨⟨n, parts, cc, rfl, hn, hpl, hpp, hcX⟩, hl2⟩ | ⟨rfl, hl3'⟩
  · -- give
    refine xs_yes (by walk_at "eb") ((xs_app (Z := fun _ _ => False) (XE.w (xe_tup3 (P1 := fun d => d = .str "give") (P2 := fun d => d = dn ch1) (P3 := fun d => IsEx E 4 d) xe_strC (fun _ => xe_con (ed_ix1 (ed_var (i := 5) rfl)) rfl) fun _ => xe_expr (n := 2) hE (by decide) rfl ed_int ha4)) hlen hp4).mono (fun e' γ' hq => by
      obtain ⟨q1, dd, ⟨⟨_, _, _, e1, rfl, rfl, y, rfl, y1, y2⟩, q2⟩, q3⟩ := hq
      exact fin (t := .give ch1 y) q1 e1 q2 q3 rfl (Nat.le_refl _) fun ps i S hS => SmOk.mono (fun _ _ z => z) (SmOk.give (D := 0) (hS.gives _ hc) ⟨y2 S hS, by omega⟩) (by omega) (Fp.Le.refl S)) fun _ _ z => z)
  · -- take
    refine xs_no (by walk_at "eb") (xs_if (PB := fun b γ' => b = false ∧ γ' = (ω2, ss.map Sm.d ++ sp.map Sm.d)) (xb_and (PB1 := fun _ γ' => γ' = (ω2, ss.map Sm.d ++ sp.map Sm.d)) ((xb_eb (b := true) (by walk_at "eb")).mono fun b γ' x => x.2) (fun γ1 hx => by
      subst hx
      exact xb_and (PB1 := fun b γ' => b = false ∧ γ' = (ω2, ss.map Sm.d ++ sp.map Sm.d)) ((XB.lift lift_own (xb_val (w_alts hw4) fun d ω' x => ⟨_, x.1⟩)).mono fun b γ' ⟨ω3, ⟨x1, x2⟩, x3⟩ => ⟨PyData.bool.inj x1, by rw [x3, x2]⟩) (fun γ2 hx => by cases hx.1) fun γ2 hx => hx) fun γ1 hx => ⟨rfl, hx⟩) (fun γ1 hx => by cases hx.1) fun γ1 hx => ?_)
    obtain ⟨_, rfl⟩ := hx
    refine xs_yes (by walk_at "eb") ((xs_app (Z := fun _ _ => False) (XE.w (xe_tup3 (P1 := fun d => d = .str "take") (P2 := fun d => d = dn ch1) (P3 := fun d => IsTg E d) xe_strC (fun _ => xe_con (ed_ix1 (ed_var (i := 5) rfl)) rfl) fun _ => xe_target hE rfl ha4)) hlen hp4).mono (fun e' γ' hq => by
      obtain ⟨q1, dd, ⟨⟨_, _, _, e1, rfl, rfl, y, rfl, y1, y2⟩, q2⟩, q3⟩ := hq
      exact fin (t := .take ch1 y) q1 e1 q2 q3 rfl (Nat.le_refl _) fun ps i S hS => SmOk.mono (fun _ _ z => z) (SmOk.take (D := 0) (hS.takes _ hc) ⟨y2 S hS, by omega⟩) (by omega) (Fp.Le.refl S)) fun _ _ z => z)
  · -- loop
    refine xs_no (by walk_at "eb") (xs_no (eb_andF (by walk_at "eb")) (xs_no (by walk_at "eb") (xs_yes (by walk_at "eb") ?_)))
    refine xs_let (xe_ed (by walk_at "ed")) fun d1 γ1 hx1 => ?_
    obtain ⟨rfl, rfl⟩ := hx1
    refine xs_let (xe_ed (ed_lc (ws := [8]) (ds := parts) reD (ed_ix2 (ed_var (i := 5) rfl)) (by omega) fun q hq => ?_)) fun d2 γ2 hx2 => ?_
    · rcases hpp q hq with ⟨c1, x1, rfl, _⟩ | ⟨c1, x1, rfl, _⟩
      · exact ⟨_, eg_name, by walk_at "ed"⟩
      · exact ⟨_, eg_name, by walk_at "ed"⟩
    obtain ⟨rfl, rfl⟩ := hx2
    have hb2 : ω2.items ≤ 1000 := by show ω'.items - 1 ≤ 1000; omega
    refine xs_let (XE.lift lift_own (xe_op (res := fun d1 d2 => match d1, d2 with | .list a, .list b => .list (a ++ b) | _, _ => .none) (P1 := fun d ω3 => ∃ si : List Sm, d = .list (si.map Sm.d) ∧ Grown E X 3 10 ω2 ω3 si ∧ ω3.left = ω2.left) (P2 := fun d1 d2 ω3 => ∃ si : List Sm, d1 = .list (si.map Sm.d) ∧ Grown E X 3 10 ω2 ω3 si ∧ ω3.left = ω2.left ∧ d2 = .list [(Sm.set (.cell cc) (.bin .add (.cell cc) (.num 1))).d])
      ((xe_callG (g := (E, X)) (Pk := fun d ω3 => d = .list (parts.map reD) ∧ ω3 = ω2) ha4 hw4 (ed_var (i := 1) rfl) ((xe_ed (ed_var (i := 9) rfl)).mono fun d ω3 x => x) fun d1 ω3 hx => hI hl2 _ _ _ _ ⟨rfl, hE, by rw [hx.2]; exact hBd2, by rw [hx.2]; exact hb2, by rw [hx.2]; exact b2, _, hx.1, fun it hit2 => ?pa⟩).mono fun d ω3 ⟨d1, ω4, ⟨e1, e2⟩, si, h1, h2, h3⟩ => ?pb)
      (fun d1 ω3 hx => (xe_ed (by walk_at "ed")).mono fun d2 ω4 y => ?pc) fun d1 d2 ω3 hx => ?pd)) fun d3 γ3 hx3 => ?pe
    case pa =>
      obtain ⟨q, hq, rfl⟩ := List.mem_map.mp hit2
      exact (hpp q hq).re
    case pb =>
      subst e2
      exact ⟨si, h1, h2, h3 (by decide)⟩
    case pc =>
      obtain ⟨si, h1, h2, h3⟩ := hx
      exact ⟨si, h1, by rw [y.2]; exact h2, by rw [y.2]; exact h3, y.1⟩
    case pd =>
      obtain ⟨si, rfl, h2, _, rfl⟩ := hx
      refine rd_cat ?_
      have z1 := len_wkL si
      have z2 := h2.wk
      rw [List.length_map]
      show _ + 1 ≤ _
      omega
    obtain ⟨ω3, ⟨d1, d2, ⟨si, rfl, hsi, hsl, rfl⟩, rfl⟩, rfl⟩ := hx3
    let cset : Sm := .set (.cell cc) (.bin .add (.cell cc) (.num 1))
    let e6 : DE := [none, some E.d, none, some (.list its), none, some (.tuple [.str "loop", dn n, .list parts, dn cc]), none, some (Ex.cell cc).d, none, some (.list (parts.map reD)), some (.list (si.map Sm.d ++ [cset.d]))]
    show XS K ((RW a c wd ch).own K p) _ e6 _ (ω3, ss.map Sm.d ++ sp.map Sm.d) _ _
    refine xs_seq (N1 := fun e' γ' => e' = e6 ∧ γ' = (ω3, (ss.map Sm.d ++ sp.map Sm.d) ++ [(Sm.set (.cell cc) (.num 0)).d])) ((xs_app (Z := fun _ _ => False) (P := fun d ω4 => d = (Sm.set (.cell cc) (.num 0)).d ∧ ω4 = ω3) ((xe_ed (by walk_at "ed")).mono fun d ω4 x => x) hlen hp4).mono (fun e' γ' hq => ?qa) fun _ _ z => z) fun e1 γ1 hq => ?qb
    case qa =>
      obtain ⟨q1, dd, ⟨q2, q3⟩, q4⟩ := hq
      exact ⟨q1, Prod.ext q3 (by rw [q4, q2])⟩
    case qb =>
    obtain ⟨h1, h2⟩ := hq
    subst h1
    subst h2
    have hz2 : ((ss.map Sm.d ++ sp.map Sm.d) ++ [(Sm.set (.cell cc) (.num 0)).d]).length ≤ 15000000 := by
      have z1 := len_wkL ss
      have z2 := len_wkL sp
      rw [List.length_append, List.length_append, List.length_map, List.length_map]
      show _ + 1 ≤ _
      omega
    have ext : XE K (RS a c) (tOp (rI0 fun i j => V.int (i + j)) (tOp (rIxT K) (tVar 5) (tC (.int 1))) (tCall (spS K preDraw rDraw) [] E0 (tCons (tVar 0) (tCons (tC (.int 2)) tNil)))) e6 [(4, V.ref p), (0, V.ref a), (2, V.ref wd)] () (fun d _ => ∃ k : Nat, k < 2 ∧ d = dn (n + k)) :=
      (xe_op (res := fun d1 d2 => match d1, d2 with | .int i, .int j => .int (i + j) | _, _ => .none) (P2 := fun d1 d2 _ => d1 = dn n ∧ ∃ k : Nat, k < 2 ∧ d2 = dn k) (xe_ed (ed_ix1 (ed_var (i := 5) rfl))) (fun d γ1 x => (xe_drawC (m := 2) ed_int (by decide) (by decide) ha4).mono fun d2 γ2 ⟨k, hk, hm⟩ => ⟨x.1, k, hm, hk⟩) fun d1 d2 γ2 x => by
        obtain ⟨rfl, k, _, rfl⟩ := x
        exact rd_I0 (f := fun i j => .int (i + j)) fun i j H => .int _).mono fun d γ' x => by
          obtain ⟨d1, d2, ⟨rfl, k, hk, rfl⟩, rfl⟩ := x
          exact ⟨k, hk, congrArg PyData.int (by omega)⟩
    refine (xs_app (Z := fun _ _ => False) (P := fun d ω4 => (∃ k : Nat, k < 2 ∧ d = (Sm.rep (.bin .lt (.cell cc) (.num n)) (n + k) (.seq (si ++ [cset]))).d) ∧ ω4 = ω3) ((XE.w (xe_tup4 (P1 := fun d => d = .str "repeat") (P2 := fun d => d = (Ex.bin .lt (.cell cc) (.num n)).d) (P3 := fun d => ∃ k : Nat, k < 2 ∧ d = dn (n + k)) (P4 := fun d => d = (Sm.seq (si ++ [cset])).d) xe_strC (fun _ => xe_con (by walk_at "ed") rfl) (fun _ => ext) fun _ => xe_con (by walk_at "ed") (by
      show PyData.tuple _ = PyData.tuple _
      rw [smsD_map, List.map_append]
      rfl))).mono fun d ω4 x => ?ra) hz2 hp4).mono (fun e' γ' hq => ?rb) fun _ _ z => z
    case ra =>
      obtain ⟨⟨_, _, _, _, rfl, rfl, rfl, ⟨k, hk, rfl⟩, rfl⟩, rfl⟩ := x
      exact ⟨⟨k, hk, rfl⟩, rfl⟩
    case rb =>
      obtain ⟨q1, dd, ⟨⟨k, hk, q2⟩, q3⟩, q4⟩ := hq
      have hκ2 : 60 ≤ kap lvl := by
        have : lvl = 2 ∨ lvl = 3 := by omega
        rcases this with z | z <;> (rw [z]; decide)
      have hD2 : 5 ≤ hgt lvl := by
        have : lvl = 2 ∨ lvl = 3 := by omega
        rcases this with z | z <;> (rw [z]; decide)
      refine ⟨by rw [q1]; exact .keep (.keep (.keep (.keep (.keep (.drop (.keep (.drop (.keep (.drop (.drop .nil)))))))))), [.set (.cell cc) (.num 0), .rep (.bin .lt (.cell cc) (.num n)) (n + k) (.seq (si ++ [cset]))], by rw [q4, q2, List.append_assoc]; rfl, by rw [q3]; exact same.trans hsi.w, by rw [q3]; exact hsi.w.mo, ?_, ?_, ?_, fun _ => by rw [q3]; exact hsl⟩
      · rw [q3]
        have z1 := hsi.nb
        simp only [nbL, Sm.nb, nbL_append]
        show 0 + (nbL si + (0 + 0) + 0) + ω2.nth = ω3.nth
        omega
      · rw [q3]
        have z1 := hsi.wk
        have z2 : wkL (si ++ [cset]) = wkL si + 1 := by rw [wkL_append]; rfl
        simp only [wkL, Sm.wk, z2]
        have z3 : (n + k) * (1 + (1 + (wkL si + 1))) ≤ 4 * (1 + (1 + (wkL si + 1))) := Nat.mul_le_mul_right _ (by omega)
        have z4 : ω3.items ≤ ω2.items := hsi.w.it
        obtain ⟨dl, hdl⟩ : ∃ dl, ω2.items = ω3.items + dl := ⟨ω2.items - ω3.items, by omega⟩
        have z5 : kap lvl * ω2.items = kap lvl * ω3.items + kap lvl * dl := by rw [hdl, Nat.mul_add]
        have z6 : 60 * dl ≤ kap lvl * dl := Nat.mul_le_mul_right _ hκ2
        rw [hsl] at z1 ⊢
        omega
      · rw [q3]
        intro i ps S hp hi2 hE2 hX hN
        obtain ⟨more, m1, m2⟩ := hsi.ok i ps S hp hi2 hE2 hX hN
        obtain ⟨r1, w1⟩ := hX cc hcX
        refine ⟨more, m1, fun y hy => ?_⟩
        simp only [List.mem_cons, List.not_mem_nil, or_false] at hy
        rcases hy with rfl | rfl
        · exact SmOk.mono (fun _ _ z => z) (D := 1) (S := S) (.set (t := .cell cc) (e := .num 0) ⟨w1, Nat.zero_le _⟩ ⟨(show ExOk S.R (.num 0) from (by show 0 < 65536; decide)), Nat.zero_le _⟩) (by omega) (Fp.Le.refl S)
        · refine SmOk.mono (fun _ _ z => z) (D := 5) (S := S) (.rep (e := .bin .lt (.cell cc) (.num n)) ⟨(show ExOk S.R (.bin .lt (.cell cc) (.num n)) from ⟨r1, (by show n < 65536; omega)⟩), by show max 0 0 + 1 ≤ 6; decide⟩ (.seq fun y hy => ?_)) hD2 (Fp.Le.refl S)
          rcases List.mem_append.mp hy with z | z
          · exact m2 y z
          · rw [List.mem_singleton.mp z]
            exact .set (t := .cell cc) (e := .bin .add (.cell cc) (.num 1)) ⟨w1, Nat.zero_le _⟩ ⟨(show ExOk S.R (.bin .add (.cell cc) (.num 1)) from ⟨r1, (by show 1 < 65536; decide)⟩), by show max 0 0 + 1 ≤ 6; decide⟩
  · -- nest
    subst hl3'
    have hb2 : ω2.items ≤ 1000 := by show ω'.items - 1 ≤ 1000; omega
    refine xs_no (by walk_at "eb") (xs_no (eb_andF (by walk_at "eb")) (xs_no (by walk_at "eb") (xs_no (by walk_at "eb") ?_)))
    refine (xs_app (Z := fun _ _ => False) (xe_callW3 (Pk := fun d ω3 => rPar 0 E E.d (dn 0) ω2 d ω3) ha4 hw4 (ed_var (i := 1) rfl) ((xe_callG (g := E) (Pk := fun d ω3 => d = dn 0 ∧ ω3 = ω2) ha4 hw4 (ed_var (i := 1) rfl) (xe_ed ed_int) fun d1 ω3 hx => hP rfl E _ _ _ ⟨rfl, hx.1, hE, by rw [hx.2]; exact hBd2, by rw [hx.2]; exact hb2, by rw [hx.2]; exact b2⟩).mono fun d ω3 hq => ?na) fun d1 ω3 hx => ⟨E, rfl, hE⟩) hlen hp4).mono (fun e' γ' hq => ?nb) fun _ _ z => z
    case na =>
      obtain ⟨d1, ω4, ⟨e1, e2⟩, hq⟩ := hq
      subst e1
      subst e2
      exact hq
    case nb =>
      obtain ⟨q1, dd, ⟨d1, ω3, ⟨s1, rfl, w1, n1, k1, m1⟩, E', eE, hw1, hw2⟩, q3⟩ := hq
      have eE' := Sur.inj eE
      subst eE'
      obtain ⟨q, eq, qn, qw, qok⟩ := hw2 s1 rfl
      have kk : kap 3 = 300 := rfl
      have hmo : Wmo ω3 γ'.1 ∧ γ'.1.items = ω3.items ∧ γ'.1.left = ω3.left ∧ γ'.1.nth = ω3.nth ∧ Wle ω' γ'.1 := by
        rcases hw1 with z | z
        · rw [z]; exact ⟨Wmo.refl _, rfl, rfl, rfl, same.trans w1⟩
        · rw [z]
          refine ⟨⟨Nat.le_refl _, Nat.le_succ _, Nat.le_refl _⟩, rfl, rfl, rfl, w1.lo, ?_, w1.th, w1.le, ?_, ?_, w1.ch, w1.c24⟩
          · have := w1.it
            show ω3.items ≤ ω'.items
            have : ω2.items = ω'.items - 1 := rfl
            omega
          · have := w1.ce
            show ω'.cells ≤ ω3.cells + 1
            have : ω2.cells = ω'.cells := rfl
            omega
          · have h1 := w1.pot
            show ω3.cells + 1 + 40 * ω3.left + ω3.items ≤ ω'.cells + 40 * ω'.left + ω'.items
            have h2 : ω2.items = ω'.items - 1 := rfl
            have h3 : ω2.cells = ω'.cells := rfl
            have h4 : ω2.left = ω'.left := rfl
            omega
      obtain ⟨hm1, hm2, hm3, hm4, hm5⟩ := hmo
      refine ⟨by rw [q1]; exact .keep (.keep (.keep (.keep (.keep (.drop (.keep (.keep (.keep (.keep (.keep .nil)))))))))), [q], by rw [q3, eq]; rfl, hm5, w1.mo.trans hm1, ?_, ?_, ?_, fun h => absurd h (by decide)⟩
      · simp only [nbL, qn, hm4]
        omega
      · have z1 : pKap 0 = 60 := rfl
        have z2 : pLam 0 = 8 := rfl
        rw [z1, z2] at k1
        have z3 := w1.it
        simp only [wkL, hm2, hm3, kk]
        omega
      · intro i ps S hp hi2 hE2 hX hN
        obtain ⟨more, y1, y2⟩ := m1 i ps S hp hi2 hE2 (fun _ h => (nomatch h)) (hN.left hm1)
        refine ⟨more, y1.trans hm4.symm, fun y hy => ?_⟩
        rw [List.mem_singleton.mp hy]
        exact qok 7 _ i S hE2 (hN.right w1.mo) (by decide) (y2 s1 (List.mem_singleton.mpr rfl))
end
end Pa
/-! The rows of a par, made one behind the other: a well-formed statement. -/
namespace Pa
open PySem L2
/-- a base with what is new -/
def Fp.more (B : Fp) (lo hi clo chi : Nat) : Fp := ⟨fun k => B.R k ∨ (lo ≤ k ∧ k < hi), fun k => B.W k ∨ (lo ≤ k ∧ k < hi), fun c => B.G c ∨ (clo ≤ c ∧ c < chi), fun c => B.T c ∨ (clo ≤ c ∧ c < chi)⟩
structure Fp.Lt (B : Fp) (nc nch : Nat) : Prop where
  r : ∀ k, B.R k → k < nc
  w : ∀ k, B.W k → k < nc
  g : ∀ k, B.G k → k < nch
  t : ∀ k, B.T k → k < nch
theorem Fp.more_compat {B B' : Fp} {nc nch lo hi clo chi lo' hi' clo' chi' : Nat} (c : Compat B B') (h : B.Lt nc nch) (h' : B'.Lt nc nch) (h1 : nc ≤ lo) (h2 : nch ≤ clo) (h3 : nc ≤ lo') (h4 : nch ≤ clo') (h5 : hi ≤ lo') (h6 : chi ≤ clo') : Compat (B.more lo hi clo chi) (B'.more lo' hi' clo' chi') := by
  constructor
  · rintro k (a | a) (b | b)
    · exact c.wr k a b
    · have := h.w k a; omega
    · have := h'.r k b; omega
    · omega
  · rintro k (a | a) (b | b)
    · exact c.rw k a b
    · have := h.r k a; omega
    · have := h'.w k b; omega
    · omega
  · rintro k (a | a) (b | b)
    · exact c.ww k a b
    · have := h.w k a; omega
    · have := h'.w k b; omega
    · omega
  · rintro k (a | a) (b | b)
    · exact c.gg k a b
    · have := h.g k a; omega
    · have := h'.g k b; omega
    · omega
  · rintro k (a | a) (b | b)
    · exact c.tt k a b
    · have := h.t k a; omega
    · have := h'.t k b; omega
    · omega
/-- one child's statement, made while the world changed from ω to ω' -/
structure KidS (E : Sur) (X : List Nat) (D κ : Nat) (ω ω' : Wo) (s : Sm) : Prop where
  w : Wle ω ω'
  nb : s.nb + ω.nth = ω'.nth
  wk : s.wk + κ * ω'.items + 16 * ω'.left ≤ 8 + κ * ω.items + 16 * ω.left
  ok : Made E X D ω ω' [s]
abbrev Wo.next (ω : Wo) : Wo := { ω with nth := ω.nth + 1 }
inductive RowsG (Es : Nat → Sur) (Xs : Nat → List Nat) (D κ : Nat) (ω : Wo) : Nat → Wo → List (Nat × Sm) → Prop
  | nil : RowsG Es Xs D κ ω 0 ω []
  | snoc {k : Nat} {ω1 ω3 : Wo} {rows : List (Nat × Sm)} {s : Sm} : RowsG Es Xs D κ ω k ω1 rows → KidS (Es k) (Xs k) D κ ω1.next ω3 s → RowsG Es Xs D κ ω (k + 1) ω3 (rows ++ [(ω1.nth, s)])
/-- how the world went on -/
structure Wrow (k : Nat) (ω ω' : Wo) : Prop where
  lo : ω'.loops = ω.loops
  it : ω'.items ≤ ω.items
  th : ω'.nth + ω'.left = ω.nth + k + ω.left
  le : ω'.left ≤ ω.left
  ce : ω.cells ≤ ω'.cells
  pot : ω'.cells + 40 * ω'.left + ω'.items ≤ ω.cells + 40 * ω.left + ω.items
  ch : ∃ m, ω'.ch = ω.ch ++ List.replicate m ("inner" : Str)
  c24 : ω.ch.length ≤ 24 → ω'.ch.length ≤ 24
section
variable {Es : Nat → Sur} {Xs : Nat → List Nat} {D κ k : Nat} {ω ω' : Wo} {rows : List (Nat × Sm)}
theorem RowsG.wrow (h : RowsG Es Xs D κ ω k ω' rows) : Wrow k ω ω' := by
  induction h with
  | nil => exact ⟨rfl, Nat.le_refl _, rfl, Nat.le_refl _, Nat.le_refl _, Nat.le_refl _, ⟨0, (List.append_nil _).symm⟩, fun h => h⟩
  | @snoc k ω1 ω3 rows s _ q ih =>
    have h1 := q.w.th
    have h2 := q.w.le
    have h3 := q.w.ce
    have h4 := q.w.pot
    have h5 := q.w.it
    have h6 := ih.th
    have h7 := ih.le
    have h8 := ih.ce
    have h9 := ih.pot
    have h10 := ih.it
    simp only [Wo.next] at h1 h2 h3 h4 h5
    obtain ⟨m, e1⟩ := ih.ch
    obtain ⟨n, e2⟩ := q.w.ch
    simp only [Wo.next] at e2
    exact ⟨q.w.lo.trans ih.lo, by omega, by omega, by omega, by omega, by omega, ⟨m + n, by rw [e2, e1, List.append_assoc, List.replicate_append_replicate]⟩, fun h => q.w.c24 (ih.c24 h)⟩
theorem RowsG.nb (h : RowsG Es Xs D κ ω k ω' rows) : nbR rows + ω.nth = ω'.nth := by
  induction h with
  | nil => exact Nat.zero_add _
  | @snoc k ω1 ω3 rows s _ q ih =>
    have h1 := q.nb
    simp only [Wo.next] at h1
    rw [nbR_append]
    simp only [nbR]
    omega
theorem RowsG.wk (h : RowsG Es Xs D κ ω k ω' rows) : wkR rows + κ * ω'.items + 16 * ω'.left ≤ 8 * k + κ * ω.items + 16 * ω.left := by
  induction h with
  | nil => simp only [wkR]; omega
  | @snoc k ω1 ω3 rows s _ q ih =>
    have h1 := q.wk
    simp only [Wo.next] at h1
    rw [wkR_append]
    simp only [wkR]
    omega
theorem RowsG.len (h : RowsG Es Xs D κ ω k ω' rows) : rows.length = k := by
  induction h with
  | nil => rfl
  | snoc _ _ ih => rw [List.length_append, ih]; rfl
/-- .. as branches -/
structure Branches (Bs : Nat → Fp) (D k i : Nat) (ω ω' : Wo) (rows : List (Nat × Sm)) (S : Fp) (ps : List Nat) (F : Nat → Fp) : Prop where
  len : ps.length = ω'.nth
  nd : (rows.map (·.1)).Nodup
  row : ∀ t s, (t, s) ∈ rows → ω.nth ≤ t ∧ t < ω'.nth ∧ ps[t]? = some i ∧ (F t).Le S ∧ SmOk ps D t (F t) s
  fp : ∀ t s, (t, s) ∈ rows → ∃ j lo hi clo chi, j < k ∧ F t = (Bs j).more lo hi clo chi ∧ ω.cells ≤ lo ∧ hi ≤ ω'.cells ∧ ω.ch.length ≤ clo ∧ chi ≤ ω'.ch.length
  cp : ∀ t s t' s', (t, s) ∈ rows → (t', s') ∈ rows → t ≠ t' → Compat (F t) (F t')
theorem RowsG.branches {Bs : Nat → Fp} {n : Nat} (h : RowsG Es Xs D κ ω k ω' rows) (hk : k ≤ n) (hlt : ∀ j, j < n → (Bs j).Lt ω.cells ω.ch.length) (hcp : ∀ i j, i < n → j < n → i ≠ j → Compat (Bs i) (Bs j)) (hin : ∀ j, j < n → SurIn (Es j) (Bs j) ∧ ∀ x, x ∈ Xs j → (Bs j).R x ∧ (Bs j).W x) :
    ∀ (i : Nat) (ps : List Nat) (S : Fp), ps.length = ω.nth → i < ω.nth → (∀ j, j < n → (Bs j).Le S) → NewIn ω ω' S → ∃ more F, Branches Bs D k i ω ω' rows S (ps ++ more) F := by
  induction h with
  | nil =>
    intro i ps S hp hi hB hN
    exact ⟨[], fun _ => S, by rw [List.append_nil]; exact hp, List.nodup_nil, fun t s h => (nomatch h), fun t s h => (nomatch h), fun t s t' s' h => (nomatch h)⟩
  | @snoc k ω1 ω3 rows s hr q ih =>
    intro i ps S hp hi hB hN
    have w1 := hr.wrow
    have w3 := q.w
    have c1 := w1.ce
    have c3 : ω1.cells ≤ ω3.cells := w3.ce
    have l1 : ω.ch.length ≤ ω1.ch.length := by
      obtain ⟨m, e⟩ := w1.ch
      rw [e, List.length_append]
      omega
    have l3 : ω1.ch.length ≤ ω3.ch.length := w3.chl
    have n3 : ω1.nth + 1 ≤ ω3.nth := w3.nt
    obtain ⟨more, F, hb⟩ := ih (by omega) i ps S hp hi hB ⟨fun k h1 h2 => hN.cell k h1 (by omega), fun c h1 h2 => hN.chan c h1 (by omega)⟩
    have hkn : k < n := hk
    let Fk : Fp := (Bs k).more ω1.cells ω3.cells ω1.ch.length ω3.ch.length
    have hFS : Fk.Le S := by
      have b := hB k hkn
      refine ⟨?_, ?_, ?_, ?_⟩
      · rintro x (z | z)
        · exact b.r x z
        · exact (hN.cell x (by omega) z.2).1
      · rintro x (z | z)
        · exact b.w x z
        · exact (hN.cell x (by omega) z.2).2
      · rintro x (z | z)
        · exact b.g x z
        · exact (hN.chan x (by omega) z.2).1
      · rintro x (z | z)
        · exact b.t x z
        · exact (hN.chan x (by omega) z.2).2
    obtain ⟨hs, hX⟩ := hin k hkn
    have nn : ω.nth ≤ ω1.nth := by
      have := hr.nb
      omega
    obtain ⟨more2, y1, y2⟩ := q.ok ω1.nth (ps ++ more ++ [i]) Fk (by rw [List.length_append, hb.len]; rfl) (Nat.lt_succ_self _)
      ⟨fun k hk => ⟨.inl (hs.cells k hk).1, .inl (hs.cells k hk).2⟩, fun k hk => .inl (hs.reads k hk), fun s hs' k h1 h2 => ⟨.inl (hs.spans s hs' k h1 h2).1, .inl (hs.spans s hs' k h1 h2).2⟩, fun k hk => .inl (hs.gives k hk), fun k hk => .inl (hs.takes k hk)⟩
      (fun x hx => ⟨.inl (hX x hx).1, .inl (hX x hx).2⟩) ⟨fun k h1 h2 => ⟨.inr ⟨h1, h2⟩, .inr ⟨h1, h2⟩⟩, fun c h1 h2 => ⟨.inr ⟨h1, h2⟩, .inr ⟨h1, h2⟩⟩⟩
    have new : ω1.nth ∉ rows.map (·.1) := fun z => by
      obtain ⟨⟨t, s'⟩, h1, h2⟩ := List.mem_map.mp z
      have h3 := (hb.row t s' h1).2.1
      have h4 : t = ω1.nth := h2
      omega
    have old : ∀ t s', (t, s') ∈ rows → t ≠ ω1.nth := fun t s' ht e => new (List.mem_map.mpr ⟨(t, s'), ht, e⟩)
    have e0 : ps ++ more ++ [i] ++ more2 = ps ++ (more ++ [i] ++ more2) := by simp only [List.append_assoc]
    rw [e0] at y1 y2
    have up : ∀ (t x : Nat), (ps ++ more)[t]? = some x → (ps ++ (more ++ [i] ++ more2))[t]? = some x := fun t x h => by
      rw [← e0, List.append_assoc]
      exact get_app t x h
    refine ⟨more ++ [i] ++ more2, fun t => if t = ω1.nth then Fk else F t, y1, ?_, fun t s' ht => ?_, fun t s' ht => ?_, fun t s' t' s'' ht ht' ne => ?_⟩
    · rw [List.map_append]
      exact List.nodup_append.mpr ⟨hb.nd, List.nodup_cons.mpr ⟨List.not_mem_nil, List.nodup_nil⟩, fun x hx y hy z => new (by
        have e1 : y = ω1.nth := List.mem_singleton.mp hy
        rw [← e1, ← z]; exact hx)⟩
    · rcases List.mem_append.mp ht with z | z
      · obtain ⟨h1, h2, h3, h4, h5⟩ := hb.row t s' z
        rw [if_neg (old t s' z)]
        exact ⟨h1, by omega, up t i h3, h4, h5.mono up (Nat.le_refl _) (Fp.Le.refl _)⟩
      · cases List.mem_singleton.mp z
        rw [if_pos rfl]
        refine ⟨nn, by omega, ?_, hFS, y2 s (List.mem_singleton.mpr rfl)⟩
        rw [← e0, List.append_assoc, List.getElem?_append_right (by rw [hb.len]; exact Nat.le_refl _), hb.len, Nat.sub_self]
        rfl
    · rcases List.mem_append.mp ht with z | z
      · rw [if_neg (old t s' z)]
        obtain ⟨j, lo, hi, clo, chi, h1, h2, h3, h4, h5, h6⟩ := hb.fp t s' z
        exact ⟨j, lo, hi, clo, chi, by omega, h2, h3, by omega, h5, by omega⟩
      · cases List.mem_singleton.mp z
        rw [if_pos rfl]
        exact ⟨k, _, _, _, _, Nat.lt_succ_self _, rfl, by omega, Nat.le_refl _, by omega, Nat.le_refl _⟩
    · have side : ∀ t s', (t, s') ∈ rows → Compat (F t) Fk := fun t s' z => by
        obtain ⟨j, lo, hi, clo, chi, h1, h2, h3, h4, h5, h6⟩ := hb.fp t s' z
        rw [h2]
        exact Fp.more_compat (hcp j k (by omega) hkn (by omega)) (hlt j (by omega)) (hlt k hkn) h3 h5 (by omega) (by omega) h4 h6
      rcases List.mem_append.mp ht with z | z
      · rw [if_neg (old t s' z)]
        rcases List.mem_append.mp ht' with z' | z'
        · rw [if_neg (old t' s'' z')]
          exact hb.cp t s' t' s'' z z' ne
        · cases List.mem_singleton.mp z'
          rw [if_pos rfl]
          exact side t s' z
      · cases List.mem_singleton.mp z
        rw [if_pos rfl]
        rcases List.mem_append.mp ht' with z' | z'
        · rw [if_neg (old t' s'' z')]
          exact (side t' s'' z').symm
        · cases List.mem_singleton.mp z'
          exact absurd rfl ne
/-- the par is well-formed -/
theorem RowsG.made {Bs : Nat → Fp} (h : RowsG Es Xs D κ ω k ω' rows) (hlt : ∀ j, j < k → (Bs j).Lt ω.cells ω.ch.length) (hcp : ∀ i j, i < k → j < k → i ≠ j → Compat (Bs i) (Bs j)) (hin : ∀ j, j < k → SurIn (Es j) (Bs j) ∧ ∀ x, x ∈ Xs j → (Bs j).R x ∧ (Bs j).W x)
    {E : Sur} {ω0 : Wo} (h0 : ω0.nth = ω.nth) (h1 : Wmo ω0 ω) (hle : ∀ S, SurIn E S → NewIn ω0 ω S → ∀ j, j < k → (Bs j).Le S) : Made E [] (D + 1) ω0 ω' [.par rows] := by
  intro i ps S hp hi hE hX hN
  have w := h.wrow
  have l1 : ω.ch.length ≤ ω'.ch.length := by
    obtain ⟨m, e⟩ := w.ch
    rw [e, List.length_append]
    omega
  have c1 := w.ce
  have hN1 : NewIn ω0 ω S := ⟨fun k h2 h3 => hN.cell k h2 (by omega), fun c h2 h3 => hN.chan c h2 (by omega)⟩
  have hN2 : NewIn ω ω' S := ⟨fun k h2 h3 => hN.cell k (by have := h1.ce; omega) h3, fun c h2 h3 => hN.chan c (by have := h1.chl; omega) h3⟩
  obtain ⟨more, F, hb⟩ := h.branches (Nat.le_refl k) hlt hcp hin i ps S (hp.trans h0) (by omega) (hle S hE hN1) hN2
  refine ⟨more, hb.len, fun s hs => ?_⟩
  rw [List.mem_singleton.mp hs]
  exact .par F hb.nd (fun t s' ht => by
    obtain ⟨q1, q2, q3, q4, q5⟩ := hb.row t s' ht
    exact ⟨q3, by omega, q4⟩) (fun t s' ht => (hb.row t s' ht).2.2.2.2) (fun t t' s1 s2 h1 h2 ne => hb.cp t s1 t' s2 h1 h2 ne)
end
end Pa
/-! More own things: a list of refs that stands, many own lists. -/
namespace Pa
open PySem L2 PyProof.Rows
section
variable {K : PySem.W.Frag} {Γ : Type} {R : Res Γ}
/-- a list at p that stands as it is, not frozen -/
def Res.raw (R : Res Γ) (p : Addr) (vs : List V) : Res Γ where
  M := fun b => R.M b ∨ b = p
  J := fun γ F H => R.J γ F H ∧ ¬ R.M p ∧ F p = none ∧ H p = some (.lst vs)
  thru := fun γ F H F' H' ⟨j, m, n, h1⟩ z => ⟨R.thru _ _ _ _ _ j z, m, z.away n (some_ne h1), z.h _ _ h1⟩
  frz := fun γ F H q o ⟨j, m, n, h1⟩ nq fq => by
    obtain ⟨n1, n2⟩ := own_ne nq
    exact ⟨R.frz _ _ _ _ _ j n1 fq, m, by rw [upd_ne (Ne.symm n2)]; exact n, h1⟩
  ex := fun γ F H b ⟨j, m, n, h1⟩ hb => by
    rcases hb with z | z
    · exact R.ex _ _ _ _ j z
    · subst z; exact ⟨some_ne h1, n⟩
  oth := fun γ F H q o ⟨j, m, n, h1⟩ nq fq => by
    obtain ⟨n1, n2⟩ := own_ne nq
    exact ⟨R.oth _ _ _ _ _ j n1 fq, m, n, by rw [upd_ne (Ne.symm n2)]; exact h1⟩
theorem lift_raw {p : Addr} {vs : List V} : Lift R (R.raw p vs) id (fun _ γ' => γ') :=
  ⟨fun _ h => .inl h, fun _ _ _ h => h.1, fun δ F H γ' F' H' ⟨j, m, n, h1⟩ g jj => ⟨jj, m, g.away n (some_ne h1), g.h p _ m h1⟩⟩
theorem Lift.trans {Γ Δ Θ : Type} {R : Res Γ} {R1 : Res Δ} {R2 : Res Θ} {g1 : Δ → Γ} {p1 : Δ → Γ → Δ} {g2 : Θ → Δ} {p2 : Θ → Δ → Θ} (a : Lift R R1 g1 p1) (b : Lift R1 R2 g2 p2) : Lift R R2 (fun θ => g1 (g2 θ)) (fun θ γ => p2 θ (p1 (g2 θ) γ)) :=
  ⟨fun x h => b.m x (a.m x h), fun θ F H h => a.j _ _ _ (b.j _ _ _ h), fun θ F H γ' F' H' h g jj => b.b _ _ _ _ _ _ h (g.mono a.m fun _ z => z) (a.b _ _ _ _ _ _ (b.j _ _ _ h) g jj)⟩
/-- many own lists, at as -/
def Res.lists (K : PySem.W.Frag) (R : Res Γ) (as : List Addr) : Res (Γ × List (List PyData)) where
  M := fun b => R.M b ∨ b ∈ as
  J := fun γ F H => R.J γ.1 F H ∧ as.Nodup ∧ γ.2.length = as.length ∧ (∀ p, p ∈ as → ¬ R.M p ∧ F p = none) ∧ ∀ (j : Nat) (p : Addr) (ds : List PyData), as[j]? = some p → γ.2[j]? = some ds → ∃ xs, H p = some (.lst xs) ∧ Das K F xs ds
  thru := fun γ F H F' H' ⟨j, nd, l, m, h⟩ z => ⟨R.thru _ _ _ _ _ j z, nd, l, fun p hp => ⟨(m p hp).1, by
    obtain ⟨i, hi, e⟩ := List.getElem_of_mem hp
    obtain ⟨xs, h1, _⟩ := h i p (γ.2[i]'(by omega)) (by rw [← e]; exact List.getElem?_eq_getElem hi) (List.getElem?_eq_getElem _)
    exact z.away (m p hp).2 (some_ne h1)⟩, fun i p ds h1 h2 => by
      obtain ⟨xs, h3, h4⟩ := h i p ds h1 h2
      exact ⟨xs, z.h _ _ h3, h4.mono z.f⟩⟩
  frz := fun γ F H q o ⟨j, nd, l, m, h⟩ nq fq => ⟨R.frz _ _ _ _ _ j (fun y => nq (.inl y)) fq, nd, l, fun p hp => ⟨(m p hp).1, by
    have : p ≠ q := fun z => nq (.inr (z ▸ hp))
    rw [upd_ne this]; exact (m p hp).2⟩, fun i p ds h1 h2 => by
      obtain ⟨xs, h3, h4⟩ := h i p ds h1 h2
      exact ⟨xs, h3, h4.mono (same_upd fq)⟩⟩
  ex := fun γ F H b ⟨j, nd, l, m, h⟩ hb => by
    rcases hb with z | z
    · exact R.ex _ _ _ _ j z
    · obtain ⟨i, hi, e⟩ := List.getElem_of_mem z
      obtain ⟨xs, h1, _⟩ := h i b (γ.2[i]'(by omega)) (by rw [← e]; exact List.getElem?_eq_getElem hi) (List.getElem?_eq_getElem _)
      exact ⟨some_ne h1, (m b z).2⟩
  oth := fun γ F H q o ⟨j, nd, l, m, h⟩ nq fq => ⟨R.oth _ _ _ _ _ j (fun y => nq (.inl y)) fq, nd, l, m, fun i p ds h1 h2 => by
    obtain ⟨xs, h3, h4⟩ := h i p ds h1 h2
    have : p ≠ q := fun z => nq (.inr (z ▸ List.mem_of_getElem? h1))
    exact ⟨xs, by rw [upd_ne this]; exact h3, h4⟩⟩
theorem lift_lists {as : List Addr} : Lift R (R.lists K as) Prod.fst (fun δ γ' => (γ', δ.2)) :=
  ⟨fun _ h => .inl h, fun _ _ _ h => h.1, fun δ F H γ' F' H' ⟨j, nd, l, m, h⟩ g jj => ⟨jj, nd, l, fun p hp => ⟨(m p hp).1, by
    obtain ⟨i, hi, e⟩ := List.getElem_of_mem hp
    obtain ⟨xs, h1, _⟩ := h i p (δ.2[i]'(by omega)) (by rw [← e]; exact List.getElem?_eq_getElem hi) (List.getElem?_eq_getElem _)
    exact g.away (m p hp).2 (some_ne h1)⟩, fun i p ds h1 h2 => by
      obtain ⟨xs, h3, h4⟩ := h i p ds h1 h2
      exact ⟨xs, g.h _ _ (m p (List.mem_of_getElem? h1)).1 h3, h4.mono g.f⟩⟩⟩
/-- something more is known of the frozen part -/
def Res.know (R : Res Γ) (Φ : Hp → Prop) (hΦ : ∀ F F', Same F F' → Φ F → Φ F') : Res Γ where
  M := R.M
  J := fun γ F H => R.J γ F H ∧ Φ F
  thru := fun γ F H F' H' ⟨j, f⟩ z => ⟨R.thru _ _ _ _ _ j z, hΦ _ _ z.f f⟩
  frz := fun γ F H q o ⟨j, f⟩ nq fq => ⟨R.frz _ _ _ _ _ j nq fq, hΦ _ _ (same_upd fq) f⟩
  ex := fun γ F H b ⟨j, f⟩ hb => R.ex _ _ _ _ j hb
  oth := fun γ F H q o ⟨j, f⟩ nq fq => ⟨R.oth _ _ _ _ _ j nq fq, f⟩
theorem lift_know {Φ : Hp → Prop} {hΦ : ∀ F F', Same F F' → Φ F → Φ F'} : Lift R (R.know Φ hΦ) id (fun _ γ' => γ') :=
  ⟨fun _ h => h, fun _ _ _ h => h.1, fun δ F H γ' F' H' ⟨j, f⟩ g jj => ⟨jj, hΦ _ _ g.f f⟩⟩
/-- a reading that changes nothing, of the value v -/
def XV (K : PySem.W.Frag) (R : Res Γ) (te : TE) (e : DE) (pn : List (Nat × V)) (γ : Γ) (v : V) : Prop := ∀ (σ : L2.St) (F H : Hp) (Q : VK), Same F H → SD K F σ e → Pins σ pn → R.J γ F H → Q v H → te σ H Q
variable {e : DE} {pn : List (Nat × V)} {γ : Γ} {te to tb : TE} {i : Nat} {v : V} {as : List Addr} {ls : List (List PyData)} {j : Nat} {p : Addr} {ds : List PyData}
theorem xv_pin (h : (i, v) ∈ pn) : XV K R (tVar i) e pn γ v := fun σ F H Q f s p j q => ⟨v, p i v h, q⟩
/-- xs[i], xs a list of refs that stands -/
theorem xv_ix {a : Addr} {vs : List V} (h : XV K R to e pn γ (.ref a)) (hl : ∀ F H, Same F H → R.J γ F H → H a = some (.lst vs)) (hi : e[i]? = some (some (dn j))) (hj : vs[j]? = some v) : XV K R (tOp (rIxL K) to (tVar i)) e pn γ v := fun σ F H Q f s p jj q => h σ F H _ f s p jj (by
  obtain ⟨w, h1, h2⟩ := s.get i _ hi
  cases h2.intI
  exact ⟨_, h1, a, vs, _, v, rfl, rfl, SqL.of (hl F H f jj), atI_nat hj, q⟩)
theorem nodup_at {α : Type} : ∀ {l : List α} {i j : Nat} {x : α}, l.Nodup → l[i]? = some x → l[j]? = some x → i = j
  | [], _, _, _, _, h, _ => by simp at h
  | y :: l, 0, 0, _, _, _, _ => rfl
  | y :: l, 0, j + 1, x, nd, h, q => by
    have e := Option.some.inj h
    subst e
    exact absurd (List.mem_of_getElem? (show l[j]? = some y from q)) (List.nodup_cons.mp nd).1
  | y :: l, i + 1, 0, x, nd, h, q => by
    have e := Option.some.inj q
    subst e
    exact absurd (List.mem_of_getElem? (show l[i]? = some y from h)) (List.nodup_cons.mp nd).1
  | y :: l, i + 1, j + 1, x, nd, h, q => congrArg (· + 1) (nodup_at (l := l) (List.nodup_cons.mp nd).2 h q)
/-- one of the own lists grows -/
theorem xs_lapp {P : PyData → (Γ × List (List PyData)) → Prop} {Z : PyData → (Γ × List (List PyData)) → Prop} {δ : Γ × List (List PyData)} (ho : XV K (R.lists K as) to e pn δ (.ref p)) (h : XE K (R.lists K as) te e pn δ P) (hp : as[j]? = some p) (hz : ∀ d δ1, P d δ1 → ∀ ds, δ1.2[j]? = some ds → ds.length ≤ 15000000) :
    XS K (R.lists K as) (tDrop (tBM K "list" rAppend to (tCons te tNil))) e pn δ (fun e' δ' => e' = e ∧ ∃ d δ1 ds, P d δ1 ∧ δ1.2[j]? = some ds ∧ δ' = (δ1.1, δ1.2.set j (ds ++ [d]))) Z := fun D σ F H f s pi jj q r => by
  have hja : j < as.length := (List.getElem?_eq_some_iff.mp hp).1
  refine drop_app (K := K) (ho σ F H _ f s pi jj ?_)
  obtain ⟨_, nd0, l0, m0, h0⟩ := id jj
  obtain ⟨xs0, q0, _⟩ := h0 j p _ hp (List.getElem?_eq_getElem (by omega : j < δ.2.length))
  refine ⟨.inl ⟨rfl, _, SqL.of q0⟩, h σ F H _ f s pi jj fun v d δ1 F1 H1 g1 j1 x1 a1 => ?_⟩
  obtain ⟨jr, nd, l, m, hh⟩ := id j1
  have e1 : δ1.2[j]? = some δ1.2[j] := List.getElem?_eq_getElem (by omega : j < δ1.2.length)
  obtain ⟨xs, h1, h2⟩ := hh j p _ hp e1
  have mp := m p (List.mem_of_getElem? hp)
  refine ⟨p, xs, v, rfl, rfl, h1, by rw [h2.length]; exact line_lt (by have := hz d δ1 x1 _ e1; omega), ?_⟩
  have g2 : Gr (R.lists K as).M No F1 H1 F1 (upd H1 p (.lst (xs ++ [v]))) := Gr.put g1.sub (.inr (List.mem_of_getElem? hp)) mp.2
  refine q σ e (δ1.1, δ1.2.set j (δ1.2[j] ++ [d])) F1 _ (g1.trans g2) ⟨R.oth _ _ _ _ _ jr mp.1 mp.2, nd, by rw [List.length_set]; exact l, m, fun i b bs hb hbs => ?_⟩ (s.mono g1.f) pi ⟨rfl, d, δ1, _, x1, e1, rfl⟩
  rcases getElem?_set' hbs with ⟨z1, z2, _⟩ | ⟨z1, z2⟩
  · subst z1
    rw [hp] at hb
    cases hb
    exact ⟨_, upd_same, by rw [z2]; exact h2.append (Das.one a1)⟩
  · obtain ⟨ys, h3, h4⟩ := hh i b bs hb z2
    have nb : b ≠ p := fun z => by
      subst z
      exact z1 (nodup_at nd hb hp)
    exact ⟨ys, by rw [upd_ne nb]; exact h3, h4⟩
end
/-! an own dict of pairs -/
abbrev Prs := List ((Nat × Nat) × Nat)
def prsKV (l : Prs) : List (List Key × V) := l.map fun e => ([.inl (e.1.1 : Int), .inl (e.1.2 : Int)], .int (e.2 : Int))
def prsGet (l : Prs) (k : Nat × Nat) : Option Nat := (l.find? fun e => decide (e.1 = k)).map (·.2)
theorem prs_key {a b g t : Nat} : (([.inl (a : Int), .inl (b : Int)] : List Key) = [.inl (g : Int), .inl (t : Int)]) ↔ (a, b) = (g, t) := by
  constructor
  · intro h
    have h1 := List.cons.inj h
    have h2 := List.cons.inj h1.2
    have e1 := Int.ofNat.inj (Sum.inl.inj h1.1)
    have e2 := Int.ofNat.inj (Sum.inl.inj h2.1)
    rw [e1, e2]
  · intro h
    cases h
    rfl
theorem prs_val (g t : Nat) : ∀ l : Prs, valV (prsKV l) [.inl (g : Int), .inl (t : Int)] = (prsGet l (g, t)).map fun c => V.int (c : Int)
  | [] => rfl
  | ((a, b), c) :: l => by
    have ih := prs_val g t l
    by_cases h : (a, b) = (g, t)
    · have e1 : prsGet (((a, b), c) :: l) (g, t) = some c := by unfold prsGet; rw [List.find?_cons_of_pos (by exact decide_eq_true h)]; rfl
      rw [e1]
      exact valV_pos (prs_key.mpr h)
    · have e1 : prsGet (((a, b), c) :: l) (g, t) = prsGet l (g, t) := by unfold prsGet; rw [List.find?_cons_of_neg (by rw [decide_eq_false h]; exact Bool.false_ne_true)]
      rw [e1, ← ih]
      exact valV_neg fun z => h (prs_key.mp z)
section
variable {K : PySem.W.Frag} {Γ : Type} {R : Res Γ}
def Res.prs (R : Res Γ) (p : Addr) : Res (Γ × Prs) where
  M := fun b => R.M b ∨ b = p
  J := fun γ F H => R.J γ.1 F H ∧ ¬ R.M p ∧ F p = none ∧ H p = some (.dT (prsKV γ.2))
  thru := fun γ F H F' H' ⟨j, m, n, h1⟩ z => ⟨R.thru _ _ _ _ _ j z, m, z.away n (some_ne h1), z.h _ _ h1⟩
  frz := fun γ F H q o ⟨j, m, n, h1⟩ nq fq => by
    obtain ⟨n1, n2⟩ := own_ne nq
    exact ⟨R.frz _ _ _ _ _ j n1 fq, m, by rw [upd_ne (Ne.symm n2)]; exact n, h1⟩
  ex := fun γ F H b ⟨j, m, n, h1⟩ hb => by
    rcases hb with z | z
    · exact R.ex _ _ _ _ j z
    · subst z; exact ⟨some_ne h1, n⟩
  oth := fun γ F H q o ⟨j, m, n, h1⟩ nq fq => by
    obtain ⟨n1, n2⟩ := own_ne nq
    exact ⟨R.oth _ _ _ _ _ j n1 fq, m, n, by rw [upd_ne (Ne.symm n2)]; exact h1⟩
theorem lift_prs {p : Addr} : Lift R (R.prs p) Prod.fst (fun δ γ' => (γ', δ.2)) :=
  ⟨fun _ h => .inl h, fun _ _ _ h => h.1, fun δ F H γ' F' H' ⟨j, m, n, h1⟩ g jj => ⟨jj, m, g.away n (some_ne h1), g.h p _ m h1⟩⟩
variable {e : DE} {pn : List (Nat × V)} {γ : Γ} {te : TE} {i gi ti g t : Nat} {p : Addr} {l : Prs}
abbrev tKey (gi ti : Nat) : TE := tTup (tCons (tVar gi) (tCons (tVar ti) tNil))
theorem notin_intro {ty td : TE} {σ : L2.St} {H : Hp} {Q : Bool → Hp → Prop} (h : ty σ H fun y H1 => td σ H1 fun x H2 => ∃ a o, x = .ref a ∧ DGet H2 a y o ∧ ∃ d, V.bl (!o.isSome) = .bl d ∧ Q d H2) : tB (tDNotIn ty td) σ H Q := h
theorem in_intro {ty td : TE} {σ : L2.St} {H : Hp} {Q : Bool → Hp → Prop} (h : ty σ H fun y H1 => td σ H1 fun x H2 => ∃ a o, x = .ref a ∧ DGet H2 a y o ∧ ∃ d, V.bl o.isSome = .bl d ∧ Q d H2) : tB (tDIn ty td) σ H Q := h
/-- the key, made -/
theorem key_run {F H : Hp} {σ : L2.St} {Q : VK} (f : Same F H) (s : SD K F σ e) (h1 : e[gi]? = some (some (dn g))) (h2 : e[ti]? = some (some (dn t))) (q : ∀ b, H b = none → Q (.ref b) (upd H b (.tup [.int (g : Int), .int (t : Int)]))) : tKey gi ti σ H Q := by
  obtain ⟨v1, q1, a1⟩ := s.get gi _ h1
  obtain ⟨v2, q2, a2⟩ := s.get ti _ h2
  cases a1.intI
  cases a2.intI
  exact ⟨_, q1, _, q2, line_le (show 2 ≤ 16000000 by decide), fun b hb => q b hb⟩
theorem xb_prsNot (hi : (i, V.ref p) ∈ pn) (h1 : e[gi]? = some (some (dn g))) (h2 : e[ti]? = some (some (dn t))) : XB K (R.prs p) (tB (tDNotIn (tKey gi ti) (tVar i))) e pn (γ, l) (fun b δ => b = (prsGet l (g, t)).isNone ∧ δ = (γ, l)) := fun σ F H Q f s pi jj q => notin_intro <| by
  refine key_run f s h1 h2 fun b hb => ?_
  have z : Fz F H F (upd H b (.tup [.int (g : Int), .int (t : Int)])) := Fz.loose f hb
  have j2 := (R.prs p).thru _ _ _ _ _ jj z
  obtain ⟨jr, m, n, hp⟩ := id j2
  refine ⟨_, pi i _ hi, p, _, rfl, DGet.t (k := [.inl (g : Int), .inl (t : Int)]) hp upd_same, _, rfl, ?_⟩
  refine q _ (γ, l) F _ z.gr j2 ⟨?_, rfl⟩
  show (!(valV (prsKV l) _).isSome) = _
  rw [prs_val]
  cases prsGet l (g, t) <;> rfl
theorem xb_prsIn (hi : (i, V.ref p) ∈ pn) (h1 : e[gi]? = some (some (dn g))) (h2 : e[ti]? = some (some (dn t))) : XB K (R.prs p) (tB (tDIn (tKey gi ti) (tVar i))) e pn (γ, l) (fun b δ => b = (prsGet l (g, t)).isSome ∧ δ = (γ, l)) := fun σ F H Q f s pi jj q => in_intro <| by
  refine key_run f s h1 h2 fun b hb => ?_
  have z : Fz F H F (upd H b (.tup [.int (g : Int), .int (t : Int)])) := Fz.loose f hb
  have j2 := (R.prs p).thru _ _ _ _ _ jj z
  obtain ⟨jr, m, n, hp⟩ := id j2
  refine ⟨_, pi i _ hi, p, _, rfl, DGet.t (k := [.inl (g : Int), .inl (t : Int)]) hp upd_same, _, rfl, ?_⟩
  refine q _ (γ, l) F _ z.gr j2 ⟨?_, rfl⟩
  show ((valV (prsKV l) _).isSome) = _
  rw [prs_val]
  cases prsGet l (g, t) <;> rfl
theorem xe_prsGet {c : Nat} (hi : (i, V.ref p) ∈ pn) (h1 : e[gi]? = some (some (dn g))) (h2 : e[ti]? = some (some (dn t))) (hc : prsGet l (g, t) = some c) : XE K (R.prs p) (tDGet (tVar i) (tKey gi ti)) e pn (γ, l) (fun d δ => d = dn c ∧ δ = (γ, l)) := fun σ F H Q f s pi jj q => by
  refine ⟨_, pi i _ hi, key_run f s h1 h2 fun b hb => ?_⟩
  have z : Fz F H F (upd H b (.tup [.int (g : Int), .int (t : Int)])) := Fz.loose f hb
  have j2 := (R.prs p).thru _ _ _ _ _ jj z
  obtain ⟨jr, m, n, hp⟩ := id j2
  have gg := DGet.t (k := [.inl (g : Int), .inl (t : Int)]) hp upd_same
  rw [prs_val, hc] at gg
  exact ⟨p, _, rfl, gg, q _ _ (γ, l) F _ z.gr j2 ⟨rfl, rfl⟩ (.int _)⟩
/-- a new pair -/
theorem xs_prsPut {P : PyData → (Γ × Prs) → Prop} {Z : PyData → (Γ × Prs) → Prop} (hi : (i, V.ref p) ∈ pn) (h : XE K (R.prs p) te e pn (γ, l) P) (h1 : e[gi]? = some (some (dn g))) (h2 : e[ti]? = some (some (dn t))) (hP : ∀ d δ1, P d δ1 → (∃ c : Nat, d = dn c) ∧ prsGet δ1.2 (g, t) = none ∧ δ1.2.length ≤ 1000) :
    XS K (R.prs p) (sDPut (tVar i) (tKey gi ti) te) e pn (γ, l) (fun e' δ => e' = e ∧ ∃ c δ1, P (dn c) δ1 ∧ δ = (δ1.1, δ1.2 ++ [((g, t), c)])) Z := fun D σ F H f s pi jj q r => h σ F H _ f s pi jj fun v d δ1 F1 H1 g1 j1 x1 a1 => by
  obtain ⟨⟨c, rfl⟩, hn, hl⟩ := hP d δ1 x1
  cases a1.intI
  refine ⟨_, pi i _ hi, key_run g1.sub (s.mono g1.f) h1 h2 fun b hb => ?_⟩
  have z : Fz F1 H1 F1 (upd H1 b (.tup [.int (g : Int), .int (t : Int)])) := Fz.loose g1.sub hb
  have j2 := (R.prs p).thru _ _ _ _ _ j1 z
  obtain ⟨jr, m, n, hp⟩ := id j2
  have hv : valV (prsKV δ1.2) [.inl (g : Int), .inl (t : Int)] = none := by rw [prs_val, hn]; rfl
  refine ⟨p, _, rfl, DPut.t (k := [.inl (g : Int), .inl (t : Int)]) hp upd_same (line_lt (by unfold prsKV; rw [List.length_map]; omega)), ?_⟩
  rw [putK_new _ hv]
  have e1 : prsKV δ1.2 ++ [([.inl (g : Int), .inl (t : Int)], V.int (c : Int))] = prsKV (δ1.2 ++ [((g, t), c)]) := by unfold prsKV; rw [List.map_append]; rfl
  rw [e1]
  exact q σ e (δ1.1, δ1.2 ++ [((g, t), c)]) F1 _ ((g1.trans z.gr).trans (Gr.put z.sub (.inr rfl) n)) ⟨R.oth _ _ _ _ _ jr m n, m, n, upd_same⟩ (s.mono g1.f) pi ⟨rfl, c, δ1, x1, rfl⟩
end
end Pa
/-! Families of own lists; a part of a resource that is a list; what is frozen in the end. -/
namespace Pa
open PySem L2 PyProof.Rows
section
variable {K : PySem.W.Frag} {Γ : Type} {R : Res Γ}
def up2 {α : Type} (f : Nat → Nat → α) (k j : Nat) (x : α) : Nat → Nat → α := fun k' j' => if k' = k ∧ j' = j then x else f k' j'
theorem up2_same {α : Type} {f : Nat → Nat → α} {k j : Nat} {x : α} : up2 f k j x k j = x := if_pos ⟨rfl, rfl⟩
theorem up2_ne {α : Type} {f : Nat → Nat → α} {k j k' j' : Nat} {x : α} (h : ¬ (k' = k ∧ j' = j)) : up2 f k j x k' j' = f k' j' := if_neg h
theorem up2_nk {α : Type} {f : Nat → Nat → α} {k j k' j' : Nat} {x : α} (h : k' ≠ k) : up2 f k j x k' j' = f k' j' := if_neg fun z => h z.1
/-- own lists at ad k j, k among the kinds ks, j < n -/
structure FamJ (K : PySem.W.Frag) (ks : List Nat) (n : Nat) (ad : Nat → Nat → Addr) (M : Addr → Prop) (f : Nat → Nat → List PyData) (F H : Hp) : Prop where
  inj : ∀ k j k' j', k ∈ ks → j < n → k' ∈ ks → j' < n → ad k j = ad k' j' → k = k' ∧ j = j'
  out : ∀ k j, k ∈ ks → j < n → ¬ M (ad k j)
  fn : ∀ k j, k ∈ ks → j < n → F (ad k j) = none
  at_ : ∀ k j, k ∈ ks → j < n → ∃ xs, H (ad k j) = some (.lst xs) ∧ Das K F xs (f k j)
theorem FamJ.some {ks : List Nat} {n : Nat} {ad : Nat → Nat → Addr} {M : Addr → Prop} {f : Nat → Nat → List PyData} {F H : Hp} (h : FamJ K ks n ad M f F H) {k j : Nat} (hk : k ∈ ks) (hj : j < n) : H (ad k j) ≠ none := by
  obtain ⟨xs, h1, _⟩ := h.at_ k j hk hj
  exact some_ne h1
def FamM (ks : List Nat) (n : Nat) (ad : Nat → Nat → Addr) (b : Addr) : Prop := ∃ k j, k ∈ ks ∧ j < n ∧ b = ad k j
def Res.fam (K : PySem.W.Frag) (R : Res Γ) (ks : List Nat) (n : Nat) (ad : Nat → Nat → Addr) : Res (Γ × (Nat → Nat → List PyData)) where
  M := fun b => R.M b ∨ FamM ks n ad b
  J := fun γ F H => R.J γ.1 F H ∧ FamJ K ks n ad R.M γ.2 F H
  thru := fun γ F H F' H' ⟨j, h⟩ z => ⟨R.thru _ _ _ _ _ j z, h.inj, h.out, fun k j hk hj => z.away (h.fn k j hk hj) (h.some hk hj), fun k j hk hj => by
    obtain ⟨xs, h1, h2⟩ := h.at_ k j hk hj
    exact ⟨xs, z.h _ _ h1, h2.mono z.f⟩⟩
  frz := fun γ F H q o ⟨j, h⟩ nq fq => ⟨R.frz _ _ _ _ _ j (fun y => nq (.inl y)) fq, h.inj, h.out, fun k j hk hj => by
    have : ad k j ≠ q := fun z => nq (.inr ⟨k, j, hk, hj, z.symm⟩)
    rw [upd_ne this]; exact h.fn k j hk hj, fun k j hk hj => by
    obtain ⟨xs, h1, h2⟩ := h.at_ k j hk hj
    exact ⟨xs, h1, h2.mono (same_upd fq)⟩⟩
  ex := fun γ F H b ⟨j, h⟩ hb => by
    rcases hb with z | ⟨k, i, hk, hi, rfl⟩
    · exact R.ex _ _ _ _ j z
    · exact ⟨h.some hk hi, h.fn k i hk hi⟩
  oth := fun γ F H q o ⟨j, h⟩ nq fq => ⟨R.oth _ _ _ _ _ j (fun y => nq (.inl y)) fq, h.inj, h.out, h.fn, fun k j hk hj => by
    have : ad k j ≠ q := fun z => nq (.inr ⟨k, j, hk, hj, z.symm⟩)
    rw [upd_ne this]; exact h.at_ k j hk hj⟩
theorem lift_fam {ks : List Nat} {n : Nat} {ad : Nat → Nat → Addr} : Lift R (R.fam K ks n ad) Prod.fst (fun δ γ' => (γ', δ.2)) :=
  ⟨fun _ h => .inl h, fun _ _ _ h => h.1, fun δ F H γ' F' H' ⟨j, h⟩ g jj => ⟨jj, h.inj, h.out, fun k j hk hj => g.away (h.fn k j hk hj) (h.some hk hj), fun k j hk hj => by
    obtain ⟨xs, h1, h2⟩ := h.at_ k j hk hj
    exact ⟨xs, g.h _ _ (h.out k j hk hj) h1, h2.mono g.f⟩⟩⟩
/-- a part of R that is a list, at p -/
structure HasL (K : PySem.W.Frag) (R : Res Γ) (p : Addr) (get : Γ → List PyData) (put : Γ → List PyData → Γ) : Prop where
  m : R.M p
  j : ∀ γ F H, R.J γ F H → F p = none ∧ ∃ xs, H p = some (.lst xs) ∧ Das K F xs (get γ)
  b : ∀ γ F H ys ds, Same F H → R.J γ F H → Das K F ys ds → R.J (put γ ds) F (upd H p (.lst ys))
theorem HasL.lift {Δ : Type} {R' : Res Δ} {g : Δ → Γ} {pt : Δ → Γ → Δ} {p : Addr} {get : Γ → List PyData} {put : Γ → List PyData → Γ} (L : HasL K R p get put) (l : Lift R R' g pt) : HasL K R' p (fun δ => get (g δ)) (fun δ ds => pt δ (put (g δ) ds)) :=
  ⟨l.m _ L.m, fun δ F H J => L.j _ _ _ (l.j _ _ _ J), fun δ F H ys ds s J a => l.b δ F H _ F _ J (Gr.put s L.m (L.j _ _ _ (l.j _ _ _ J)).1) (L.b _ _ _ _ _ s (l.j _ _ _ J) a)⟩
theorem hasL_fam {ks : List Nat} {n : Nat} {ad : Nat → Nat → Addr} {k j : Nat} (hk : k ∈ ks) (hj : j < n) : HasL K (R.fam K ks n ad) (ad k j) (fun δ => δ.2 k j) (fun δ ds => (δ.1, up2 δ.2 k j ds)) :=
  ⟨.inr ⟨k, j, hk, hj, rfl⟩, fun γ F H ⟨jj, h⟩ => ⟨h.fn k j hk hj, h.at_ k j hk hj⟩, fun γ F H ys ds s ⟨jj, h⟩ a => ⟨R.oth _ _ _ _ _ jj (h.out k j hk hj) (h.fn k j hk hj), h.inj, h.out, h.fn, fun k' j' hk' hj' => by
    by_cases e : k' = k ∧ j' = j
    · obtain ⟨rfl, rfl⟩ := e
      exact ⟨ys, upd_same, by show Das K F ys (up2 γ.2 k' j' ds k' j'); rw [up2_same]; exact a⟩
    · have ne : ad k' j' ≠ ad k j := fun z => e (h.inj _ _ _ _ hk' hj' hk hj z)
      obtain ⟨xs, h1, h2⟩ := h.at_ k' j' hk' hj'
      exact ⟨xs, by rw [upd_ne ne]; exact h1, by show Das K F xs (up2 γ.2 k j ds k' j'); rw [up2_ne e]; exact h2⟩⟩⟩
theorem hasL_own {p : Addr} : HasL K (R.own K p) p (fun δ => δ.2) (fun δ ds => (δ.1, ds)) :=
  ⟨.inr rfl, fun γ F H ⟨j, m, n, h⟩ => ⟨n, h⟩, fun γ F H ys ds s ⟨j, m, n, h⟩ a => ⟨R.oth _ _ _ _ _ j m n, m, n, ys, upd_same, a⟩⟩
variable {p : Addr} {get : Γ → List PyData} {put : Γ → List PyData → Γ} {e : DE} {pn : List (Nat × V)} {γ : Γ} {te to ti tl : TE} {i k : Nat} {v : V} {P : PyData → Γ → Prop} {Z : PyData → Γ → Prop} {N : DE → Γ → Prop}
/-- .. it grows by one -/
theorem xs_happ (L : HasL K R p get put) (ho : XV K R to e pn γ (.ref p)) (h : XE K R te e pn γ P) (hz : ∀ d γ1, P d γ1 → (get γ1).length ≤ 15000000) :
    XS K R (tDrop (tBM K "list" rAppend to (tCons te tNil))) e pn γ (fun e' γ' => e' = e ∧ ∃ d γ1, P d γ1 ∧ γ' = put γ1 (get γ1 ++ [d])) Z := fun D σ F H f s pi jj q r => by
  refine drop_app (K := K) (ho σ F H _ f s pi jj ?_)
  obtain ⟨n0, xs0, q0, _⟩ := L.j _ _ _ jj
  refine ⟨.inl ⟨rfl, _, SqL.of q0⟩, h σ F H _ f s pi jj fun v d γ1 F1 H1 g1 j1 x1 a1 => ?_⟩
  obtain ⟨n1, xs, h1, h2⟩ := L.j _ _ _ j1
  refine ⟨p, xs, v, rfl, rfl, h1, by rw [h2.length]; exact line_lt (by have := hz d γ1 x1; omega), ?_⟩
  exact q σ e _ F1 _ (g1.trans (Gr.put g1.sub L.m n1)) (L.b _ _ _ _ _ g1.sub j1 (h2.append (Das.one a1))) (s.mono g1.f) pi ⟨rfl, d, γ1, x1, rfl⟩
/-- .. by many -/
theorem xs_hext (L : HasL K R p get put) (ho : XV K R to e pn γ (.ref p)) (h : XE K R te e pn γ P) (hz : ∀ d γ1, P d γ1 → ∃ ds, d = .list ds ∧ (get γ1).length + ds.length ≤ 15000000) :
    XS K R (tDrop (tBM K "list" rExtend to (tCons te tNil))) e pn γ (fun e' γ' => e' = e ∧ ∃ ds γ1, P (.list ds) γ1 ∧ γ' = put γ1 (get γ1 ++ ds)) Z := fun D σ F H f s pi jj q r => by
  refine (ho σ F H _ f s pi jj ?_ : to σ H _)
  obtain ⟨n0, xs0, q0, _⟩ := L.j _ _ _ jj
  refine ⟨.inl ⟨rfl, _, SqL.of q0⟩, h σ F H _ f s pi jj fun v d γ1 F1 H1 g1 j1 x1 a1 => ?_⟩
  obtain ⟨n1, xs, h1, h2⟩ := L.j _ _ _ j1
  obtain ⟨ds, rfl, hl⟩ := hz d γ1 x1
  obtain ⟨b, ys, rfl, h3, h4⟩ := a1.lstI
  refine ⟨p, b, xs, ys, rfl, rfl, h1, g1.sub _ _ h3, by rw [h2.length, h4.length]; exact line_le (by omega), ?_⟩
  exact q σ e _ F1 _ (g1.trans (Gr.put g1.sub L.m n1)) (L.b _ _ _ _ _ g1.sub j1 (h2.append h4)) (s.mono g1.f) pi ⟨rfl, ds, γ1, x1, rfl⟩
/-- one of its items is set -/
theorem xs_hput (L : HasL K R p get put) (hi : (i, V.ref p) ∈ pn) (h : XE K R te e pn γ P) (h2 : ED K ti e (.int (k : Int))) (hk : ∀ d γ1, P d γ1 → k < (get γ1).length) :
    XS K R (tAsg te (gSub (tVar i) ti rSetL)) e pn γ (fun e' γ' => e' = e ∧ ∃ d γ1, P d γ1 ∧ γ' = put γ1 ((get γ1).set k d)) Z := fun D σ F H f s pi jj q r => by
  refine h σ F H _ f s pi jj fun v d γ1 F1 H1 g1 j1 x1 a1 => ?_
  refine ⟨_, pi i _ hi, h2 σ F1 H1 _ g1.sub (s.mono g1.f) fun w F2 H2 z2 a2 => ?_⟩
  cases a2.intI
  have j2 := R.thru _ _ _ _ _ j1 z2
  obtain ⟨n2, xs, h3, h4⟩ := L.j _ _ _ j2
  refine ⟨p, xs, (k : Int), k, rfl, rfl, h3, ?_, ?_⟩
  · have := h4.length
    have := hk d γ1 x1
    exact ixN_at (by omega)
  · exact q σ e _ F2 _ ((g1.trans z2.gr).trans (Gr.put z2.sub L.m n2)) (L.b _ _ _ _ _ z2.sub j2 (Das.set (a1.mono z2.f) k h4)) (s.mono (g1.f.trans z2.f)) pi ⟨rfl, d, γ1, x1, rfl⟩
/-- its length, an item, as data -/
theorem xe_hlen (L : HasL K R p get put) (ho : XV K R to e pn γ (.ref p)) : XE K R (tCB (fun xs H Q => ∃ p ys, xs = [V.ref p] ∧ (SqL K H p ys ∨ SqT K H p ys) ∧ Q (V.int ys.length) H) (tCons to tNil)) e pn γ (fun d γ' => d = dn (get γ).length ∧ γ' = γ) := fun σ F H Q f s pi jj q => by
  refine (ho σ F H _ f s pi jj ?_ : to σ H _)
  obtain ⟨n0, xs0, q0, h2⟩ := L.j _ _ _ jj
  refine ⟨p, xs0, rfl, .inl (SqL.of q0), q _ _ γ F H (Gr.refl f) jj ⟨rfl, rfl⟩ ?_⟩
  rw [h2.length]
  exact .int _
theorem xe_hix (L : HasL K R p get put) (ho : XV K R to e pn γ (.ref p)) (h2 : ED K ti e (.int (k : Int))) {d : PyData} (hd : (get γ)[k]? = some d) : XE K R (tOp (rIxL K) to ti) e pn γ (fun d' γ' => d' = d ∧ γ' = γ) := fun σ F H Q f s pi jj q => by
  refine (ho σ F H _ f s pi jj ?_ : to σ H _)
  refine h2 σ F H _ f s fun w F2 H2 z2 a2 => ?_
  cases a2.intI
  have j2 := R.thru _ _ _ _ _ jj z2
  obtain ⟨n2, xs, h3, h4⟩ := L.j _ _ _ j2
  obtain ⟨v, y1, y2⟩ := h4.get hd
  exact ⟨p, xs, _, v, rfl, rfl, SqL.of h3, atI_nat y1, q v d γ F2 H2 z2.gr j2 ⟨rfl, rfl⟩ y2⟩
/-- xs[i]["k"], a dict of refs -/
theorem xv_dget {a : Addr} {kv : List (Key × V)} {k : Str} (h : XV K R to e pn γ (.ref a)) (hl : ∀ F H, Same F H → R.J γ F H → H a = some (.dK kv)) (hv : valV kv (.inr k) = some v) : XV K R (tDGet to (tC (.str k))) e pn γ v := fun σ F H Q f s p jj q => h σ F H _ f s p jj (by
  have g := DGet.k (k := .inr k) (hl F H f jj)
  rw [hv] at g
  exact ⟨a, _, rfl, g, q⟩)
/-- the length of a list of refs -/
theorem xe_vlen {a : Addr} {vs : List V} (h : XV K R to e pn γ (.ref a)) (hl : ∀ F H, Same F H → R.J γ F H → H a = some (.lst vs)) : XE K R (tCB (fun xs H Q => ∃ p ys, xs = [V.ref p] ∧ (SqL K H p ys ∨ SqT K H p ys) ∧ Q (V.int ys.length) H) (tCons to tNil)) e pn γ (fun d γ' => d = dn vs.length ∧ γ' = γ) := fun σ F H Q f s pi jj q => by
  refine (h σ F H _ f s pi jj ?_ : to σ H _)
  exact ⟨a, vs, rfl, .inl (SqL.of (hl F H f jj)), q _ _ γ F H (Gr.refl f) jj ⟨rfl, rfl⟩ (.int _)⟩
end
/-! many are frozen at once -/
section
variable {K : PySem.W.Frag} {Γ : Type} {R : Res Γ}
theorem bulk {γ : Γ} {F H : Hp} (f : Same F H) (J : R.J γ F H) : ∀ ps : List Addr, (∀ p, p ∈ ps → ¬ R.M p ∧ F p = none ∧ H p ≠ none) → ∃ F', Same F F' ∧ Same F' H ∧ R.J γ F' H ∧ (∀ p, p ∈ ps → F' p = H p) ∧ ∀ p, p ∉ ps → F' p = F p
  | [], _ => ⟨F, Same.refl F, f, J, fun p h => (nomatch h), fun p _ => rfl⟩
  | p :: r, h => by
    obtain ⟨F1, h1, h2, h3, h4, h5⟩ := bulk f J r fun q hq => h q (List.mem_cons_of_mem _ hq)
    obtain ⟨m, n, s⟩ := h p (List.mem_cons_self ..)
    by_cases hp : p ∈ r
    · exact ⟨F1, h1, h2, h3, fun q hq => by
        rcases List.mem_cons.mp hq with z | z
        · rw [z]; exact h4 p hp
        · exact h4 q z, fun q hq => h5 q fun z => hq (List.mem_cons_of_mem _ z)⟩
    · obtain ⟨o, ho⟩ : ∃ o, H p = some o := Option.ne_none_iff_exists'.mp s
      have n1 : F1 p = none := (h5 p hp).trans n
      refine ⟨upd F1 p o, h1.trans (same_upd n1), fun b u hb => ?_, R.frz _ _ _ _ _ h3 m n1, fun q hq => ?_, fun q hq => ?_⟩
      · by_cases y : b = p
        · subst y; rw [upd_same] at hb; rw [← hb]; exact ho
        · rw [upd_ne y] at hb; exact h2 _ _ hb
      · by_cases y : q = p
        · subst y; rw [upd_same]; exact ho.symm
        · rw [upd_ne y]
          rcases List.mem_cons.mp hq with z | z
          · exact absurd z y
          · exact h4 q z
      · have nq : q ≠ p := fun y => hq (by rw [y]; exact List.mem_cons_self ..)
        rw [upd_ne nq]
        exact h5 q fun z => hq (List.mem_cons_of_mem _ z)
theorem fam_freeze {ks : List Nat} {n : Nat} {ad : Nat → Nat → Addr} {δ : Γ × (Nat → Nat → List PyData)} {F H : Hp} (f : Same F H) (J : (R.fam K ks n ad).J δ F H) :
    ∃ F', Same F F' ∧ Same F' H ∧ R.J δ.1 F' H ∧ (∀ k j, k ∈ ks → j < n → Da K F' (.ref (ad k j)) (.list (δ.2 k j))) ∧ ∀ a, F' a = F a ∨ FamM ks n ad a := by
  obtain ⟨jr, h⟩ := J
  have hm : ∀ b, b ∈ (ks.flatMap fun k => (List.range n).map (ad k)) ↔ FamM ks n ad b := fun b => by
    rw [List.mem_flatMap]
    constructor
    · rintro ⟨k, hk, hb⟩
      obtain ⟨j, hj, e⟩ := List.mem_map.mp hb
      exact ⟨k, j, hk, List.mem_range.mp hj, e.symm⟩
    · rintro ⟨k, j, hk, hj, e⟩
      exact ⟨k, hk, List.mem_map.mpr ⟨j, List.mem_range.mpr hj, e.symm⟩⟩
  obtain ⟨F1, h1, h2, h3, h4, h5⟩ := bulk f jr (ks.flatMap fun k => (List.range n).map (ad k)) fun p hp => by
    obtain ⟨k, j, hk, hj, rfl⟩ := (hm p).mp hp
    exact ⟨h.out k j hk hj, h.fn k j hk hj, h.some hk hj⟩
  refine ⟨F1, h1, h2, h3, fun k j hk hj => ?_, fun a => ?_⟩
  · obtain ⟨xs, y1, y2⟩ := h.at_ k j hk hj
    exact .lst ((h4 _ ((hm _).mpr ⟨k, j, hk, hj, rfl⟩)).trans y1) (y2.mono h1)
  · by_cases ha : a ∈ (ks.flatMap fun k => (List.range n).map (ad k))
    · exact .inr ((hm a).mp ha)
    · exact .inl (h5 a ha)
abbrev refsOf (n : Nat) (b : Nat → Addr) : List V := (List.range n).map fun j => V.ref (b j)
theorem refs_at {n j : Nat} {b : Nat → Addr} (h : j < n) : (refsOf n b)[j]? = some (.ref (b j)) := by
  rw [List.getElem?_map, List.getElem?_range h]
  rfl
theorem refs_len {n : Nat} {b : Nat → Addr} : (refsOf n b).length = n := by rw [List.length_map, List.length_range]
/-- a new list of new lists that are empty -/
structure NewLs (H H' : Hp) (C : Addr) (b : Nat → Addr) (n : Nat) : Prop where
  same : Same H H'
  hC : H C = none
  lC : H' C = some (.lst (refsOf n b))
  nb : ∀ j, j < n → H (b j) = none ∧ b j ≠ C ∧ H' (b j) = some (.lst [])
  inj : ∀ i j, i < n → j < n → b i = b j → i = j
def upN {α : Type} (b : Nat → α) (n : Nat) (x : α) : Nat → α := fun j => if j = n then x else b j
theorem refs_up {n : Nat} {b : Nat → Addr} {x : Addr} : refsOf n b ++ [.ref x] = refsOf (n + 1) (upN b n x) := by
  show (List.range n).map _ ++ _ = (List.range (n + 1)).map _
  rw [List.range_succ, List.map_append]
  congr 1
  · refine List.map_congr_left fun j hj => ?_
    have := List.mem_range.mp hj
    show V.ref (b j) = V.ref (if j = n then x else b j)
    rw [if_neg (by omega)]
  · show [V.ref x] = [V.ref (if n = n then x else b n)]
    rw [if_pos rfl]
theorem NewLs.zero {H : Hp} {C : Addr} {b : Nat → Addr} (h : H C = none) : NewLs H (upd H C (.lst [])) C b 0 := ⟨same_upd h, h, upd_same, fun j hj => absurd hj (Nat.not_lt_zero _), fun i j hi => absurd hi (Nat.not_lt_zero _)⟩
theorem NewLs.step {H H' : Hp} {C x : Addr} {b : Nat → Addr} {n : Nat} (h : NewLs H H' C b n) (hx : H' x = none) : NewLs H (upd (upd H' x (.lst [])) C (.lst (refsOf n b ++ [.ref x]))) C (upN b n x) (n + 1) := by
  have xC : x ≠ C := fun z => by rw [z, h.lC] at hx; cases hx
  have hx0 : H x = none := by
    cases e : H x with
    | none => rfl
    | some o => rw [h.same _ _ e] at hx; cases hx
  refine ⟨fun a o ha => ?_, h.hC, by rw [upd_same, refs_up], fun j hj => ?_, fun i j hi hj e => ?_⟩
  · rw [upd_ne (ne_of_none ha h.hC), upd_ne (ne_of_none ha hx0)]
    exact h.same _ _ ha
  · by_cases e : j = n
    · subst e
      have e1 : upN b j x j = x := if_pos rfl
      rw [e1]
      exact ⟨hx0, xC, by rw [upd_ne xC, upd_same]⟩
    · have e1 : upN b n x j = b j := if_neg e
      rw [e1]
      obtain ⟨h1, h2, h3⟩ := h.nb j (by omega)
      exact ⟨h1, h2, by rw [upd_ne h2, upd_ne (ne_of_none h3 hx)]; exact h3⟩
  · have bx : ∀ j, j < n → b j ≠ x := fun j hj z => by
      have := (h.nb j hj).2.2
      rw [z, hx] at this
      cases this
    unfold upN at e
    split at e
    · split at e
      · omega
      · exact absurd e.symm (bx j (by omega))
    · split at e
      · exact absurd e (bx i (by omega))
      · exact h.inj i j (by omega) (by omega) e
theorem NewLs.fz {H H' F : Hp} {C : Addr} {b : Nat → Addr} {n : Nat} (h : NewLs H H' C b n) (f : Same F H) : Fz F H F H' := ⟨h.same, Same.refl F, f.trans h.same, fun a o x => .inl x⟩
/-- .. beside R -/
theorem NewLs.res {H H' F : Hp} {C : Addr} {b : Nat → Addr} {n : Nat} {γ : Γ} (h : NewLs H H' C b n) (f : Same F H) (J : R.J γ F H) : ((R.fam K [0] n (fun _ => b)).raw C (refsOf n b)).J (γ, fun _ _ => []) F H' := by
  have ex : ∀ a, H a = none → ¬ R.M a := fun a ha y => (R.ex _ _ _ _ J y).1 ha
  refine ⟨⟨R.thru _ _ _ _ _ J (h.fz f), fun k j k' j' hk hj hk' hj' e => ?_, fun k j _ hj => ex _ (h.nb j hj).1, fun k j _ hj => f.free (h.nb j hj).1, fun k j _ hj => ⟨[], (h.nb j hj).2.2, .nil⟩⟩, fun y => ?_, f.free h.hC, h.lC⟩
  · rw [List.mem_singleton.mp hk, List.mem_singleton.mp hk']
    exact ⟨rfl, h.inj _ _ hj hj' e⟩
  · rcases y with y | ⟨k, j, _, hj, e⟩
    · exact ex _ h.hC y
    · exact (h.nb j hj).2.1 e.symm
/-- .. frozen in the end -/
theorem NewLs.done {H H' F F1 H1 : Hp} {C : Addr} {b : Nat → Addr} {n : Nat} {δ : Γ × (Nat → Nat → List PyData)} (h : NewLs H H' C b n) (f : Same F H) (J : ((R.fam K [0] n (fun _ => b)).raw C (refsOf n b)).J δ F1 H1)
    (g : Gr ((R.fam K [0] n (fun _ => b)).raw C (refsOf n b)).M No F H' F1 H1) : ∃ F2, Gr R.M No F H F2 H1 ∧ R.J δ.1 F2 H1 ∧ Same F1 F2 ∧ Da K F2 (.ref C) (.list ((List.range n).map fun j => .list (δ.2 0 j))) := by
  obtain ⟨J1, m, nC, hC⟩ := J
  obtain ⟨F2, h1, h2, h3, h4, h5⟩ := fam_freeze g.sub J1
  have nb : ∀ j, j < n → b j ≠ C := fun j hj => (h.nb j hj).2.1
  have nC2 : F2 C = none := by
    rcases h5 C with z | ⟨k, j, _, hj, e⟩
    · rw [z]; exact nC
    · exact absurd e.symm (nb j hj)
  have mC : ¬ R.M C := fun y => m (.inl y)
  refine ⟨upd F2 C (.lst (refsOf n b)), ⟨fun a o na ha => ?_, (g.f.trans h1).trans (same_upd nC2), fun a o ha => ?_, fun a o ha => ?_, fun a ha => ?_⟩, R.frz _ _ _ _ _ h3 mC nC2, h1.trans (same_upd nC2), ?_⟩
  · refine g.h a o (fun y => ?_) (h.same a o ha)
    rcases y with (y | ⟨k, j, _, hj, e⟩) | y
    · exact na y
    · rw [e, (h.nb j hj).1] at ha; cases ha
    · rw [y, h.hC] at ha; cases ha
  · by_cases y : a = C
    · subst y; rw [upd_same] at ha; rw [← ha]; exact hC
    · rw [upd_ne y] at ha; exact h2 _ _ ha
  · by_cases y : a = C
    · subst y; exact .inr (.inl h.hC)
    · rw [upd_ne y] at ha
      rcases h5 a with z | ⟨k, j, _, hj, e⟩
      · rw [z] at ha
        rcases g.fresh a o ha with w | w | w
        · exact .inl w
        · exact .inr (.inl ((h.fz f).h.free w))
        · exact w.elim
      · rw [e]; exact .inr (.inl (h.nb j hj).1)
  · refine g.there a fun y => ha ?_
    exact h.same.free y
  · refine .lst upd_same (Das.mono (same_upd nC2) ?_)
    exact Das.map fun j hj => h4 0 j (List.mem_singleton.mpr rfl) (List.mem_range.mp hj)
variable {e : DE} {pn : List (Nat × V)} {γ : Γ} {te to ti tl : TE} {i l : Nat} {v : V} {P : PyData → Γ → Prop} {Z : PyData → Γ → Prop} {N : DE → Γ → Prop} {t u : TS}
theorem yes_intro {σ : L2.St} {H : Hp} {f g : Hp → Prop} (h : f H) : tYes σ H (fun b H3 => if b = true then f H3 else g H3) := by
  show (if true = true then f H else g H)
  exact (if_pos rfl).mpr h
/-- parts = [[] for x in xs], xs a list of refs -/
theorem newLs_list {as : Addr} {vs : List V} {σ : L2.St} {H : Hp} {Q : VK} {ws : List Nat} (hl : ∀ Q' : VK, Q' (.ref as) H → tl σ H Q') (hH : H as = some (.lst vs)) (hz : vs.length ≤ 1000000) (hw : l ∈ ws) (q : ∀ C b H', NewLs H H' C b vs.length → Q (.ref C) H') : tLc (iList K tl) (gName l) tYes (tLst tNil) ws σ H Q := by
  refine (hl _ ?_ : tl σ H _)
  refine ⟨as, rfl, ⟨vs, SqL.of hH⟩, fun C nC => ?_⟩
  refine lc_list (K := K) (a := as) (xs := vs) (fun k H' => k ≤ vs.length ∧ ∃ b, NewLs H H' C b k) ⟨Nat.zero_le _, fun _ => C, NewLs.zero nC⟩ (fun k H' _ ⟨_, b, h⟩ => SqL.of (h.same _ _ hH)) (fun k x H' hx ⟨hk, b, h⟩ => ?_) (fun H' ⟨_, b, h⟩ => q C b H' h)
  have hk' : k < vs.length := (List.getElem?_eq_some_iff.mp hx).1
  refine ⟨(wipe_set hw _).trans (wipe_wipe σ ws), ?_⟩
  refine yes_intro ?_
  refine ⟨Nat.zero_le _, fun x hx => ?_⟩
  have hCx : C ≠ x := fun z => by rw [← z, h.lC] at hx; cases hx
  refine ⟨_, by rw [upd_ne hCx]; exact h.lC, by rw [refs_len]; exact line_lt (by omega), hk', _, h.step hx⟩
theorem newLs_range {σ : L2.St} {H : Hp} {Q : VK} {ws : List Nat} {n : Nat} (hl : ∀ Q' : VK, Q' (.int (n : Int)) H → tl σ H Q') (hz : n ≤ 1000000) (hw : l ∈ ws) (q : ∀ C b H', NewLs H H' C b n → Q (.ref C) H') : tLc (iRng1 (tCons tl tNil)) (gName l) tYes (tLst tNil) ws σ H Q := by
  refine (hl _ ?_ : tl σ H _)
  refine ⟨(n : Int), rfl, by omega, by omega, ?_⟩
  rw [Int.toNat_natCast]
  refine fun C nC => ?_
  refine lc_range (fun k H' => k ≤ n ∧ ∃ b, NewLs H H' C b k) ⟨Nat.zero_le _, fun _ => C, NewLs.zero nC⟩ (fun k H' hk ⟨_, b, h⟩ => ?_) (fun H' ⟨_, b, h⟩ => q C b H' h)
  refine ⟨(wipe_set hw _).trans (wipe_wipe σ ws), ?_⟩
  refine yes_intro ?_
  refine ⟨Nat.zero_le _, fun x hx => ?_⟩
  have hCx : C ≠ x := fun z => by rw [← z, h.lC] at hx; cases hx
  exact ⟨_, by rw [upd_ne hCx]; exact h.lC, by rw [refs_len]; exact line_lt (by omega), hk, _, h.step hx⟩
/-- own lists while t goes, frozen for u -/
theorem xs_tmp {as : Addr} {vs : List V} {ws : List Nat} {P1 : (Γ × (Nat → Nat → List PyData)) → Prop} (hl : XV K R tl e pn γ (.ref as)) (hH : ∀ F H, Same F H → R.J γ F H → H as = some (.lst vs)) (hn : e[i]? = some none) (hi : (pn.map Prod.fst).contains i = false) (hz : vs.length ≤ 1000000) (hw : l ∈ ws)
    (h : ∀ aP b, XS K ((R.fam K [0] vs.length (fun _ => b)).raw aP (refsOf vs.length b)) t e ((i, .ref aP) :: pn) (γ, fun _ _ => []) (fun e1 δ => e1 = e ∧ P1 δ) (fun _ _ => False))
    (h2 : ∀ δ, P1 δ → XS K R u (e.set i (some (.list ((List.range vs.length).map fun j => .list (δ.2 0 j))))) pn δ.1 N Z) :
    XS K R (tSeq (tAsg (tLc (iList K tl) (gName l) tYes (tLst tNil) ws) (gName i)) (tSeq t u)) e pn γ N Z := fun D σ F H f s pi jj q r => by
  refine asg_next ?_
  refine newLs_list (K := K) (fun Q' => hl σ F H Q' f s pi jj) (hH F H f jj) hz hw fun C b H' nl => ?_
  have sg : SD K F (σ.set i (some (.ref C))) e := by
    refine ⟨by rw [List.length_set]; exact s.len, fun k c x => ?_⟩
    have n : i ≠ k := fun y => by
      subst y
      rw [hn] at x
      cases x
    rw [List.getElem?_set_ne n]
    exact s.get k c x
  have pg : Pins (σ.set i (some (.ref C))) ((i, V.ref C) :: pn) := fun k v hk => by
    rcases List.mem_cons.mp hk with y | y
    · cases y
      exact List.getElem?_set_self (by rw [s.len]; exact (List.getElem?_eq_some_iff.mp hn).1)
    · exact pi.set hi k v y
  refine h C b { D with nx := u D } (σ.set i (some (.ref C))) F H' (f.trans nl.same) sg pg (nl.res f jj) (fun σ1 e1 δ F1 H1 g1 j1 s1 p1 ⟨x1, x2⟩ => ?_) (fun v d γ1 F1 H1 _ _ _ x => x.elim)
  obtain ⟨F2, g2, j2, h3, h4⟩ := nl.done f j1 g1
  subst x1
  have s2 : SD K F2 σ1 (e1.set i (some (.list ((List.range vs.length).map fun j => .list (δ.2 0 j))))) := by
    refine ⟨by rw [List.length_set]; exact s1.len, fun k c x => ?_⟩
    rcases getElem?_set' x with ⟨y1, y2, _⟩ | ⟨y1, y2⟩
    · subst y1
      cases y2
      exact ⟨_, p1 k _ (List.mem_cons_self ..), h4⟩
    · exact (s1.mono h3).get k c y2
  exact h2 δ x2 D σ1 F2 H1 g2.sub s2 (fun k v hk => p1 k v (List.mem_cons_of_mem _ hk)) j2 (fun σ3 e3 γ3 F3 H3 y1 y2 y3 y4 y5 => q σ3 e3 γ3 F3 H3 (g2.trans y1) y2 y3 y4 y5) fun v d γ3 F3 H3 y1 y2 y3 y4 => r v d γ3 F3 H3 (g2.trans y1) y2 y3 y4
theorem xl_nil : XL K R (tLst tNil) e pn γ (fun ds γ' => ds = [] ∧ γ' = γ) := fun σ F H Q f s pi j q => by
  refine ⟨Nat.zero_le _, fun p hp => ?_⟩
  have np : ¬ R.M p := fun z => (R.ex _ _ _ _ j z).1 hp
  have z : Fz F H F (upd H p (.lst [])) := Fz.loose f hp
  exact q p [] [] γ F _ z.gr (R.thru _ _ _ _ _ j z) ⟨rfl, rfl⟩ hp (f.free hp) np upd_same .nil
/-- a new list of the def's own while t goes, frozen for u -/
theorem xs_ownX {P0 : List PyData → Γ → Prop} {P1 : Γ × List PyData → Prop} (hn : e[i]? = some none) (hl : XL K R te e pn γ P0) (hi : (pn.map Prod.fst).contains i = false)
    (h : ∀ p ds γ1, P0 ds γ1 → XS K (R.own K p) t e ((i, V.ref p) :: pn) (γ1, ds) (fun e' δ => e' = e ∧ P1 δ) (fun _ _ => False))
    (h2 : ∀ δ, P1 δ → XS K R u (e.set i (some (.list δ.2))) pn δ.1 N Z) : XS K R (tSeq (tAsg te (gName i)) (tSeq t u)) e pn γ N Z := fun D σ F H f s pi j q r => by
  refine asg_next (hl σ F H _ f s pi j fun p xs ds γ1 F1 H1 g1 j1 x0 hp n1 m1 hl1 hd1 => ?_)
  have sg : SD K F1 (σ.set i (some (.ref p))) e := by
    refine ⟨by rw [List.length_set]; exact s.len, fun k c x => ?_⟩
    have n : i ≠ k := fun y => by
      subst y
      rw [hn] at x
      cases x
    rw [List.getElem?_set_ne n]
    exact (s.mono g1.f).get k c x
  have pg : Pins (σ.set i (some (.ref p))) ((i, V.ref p) :: pn) := fun k v hk => by
    rcases List.mem_cons.mp hk with y | y
    · cases y
      exact List.getElem?_set_self (by rw [s.len]; exact (List.getElem?_eq_some_iff.mp hn).1)
    · exact pi.set hi k v y
  refine h p ds γ1 x0 { D with nx := u D } (σ.set i (some (.ref p))) F1 H1 g1.sub sg pg ⟨j1, m1, n1, xs, hl1, hd1⟩ (fun σ2 e2 δ F2 H2 g2 j2 s2 p2 ⟨x2, x3⟩ => ?_) (fun v d γ1 F1 H1 _ _ _ x => x.elim)
  obtain ⟨jj, m, n, ys, y1, y2⟩ := j2
  subst x2
  have sF : Same F2 (upd F2 p (.lst ys)) := same_upd n
  have sub : Same (upd F2 p (.lst ys)) H2 := fun b o hb => by
    by_cases y : b = p
    · subst y; rw [upd_same] at hb; rw [← hb]; exact y1
    · rw [upd_ne y] at hb; exact g2.sub _ _ hb
  have g : Gr R.M No F H (upd F2 p (.lst ys)) H2 := by
    refine ⟨fun b o nm hb => g2.h b o (fun y => y.elim nm fun y => by rw [y, hp] at hb; cases hb) (g1.h b o nm hb), (g1.f.trans g2.f).trans sF, sub, fun b o hb => ?_, fun b hb => g2.there b (g1.there b hb)⟩
    by_cases y : b = p
    · subst y; exact .inr (.inl hp)
    · rw [upd_ne y] at hb
      rcases g2.fresh b o hb with w | w | w
      · exact g1.fresh b o w
      · exact .inr (.inl (g1.none_of w))
      · exact w.elim
  have s3 : SD K (upd F2 p (.lst ys)) σ2 (e2.set i (some (.list δ.2))) := by
    refine ⟨by rw [List.length_set]; exact s2.len, fun k c x => ?_⟩
    rcases getElem?_set' x with ⟨z1, z2, _⟩ | ⟨z1, z2⟩
    · subst z1
      cases z2
      exact ⟨_, p2 k _ (List.mem_cons_self ..), da_lst n y2⟩
    · exact (s2.mono sF).get k c z2
  exact h2 δ x3 D σ2 _ H2 sub s3 (fun k v hk => p2 k v (List.mem_cons_of_mem _ hk)) (R.frz _ _ _ _ _ jj m n) (fun σ3 e3 γ3 F3 H3 z1 z2 z3 z4 z5 => q σ3 e3 γ3 F3 H3 (g.trans z1) z2 z3 z4 z5) fun v d γ3 F3 H3 z1 z2 z3 z4 => r v d γ3 F3 H3 (g.trans z1) z2 z3 z4
end
end Pa
/-! Numbers read beside things that change; the children's lists; what the meetings keep. -/
namespace Pa
open PySem L2 PyProof.Rows
/-! ### numbers -/
section
variable {K : PySem.W.Frag} {Γ : Type} {R : Res Γ} {e : DE} {pn : List (Nat × V)} {γ : Γ} {te ta tb : TE} {A : Nat → Γ → Prop} {B : Nat → Nat → Γ → Prop} {i : Nat}
abbrev XN (K : PySem.W.Frag) (R : Res Γ) (te : TE) (e : DE) (pn : List (Nat × V)) (γ : Γ) (A : Nat → Γ → Prop) : Prop := XE K R te e pn γ (fun d γ' => ∃ i : Nat, d = dn i ∧ A i γ')
theorem XE.xn {P : PyData → Γ → Prop} (h : XE K R te e pn γ P) (k : ∀ d γ', P d γ' → ∃ i : Nat, d = dn i ∧ A i γ') : XN K R te e pn γ A := h.mono k
theorem xn_ed (h : ED K te e (dn i)) : XN K R te e pn γ (fun i' γ' => i' = i ∧ γ' = γ) := (xe_ed h).mono fun d γ' x => ⟨i, x.1, rfl, x.2⟩
theorem XN.mono' {A' : Nat → Γ → Prop} (h : XN K R te e pn γ A) (k : ∀ i γ', A i γ' → A' i γ') : XN K R te e pn γ A' := XE.mono h fun d γ' ⟨i, x, y⟩ => ⟨i, x, k i γ' y⟩
def opN (f : Int → Int → PyData) : PyData → PyData → PyData := fun a b => match a, b with | .int i, .int j => f i j | _, _ => .none
theorem xe_opN {r : R2} {f : Int → Int → PyData} (ha : XN K R ta e pn γ A) (hb : ∀ i γ1, A i γ1 → XN K R tb e pn γ1 (B i)) (hr : ∀ i j γ', B i j γ' → RD K r (dn i) (dn j) (f (i : Int) (j : Int))) : XE K R (tOp r ta tb) e pn γ (fun d γ' => ∃ i j : Nat, d = f (i : Int) (j : Int) ∧ B i j γ') :=
  (xe_op (res := opN f) (P2 := fun d1 d2 γ' => ∃ i j : Nat, d1 = dn i ∧ d2 = dn j ∧ B i j γ') ha (fun d γ1 ⟨i, x, y⟩ => (hb i γ1 y).mono fun d2 γ2 ⟨j, u, v⟩ => ⟨i, j, x, u, v⟩) fun d1 d2 γ2 ⟨i, j, x, y, z⟩ => by
    subst x
    subst y
    exact hr i j γ2 z).mono fun d γ' ⟨d1, d2, ⟨i, j, x, y, z⟩, u⟩ => by
      subst x
      subst y
      exact ⟨i, j, u, z⟩
theorem xn_add (ha : XN K R ta e pn γ A) (hb : ∀ i γ1, A i γ1 → XN K R tb e pn γ1 (B i)) : XN K R (tOp (rI0 fun i j => .int (i + j)) ta tb) e pn γ (fun k γ' => ∃ i j : Nat, k = i + j ∧ B i j γ') :=
  (xe_opN (f := fun i j => .int (i + j)) ha hb fun i j γ' _ => rd_I0 (f := fun i j => .int (i + j)) fun i j H => .int _).mono fun d γ' ⟨i, j, x, y⟩ => ⟨i + j, by rw [x]; exact congrArg PyData.int (by omega), i, j, rfl, y⟩
theorem xn_sub (ha : XN K R ta e pn γ A) (hb : ∀ i γ1, A i γ1 → XN K R tb e pn γ1 (B i)) (hle : ∀ i j γ', B i j γ' → j ≤ i) : XN K R (tOp (rI0 fun i j => .int (i - j)) ta tb) e pn γ (fun k γ' => ∃ i j : Nat, k = i - j ∧ B i j γ') :=
  (xe_opN (f := fun i j => .int (i - j)) ha hb fun i j γ' _ => rd_I0 (f := fun i j => .int (i - j)) fun i j H => .int _).mono fun d γ' ⟨i, j, x, y⟩ => ⟨i - j, by rw [x]; exact congrArg PyData.int (by have := hle i j γ' y; omega), i, j, rfl, y⟩
theorem xn_mod (ha : XN K R ta e pn γ A) (hb : ∀ i γ1, A i γ1 → XN K R tb e pn γ1 (B i)) (h0 : ∀ i j γ', B i j γ' → 0 < j) : XN K R (tOp (rI (fun _ j => 0 < j) fun i j => .int (i % j)) ta tb) e pn γ (fun k γ' => ∃ i j : Nat, k = i % j ∧ B i j γ') :=
  (xe_opN (f := fun i j => .int (i % j)) ha hb fun i j γ' y => rd_I (f := fun i j => .int (i % j)) (by have := h0 i j γ' y; omega) fun i j H => .int _).mono fun d γ' ⟨i, j, x, y⟩ => ⟨i % j, by rw [x]; exact congrArg PyData.int (by omega), i, j, rfl, y⟩
theorem xb_ltN (ha : XN K R ta e pn γ A) (hb : ∀ i γ1, A i γ1 → XN K R tb e pn γ1 (B i)) : XB K R (tTest (tOp (rI0 fun i j => .bl (decide (i < j))) ta tb)) e pn γ (fun b γ' => ∃ i j : Nat, b = decide (i < j) ∧ B i j γ') :=
  (xb_cmp (xe_opN (f := fun i j => .bool (decide (i < j))) ha hb fun i j γ' _ => rd_I0 (f := fun i j => .bool (decide (i < j))) fun i j H => .bl _) fun d γ' ⟨i, j, x, _⟩ => ⟨_, x⟩).mono fun b γ' ⟨i, j, x, y⟩ => ⟨i, j, (PyData.bool.inj x).trans (decide_eq_decide.mpr (by omega)), y⟩
theorem xb_leN (ha : XN K R ta e pn γ A) (hb : ∀ i γ1, A i γ1 → XN K R tb e pn γ1 (B i)) : XB K R (tTest (tOp (rI0 fun i j => .bl (decide (i ≤ j))) ta tb)) e pn γ (fun b γ' => ∃ i j : Nat, b = decide (i ≤ j) ∧ B i j γ') :=
  (xb_cmp (xe_opN (f := fun i j => .bool (decide (i ≤ j))) ha hb fun i j γ' _ => rd_I0 (f := fun i j => .bool (decide (i ≤ j))) fun i j H => .bl _) fun d γ' ⟨i, j, x, _⟩ => ⟨_, x⟩).mono fun b γ' ⟨i, j, x, y⟩ => ⟨i, j, (PyData.bool.inj x).trans (decide_eq_decide.mpr (by omega)), y⟩
theorem xb_gtN (ha : XN K R ta e pn γ A) (hb : ∀ i γ1, A i γ1 → XN K R tb e pn γ1 (B i)) : XB K R (tTest (tOp (rI0 fun i j => .bl (decide (j < i))) ta tb)) e pn γ (fun b γ' => ∃ i j : Nat, b = decide (j < i) ∧ B i j γ') :=
  (xb_cmp (xe_opN (f := fun i j => .bool (decide (j < i))) ha hb fun i j γ' _ => rd_I0 (f := fun i j => .bool (decide (j < i))) fun i j H => .bl _) fun d γ' ⟨i, j, x, _⟩ => ⟨_, x⟩).mono fun b γ' ⟨i, j, x, y⟩ => ⟨i, j, (PyData.bool.inj x).trans (decide_eq_decide.mpr (by omega)), y⟩
theorem xb_eqN (ha : XN K R ta e pn γ A) (hb : ∀ i γ1, A i γ1 → XN K R tb e pn γ1 (B i)) : XB K R (tTest (tOp rEq ta tb)) e pn γ (fun b γ' => ∃ i j : Nat, b = decide (i = j) ∧ B i j γ') :=
  (xb_cmp (xe_opN (f := fun i j => .bool (decide (i = j))) ha hb fun i j γ' _ => by
    intro v w F H Q f hx hy q
    cases hx.intI
    cases hy.intI
    exact ⟨rfl, q _ F H (Fz.refl f) (by rw [dec_I]; exact .bl _)⟩) fun d γ' ⟨i, j, x, _⟩ => ⟨_, x⟩).mono fun b γ' ⟨i, j, x, y⟩ => ⟨i, j, (PyData.bool.inj x).trans (decide_eq_decide.mpr (by omega)), y⟩
theorem xe_intC {P : PyData → Γ → Prop} (h : XE K R te e pn γ P) (hp : ∀ d γ', P d γ' → ∃ i, d = .int i) : XE K R (tIntC te) e pn γ P := fun σ F H Q f s p j q => h σ F H _ f s p j fun v d γ1 F1 H1 g1 j1 x1 a1 => by
  obtain ⟨i, rfl⟩ := hp d γ1 x1
  cases a1.intI
  exact .inl ⟨i, rfl, q _ _ γ1 F1 H1 g1 j1 x1 (.int i)⟩
theorem xn_intC (h : XN K R te e pn γ A) : XN K R (tIntC te) e pn γ A := xe_intC h fun d γ' ⟨i, x, _⟩ => ⟨_, x⟩
theorem XS.run {t : TS} {N : DE → Γ → Prop} {Z : PyData → Γ → Prop} (h : XS K R t e pn γ N Z) {D : Ends} {σ : L2.St} {F H : Hp} (f : Same F H) (s : SD K F σ e) (p : Pins σ pn) (j : R.J γ F H)
    (q : ∀ σ' e' γ' F' H', Gr R.M No F H F' H' → R.J γ' F' H' → SD K F' σ' e' → Pins σ' pn → N e' γ' → D.nx σ' H') (r : ∀ v d γ' F' H', Gr R.M No F H F' H' → R.J γ' F' H' → Da K F' v d → Z d γ' → D.rt v H') : t D σ H := h D σ F H f s p j q r
theorem XS.run' {t : TS} {N : DE → Γ → Prop} {Z : PyData → Γ → Prop} {e' : DE} (hf : Forg e' e) (h : XS K R t e pn γ N Z) : XS K R t e' pn γ N Z := fun D σ F H f s p j q r => h D σ F H f (s.forg hf) p j q r
theorem SD.nones {F : Hp} {σ : L2.St} (n : Nat) (h : σ.length = n) : SD K F σ (List.replicate n none) := ⟨by rw [h, List.length_replicate], fun i d hd => by
  have := List.eq_of_mem_replicate (List.mem_of_getElem? hd)
  cases this⟩
/-- draws beside other things -/
theorem xe_callR {a c : Addr} {get : Γ → Unit} {put : Γ → Unit → Γ} {tr : TA} {PA : List PyData → Γ → Prop} {Pre : List PyData → Prop} {Rr : List PyData → PyData → Prop} {E : XK} (L : Lift (RS a c) R get put) (hput : ∀ γ, put γ () = γ) (ha : XA K R tr e pn γ PA) (hp : ∀ ds γ', PA ds γ' → Pre ds) (h0 : (0, V.ref a) ∈ pn) :
    XE K R (tCall (spS K Pre Rr) [] E (tCons (tVar 0) tr)) e pn γ (fun d γ' => ∃ ds, PA ds γ' ∧ Rr ds d) := fun σ F H Q f s p j q =>
  ⟨_, p 0 _ h0, ha σ F H _ f s p j fun vs ds γ1 F1 H1 g1 j1 x1 a1 => ⟨a, c, F1, vs, ds, by rw [List.append_nil], g1.sub, L.j _ _ _ j1, a1, hp ds γ1 x1, fun v d F' H' g2 j2 r2 a2 => q v d γ1 F' H' (g1.trans (g2.mono L.m fun _ z => z)) (by
    have := L.b _ _ _ () _ _ j1 g2 j2
    rw [hput] at this
    exact this) ⟨ds, x1, r2⟩ a2⟩⟩
theorem xn_draw {a c : Addr} {get : Γ → Unit} {put : Γ → Unit → Γ} (L : Lift (RS a c) R get put) (hput : ∀ γ, put γ () = γ) (h : XN K R te e pn γ A) (hp : ∀ m γ', A m γ' → 0 < m ∧ m ≤ 1000000) (h0 : (0, V.ref a) ∈ pn) : XN K R (tCall (spS K preDraw rDraw) [] E0 (tCons (tVar 0) (tCons te tNil))) e pn γ (fun k γ' => ∃ m, A m γ' ∧ k < m) :=
  (xe_callR L hput (xa_cons (P2 := fun d r γ' => (∃ m : Nat, d = dn m ∧ A m γ') ∧ r = []) h fun d γ1 hd => xa_nil.mono fun ds γ' x => ⟨by rw [x.2]; exact hd, x.1⟩) (fun ds γ' ⟨d, r, z, ⟨m, x, y⟩, u⟩ => by
    subst z
    subst x
    subst u
    exact ⟨m, rfl, hp m γ' y⟩) h0).mono fun d γ' ⟨ds, ⟨d1, r, z, ⟨m, x, y⟩, u⟩, n, k, e1, e2, hk⟩ => by
      subst z
      subst x
      subst u
      have e3 := dn_inj (List.cons.inj e1).1
      subst e3
      exact ⟨k, e2, m, y, hk⟩
end
section
variable {K : PySem.W.Frag} {Γ : Type} {R : Res Γ} {e : DE} {pn : List (Nat × V)} {γ : Γ} {m : Nat}
theorem xn_drawC {a c : Addr} {get : Γ → Unit} {put : Γ → Unit → Γ} (L : Lift (RS a c) R get put) (hput : ∀ γ, put γ () = γ) {te : TE} (h : ED K te e (dn m)) (h1 : 0 < m) (h2 : m ≤ 1000000) (h0 : (0, V.ref a) ∈ pn) : XN K R (tCall (spS K preDraw rDraw) [] E0 (tCons (tVar 0) (tCons te tNil))) e pn γ (fun k γ' => k < m ∧ γ' = γ) :=
  (xn_draw L hput (xn_ed h) (fun m' γ' x => by omega) h0).mono' fun k γ' ⟨m', ⟨x, y⟩, z⟩ => ⟨by omega, y⟩
/-- 1 + draw(m) -/
theorem xn_draw1 {a c : Addr} {get : Γ → Unit} {put : Γ → Unit → Γ} (L : Lift (RS a c) R get put) (hput : ∀ γ, put γ () = γ) {te : TE} {i : Nat} (hi : ED K te e (dn m)) (h1 : 0 < m) (h2 : m ≤ 1000000) (h0 : (0, V.ref a) ∈ pn) : XN K R (tOp (rI0 fun i j => V.int (i + j)) (tC (.int (i : Int))) (tCall (spS K preDraw rDraw) [] E0 (tCons (tVar 0) (tCons te tNil)))) e pn γ (fun k γ' => i ≤ k ∧ k < i + m ∧ γ' = γ) :=
  (xn_add (B := fun x y γ' => x = i ∧ y < m ∧ γ' = γ) (xn_ed ed_int) fun x γ1 hx => (xn_drawC L hput hi h1 h2 h0).mono' fun k γ' y => ⟨hx.1, y.1, y.2.trans hx.2⟩).mono' fun k γ' ⟨x, y, z1, z2, z3, z4⟩ => ⟨by omega, by omega, z4⟩
theorem XN.lift {Δ : Type} {R' : Res Δ} {get : Δ → Γ} {put : Δ → Γ → Δ} {δ : Δ} {te : TE} {A : Nat → Γ → Prop} (L : Lift R R' get put) (h : XN K R te e pn (get δ) A) : XN K R' te e pn δ (fun i δ' => ∃ γ', A i γ' ∧ δ' = put δ γ') :=
  (XE.lift L h).mono fun d δ' ⟨γ', ⟨i, x, y⟩, z⟩ => ⟨i, x, γ', y, z⟩
end
/-! the lesser of two -/
section
variable {K : PySem.W.Frag} {Γ : Type} {R : Res Γ} {e : DE} {pn : List (Nat × V)} {γ : Γ} {ta tb : TE} {A : Nat → Γ → Prop} {B : Nat → Nat → Γ → Prop}
abbrev tMin (ta tb : TE) : TE := tCB (fun xs H Q => ∃ i j, xs = [V.int i, V.int j] ∧ Q (V.int (if j < i then j else i)) H) (tCons ta (tCons tb tNil))
theorem xn_min (ha : XN K R ta e pn γ A) (hb : ∀ i γ1, A i γ1 → XN K R tb e pn γ1 (B i)) : XN K R (tMin ta tb) e pn γ (fun k γ' => ∃ i j : Nat, k = min i j ∧ B i j γ') := fun σ F H Q f s p jj q => by
  refine ha σ F H _ f s p jj fun v1 d1 γ1 F1 H1 g1 j1 ⟨i, h1, h2⟩ a1 => ?_
  subst h1
  cases a1.intI
  refine hb i γ1 h2 σ F1 H1 _ g1.sub (s.mono g1.f) p j1 fun v2 d2 γ2 F2 H2 g2 j2 ⟨j, h3, h4⟩ a2 => ?_
  subst h3
  cases a2.intI
  refine ⟨(i : Int), (j : Int), rfl, ?_⟩
  have e1 : (if (j : Int) < (i : Int) then (j : Int) else (i : Int)) = ((min i j : Nat) : Int) := by
    split
    · rw [Nat.min_eq_right (by omega)]
    · rw [Nat.min_eq_left (by omega)]
  rw [e1]
  exact q _ _ γ2 F2 H2 (g1.trans g2) j2 ⟨min i j, rfl, i, j, rfl, h4⟩ (.int _)
end
/-! data that are known, nothing changes -/
section
variable {K : PySem.W.Frag} {Γ : Type} {R : Res Γ} {e : DE} {pn : List (Nat × V)} {γ : Γ} {te : TE} {tr : TA} {d : PyData} {ds : List PyData}
abbrev XP (K : PySem.W.Frag) (R : Res Γ) (te : TE) (e : DE) (pn : List (Nat × V)) (γ : Γ) (d : PyData) : Prop := XE K R te e pn γ (fun d' γ' => d' = d ∧ γ' = γ)
abbrev XPs (K : PySem.W.Frag) (R : Res Γ) (tr : TA) (e : DE) (pn : List (Nat × V)) (γ : Γ) (ds : List PyData) : Prop := XA K R tr e pn γ (fun ds' γ' => ds' = ds ∧ γ' = γ)
theorem xps_nil : XPs K R tNil e pn γ [] := xa_nil
theorem xps_cons (h : XP K R te e pn γ d) (h2 : XPs K R tr e pn γ ds) : XPs K R (tCons te tr) e pn γ (d :: ds) :=
  (xa_cons (P2 := fun d' r γ' => d' = d ∧ r = ds ∧ γ' = γ) h fun d1 γ1 x => by rw [x.2]; exact h2.mono fun ds' γ' y => ⟨x.1, y⟩).mono fun ds' γ' ⟨d1, r, h1, h2, h3, h4⟩ => ⟨by rw [h1, h2, h3], h4⟩
theorem xp_tup (h : XPs K R tr e pn γ ds) (hz : Nat.ble ds.length 100 = true := by rfl) : XP K R (tTup tr) e pn γ (.tuple ds) :=
  (xe_tup h fun ds' γ' x => by rw [x.1]; have := Nat.le_of_ble_eq_true hz; omega).mono fun d γ' ⟨ds', x, y⟩ => ⟨by rw [y, x.1], x.2⟩
theorem XP.lift {Δ : Type} {R' : Res Δ} {get : Δ → Γ} {put : Δ → Γ → Δ} {δ : Δ} (L : Lift R R' get put) (hput : put δ (get δ) = δ) (h : XP K R te e pn (get δ) d) : XP K R' te e pn δ d :=
  (XE.lift L h).mono fun d' δ' ⟨γ', ⟨x, y⟩, z⟩ => ⟨x, by rw [z, y, hput]⟩
end
theorem prsGet_new {l : Prs} {k : Nat × Nat} {c : Nat} (h : prsGet l k = none) : prsGet (l ++ [(k, c)]) k = some c := by
  unfold prsGet at h ⊢
  rw [List.find?_append]
  cases e : l.find? (fun e => decide (e.1 = k)) with
  | some y => rw [e] at h; cases h
  | none => rw [Option.none_or, List.find?_cons_of_pos (by exact decide_eq_true rfl)]; rfl
/-! ### the world's channels -/
section
variable {K : PySem.W.Frag} {e : DE} {pn : List (Nat × V)} {te : TE} {a c wd ch : Addr} {ω : Wo} {i : Nat}
theorem w_chV {kv : Addr} : valV (worldKV ω ch) (.inr "channels") = some (.ref ch) := by
  rw [worldKV, valV_neg (nk (by decide +kernel)), valV_neg (nk (by decide +kernel)), valV_neg (nk (by decide +kernel)), valV_neg (nk (by decide +kernel))]
  exact valV_pos rfl
theorem w_chlen (hi : (i, V.ref wd) ∈ pn) : XN K (RW a c wd ch) (tLenL K (tDGet (tVar i) (tC (.str "channels")))) e pn ω (fun n ω' => n = ω.ch.length ∧ ω' = ω) := fun σ F H Q f s p W q => by
  have g := DGet.k (k := .inr "channels") W.hw
  rw [w_chV (kv := ch)] at g
  refine ⟨_, p i _ hi, wd, _, rfl, g, ch, _, rfl, .inl (SqL.of W.hc), q _ (dn ω.ch.length) ω F H (Gr.refl f) W ⟨_, rfl, rfl, rfl⟩ ?_⟩
  rw [List.length_map]
  exact .int _
theorem w_chapp {x : Str} {Z : PyData → Wo → Prop} (hi : (i, V.ref wd) ∈ pn) (hz : ω.ch.length ≤ 15000000) : XS K (RW a c wd ch) (tDrop (tBM K "list" rAppend (tDGet (tVar i) (tC (.str "channels"))) (tCons (tC (.str x)) tNil))) e pn ω (fun e' ω' => e' = e ∧ ω' = { ω with ch := ω.ch ++ [x] }) Z := fun D σ F H f s p W q r => by
  refine drop_app (K := K) ?_
  have g := DGet.k (k := .inr "channels") W.hw
  rw [w_chV (kv := ch)] at g
  refine ⟨_, p i _ hi, wd, _, rfl, g, .inl ⟨rfl, _, SqL.of W.hc⟩, ch, _, .str x, rfl, rfl, W.hc, by rw [List.length_map]; exact line_lt (by omega), ?_⟩
  have g2 : Gr (RW a c wd ch).M No F H F (upd H ch (.lst (ω.ch.map V.str ++ [.str x]))) := Gr.put f (.inr (.inr rfl)) W.fc
  refine q σ e { ω with ch := ω.ch ++ [x] } F _ g2 ⟨(RS a c).oth _ _ _ _ _ W.st (fun y => y.elim W.n3 W.n4) W.fc, W.n1, W.n2, W.n3, W.n4, W.n5, W.fw, W.fc, ?_, ?_⟩ s p ⟨rfl, rfl⟩
  · rw [upd_ne (Ne.symm W.n5)]; exact W.hw
  · rw [upd_same, List.map_append]; rfl
end
/-! ### the children's things -/
abbrev KF := Nat → Nat → List PyData
structure KA where
  n : Nat
  aE : Addr
  aS : Addr
  d : Nat → Addr
  p : Nat → Nat → Addr
  x2 : Nat → V
  sp : Nat → List (Nat × Nat)
/-- the children's dicts: frozen, of lists that are not -/
structure KidF (K : PySem.W.Frag) (A : KA) (F : Hp) : Prop where
  hE : F A.aE = some (.lst (refsOf A.n A.d))
  hd : ∀ j, j < A.n → F (A.d j) = some (.dK (envKV (.ref (A.p 0 j)) (.ref (A.p 1 j)) (A.x2 j) (.ref (A.p 3 j)) (.ref (A.p 4 j))))
  h2 : ∀ j, j < A.n → Da K F (A.x2 j) (spansD (A.sp j))
theorem KidF.mono {K : PySem.W.Frag} {A : KA} (F F' : Hp) (s : Same F F') (h : KidF K A F) : KidF K A F' := ⟨s _ _ h.hE, fun j hj => s _ _ (h.hd j hj), fun j hj => (h.h2 j hj).mono s⟩
section
variable (K : PySem.W.Frag) (a c wd ch : Addr) (A : KA)
def R0 : Res Wo := (RW a c wd ch).know (KidF K A) KidF.mono
def R1 : Res (Wo × KF) := (R0 K a c wd ch A).fam K [0, 1, 3, 4] A.n A.p
def R2 : Res (Wo × KF) := (R1 K a c wd ch A).raw A.aS (refsOf A.n (A.p 5))
def R3 : Res ((Wo × KF) × KF) := (R2 K a c wd ch A).fam K [5] A.n A.p
def R4 (q : Addr) : Res (((Wo × KF) × KF) × Prs) := (R3 K a c wd ch A).prs q
end
section
variable {K : PySem.W.Frag} {a c wd ch : Addr} {A : KA} {q : Addr}
theorem lW0 : Lift (RW a c wd ch) (R0 K a c wd ch A) id (fun _ γ' => γ') := lift_know
theorem lW1 : Lift (RW a c wd ch) (R1 K a c wd ch A) (fun δ => δ.1) (fun δ γ' => (γ', δ.2)) := lW0.trans lift_fam
theorem l12 : Lift (R1 K a c wd ch A) (R2 K a c wd ch A) id (fun _ γ' => γ') := lift_raw
theorem l23 : Lift (R2 K a c wd ch A) (R3 K a c wd ch A) Prod.fst (fun δ γ' => (γ', δ.2)) := lift_fam
theorem l34 : Lift (R3 K a c wd ch A) (R4 K a c wd ch A q) Prod.fst (fun δ γ' => (γ', δ.2)) := lift_prs
theorem lW3 : Lift (RW a c wd ch) (R3 K a c wd ch A) (fun δ => δ.1.1) (fun δ γ' => ((γ', δ.1.2), δ.2)) := (lW1.trans l12).trans l23
theorem lW4 : Lift (RW a c wd ch) (R4 K a c wd ch A q) (fun δ => δ.1.1.1) (fun δ γ' => (((γ', δ.1.1.2), δ.1.2), δ.2)) := lW3.trans l34
theorem lS4 : Lift (RS a c) (R4 K a c wd ch A q) (fun _ => ()) (fun δ _ => δ) := lift_RW.trans lW4
theorem hasE3 {k j : Nat} (hk : k ∈ [0, 1, 3, 4]) (hj : j < A.n) : HasL K (R3 K a c wd ch A) (A.p k j) (fun δ => δ.1.2 k j) (fun δ ds => ((δ.1.1, up2 δ.1.2 k j ds), δ.2)) := ((hasL_fam (R := R0 K a c wd ch A) hk hj).lift l12).lift l23
theorem hasE4 {k j : Nat} (hk : k ∈ [0, 1, 3, 4]) (hj : j < A.n) : HasL K (R4 K a c wd ch A q) (A.p k j) (fun δ => δ.1.1.2 k j) (fun δ ds => (((δ.1.1.1, up2 δ.1.1.2 k j ds), δ.1.2), δ.2)) := (hasE3 hk hj).lift l34
theorem hasS4 {j : Nat} (hj : j < A.n) : HasL K (R4 K a c wd ch A q) (A.p 5 j) (fun δ => δ.1.2 5 j) (fun δ ds => ((δ.1.1, up2 δ.1.2 5 j ds), δ.2)) := (hasL_fam (R := R2 K a c wd ch A) (List.mem_singleton.mpr rfl) hj).lift l34
theorem R4.kid {δ : ((Wo × KF) × KF) × Prs} {F H : Hp} (J : (R4 K a c wd ch A q).J δ F H) : KidF K A F := J.1.1.1.1.2
theorem R4.scr {δ : ((Wo × KF) × KF) × Prs} {F H : Hp} (J : (R4 K a c wd ch A q).J δ F H) : H A.aS = some (.lst (refsOf A.n (A.p 5))) := J.1.1.2.2.2
theorem env_val3 {x0 x1 x2 x3 x4 : V} : valV (envKV x0 x1 x2 x3 x4) (.inr "gives") = some x3 := by
  rw [envKV, valV_neg (nk (by decide +kernel)), valV_neg (nk (by decide +kernel)), valV_neg (nk (by decide +kernel))]; exact valV_pos rfl
theorem env_val4 {x0 x1 x2 x3 x4 : V} : valV (envKV x0 x1 x2 x3 x4) (.inr "takes") = some x4 := by
  rw [envKV, valV_neg (nk (by decide +kernel)), valV_neg (nk (by decide +kernel)), valV_neg (nk (by decide +kernel)), valV_neg (nk (by decide +kernel))]; exact valV_pos rfl
theorem env_val0 {x0 x1 x2 x3 x4 : V} : valV (envKV x0 x1 x2 x3 x4) (.inr "cells") = some x0 := valV_pos rfl
theorem env_val1 {x0 x1 x2 x3 x4 : V} : valV (envKV x0 x1 x2 x3 x4) (.inr "reads") = some x1 := by
  rw [envKV, valV_neg (nk (by decide +kernel))]; exact valV_pos rfl
variable {Γ : Type} {R : Res Γ} {e : DE} {pn : List (Nat × V)} {γ : Γ} {i ix j : Nat}
/-- envs[i]["gives"], .. -/
theorem xv_env {k : Str} {v : V} (hE : (i, V.ref A.aE) ∈ pn) (hJ : ∀ F H, Same F H → R.J γ F H → KidF K A F) (hi : e[ix]? = some (some (dn j))) (hj : j < A.n) (hv : valV (envKV (.ref (A.p 0 j)) (.ref (A.p 1 j)) (A.x2 j) (.ref (A.p 3 j)) (.ref (A.p 4 j))) (.inr k) = some v) : XV K R (tDGet (tOp (rIxL K) (tVar i) (tVar ix)) (tC (.str k))) e pn γ v :=
  xv_dget (xv_ix (xv_pin hE) (fun F H f jj => f _ _ (hJ F H f jj).hE) hi (refs_at hj)) (fun F H f jj => f _ _ ((hJ F H f jj).hd j hj)) hv
theorem xv_scr (hS : (i, V.ref A.aS) ∈ pn) (hJ : ∀ F H, Same F H → R.J γ F H → H A.aS = some (.lst (refsOf A.n (A.p 5)))) (hi : e[ix]? = some (some (dn j))) (hj : j < A.n) : XV K R (tOp (rIxL K) (tVar i) (tVar ix)) e pn γ (.ref (A.p 5 j)) :=
  xv_ix (xv_pin hS) hJ hi (refs_at hj)
theorem xn_vlen {n : Nat} {to : TE} {b : Nat → Addr} {aL : Addr} (h : XV K R to e pn γ (.ref aL)) (hl : ∀ F H, Same F H → R.J γ F H → H aL = some (.lst (refsOf n b))) : XN K R (tLenL K to) e pn γ (fun m γ' => m = n ∧ γ' = γ) :=
  (xe_vlen h hl).mono fun d γ' x => ⟨n, by rw [x.1, refs_len], rfl, x.2⟩
end
def R6 (K : PySem.W.Frag) (a c wd ch : Addr) (A : KA) (q : Addr) (b : Nat → Addr) (aP : Addr) : Res ((((Wo × KF) × KF) × Prs) × KF) := ((R4 K a c wd ch A q).fam K [0] A.n (fun _ => b)).raw aP (refsOf A.n b)
section
variable {K : PySem.W.Frag} {a c wd ch : Addr} {A : KA} {q aP : Addr} {b : Nat → Addr}
theorem l46 : Lift (R4 K a c wd ch A q) (R6 K a c wd ch A q b aP) Prod.fst (fun δ γ' => (γ', δ.2)) := lift_fam.trans lift_raw
theorem lS6 : Lift (RS a c) (R6 K a c wd ch A q b aP) (fun _ => ()) (fun δ _ => δ) := lS4.trans l46
theorem lW6 : Lift (RW a c wd ch) (R6 K a c wd ch A q b aP) (fun δ => δ.1.1.1.1) (fun δ γ' => ((((γ', δ.1.1.1.2), δ.1.1.2), δ.1.2), δ.2)) := lW4.trans l46
theorem hasP6 {j : Nat} (hj : j < A.n) : HasL K (R6 K a c wd ch A q b aP) (b j) (fun δ => δ.2 0 j) (fun δ ds => (δ.1, up2 δ.2 0 j ds)) := (hasL_fam (R := R4 K a c wd ch A q) (ad := fun _ => b) (List.mem_singleton.mpr rfl) hj).lift lift_raw
theorem R6.kid {δ : (((((Wo × KF) × KF) × Prs)) × KF)} {F H : Hp} (J : (R6 K a c wd ch A q b aP).J δ F H) : KidF K A F := R4.kid J.1.1
theorem R6.scr {δ : (((((Wo × KF) × KF) × Prs)) × KF)} {F H : Hp} (J : (R6 K a c wd ch A q b aP).J δ F H) : H A.aS = some (.lst (refsOf A.n (A.p 5))) := R4.scr J.1.1
theorem R6.par {δ : (((((Wo × KF) × KF) × Prs)) × KF)} {F H : Hp} (J : (R6 K a c wd ch A q b aP).J δ F H) : H aP = some (.lst (refsOf A.n b)) := J.2.2.2
end
/-! ### what the meetings keep -/
abbrev SG (gv tk : Nat → List Nat) (j : Nat) : Sur := ⟨[], [], [], gv j, tk j⟩
def OkIt (gv tk X : Nat → List Nat) (j : Nat) (d : PyData) : Prop := IsPart (SG gv tk j) d ∨ IsLoop (SG gv tk j) (X j) d
theorem IsPart.sub {E E' : Sur} {d : PyData} (h : IsPart E d) (hg : ∀ c, c ∈ E.gives → c ∈ E'.gives) (ht : ∀ c, c ∈ E.takes → c ∈ E'.takes) : IsPart E' d := by
  rcases h with ⟨c, x, e, h⟩ | ⟨c, x, e, h⟩
  · exact .inl ⟨c, x, e, hg c h⟩
  · exact .inr ⟨c, x, e, ht c h⟩
theorem IsLoop.sub {E E' : Sur} {X X' : List Nat} {d : PyData} (h : IsLoop E X d) (hg : ∀ c, c ∈ E.gives → c ∈ E'.gives) (ht : ∀ c, c ∈ E.takes → c ∈ E'.takes) (hX : ∀ x, x ∈ X → x ∈ X') : IsLoop E' X' d := by
  obtain ⟨n, parts, k, e, h1, h2, h3, h4⟩ := h
  exact ⟨n, parts, k, e, h1, h2, fun p hp => (h3 p hp).sub hg ht, hX k h4⟩
structure MI (n : Nat) (ω0 : Wo) (f0 : KF) (q C : Nat) (gv tk X : Nat → List Nat) (ω : Wo) (f fs : KF) (kn : Prs) : Prop where
  nt : ω.nth = ω0.nth
  lf : ω.left = ω0.left
  it : ω.items = ω0.items
  lo : ω.loops = ω0.loops
  ce : ω0.cells ≤ ω.cells
  ce2 : ω.cells ≤ ω0.cells + C
  ch : ∃ m, ω.ch = ω0.ch ++ List.replicate m ("inner" : Str)
  c24 : ω0.ch.length ≤ 24 → ω.ch.length ≤ 24
  cf0 : ∀ j, f 0 j = f0 0 j
  cf1 : ∀ j, f 1 j = f0 1 j
  cf3 : ∀ j, j < n → f 3 j = (gv j).map dn
  cf4 : ∀ j, j < n → f 4 j = (tk j).map dn
  gN : ∀ j, j < n → (gv j).Nodup
  gR : ∀ j, j < n → ∀ c, c ∈ gv j → ω0.ch.length ≤ c ∧ c < ω.ch.length
  gD : ∀ i j c, i < n → j < n → c ∈ gv i → c ∈ gv j → i = j
  gl : ∀ j, j < n → (gv j).length ≤ q
  tN : ∀ j, j < n → (tk j).Nodup
  tR : ∀ j, j < n → ∀ c, c ∈ tk j → ω0.ch.length ≤ c ∧ c < ω.ch.length
  tD : ∀ i j c, i < n → j < n → c ∈ tk i → c ∈ tk j → i = j
  tl : ∀ j, j < n → (tk j).length ≤ q
  knP : ∀ g t c, prsGet kn (g, t) = some c → c ∈ gv g ∧ c ∈ tk t
  knL : kn.length ≤ q
  its : ∀ j, j < n → ∀ it, it ∈ fs 5 j → OkIt gv tk X j it
  xR : ∀ j, j < n → ∀ x, x ∈ X j → ω0.cells ≤ x ∧ x < ω.cells
  xD : ∀ i j x, i < n → j < n → x ∈ X i → x ∈ X j → i = j
theorem upN_same {α : Type} {b : Nat → α} {n : Nat} {x : α} : upN b n x n = x := if_pos rfl
theorem upN_ne {α : Type} {b : Nat → α} {n j : Nat} {x : α} (h : j ≠ n) : upN b n x j = b j := if_neg h
theorem upN_app {b : Nat → List Nat} {n j c k : Nat} : k ∈ upN b n (b n ++ [c]) j ↔ k ∈ b j ∨ (j = n ∧ k = c) := by
  by_cases h : j = n
  · subst h
    rw [upN_same, List.mem_append, List.mem_singleton]
    constructor
    · rintro (z | z)
      · exact .inl z
      · exact .inr ⟨rfl, z⟩
    · rintro (z | ⟨_, z⟩)
      · exact .inl z
      · exact .inr z
  · rw [upN_ne h]
    constructor
    · exact .inl
    · rintro (z | ⟨z, _⟩)
      · exact z
      · exact absurd z h
theorem upN_nd {b : Nat → List Nat} {n j c : Nat} (h : (b j).Nodup) (q : c ∉ b j) : (upN b n (b n ++ [c]) j).Nodup := by
  by_cases e : j = n
  · subst e
    rw [upN_same]
    exact List.nodup_append.mpr ⟨h, List.nodup_cons.mpr ⟨List.not_mem_nil, List.nodup_nil⟩, fun x hx y hy z => q (by rw [← List.mem_singleton.mp hy, ← z]; exact hx)⟩
  · rw [upN_ne e]; exact h
theorem upN_len {b : Nat → List Nat} {n j c q : Nat} (h : (b j).length ≤ q) : (upN b n (b n ++ [c]) j).length ≤ q + 1 := by
  by_cases e : j = n
  · subst e
    rw [upN_same, List.length_append]
    show _ + 1 ≤ _
    omega
  · rw [upN_ne e]; omega
theorem prsGet_app (l : Prs) (k k' : Nat × Nat) (c x : Nat) (h : prsGet (l ++ [(k, c)]) k' = some x) : prsGet l k' = some x ∨ (k = k' ∧ x = c) := by
  unfold prsGet at h ⊢
  rw [List.find?_append] at h
  cases e : l.find? (fun e => decide (e.1 = k')) with
  | some y =>
    rw [e] at h
    exact .inl h
  | none =>
    rw [e] at h
    by_cases q : k = k'
    · rw [Option.none_or, List.find?_cons_of_pos (by exact decide_eq_true q)] at h
      exact .inr ⟨q, (Option.some.inj h).symm⟩
    · rw [Option.none_or, List.find?_cons_of_neg (by rw [decide_eq_false q]; exact Bool.false_ne_true)] at h
      cases h
section
variable {n : Nat} {ω0 : Wo} {f0 : KF} {q C : Nat} {gv tk X : Nat → List Nat} {ω : Wo} {f fs : KF} {kn : Prs}
theorem MI.wk (h : MI n ω0 f0 q C gv tk X ω f fs kn) {q' C' : Nat} (hq : q ≤ q') (hC : C ≤ C') : MI n ω0 f0 q' C' gv tk X ω f fs kn :=
  { h with ce2 := by have := h.ce2; omega, gl := fun j hj => Nat.le_trans (h.gl j hj) hq, tl := fun j hj => Nat.le_trans (h.tl j hj) hq, knL := Nat.le_trans h.knL hq }
/-- a new channel -/
theorem MI.add (h : MI n ω0 f0 q C gv tk X ω f fs kn) {g t : Nat} (hg : g < n) (ht : t < n) (h24 : ω.ch.length < 24) (hk : prsGet kn (g, t) = none) :
    MI n ω0 f0 (q + 1) C (upN gv g (gv g ++ [ω.ch.length])) (upN tk t (tk t ++ [ω.ch.length])) X { ω with ch := ω.ch ++ [("inner" : Str)] } (up2 (up2 f 3 g (f 3 g ++ [dn ω.ch.length])) 4 t (up2 f 3 g (f 3 g ++ [dn ω.ch.length]) 4 t ++ [dn ω.ch.length])) fs (kn ++ [((g, t), ω.ch.length)]) := by
  have l1 : (ω.ch ++ [("inner" : Str)]).length = ω.ch.length + 1 := by rw [List.length_append]; rfl
  have l0 : ω0.ch.length ≤ ω.ch.length := by
    obtain ⟨m, hm⟩ := h.ch
    rw [hm, List.length_append]
    omega
  have ng : ∀ j, j < n → ω.ch.length ∉ gv j := fun j hj z => Nat.lt_irrefl _ (h.gR j hj _ z).2
  have nt : ∀ j, j < n → ω.ch.length ∉ tk j := fun j hj z => Nat.lt_irrefl _ (h.tR j hj _ z).2
  refine { h with ch := ?_, c24 := fun _ => by show (ω.ch ++ [("inner" : Str)]).length ≤ 24; omega, cf0 := fun j => ?_, cf1 := fun j => ?_, cf3 := fun j hj => ?_, cf4 := fun j hj => ?_, gN := fun j hj => upN_nd (h.gN j hj) (ng j hj), tN := fun j hj => upN_nd (h.tN j hj) (nt j hj), gR := fun j hj c hc => ?_, tR := fun j hj c hc => ?_, gD := fun i j c hi hj h1 h2 => ?_, tD := fun i j c hi hj h1 h2 => ?_, gl := fun j hj => upN_len (h.gl j hj), tl := fun j hj => upN_len (h.tl j hj), knP := fun g' t' c hc => ?_, knL := ?_, its := fun j hj it hit => ?_ }
  · obtain ⟨m, hm⟩ := h.ch
    exact ⟨m + 1, by show ω.ch ++ [("inner" : Str)] = _; rw [hm, List.append_assoc, List.replicate_succ']⟩
  · rw [up2_nk (by decide), up2_nk (by decide)]; exact h.cf0 j
  · rw [up2_nk (by decide), up2_nk (by decide)]; exact h.cf1 j
  · rw [up2_nk (by decide)]
    by_cases e : j = g
    · subst e
      rw [up2_same, upN_same, h.cf3 j hj, List.map_append]
      rfl
    · rw [up2_ne (fun z => e z.2), upN_ne e]; exact h.cf3 j hj
  · by_cases e : j = t
    · subst e
      rw [up2_same, upN_same, up2_nk (by decide), h.cf4 j hj, List.map_append]
      rfl
    · rw [up2_ne (fun z => e z.2), up2_nk (by decide), upN_ne e]; exact h.cf4 j hj
  · show _ ∧ c < (ω.ch ++ [("inner" : Str)]).length
    rcases upN_app.mp hc with z | ⟨_, z⟩
    · have := h.gR j hj c z; omega
    · omega
  · rcases upN_app.mp h1 with z1 | ⟨z1, y1⟩
    · rcases upN_app.mp h2 with z2 | ⟨z2, y2⟩
      · exact h.gD i j c hi hj z1 z2
      · subst y2; exact absurd z1 (ng i hi)
    · rcases upN_app.mp h2 with z2 | ⟨z2, y2⟩
      · subst y1; exact absurd z2 (ng j hj)
      · rw [z1, z2]
  · show _ ∧ c < (ω.ch ++ [("inner" : Str)]).length
    rcases upN_app.mp hc with z | ⟨_, z⟩
    · have := h.tR j hj c z; omega
    · omega
  · rcases upN_app.mp h1 with z1 | ⟨z1, y1⟩
    · rcases upN_app.mp h2 with z2 | ⟨z2, y2⟩
      · exact h.tD i j c hi hj z1 z2
      · subst y2; exact absurd z1 (nt i hi)
    · rcases upN_app.mp h2 with z2 | ⟨z2, y2⟩
      · subst y1; exact absurd z2 (nt j hj)
      · rw [z1, z2]
  · rcases prsGet_app _ _ _ _ _ hc with z | ⟨z, y⟩
    · have := h.knP g' t' c z
      exact ⟨upN_app.mpr (.inl this.1), upN_app.mpr (.inl this.2)⟩
    · cases z
      exact ⟨upN_app.mpr (.inr ⟨rfl, y⟩), upN_app.mpr (.inr ⟨rfl, y⟩)⟩
  · rw [List.length_append]
    have := h.knL
    show _ + 1 ≤ _
    omega
  · exact (h.its j hj it hit).imp (fun z => z.sub (fun c hc => upN_app.mpr (.inl hc)) fun c hc => upN_app.mpr (.inl hc)) fun z => z.sub (fun c hc => upN_app.mpr (.inl hc)) (fun c hc => upN_app.mpr (.inl hc)) fun x hx => hx
/-- a loop -/
theorem MI.loop (h : MI n ω0 f0 q C gv tk X ω f fs kn) {k m : Nat} {parts : List PyData} (hk : k < n) (hm : m ≤ 3) (hl : parts.length ≤ 1000) (hp : ∀ p, p ∈ parts → IsPart (SG gv tk k) p) :
    MI n ω0 f0 q (C + 1) gv tk (upN X k (X k ++ [ω.cells])) { ω with cells := ω.cells + 1 } f (up2 fs 5 k (fs 5 k ++ [.tuple [.str "loop", dn m, .list parts, dn ω.cells]])) kn := by
  have nx : ∀ j, j < n → ω.cells ∉ X j := fun j hj z => Nat.lt_irrefl _ (h.xR j hj _ z).2
  refine { h with ce := by have := h.ce; show _ ≤ ω.cells + 1; omega, ce2 := by have := h.ce2; show ω.cells + 1 ≤ _; omega, its := fun j hj it hit => ?_, xR := fun j hj x hx => ?_, xD := fun i j x hi hj h1 h2 => ?_ }
  · have old : ∀ it, it ∈ fs 5 j → OkIt gv tk (upN X k (X k ++ [ω.cells])) j it := fun it hit => (h.its j hj it hit).imp id fun z => z.sub (fun c hc => hc) (fun c hc => hc) fun x hx => upN_app.mpr (.inl hx)
    by_cases e : j = k
    · subst e
      rw [up2_same] at hit
      rcases List.mem_append.mp hit with z | z
      · exact old it z
      · rw [List.mem_singleton.mp z]
        exact .inr ⟨m, parts, ω.cells, rfl, hm, hl, hp, upN_app.mpr (.inr ⟨rfl, rfl⟩)⟩
    · rw [up2_ne (fun z => e z.2)] at hit
      exact old it hit
  · show _ ∧ x < ω.cells + 1
    rcases upN_app.mp hx with z | ⟨_, z⟩
    · have := h.xR j hj x z; omega
    · have := h.ce; omega
  · rcases upN_app.mp h1 with z1 | ⟨z1, y1⟩
    · rcases upN_app.mp h2 with z2 | ⟨z2, y2⟩
      · exact h.xD i j x hi hj z1 z2
      · subst y2; exact absurd z1 (nx i hi)
    · rcases upN_app.mp h2 with z2 | ⟨z2, y2⟩
      · subst y1; exact absurd z2 (nx j hj)
      · rw [z1, z2]
/-- parts -/
theorem MI.ext (h : MI n ω0 f0 q C gv tk X ω f fs kn) {k : Nat} {parts : List PyData} (hk : k < n) (hp : ∀ p, p ∈ parts → IsPart (SG gv tk k) p) : MI n ω0 f0 q C gv tk X ω f (up2 fs 5 k (fs 5 k ++ parts)) kn := by
  refine { h with its := fun j hj it hit => ?_ }
  by_cases e : j = k
  · subst e
    rw [up2_same] at hit
    rcases List.mem_append.mp hit with z | z
    · exact h.its j hj it z
    · exact .inl (hp it z)
  · rw [up2_ne (fun z => e z.2)] at hit
    exact h.its j hj it hit
end
end Pa
/-! meetings -/
namespace Pa
open PySem L2 PyProof.Rows
local macro_rules | `(tactic| walk_at "ed") => `(tactic| first
  | ((with_reducible show ED _ (tVar _) _ _); exact ed_var rfl)
  | ((with_reducible show ED _ (tC _) _ _); first | exact ed_int | exact ed_str | exact ed_non | exact ed_bl | exact ed_tupC T.fF | exact ed_tupC T.fS)
  | ((with_reducible show EA _ tNil _ _); exact ea_nil) | ((with_reducible show EA _ (tCons _ _) _ _); exact ea_cons (by walk_at "ed") (by walk_at "ed"))
  | ((with_reducible show ED _ (tTup _) _ _); exact ed_tup (by walk_at "ed")) | ((with_reducible show ED _ (tLst _) _ _); exact ed_lst (by walk_at "ed"))
  | ((with_reducible show ED _ (tOp (rI0 fun i j => V.int (i + j)) _ _) _ _); exact ed_add (by walk_at "ed") (by walk_at "ed"))
  | ((with_reducible show ED _ (tOp (rI0 fun i j => V.int (i - j)) _ _) _ _); exact ed_sub (by walk_at "ed") (by walk_at "ed"))
  | ((with_reducible show ED _ (tOp (rI0 fun i j => V.int (Builtin.bitAnd i j)) _ _) _ _); exact ed_and (by walk_at "ed") (by walk_at "ed"))
  | ((with_reducible show ED _ (tOp (rIxT _) _ (tC (.int 0))) _ _); exact ed_ix0 (by walk_at "ed")) | ((with_reducible show ED _ (tOp (rIxT _) _ (tC (.int 1))) _ _); exact ed_ix1 (by walk_at "ed"))
  | ((with_reducible show ED _ (tOp (rIxT _) _ (tC (.int 2))) _ _); exact ed_ix2 (by walk_at "ed")) | ((with_reducible show ED _ (tOp (rIxT _) _ (tC (.int 3))) _ _); exact ed_ix3 (by walk_at "ed"))
  | ((with_reducible show ED _ (tSl _ _ tNoPart (tPart _)) _ _); exact ed_take (by walk_at "ed") (by walk_at "ed")) | ((with_reducible show ED _ (tSl _ _ (tPart _) tNoPart) _ _); exact ed_dropI (by walk_at "ed") (by walk_at "ed") rfl)
  | ((with_reducible show ED _ (tOp rEq _ _) _ _); exact ed_eqS (by walk_at "ed") (by walk_at "ed"))
  | ((with_reducible show ED _ (tOp rEq _ _) _ _); exact ed_eqI (by walk_at "ed") (by walk_at "ed"))
  | ((with_reducible show ED _ (tOp (fun x y H Q => y = V.non ∧ Q (V.bl (decide (x = V.non))) H) _ _) _ _); exact ed_isN (by walk_at "ed"))
  | ((with_reducible show ED _ (tOp (rIn _ false) _ _) _ _); exact ed_in2 (by walk_at "ed"))
  | ((with_reducible show ED _ (tCB _ _) _ _); exact ed_len (by walk_at "ed")))
local macro_rules | `(tactic| walk_at "eb") => `(tactic| first
  | ((with_reducible show EB _ (tTest (tOp (rIn _ false) _ _)) _ _); exact (eb_cmp (ed_in2 (by walk_at "ed"))).eq (by decide +kernel))
  | ((with_reducible show EB _ (tTest (tOp rEq _ _)) _ _); exact (eb_cmp (ed_eqS (by walk_at "ed") (by walk_at "ed"))).eq (by decide +kernel)))

theorem Gr.hide {M M' : Addr → Prop} {F H H1 F' H' : Hp} (g : Gr M' No F H1 F' H') (z : Fz F H F H1) (hm : ∀ b, M' b → M b ∨ H b = none) : Gr M No F H F' H' := by
  refine ⟨fun b o n hb => g.h b o (fun y => ?_) (z.h b o hb), g.f, g.sub, fun a o ha => ?_, fun b hb => g.there b fun y => hb (z.h.free y)⟩
  · rcases hm b y with w | w
    · exact n w
    · rw [hb] at w; cases w
  · rcases g.fresh a o ha with w | w | w
    · exact .inl w
    · exact .inr (.inl (z.h.free w))
    · exact w.elim
def spMeet (K : PySem.W.Frag) : Sp := fun vs H Q _ => ∃ (a c wd ch : Addr) (A : KA) (F : Hp) (ω : Wo) (f : KF), vs = [.ref a, .ref wd, .ref A.aS, .ref A.aE] ∧ Same F H ∧ (R3 K a c wd ch A).J ((ω, f), fun _ _ => []) F H ∧ 2 ≤ A.n ∧ A.n ≤ 1000 ∧ (∀ j, j < A.n → f 3 j = [] ∧ f 4 j = []) ∧
  ∀ (gv tk X : Nat → List Nat) (ω' : Wo) (f' fs : KF) (kn : Prs) (F' H' : Hp), Gr (R3 K a c wd ch A).M No F H F' H' → (R3 K a c wd ch A).J ((ω', f'), fs) F' H' → MI A.n ω f 9 (3 * A.n) gv tk X ω' f' fs kn → (∀ j, j < A.n → (fs 5 j).length ≤ 18) → Q .non H'
section
variable {P : Program} {w : World} {K : PySem.W.Frag} {mg : Str → Option Value} {base : Heap} {tW : Tok} {aF aS : Addr}
abbrev s_meetings : Stmt := topS 54
theorem sc_meetings : FnScope ["_law_state_here", "_law_world", "_law_scripts", "_law_envs", "_law_known", "_law_group", "_law_many", "_law_script", "_law_parts", "_law_k", "_law_giver", "_law_taker"] ["_law_state_here", "_law_world", "_law_scripts", "_law_envs"] (defScope s_meetings) := ⟨rfl, rfl, rfl, by decide +kernel, rfl, by decide +kernel, by decide +kernel⟩
theorem ok_meetings (T : Txt K mg tW aF aS) (d : Def K mg "_law_meetings" s_meetings) (c_draw : CDraw P w K mg base) (c_pick : CPick P w K mg base) (c_more_cells : CMore P w K mg base) : Cal P w K mg base 3 "_law_meetings" ["_law_state_here", "_law_world", "_law_scripts", "_law_envs"] (spMeet K) := by
  refine d.cal sc_meetings (fun vs H Q E ⟨a, c, wd, ch, A, F, ω, f, z, _⟩ => by rw [z]; rfl) (fun _ _ _ _ _ _ us hl => match us, hl with | [_, _, _, _], _ => rfl) fun f cdv A' outer s H vs Q E hr ⟨a, c, wd, ch, A, F, ω0, f0, z, fs0, J0, hn2, hn, hf0, q⟩ => ?_
  subst z
  have hu := hu_of hr
  refine ⟨_, 
      (pss_cons (ps_set (i := 4) sc_meetings.nd rfl (Or.inl rfl) pe_dnewT)
      (pss_one (ps_for PassesOwn.never rfl (pi_range1 rfl T.range (pa_cons (pe_op op_add pe_int (pe_cal c_draw (hr.mono (by decide)) (pa_cons (pv 0) (pa_cons pe_int pa_nil)))) pa_nil)) (pg_name (i := 5) sc_meetings.nd rfl (Or.inl rfl))
      (pss_cons (ps_set (i := 6) sc_meetings.nd rfl (Or.inl rfl) (pe_ifExp (pt_cmpR op_le (pe_op op_add (pe_dget hu (pv 1) pe_str (fun _ _ => rfl)) (pe_callB call_len_seq (by rfl) T.len (by decide +kernel) (pa_cons (pv 2) pa_nil))) pe_int (nomark _)) (pe_cal c_pick (hr.mono (by decide)) (pa_cons (pv 0) (pa_cons (pe_lst (pa_cons pe_int (pa_cons pe_int (pa_cons pe_int (pa_cons pe_int pa_nil))))) pa_nil))) pe_int))
      (pss_cons (ps_setLc (i := 8) (own := [("_law_script", 7)]) (g := gName 7) (tt := tYes) rfl sc_meetings.nd rfl rfl (sw_true rfl rfl rfl (by decide +kernel)) (pi_list (pv 2)) (blkOk_by (own := [("_law_script", 7)]) (N := ["_law_state_here", "_law_world", "_law_scripts", "_law_envs", "_law_known", "_law_group", "_law_many", "_law_script", "_law_parts", "_law_k", "_law_giver", "_law_taker"]) (sc := defScope s_meetings) (by decide +kernel)) (fun _ _ _ _ _ => (pg_name (i := 7) sc_meetings.nd rfl (Or.inl rfl))) (fun _ _ _ _ _ => pts_nil) (fun _ _ _ _ _ => (pe_lst pa_nil)))
      (pss_cons (ps_for PassesOwn.never rfl (pi_range1 rfl T.range (pa_cons (pe_op op_add pe_int (pe_cal c_draw (hr.mono (by decide)) (pa_cons (pv 0) (pa_cons pe_int pa_nil)))) pa_nil)) (pg_name (i := 9) sc_meetings.nd rfl (Or.inl rfl))
      (pss_cons (ps_set (i := 10) sc_meetings.nd rfl (Or.inl rfl) (pe_cal c_draw (hr.mono (by decide)) (pa_cons (pv 0) (pa_cons (pe_callB call_len_seq (by rfl) T.len (by decide +kernel) (pa_cons (pv 2) pa_nil)) pa_nil))))
      (pss_cons (ps_set (i := 11) sc_meetings.nd rfl (Or.inl rfl) (pe_op op_mod (pe_callTy call_int1 (by rfl) T.int (by decide +kernel) (pa_cons (pe_op op_add (pe_op op_add (pv 10) pe_int) (pe_cal c_draw (hr.mono (by decide)) (pa_cons (pv 0) (pa_cons (pe_op op_sub (pe_callB call_len_seq (by rfl) T.len (by decide +kernel) (pa_cons (pv 2) pa_nil)) pe_int) pa_nil)))) pa_nil)) (pe_callB call_len_seq (by rfl) T.len (by decide +kernel) (pa_cons (pv 2) pa_nil))))
      (pss_cons (ps_if (PW.pt (pw_and (pt_cmp (pc_dnotin hu (pe_tup (pa_cons (pv 10) (pa_cons (pv 11) pa_nil))) (pv 4)) rfl) (pw_and1 (pt_cmpR op_lt (pe_callB call_len_seq (by rfl) T.len (by decide +kernel) (pa_cons (pe_dget hu (pv 1) pe_str (fun _ _ => rfl)) pa_nil)) pe_int (nomark _)))))
      (pss_cons (ps_dput hu (pv 4) (pe_tup (pa_cons (pv 10) (pa_cons (pv 11) pa_nil))) (pe_callB call_len_seq (by rfl) T.len (by decide +kernel) (pa_cons (pe_dget hu (pv 1) pe_str (fun _ _ => rfl)) pa_nil)) rfl)
      (pss_cons (ps_expr (pe_bm PySem.F.plainAttrs_list PySem.F.slot_list_append PySem.F.type_list_append mt_append (pe_dget hu (pv 1) pe_str (fun _ _ => rfl)) (pa_cons pe_str pa_nil)))
      (pss_cons (ps_expr (pe_bm PySem.F.plainAttrs_list PySem.F.slot_list_append PySem.F.type_list_append mt_append (pe_dget hu (pe_ix ix_list (pv 3) (pv 10) (fun _ _ => rfl)) pe_str (fun _ _ => rfl)) (pa_cons (pe_dget hu (pv 4) (pe_tup (pa_cons (pv 10) (pa_cons (pv 11) pa_nil))) (fun _ _ => rfl)) pa_nil)))
      (pss_one (ps_expr (pe_bm PySem.F.plainAttrs_list PySem.F.slot_list_append PySem.F.type_list_append mt_append (pe_dget hu (pe_ix ix_list (pv 3) (pv 11) (fun _ _ => rfl)) pe_str (fun _ _ => rfl)) (pa_cons (pe_dget hu (pv 4) (pe_tup (pa_cons (pv 10) (pa_cons (pv 11) pa_nil))) (fun _ _ => rfl)) pa_nil))))))) pss_nil)
      (pss_one (ps_if (pt_cmp (pc_din hu (pe_tup (pa_cons (pv 10) (pa_cons (pv 11) pa_nil))) (pv 4)) rfl)
      (pss_cons (ps_expr (pe_bm PySem.F.plainAttrs_list PySem.F.slot_list_append PySem.F.type_list_append mt_append (pe_ix ix_list (pv 8) (pv 10) (fun _ _ => rfl)) (pa_cons (pe_tup (pa_cons pe_str (pa_cons (pe_dget hu (pv 4) (pe_tup (pa_cons (pv 10) (pa_cons (pv 11) pa_nil))) (fun _ _ => rfl)) (pa_cons pe_str pa_nil)))) pa_nil)))
      (pss_one (ps_expr (pe_bm PySem.F.plainAttrs_list PySem.F.slot_list_append PySem.F.type_list_append mt_append (pe_ix ix_list (pv 8) (pv 11) (fun _ _ => rfl)) (pa_cons (pe_tup (pa_cons pe_str (pa_cons (pe_dget hu (pv 4) (pe_tup (pa_cons (pv 10) (pa_cons (pv 11) pa_nil))) (fun _ _ => rfl)) (pa_cons pe_str pa_nil)))) pa_nil))))) pss_nil))))))
      (pss_one (ps_for PassesOwn.never rfl (pi_range1 rfl T.range (pa_cons (pe_callB call_len_seq (by rfl) T.len (by decide +kernel) (pa_cons (pv 2) pa_nil)) pa_nil)) (pg_name (i := 9) sc_meetings.nd rfl (Or.inl rfl))
      (pss_one (ps_if (PW.pt (pw_and (pt_cmpR op_gt (pe_callB call_len_seq (by rfl) T.len (by decide +kernel) (pa_cons (pe_ix ix_list (pv 8) (pv 9) (fun _ _ => rfl)) pa_nil)) pe_int (nomark _)) (pw_and1 (pt_cmpR op_gt (pv 6) pe_int (nomark _)))))
      (pss_one (ps_expr (pe_bm PySem.F.plainAttrs_list PySem.F.slot_list_append PySem.F.type_list_append mt_append (pe_ix ix_list (pv 2) (pv 9) (fun _ _ => rfl)) (pa_cons (pe_tup (pa_cons pe_str (pa_cons (pv 6) (pa_cons (pe_ix ix_list (pv 8) (pv 9) (fun _ _ => rfl)) (pa_cons (pe_cal c_more_cells (hr.mono (by decide)) (pa_cons (pv 1) (pa_cons pe_int pa_nil))) pa_nil))))) pa_nil))))
      (pss_one (ps_expr (pe_bm PySem.F.plainAttrs_list PySem.F.slot_list_extend PySem.F.type_list_extend mt_extend (pe_ix ix_list (pv 2) (pv 9) (fun _ _ => rfl)) (pa_cons (pe_ix ix_list (pv 8) (pv 9) (fun _ _ => rfl)) pa_nil)))))))))))))), ?_⟩
  refine asg_next ?_
  refine fun qd hq => ?_
  have z0 : Fz F H F (upd H qd (.dT [])) := Fz.loose fs0 hq
  have J4 : (R4 K a c wd ch A qd).J (((ω0, f0), fun _ _ => []), []) F (upd H qd (.dT [])) := ⟨(R3 K a c wd ch A).thru _ _ _ _ _ J0 z0, fun y => ((R3 K a c wd ch A).ex _ _ _ _ J0 y).1 hq, fs0.free hq, upd_same⟩
  let pn : List (Nat × V) := [(0, V.ref a), (1, V.ref wd), (2, V.ref A.aS), (3, V.ref A.aE), (4, V.ref qd)]
  let e0 : DE := List.replicate 12 none
  have m0 : (0, V.ref a) ∈ pn := by simp [pn]
  have m1 : (1, V.ref wd) ∈ pn := by simp [pn]
  have m2 : (2, V.ref A.aS) ∈ pn := by simp [pn]
  have m3 : (3, V.ref A.aE) ∈ pn := by simp [pn]
  have m4 : (4, V.ref qd) ∈ pn := by simp [pn]
  let γ0 : ((Wo × KF) × KF) × Prs := (((ω0, f0), fun _ _ => []), [])
  let I : Nat → ((Wo × KF) × KF) × Prs → Prop := fun g δ => ∃ gv tk X, MI A.n ω0 f0 (3 * g) (A.n * g) gv tk X δ.1.1.1 δ.1.1.2 δ.1.2 δ.2 ∧ ∀ j, j < A.n → (δ.1.2 5 j).length ≤ 6 * g
  have I0 : I 0 γ0 := ⟨fun _ => [], fun _ => [], fun _ => [], ⟨rfl, rfl, rfl, rfl, Nat.le_refl _, by show ω0.cells ≤ ω0.cells + A.n * 0; omega, ⟨0, (List.append_nil _).symm⟩, fun h => h, fun j => rfl, fun j => rfl, fun j hj => (hf0 j hj).1, fun j hj => (hf0 j hj).2, fun j hj => List.nodup_nil, fun j hj c hc => (nomatch hc), fun i j c hi hj hc => (nomatch hc), fun j hj => Nat.zero_le _, fun j hj => List.nodup_nil, fun j hj c hc => (nomatch hc), fun i j c hi hj hc => (nomatch hc), fun j hj => Nat.zero_le _, fun g t c h => (nomatch h), Nat.zero_le _, fun j hj it h => (nomatch h), fun j hj x h => (nomatch h), fun i j x hi hj h => (nomatch h)⟩, fun j hj => Nat.zero_le _⟩
  have main : ∀ (γ1 : ((Wo × KF) × KF) × Prs) (g : Nat), g < 3 → I g γ1 → True := fun _ _ _ _ => trivial
  dsimp only
  refine XS.run (K := K) (R := R4 K a c wd ch A qd) (e := e0) (pn := pn) (γ := γ0) (N := fun _ δ => ∃ g, g ≤ 3 ∧ I g δ) (Z := fun _ _ => False) (F := F) ?body z0.sub (SD.nones 12 rfl) ?pins J4 ?nx (fun _ _ _ _ _ _ _ _ x => x.elim)
  case pins =>
    intro i v hi
    simp only [pn, List.mem_cons, List.not_mem_nil, or_false, Prod.mk.injEq] at hi
    rcases hi with ⟨rfl, rfl⟩ | ⟨rfl, rfl⟩ | ⟨rfl, rfl⟩ | ⟨rfl, rfl⟩ | ⟨rfl, rfl⟩ <;> rfl
  case nx =>
    intro σ' e' δ F' H' g J s' p' ⟨k, hk, gv, tk, X, hM, hl⟩
    refine q gv tk X δ.1.1.1 δ.1.1.2 δ.1.2 δ.2 F' H' (g.hide z0 fun b hb => hb.imp id fun y => by rw [y]; exact hq) J.1 (hM.wk (by omega) ?_) fun j hj => ?_
    · rw [Nat.mul_comm]
      exact Nat.mul_le_mul_right _ hk
    · have := hl j hj
      omega
  case body =>
  refine (xs_range (ws := [5]) (P1 := fun d δ => ∃ k : Nat, d = dn k ∧ k ≤ 3 ∧ δ = γ0) I ((xn_draw1 (i := 1) (m := 3) lS4 (fun _ => rfl) ed_int (by decide) (by decide) m0).mono fun d δ ⟨k, h1, h2, h3, h4⟩ => ⟨k, h1, k, rfl, by omega, h4⟩) (fun n δ ⟨k, h1, h2, h3⟩ => ⟨by have := dn_inj h1; omega, by rw [h3]; exact I0⟩) rfl (fun n δ0 g δ hP hg hI => ⟨_, eg_name, ?_⟩)).mono (fun e' δ ⟨_, n, γ1, ⟨k, hk, h3, _⟩, hI⟩ => ⟨n, by have := dn_inj hk; omega, hI⟩) (fun _ _ x => x)
  obtain ⟨gv, tk, X, hM, hL⟩ := hI
  obtain ⟨⟨⟨ω, f1⟩, fs⟩, kn⟩ := δ
  have hg3 : g < 3 := by
    obtain ⟨k, h1, h2, _⟩ := hP
    have := dn_inj h1
    omega
  clear hP
  have scr4 : ∀ {δ : ((Wo × KF) × KF) × Prs} F H, Same F H → (R4 K a c wd ch A qd).J δ F H → H A.aS = some (.lst (refsOf A.n (A.p 5))) := fun F H _ jj => R4.scr jj
  have kid4 : ∀ {δ : ((Wo × KF) × KF) × Prs} F H, Same F H → (R4 K a c wd ch A qd).J δ F H → KidF K A F := fun F H _ jj => R4.kid jj
  refine xs_let (P := fun d δ' => δ' = (((ω, f1), fs), kn) ∧ ∃ m : Nat, d = dn m ∧ m ≤ 3) (xe_if (PB := fun _ δ' => δ' = (((ω, f1), fs), kn)) ((xb_leN (B := fun _ _ δ' => δ' = (((ω, f1), fs), kn)) (xn_add (B := fun _ _ δ' => δ' = (((ω, f1), fs), kn)) (A := fun _ δ' => δ' = (((ω, f1), fs), kn)) ((XE.lift lW4 (w_cells m1)).mono fun d δ' ⟨ω', ⟨h1, h2⟩, h3⟩ => ⟨_, h1, by rw [h3, h2]⟩) fun i δ1 h1 => (xn_vlen (xv_pin m2) scr4).mono' fun i' δ' h => h.2.trans h1) fun i δ1 ⟨_, _, _, h1⟩ => (xn_ed (i := 38) ed_int).mono' fun i' δ' h => h.2.trans h1).mono fun b δ' ⟨_, _, _, h⟩ => h)
    (fun δ1 h1 => (XE.lift lS4 (xe_pickI (ns := [1, 1, 2, 3]) (ed_lst (ea_cons ed_int (ea_cons ed_int (ea_cons ed_int (ea_cons ed_int ea_nil))))) (by decide) (by decide) m0)).mono fun d δ' ⟨_, ⟨k, hk, h2⟩, h3⟩ => ⟨h3.trans h1, k, h2, by simp only [List.mem_cons, List.not_mem_nil, or_false] at hk; omega⟩)
    fun δ1 h1 => (xn_ed (i := 1) ed_int).mono fun d δ' ⟨i, h2, h3, h4⟩ => ⟨h4.trans h1, i, h2, by omega⟩) fun dm δ1 ⟨h1, m, h2, hm⟩ => ?_
  subst h1
  subst h2
  let e1 : DE := [none, none, none, none, none, some (dn g), some (dn m), none, none, none, none, none]
  let δ0' : ((Wo × KF) × KF) × Prs := (((ω, f1), fs), kn)
  let I1 : Nat → (((Wo × KF) × KF) × Prs) × KF → Prop := fun k δ => ∃ gv tk, MI A.n ω0 f0 (3 * g + k) (A.n * g) gv tk X δ.1.1.1.1 δ.1.1.1.2 δ.1.1.2 δ.1.2 ∧ δ.1.1.2 = fs ∧ ∀ j, j < A.n → (δ.2 0 j).length ≤ 2 * k ∧ ∀ it, it ∈ δ.2 0 j → IsPart (SG gv tk j) it
  have I1mono : ∀ {k k' : Nat} {δ}, k ≤ k' → I1 k δ → I1 k' δ := fun {k k' δ} hk ⟨gv, tk, h1, h2, h3⟩ => ⟨gv, tk, h1.wk (by omega) (Nat.le_refl _), h2, fun j hj => ⟨by have := (h3 j hj).1; omega, (h3 j hj).2⟩⟩
  refine xs_tmp (as := A.aS) (vs := refsOf A.n (A.p 5)) (P1 := I1 3) (xv_pin m2) (fun F H _ jj => R4.scr jj) rfl rfl (by rw [refs_len]; omega) (List.mem_singleton.mpr rfl) (fun aP b => ?loop1) fun δ hI1 => ?loop2
  case loop1 =>
    show XS K (((R4 K a c wd ch A qd).fam K [0] (refsOf A.n (A.p 5)).length (fun _ => b)).raw aP (refsOf (refsOf A.n (A.p 5)).length b)) _ e1 ((8, V.ref aP) :: pn) (δ0', fun _ _ => []) _ _
    rw [refs_len]
    let pn6 : List (Nat × V) := (8, V.ref aP) :: pn
    have n0 : (0, V.ref a) ∈ pn6 := List.mem_cons_of_mem _ m0
    have n1 : (1, V.ref wd) ∈ pn6 := List.mem_cons_of_mem _ m1
    have n2 : (2, V.ref A.aS) ∈ pn6 := List.mem_cons_of_mem _ m2
    have n3 : (3, V.ref A.aE) ∈ pn6 := List.mem_cons_of_mem _ m3
    have n4 : (4, V.ref qd) ∈ pn6 := List.mem_cons_of_mem _ m4
    have n8 : (8, V.ref aP) ∈ pn6 := List.mem_cons_self ..
    have scr6 : ∀ {δ : (((((Wo × KF) × KF) × Prs)) × KF)} F H, Same F H → (R6 K a c wd ch A qd b aP).J δ F H → H A.aS = some (.lst (refsOf A.n (A.p 5))) := fun F H _ jj => R6.scr jj
    have I10 : I1 0 (δ0', fun _ _ => []) := ⟨gv, tk, hM, rfl, fun j hj => ⟨Nat.le_refl _, fun it h => (nomatch h)⟩⟩
    show XS K (R6 K a c wd ch A qd b aP) _ e1 pn6 (δ0', fun _ _ => []) _ _
    refine (xs_range (ws := [9]) (P1 := fun d δ => ∃ k : Nat, d = dn k ∧ k ≤ 3 ∧ δ = (δ0', fun _ _ => [])) I1 ((xn_draw1 (i := 1) (m := 3) lS6 (fun _ => rfl) ed_int (by decide) (by decide) n0).mono fun d δ ⟨k, h1, h2, h3, h4⟩ => ⟨k, h1, k, rfl, by omega, h4⟩) (fun n δ ⟨k, h1, h2, h3⟩ => ⟨by have := dn_inj h1; omega, by rw [h3]; exact I10⟩) rfl (fun n δ6 k δ hP hg hI => ⟨_, eg_name, ?_⟩)).mono (fun e' δ ⟨h0, n, γ1, ⟨k, hk, h3, _⟩, hI⟩ => ⟨h0, I1mono (by have := dn_inj hk; omega) hI⟩) (fun _ _ x => x)
    obtain ⟨gv, tk, hM, hfs, hp⟩ := hI
    obtain ⟨⟨⟨⟨ω, f1⟩, fs'⟩, kn⟩, fp⟩ := δ
    dsimp only at hM hfs hp
    refine xs_let (P := fun d δ' => δ' = ((((ω, f1), fs'), kn), fp) ∧ ∃ g : Nat, d = dn g ∧ g < A.n) ((xn_draw lS6 (fun _ => rfl) (xn_vlen (xv_pin n2) scr6) (fun m γ' h => by omega) n0).mono fun d δ' ⟨i, h1, m, ⟨h2, h3⟩, h4⟩ => ⟨h3, i, h1, by omega⟩) fun d δ1 ⟨h1, g1, h2, hg1⟩ => ?_
    subst h1
    subst h2
    refine xs_let (P := fun d δ' => δ' = ((((ω, f1), fs'), kn), fp) ∧ ∃ t : Nat, d = dn t ∧ t < A.n) ((xn_mod (B := fun i j δ' => j = A.n ∧ δ' = ((((ω, f1), fs'), kn), fp)) (A := fun i δ' => δ' = ((((ω, f1), fs'), kn), fp)) (xn_intC ((xn_add (B := fun i j δ' => δ' = ((((ω, f1), fs'), kn), fp)) (A := fun i δ' => δ' = ((((ω, f1), fs'), kn), fp)) ((xn_add (B := fun i j δ' => δ' = ((((ω, f1), fs'), kn), fp)) (xn_ed (i := g1) (ed_var (i := 10) rfl)) fun i γ1 h => (xn_ed (i := 1) ed_int).mono' fun j γ' h' => h'.2.trans h.2).mono' fun i γ' ⟨_, _, _, h⟩ => h) fun i γ1 h =>
      (xn_draw (A := fun m γ' => m = A.n - 1 ∧ γ' = γ1) lS6 (fun _ => rfl) ((xn_sub (B := fun i j γ' => i = A.n ∧ j = 1 ∧ γ' = γ1) (xn_vlen (xv_pin n2) scr6) (fun i γ2 h => (xn_ed (i := 1) ed_int).mono' fun j γ' h' => ⟨h.1, h'.1, h'.2.trans h.2⟩) fun i j γ' h => by omega).mono' fun m γ' ⟨i, j, h1, h2, h3, h4⟩ => ⟨by omega, h4⟩) (fun m γ' h => by omega) n0).mono' fun j γ' ⟨m, h', _⟩ => h'.2.trans h).mono' fun i γ' ⟨_, _, _, h⟩ => h)) (fun i γ1 h => (xn_vlen (xv_pin n2) scr6).mono' fun j γ' h' => ⟨h'.1, h'.2.trans h⟩) fun i j γ' h => by omega).mono fun d γ' ⟨k, h1, i, j, h2, h3, h4⟩ => ⟨h4, k, h1, by rw [h2, h3]; exact Nat.mod_lt _ (by omega)⟩) fun d δ1 ⟨h1, t1, h2, ht1⟩ => ?_
    subst h1
    subst h2
    have hk3 : k < 3 := by
      obtain ⟨k', h1, h2, _⟩ := hP
      have := dn_inj h1
      omega
    let e2 : DE := [none, none, none, none, none, some (dn g), some (dn m), none, none, some (dn k), some (dn g1), some (dn t1)]
    let cur : (((((Wo × KF) × KF) × Prs)) × KF) := ((((ω, f1), fs'), kn), fp)
    let G : (((((Wo × KF) × KF) × Prs)) × KF) → Prop := fun δ => ∃ gv tk, MI A.n ω0 f0 (3 * g + (k + 1)) (A.n * g) gv tk X δ.1.1.1.1 δ.1.1.1.2 δ.1.1.2 δ.1.2 ∧ δ.1.1.2 = fs ∧ ∀ j, j < A.n → (δ.2 0 j).length ≤ 2 * k ∧ ∀ it, it ∈ δ.2 0 j → IsPart (SG gv tk j) it
    refine xs_seq (N1 := fun e' δ => e' = e2 ∧ G δ) (xs_if (PB := fun b δ => δ = cur ∧ (b = true → prsGet kn (g1, t1) = none ∧ ω.ch.length < 24)) (xb_and (PB1 := fun b δ => δ = cur ∧ b = (prsGet kn (g1, t1)).isNone) ((XB.lift (δ := cur) l46 (xb_prsNot (R := R3 K a c wd ch A) n4 rfl rfl)).mono fun b δ ⟨δ', ⟨x, y⟩, z⟩ => ⟨by rw [z, y], x⟩)
      (fun δ1 ⟨h1, h2⟩ => by
        subst h1
        exact (xb_ltN (A := fun i δ => i = ω.ch.length ∧ δ = cur) (B := fun i j δ => i = ω.ch.length ∧ j = 24 ∧ δ = cur) ((XN.lift (δ := cur) lW6 (w_chlen n1)).mono' fun i δ ⟨ω', ⟨x, y⟩, z⟩ => ⟨x, by rw [z, y]⟩) fun i γ1 h => (xn_ed (i := 24) ed_int).mono' fun j γ' u => ⟨h.1, u.1, u.2.trans h.2⟩).mono fun b δ ⟨i, j, x, y, z, u⟩ => ⟨u, fun hb => ⟨by rw [← Option.isNone_iff_eq_none]; exact h2.symm, by rw [hb] at x; have := of_decide_eq_true x.symm; omega⟩⟩) (fun δ1 h => ⟨h.1, fun z => (nomatch z)⟩)) (fun δ1 h => ?add) (fun δ1 h => ?noadd)) fun e' δ hG => ?use
    case noadd =>
      refine xs_next.mono (fun e' δ x => ⟨x.1, ?_⟩) fun _ _ z => z
      rw [x.2, h.1]
      exact ⟨gv, tk, hM.wk (by omega) (Nat.le_refl _), hfs, hp⟩
    case add =>
      obtain ⟨h1, h2⟩ := h
      subst h1
      obtain ⟨hkn, h24⟩ := h2 rfl
      refine (XS.lift (δ := cur) (Z := fun _ _ => False) (N := fun e' δ => e' = e2 ∧ δ = ((({ ω with ch := ω.ch ++ [("inner" : Str)] }, up2 (up2 f1 3 g1 (f1 3 g1 ++ [dn ω.ch.length])) 4 t1 (up2 f1 3 g1 (f1 3 g1 ++ [dn ω.ch.length]) 4 t1 ++ [dn ω.ch.length])), fs'), kn ++ [((g1, t1), ω.ch.length)])) l46 ?_).mono (fun e' δ' ⟨δ4, ⟨he, hδ4⟩, hδ'⟩ => ⟨he, ?_⟩) fun _ _ ⟨_, z, _⟩ => z
      rotate_left
      · rw [hδ', hδ4]
        refine ⟨_, _, hM.add hg1 ht1 h24 hkn, hfs, fun j hj => ⟨(hp j hj).1, fun it hit => ((hp j hj).2 it hit).sub (fun c hc => upN_app.mpr (.inl hc)) fun c hc => upN_app.mpr (.inl hc)⟩⟩
      have len3 : (f1 3 g1).length ≤ 100 := by rw [hM.cf3 g1 hg1, List.length_map]; have := hM.gl g1 hg1; omega
      have len4 : (f1 4 t1).length ≤ 100 := by rw [hM.cf4 t1 ht1, List.length_map]; have := hM.tl t1 ht1; omega
      refine xs_seq (N1 := fun e' δ => e' = e2 ∧ δ = (((ω, f1), fs'), kn ++ [((g1, t1), ω.ch.length)])) ((xs_prsPut (R := R3 K a c wd ch A) (γ := ((ω, f1), fs')) (l := kn) (P := fun d δ => d = dn ω.ch.length ∧ δ = (((ω, f1), fs'), kn)) n4 ((XE.lift (δ := (((ω, f1), fs'), kn)) lW4 (w_chlen n1)).mono fun d δ ⟨ω', ⟨i, x, y, z⟩, u⟩ => ⟨by rw [x, y], by rw [u, z]⟩) rfl rfl fun d δ1 ⟨x, y⟩ => ⟨⟨_, x⟩, by rw [y]; exact hkn, by rw [y]; have := hM.knL; show kn.length ≤ 1000; omega⟩).mono (fun e' δ ⟨he, c', δ1, ⟨x, y⟩, z⟩ => ⟨he, by rw [z, y, dn_inj x]⟩) fun _ _ z => z) fun e' δ ⟨he, hδ⟩ => ?_
      subst he
      subst hδ
      refine xs_seq (N1 := fun e' δ => e' = e2 ∧ δ = ((({ ω with ch := ω.ch ++ [("inner" : Str)] }, f1), fs'), kn ++ [((g1, t1), ω.ch.length)])) ((XS.lift (δ := (((ω, f1), fs'), kn ++ [((g1, t1), ω.ch.length)])) lW4 (w_chapp (Z := fun _ _ => False) n1 (by show ω.ch.length ≤ _; omega))).mono (fun e' δ ⟨ω', ⟨he, x⟩, z⟩ => ⟨he, by rw [z, x]⟩) fun _ _ ⟨_, z, _⟩ => z) fun e' δ ⟨he, hδ⟩ => ?_
      subst he
      subst hδ
      have get : ∀ f' : KF, XP K (R4 K a c wd ch A qd) (tDGet (tVar 4) (tKey 10 11)) e2 pn6 ((({ ω with ch := ω.ch ++ [("inner" : Str)] }, f'), fs'), kn ++ [((g1, t1), ω.ch.length)]) (dn ω.ch.length) := fun f' => xe_prsGet (R := R3 K a c wd ch A) n4 rfl rfl (prsGet_new hkn)
      refine xs_seq (N1 := fun e' δ => e' = e2 ∧ δ = ((({ ω with ch := ω.ch ++ [("inner" : Str)] }, up2 f1 3 g1 (f1 3 g1 ++ [dn ω.ch.length])), fs'), kn ++ [((g1, t1), ω.ch.length)])) ((xs_happ (hasE4 (k := 3) (by simp) hg1) (xv_env n3 (fun F H _ jj => R4.kid jj) rfl hg1 env_val3) (get f1) fun d δ1 ⟨x, y⟩ => by rw [y]; show (f1 3 g1).length ≤ _; omega).mono (fun e' δ ⟨he, d, δ1, ⟨x, y⟩, z⟩ => ⟨he, by rw [z, y, x]⟩) fun _ _ z => z) fun e' δ ⟨he, hδ⟩ => ?_
      subst he
      subst hδ
      refine ((xs_happ (hasE4 (k := 4) (by simp) ht1) (xv_env n3 (fun F H _ jj => R4.kid jj) rfl ht1 env_val4) (get _) fun d δ1 ⟨x, y⟩ => by rw [y]; show (up2 f1 3 g1 (f1 3 g1 ++ [dn ω.ch.length]) 4 t1).length ≤ _; rw [up2_nk (by decide)]; omega).mono (fun e' δ ⟨he, d, δ1, ⟨x, y⟩, z⟩ => ⟨he, by rw [z, y, x]⟩) fun _ _ z => z)
    case use =>
      obtain ⟨he, hG⟩ := hG
      subst he
      clear hM hfs hp
      clear cur
      obtain ⟨gv, tk, hM, hfs, hp⟩ := hG
      obtain ⟨⟨⟨⟨ω, f1⟩, fs'⟩, kn⟩, fp⟩ := δ
      dsimp only at hM hfs hp
      let cur : (((((Wo × KF) × KF) × Prs)) × KF) := ((((ω, f1), fs'), kn), fp)
      have fg : Forg e2 e1 := .keep (.keep (.keep (.keep (.keep (.keep (.keep (.keep (.keep (.drop (.drop (.drop .nil)))))))))))
      refine xs_if (PB := fun b δ => δ = cur ∧ b = (prsGet kn (g1, t1)).isSome) ((XB.lift (δ := cur) l46 (xb_prsIn (R := R3 K a c wd ch A) n4 rfl rfl)).mono fun b δ ⟨δ', ⟨x, y⟩, z⟩ => ⟨by rw [z, y], x⟩) (fun δ1 h => ?ap) fun δ1 h => xs_next.mono (fun e' δ x => ?nap) fun _ _ z => z
      case nap =>
        rw [x.1, x.2, h.1]
        exact ⟨fg, gv, tk, hM, hfs, fun j hj => ⟨by have := (hp j hj).1; show (fp 0 j).length ≤ _; have h2 : (fp 0 j).length ≤ 2 * k := this; omega, (hp j hj).2⟩⟩
      case ap =>
        obtain ⟨h1, h2⟩ := h
        subst h1
        obtain ⟨c', hc'⟩ := Option.isSome_iff_exists.mp h2.symm
        obtain ⟨cg, ct⟩ := hM.knP g1 t1 c' hc'
        have get : ∀ fp' : KF, XP K (R6 K a c wd ch A qd b aP) (tDGet (tVar 4) (tKey 10 11)) e2 pn6 ((((ω, f1), fs'), kn), fp') (dn c') := fun fp' => XP.lift (δ := ((((ω, f1), fs'), kn), fp')) l46 rfl (xe_prsGet (R := R3 K a c wd ch A) n4 rfl rfl hc')
        have l1 : ∀ j, j < A.n → (fp 0 j).length ≤ 2 * k := fun j hj => (hp j hj).1
        let fp1 : KF := up2 fp 0 g1 (fp 0 g1 ++ [.tuple [.str "give", dn c', .str ""]])
        have l2 : ∀ j, j < A.n → (fp1 0 j).length ≤ 2 * k + 1 := fun j hj => by
          by_cases e : j = g1
          · subst e
            show (up2 fp 0 j _ 0 j).length ≤ _
            rw [up2_same, List.length_append]
            have := l1 j hj
            show _ + 1 ≤ _
            omega
          · show (up2 fp 0 g1 _ 0 j).length ≤ _
            rw [up2_ne (fun z => e z.2)]
            have := l1 j hj
            omega
        refine xs_seq (N1 := fun e' δ => e' = e2 ∧ δ = ((((ω, f1), fs'), kn), fp1)) ((xs_happ (P := fun d δ => d = .tuple [.str "give", dn c', .str ""] ∧ δ = cur) (hasP6 hg1) (xv_ix (xv_pin n8) (fun F H _ jj => R6.par jj) rfl (refs_at hg1)) (xp_tup (xps_cons (xe_ed ed_str) (xps_cons (get fp) (xps_cons (xe_ed ed_str) xps_nil)))) fun d δ1 ⟨x, y⟩ => by rw [y]; show (fp 0 g1).length ≤ _; have := l1 g1 hg1; omega).mono (fun e' δ ⟨he, d, δ1, ⟨x, y⟩, z⟩ => ⟨he, by rw [z, y, x]⟩) fun _ _ z => z) fun e' δ ⟨he, hδ⟩ => ?_
        subst he
        subst hδ
        refine ((xs_happ (P := fun d δ => d = .tuple [.str "take", dn c', .str ""] ∧ δ = ((((ω, f1), fs'), kn), fp1)) (hasP6 ht1) (xv_ix (xv_pin n8) (fun F H _ jj => R6.par jj) rfl (refs_at ht1)) (xp_tup (xps_cons (xe_ed ed_str) (xps_cons (get fp1) (xps_cons (xe_ed ed_str) xps_nil)))) fun d δ1 ⟨x, y⟩ => by rw [y]; show (fp1 0 t1).length ≤ _; have := l2 t1 ht1; omega).mono (fun e' δ ⟨he, d, δ1, ⟨x, y⟩, z⟩ => ?fin) fun _ _ z => z)
        case fin =>
          rw [he, z, y, x]
          refine ⟨fg, gv, tk, hM, hfs, fun j hj => ⟨?_, fun it hit => ?_⟩⟩
          · show (up2 fp1 0 t1 _ 0 j).length ≤ _
            have := l2 j hj
            by_cases e : j = t1
            · subst e
              rw [up2_same, List.length_append]
              show (fp1 0 j).length + 1 ≤ _
              omega
            · rw [up2_ne (fun z => e z.2)]
              show (fp1 0 j).length ≤ _
              omega
          · have old : ∀ it, it ∈ fp1 0 j → IsPart (SG gv tk j) it := fun it hit => by
              by_cases e : j = g1
              · subst e
                have hit' : it ∈ up2 fp 0 j (fp 0 j ++ [.tuple [.str "give", dn c', .str ""]]) 0 j := hit
                rw [up2_same] at hit'
                rcases List.mem_append.mp hit' with z | z
                · exact (hp j hj).2 it z
                · exact .inl ⟨c', "", List.mem_singleton.mp z, cg⟩
              · have hit' : it ∈ up2 fp 0 g1 (fp 0 g1 ++ [.tuple [.str "give", dn c', .str ""]]) 0 j := hit
                rw [up2_ne (fun z => e z.2)] at hit'
                exact (hp j hj).2 it hit'
            have hit' : it ∈ up2 fp1 0 t1 (fp1 0 t1 ++ [.tuple [.str "take", dn c', .str ""]]) 0 j := hit
            by_cases e : j = t1
            · subst e
              rw [up2_same] at hit'
              rcases List.mem_append.mp hit' with z | z
              · exact old it z
              · exact .inr ⟨c', "", List.mem_singleton.mp z, ct⟩
            · rw [up2_ne (fun z => e z.2)] at hit'
              exact old it hit'
  case loop2 =>
    clear hM
    obtain ⟨gv, tk, hM, hfs, hp⟩ := hI1
    obtain ⟨⟨⟨⟨ω, f1⟩, fs'⟩, kn⟩, fp⟩ := δ
    dsimp only at hM hfs hp
    rw [refs_len]
    let parts : Nat → List PyData := fun j => fp 0 j
    let e2 : DE := [none, none, none, none, none, some (dn g), some (dn m), none, some (.list ((List.range A.n).map fun j => .list (parts j))), none, none, none]
    let I2 : Nat → ((Wo × KF) × KF) × Prs → Prop := fun k δ => ∃ X, MI A.n ω0 f0 (3 * g + 3) (A.n * g + k) gv tk X δ.1.1.1 δ.1.1.2 δ.1.2 δ.2 ∧ ∀ j, j < A.n → (δ.1.2 5 j).length ≤ 6 * g + (if j < k then 6 else 0)
    show XS K (R4 K a c wd ch A qd) _ e2 pn (((ω, f1), fs'), kn) _ _
    have fg : Forg e2 e0 := .keep (.keep (.keep (.keep (.keep (.drop (.drop (.keep (.drop (.keep (.keep (.keep .nil)))))))))))
    have I20 : I2 0 (((ω, f1), fs'), kn) := ⟨X, hM, fun j hj => by
      have e1 : fs' = fs := hfs
      rw [if_neg (Nat.not_lt_zero j)]
      show (fs' 5 j).length ≤ _
      rw [e1]
      exact hL j hj⟩
    refine (xs_range (ws := [9]) (P1 := fun d δ => d = dn A.n ∧ δ = (((ω, f1), fs'), kn)) I2 ((xn_vlen (xv_pin m2) scr4).mono fun d δ ⟨k, h1, h2, h3⟩ => ⟨k, h1, by rw [h2]; exact ⟨rfl, h3⟩⟩) (fun n δ ⟨h1, h2⟩ => ⟨by have := dn_inj h1; omega, by rw [h2]; exact I20⟩) rfl (fun n δ6 k δ hP hk hI => ⟨_, eg_name, ?_⟩)).mono (fun e' δ ⟨h0, n, γ1, ⟨hn', _⟩, X, h1, h2⟩ => ⟨by rw [h0]; exact fg, gv, tk, X, ?_, fun j hj => ?_⟩) (fun _ _ x => x)
    rotate_left
    · have := dn_inj hn'
      subst this
      have e3 : A.n * (g + 1) = A.n * g + A.n := Nat.mul_succ _ _
      rw [e3]
      exact h1
    · have := dn_inj hn'
      subst this
      have := h2 j hj
      rw [if_pos hj] at this
      omega
    have hk' : k < A.n := by have := dn_inj hP.1; omega
    clear hP I20 hM
    obtain ⟨X, hM, hl⟩ := hI
    obtain ⟨⟨⟨ω, f1⟩, fs'⟩, kn⟩ := δ
    dsimp only at hM hl
    let e3 : DE := [none, none, none, none, none, some (dn g), some (dn m), none, some (.list ((List.range A.n).map fun j => .list (parts j))), some (dn k), none, none]
    have gp : ((List.range A.n).map fun j => PyData.list (parts j))[k]? = some (.list (parts k)) := by
      rw [List.getElem?_map, List.getElem?_range hk']
      rfl
    have pl : (parts k).length ≤ 6 := (hp k hk').1
    have pp : ∀ it, it ∈ parts k → IsPart (SG gv tk k) it := (hp k hk').2
    have fl : (fs' 5 k).length ≤ 6 * g := by
      have := hl k hk'
      rw [if_neg (Nat.lt_irrefl k)] at this
      exact this
    have rd : ED K (tOp (rIxL K) (tVar 8) (tVar 9)) e3 (.list (parts k)) := ed_ixL (n := k) (ed_var rfl) (ed_var rfl) gp
    have nxt : ∀ (fs2 : KF) (l : List PyData), fs2 = up2 fs' 5 k (fs' 5 k ++ l) → l.length ≤ 6 → ∀ j, j < A.n → (fs2 5 j).length ≤ 6 * g + (if j < k + 1 then 6 else 0) := fun fs2 l h1 h2 j hj => by
      rw [h1]
      by_cases e : j = k
      · subst e
        rw [up2_same, List.length_append, if_pos (Nat.lt_succ_self _)]
        omega
      · rw [up2_ne (fun z => e z.2)]
        have h3 : (fs' 5 j).length ≤ 6 * g + (if j < k then 6 else 0) := hl j hj
        by_cases e2 : j < k
        · rw [if_pos e2] at h3
          rw [if_pos (by omega)]
          exact h3
        · rw [if_neg e2] at h3
          omega
    show XS K (R4 K a c wd ch A qd) _ e3 pn (((ω, f1), fs'), kn) _ _
    have fg3 : Forg e3 e2 := .keep (.keep (.keep (.keep (.keep (.keep (.keep (.keep (.keep (.drop (.keep (.keep .nil)))))))))))
    refine xs_if (xb_eb (b := decide ((0 : Int) < ((parts k).length : Int)) && decide ((1 : Int) < (m : Int))) (eb_and (eb_cmp (ed_gt (ed_len rd) ed_int)) fun _ => eb_cmp (ed_gt (ed_var (i := 6) rfl) ed_int))) (fun δ1 h => ?lp) fun δ1 h => ?ex
    case lp =>
      obtain ⟨_, h2⟩ := h
      subst h2
      refine (xs_happ (P := fun d δ => d = .tuple [.str "loop", dn m, .list (parts k), dn ω.cells] ∧ δ = ((({ ω with cells := ω.cells + 1 }, f1), fs'), kn)) (hasS4 hk') (xv_scr m2 scr4 rfl hk') ((xe_tup (PA := fun ds δ => ds = [.str "loop", dn m, .list (parts k), dn ω.cells] ∧ δ = ((({ ω with cells := ω.cells + 1 }, f1), fs'), kn)) ?ta (fun ds δ x => by rw [x.1]; show 4 ≤ 16000000; decide)).mono fun d δ ⟨ds, ⟨x, y⟩, z⟩ => ⟨by rw [z, x], y⟩) fun d δ1 ⟨x, y⟩ => by rw [y]; show (fs' 5 k).length ≤ _; omega).mono (fun e' δ ⟨he, d, δ1, ⟨x, y⟩, z⟩ => ?lf) fun _ _ z => z
      case lf =>
        rw [he, z, y, x]
        exact ⟨fg3, _, hM.loop hk' hm (by omega) pp, nxt _ _ rfl (by show 1 ≤ 6; decide)⟩
      case ta =>
        refine (xa_cons (P2 := fun d r δ => d = .str "loop" ∧ r = [dn m, .list (parts k), dn ω.cells] ∧ δ = ((({ ω with cells := ω.cells + 1 }, f1), fs'), kn)) (xe_ed ed_str) fun d δ1 h => ?_).mono fun ds δ ⟨d, r, h1, h2, h3, h4⟩ => ⟨by rw [h1, h2, h3], h4⟩
        obtain ⟨h1, h2⟩ := h
        subst h2
        refine (xa_cons (P2 := fun d r δ => d = dn m ∧ r = [.list (parts k), dn ω.cells] ∧ δ = ((({ ω with cells := ω.cells + 1 }, f1), fs'), kn)) (xe_ed (ed_var (i := 6) rfl)) fun d δ1 h => ?_).mono fun ds δ ⟨d, r, h2, h3, h4, h5⟩ => ⟨h1, by rw [h2, h3, h4], h5⟩
        obtain ⟨h1, h2⟩ := h
        subst h2
        refine (xa_cons (P2 := fun d r δ => d = .list (parts k) ∧ r = [dn ω.cells] ∧ δ = ((({ ω with cells := ω.cells + 1 }, f1), fs'), kn)) (xe_ed rd) fun d δ1 h => ?_).mono fun ds δ ⟨d, r, h2, h3, h4, h5⟩ => ⟨h1, by rw [h2, h3, h4], h5⟩
        obtain ⟨h1, h2⟩ := h
        subst h2
        refine (xa_cons (P2 := fun d r δ => d = dn ω.cells ∧ r = [] ∧ δ = ((({ ω with cells := ω.cells + 1 }, f1), fs'), kn)) (XE.lift (δ := (((ω, f1), fs'), kn)) lW4 (xe_more (n := 1) ed_int m1)) fun d δ1 h => xa_nil.mono fun ds δ x => ?_).mono fun ds δ ⟨d, r, h2, h3, h4, h5⟩ => ⟨h1, by rw [h2, h3, h4], h5⟩
        obtain ⟨ω', ⟨h2, h3⟩, h4⟩ := h
        exact ⟨h2, x.1, by rw [x.2, h4, h3]⟩
    case ex =>
      obtain ⟨_, h2⟩ := h
      subst h2
      refine (xs_hext (P := fun d δ => d = .list (parts k) ∧ δ = (((ω, f1), fs'), kn)) (hasS4 hk') (xv_scr m2 scr4 rfl hk') (xe_ed rd) fun d δ1 ⟨x, y⟩ => ⟨_, x, by rw [y]; show (fs' 5 k).length + _ ≤ _; omega⟩).mono (fun e' δ ⟨he, ds, δ1, ⟨x, y⟩, z⟩ => ?ef) fun _ _ z => z
      case ef =>
        have hx := PyData.list.inj x
        rw [he, z, y, hx]
        exact ⟨fg3, X, (hM.ext hk' pp).wk (Nat.le_refl _) (by omega), nxt _ _ rfl pl⟩
end
end Pa
/-! shared -/
namespace Pa
open PySem L2 PyProof.Rows
local macro_rules | `(tactic| walk_at "ed") => `(tactic| first
  | ((with_reducible show ED _ (tVar _) _ _); exact ed_var rfl)
  | ((with_reducible show ED _ (tC _) _ _); first | exact ed_int | exact ed_str | exact ed_non | exact ed_bl | exact ed_tupC T.fF | exact ed_tupC T.fS)
  | ((with_reducible show EA _ tNil _ _); exact ea_nil) | ((with_reducible show EA _ (tCons _ _) _ _); exact ea_cons (by walk_at "ed") (by walk_at "ed"))
  | ((with_reducible show ED _ (tTup _) _ _); exact ed_tup (by walk_at "ed")) | ((with_reducible show ED _ (tLst _) _ _); exact ed_lst (by walk_at "ed"))
  | ((with_reducible show ED _ (tOp (rI0 fun i j => V.int (i + j)) _ _) _ _); exact ed_add (by walk_at "ed") (by walk_at "ed"))
  | ((with_reducible show ED _ (tOp (rI0 fun i j => V.int (i - j)) _ _) _ _); exact ed_sub (by walk_at "ed") (by walk_at "ed"))
  | ((with_reducible show ED _ (tOp (rI0 fun i j => V.int (Builtin.bitAnd i j)) _ _) _ _); exact ed_and (by walk_at "ed") (by walk_at "ed"))
  | ((with_reducible show ED _ (tOp (rIxT _) _ (tC (.int 0))) _ _); exact ed_ix0 (by walk_at "ed")) | ((with_reducible show ED _ (tOp (rIxT _) _ (tC (.int 1))) _ _); exact ed_ix1 (by walk_at "ed"))
  | ((with_reducible show ED _ (tOp (rIxT _) _ (tC (.int 2))) _ _); exact ed_ix2 (by walk_at "ed")) | ((with_reducible show ED _ (tOp (rIxT _) _ (tC (.int 3))) _ _); exact ed_ix3 (by walk_at "ed"))
  | ((with_reducible show ED _ (tSl _ _ tNoPart (tPart _)) _ _); exact ed_take (by walk_at "ed") (by walk_at "ed")) | ((with_reducible show ED _ (tSl _ _ (tPart _) tNoPart) _ _); exact ed_dropI (by walk_at "ed") (by walk_at "ed") rfl)
  | ((with_reducible show ED _ (tOp rEq _ _) _ _); exact ed_eqS (by walk_at "ed") (by walk_at "ed"))
  | ((with_reducible show ED _ (tOp rEq _ _) _ _); exact ed_eqI (by walk_at "ed") (by walk_at "ed"))
  | ((with_reducible show ED _ (tOp (fun x y H Q => y = V.non ∧ Q (V.bl (decide (x = V.non))) H) _ _) _ _); exact ed_isN (by walk_at "ed"))
  | ((with_reducible show ED _ (tOp (rIn _ false) _ _) _ _); exact ed_in2 (by walk_at "ed"))
  | ((with_reducible show ED _ (tCB _ _) _ _); exact ed_len (by walk_at "ed")))
local macro_rules | `(tactic| walk_at "eb") => `(tactic| first
  | ((with_reducible show EB _ (tTest (tOp (rIn _ false) _ _)) _ _); exact (eb_cmp (ed_in2 (by walk_at "ed"))).eq (by decide +kernel))
  | ((with_reducible show EB _ (tTest (tOp rEq _ _)) _ _); exact (eb_cmp (ed_eqS (by walk_at "ed") (by walk_at "ed"))).eq (by decide +kernel)))

/-! ### who gets what -/
def pick (j : Nat) (l : List (Nat × Nat)) : List Nat := (l.filter fun x => decide (x.2 = j)).map Prod.fst
def pickR (n j : Nat) (l : List (Nat × Nat)) : List Nat := (l.filter fun x => decide (x.2 = j ∨ x.2 = n)).map Prod.fst
theorem pick_app (j : Nat) (l : List (Nat × Nat)) (c a : Nat) : pick j (l ++ [(c, a)]) = pick j l ++ (if a = j then [c] else []) := by
  unfold pick
  rw [List.filter_append, List.map_append]
  by_cases h : a = j
  · rw [if_pos h, List.filter_cons_of_pos (by exact decide_eq_true h)]; rfl
  · rw [if_neg h, List.filter_cons_of_neg (by rw [decide_eq_false h]; exact Bool.false_ne_true)]; rfl
theorem pickR_app (n j : Nat) (l : List (Nat × Nat)) (c a : Nat) : pickR n j (l ++ [(c, a)]) = pickR n j l ++ (if a = j ∨ a = n then [c] else []) := by
  unfold pickR
  rw [List.filter_append, List.map_append]
  by_cases h : a = j ∨ a = n
  · rw [if_pos h, List.filter_cons_of_pos (by exact decide_eq_true h)]; rfl
  · rw [if_neg h, List.filter_cons_of_neg (by rw [decide_eq_false h]; exact Bool.false_ne_true)]; rfl
theorem pick_mem {j c : Nat} {l : List (Nat × Nat)} : c ∈ pick j l ↔ (c, j) ∈ l := by
  unfold pick
  rw [List.mem_map]
  constructor
  · rintro ⟨x, hx, rfl⟩
    have h := List.mem_filter.mp hx
    have e := of_decide_eq_true h.2
    rw [← e]
    exact h.1
  · intro h
    exact ⟨(c, j), List.mem_filter.mpr ⟨h, decide_eq_true rfl⟩, rfl⟩
theorem pickR_mem {n j c : Nat} {l : List (Nat × Nat)} : c ∈ pickR n j l ↔ (c, j) ∈ l ∨ (c, n) ∈ l := by
  unfold pickR
  rw [List.mem_map]
  constructor
  · rintro ⟨x, hx, rfl⟩
    have h := List.mem_filter.mp hx
    rcases of_decide_eq_true h.2 with e | e
    · rw [← e]; exact .inl h.1
    · rw [← e]; exact .inr h.1
  · rintro (h | h)
    · exact ⟨(c, j), List.mem_filter.mpr ⟨h, decide_eq_true (.inl rfl)⟩, rfl⟩
    · exact ⟨(c, n), List.mem_filter.mpr ⟨h, decide_eq_true (.inr rfl)⟩, rfl⟩
theorem nd_fst {l : List (Nat × Nat)} (h : (l.map Prod.fst).Nodup) {c a b : Nat} (h1 : (c, a) ∈ l) (h2 : (c, b) ∈ l) : a = b := by
  induction l with
  | nil => cases h1
  | cons x r ih =>
    rw [List.map_cons, List.nodup_cons] at h
    rcases List.mem_cons.mp h1 with z1 | z1
    · rcases List.mem_cons.mp h2 with z2 | z2
      · rw [← z1] at z2
        exact (Prod.mk.inj z2).2.symm
      · exact absurd (List.mem_map.mpr ⟨_, z2, by rw [← z1]⟩) h.1
    · rcases List.mem_cons.mp h2 with z2 | z2
      · exact absurd (List.mem_map.mpr ⟨_, z1, by rw [← z2]⟩) h.1
      · exact ih h.2 z1 z2
theorem pick_nd {j : Nat} {l : List (Nat × Nat)} (h : (l.map Prod.fst).Nodup) : (pick j l).Nodup := by
  unfold pick
  exact List.Sublist.nodup (List.Sublist.map _ List.filter_sublist) h
theorem pick_le {j : Nat} {l : List (Nat × Nat)} : (pick j l).length ≤ l.length := by
  unfold pick
  rw [List.length_map]
  exact List.length_filter_le _ _
theorem pickR_le {n j : Nat} {l : List (Nat × Nat)} : (pickR n j l).length ≤ l.length := by
  unfold pickR
  rw [List.length_map]
  exact List.length_filter_le _ _
abbrev itemD (tag : Str) (c : Nat) : PyData := .tuple [.str tag, dn c, .str ""]
structure SI (n : Nat) (c0 r0 g0 t0 : Nat → List Nat) (s0 : Nat → List PyData) (ac ag at_ : List (Nat × Nat)) (f : KF) (ss : List PyData) : Prop where
  h0 : ∀ j, j < n → f 0 j = (c0 j ++ pick j ac).map dn
  h1 : ∀ j, j < n → f 1 j = (r0 j ++ pickR n j ac).map dn
  h3 : ∀ j, j < n → f 3 j = (g0 j ++ pick j ag).map dn
  h4 : ∀ j, j < n → f 4 j = (t0 j ++ pick j at_).map dn
  sl : ss.length = n
  s : ∀ j, j < n → ∃ s, ss[j]? = some (.list s) ∧ s.length ≤ (s0 j).length + 2 * (ag.length + at_.length) ∧ ∀ it, it ∈ s → it ∈ s0 j ∨ (∃ c, c ∈ pick j ag ∧ it = itemD "give" c) ∨ ∃ c, c ∈ pick j at_ ∧ it = itemD "take" c
section
variable {n : Nat} {c0 r0 g0 t0 : Nat → List Nat} {s0 : Nat → List PyData} {ac ag at_ : List (Nat × Nat)} {f f' : KF} {ss : List PyData}
theorem SI.cell (h : SI n c0 r0 g0 t0 s0 ac ag at_ f ss) {c a : Nat} (e0 : ∀ j, j < n → f' 0 j = f 0 j ++ (if a = j then [dn c] else [])) (e1 : ∀ j, j < n → f' 1 j = f 1 j ++ (if a = j ∨ a = n then [dn c] else [])) (e3 : ∀ j, f' 3 j = f 3 j) (e4 : ∀ j, f' 4 j = f 4 j) :
    SI n c0 r0 g0 t0 s0 (ac ++ [(c, a)]) ag at_ f' ss := by
  refine { h with h0 := fun j hj => ?_, h1 := fun j hj => ?_, h3 := fun j hj => by rw [e3]; exact h.h3 j hj, h4 := fun j hj => by rw [e4]; exact h.h4 j hj }
  · rw [e0 j hj, h.h0 j hj, pick_app]
    split <;> simp only [List.map_append, List.append_assoc, List.map_cons, List.map_nil, List.append_nil]
  · rw [e1 j hj, h.h1 j hj, pickR_app]
    split <;> simp only [List.map_append, List.append_assoc, List.map_cons, List.map_nil, List.append_nil]
theorem SI.give (h : SI n c0 r0 g0 t0 s0 ac ag at_ f ss) {c a m : Nat} {s : List PyData} (ha : a < n) (hs : ss[a]? = some (.list s)) (hm : m ≤ 2) : SI n c0 r0 g0 t0 s0 ac (ag ++ [(c, a)]) at_ (up2 f 3 a (f 3 a ++ [dn c])) (ss.set a (.list (s ++ List.replicate m (itemD "give" c)))) := by
  have la : (ag ++ [(c, a)]).length = ag.length + 1 := by rw [List.length_append]; rfl
  refine { h with h0 := fun j hj => by rw [up2_nk (by decide)]; exact h.h0 j hj, h1 := fun j hj => by rw [up2_nk (by decide)]; exact h.h1 j hj, h3 := fun j hj => ?_, h4 := fun j hj => by rw [up2_nk (by decide)]; exact h.h4 j hj, sl := by rw [List.length_set]; exact h.sl, s := fun j hj => ?_ }
  · rw [pick_app]
    by_cases e : j = a
    · subst e
      rw [up2_same, if_pos rfl, h.h3 j hj]
      simp only [List.map_append, List.append_assoc, List.map_cons, List.map_nil]
    · rw [up2_ne (fun z => e z.2), if_neg (fun z => e z.symm), List.append_nil]
      exact h.h3 j hj
  · obtain ⟨s1, q1, q2, q3⟩ := h.s j hj
    have old : ∀ it, it ∈ s1 → it ∈ s0 j ∨ (∃ c_1, c_1 ∈ pick j (ag ++ [(c, a)]) ∧ it = itemD "give" c_1) ∨ ∃ c, c ∈ pick j at_ ∧ it = itemD "take" c := fun it hit => by
      rcases q3 it hit with z | ⟨c', z, y⟩ | z
      · exact .inl z
      · exact .inr (.inl ⟨c', by rw [pick_app]; exact List.mem_append_left _ z, y⟩)
      · exact .inr (.inr z)
    by_cases e : j = a
    · subst e
      rw [q1] at hs
      cases hs
      refine ⟨_, List.getElem?_set_self (by rw [h.sl]; exact hj), ?_, fun it hit => ?_⟩
      · rw [List.length_append, List.length_replicate, la]; omega
      · rcases List.mem_append.mp hit with z | z
        · exact old it z
        · exact .inr (.inl ⟨c, by rw [pick_app, if_pos rfl]; exact List.mem_append_right _ (List.mem_singleton.mpr rfl), List.eq_of_mem_replicate z⟩)
    · exact ⟨s1, by rw [List.getElem?_set_ne (fun z => e z.symm)]; exact q1, by rw [la]; omega, old⟩
theorem SI.take (h : SI n c0 r0 g0 t0 s0 ac ag at_ f ss) {c a m : Nat} {s : List PyData} (ha : a < n) (hs : ss[a]? = some (.list s)) (hm : m ≤ 2) : SI n c0 r0 g0 t0 s0 ac ag (at_ ++ [(c, a)]) (up2 f 4 a (f 4 a ++ [dn c])) (ss.set a (.list (s ++ List.replicate m (itemD "take" c)))) := by
  have la : (at_ ++ [(c, a)]).length = at_.length + 1 := by rw [List.length_append]; rfl
  refine { h with h0 := fun j hj => by rw [up2_nk (by decide)]; exact h.h0 j hj, h1 := fun j hj => by rw [up2_nk (by decide)]; exact h.h1 j hj, h4 := fun j hj => ?_, h3 := fun j hj => by rw [up2_nk (by decide)]; exact h.h3 j hj, sl := by rw [List.length_set]; exact h.sl, s := fun j hj => ?_ }
  · rw [pick_app]
    by_cases e : j = a
    · subst e
      rw [up2_same, if_pos rfl, h.h4 j hj]
      simp only [List.map_append, List.append_assoc, List.map_cons, List.map_nil]
    · rw [up2_ne (fun z => e z.2), if_neg (fun z => e z.symm), List.append_nil]
      exact h.h4 j hj
  · obtain ⟨s1, q1, q2, q3⟩ := h.s j hj
    have old : ∀ it, it ∈ s1 → it ∈ s0 j ∨ (∃ c_1, c_1 ∈ pick j ag ∧ it = itemD "give" c_1) ∨ ∃ c_1, c_1 ∈ pick j (at_ ++ [(c, a)]) ∧ it = itemD "take" c_1 := fun it hit => by
      rcases q3 it hit with z | z | ⟨c', z, y⟩
      · exact .inl z
      · exact .inr (.inl z)
      · exact .inr (.inr ⟨c', by rw [pick_app]; exact List.mem_append_left _ z, y⟩)
    by_cases e : j = a
    · subst e
      rw [q1] at hs
      cases hs
      refine ⟨_, List.getElem?_set_self (by rw [h.sl]; exact hj), ?_, fun it hit => ?_⟩
      · rw [List.length_append, List.length_replicate, la]; omega
      · rcases List.mem_append.mp hit with z | z
        · exact old it z
        · exact .inr (.inr ⟨c, by rw [pick_app, if_pos rfl]; exact List.mem_append_right _ (List.mem_singleton.mpr rfl), List.eq_of_mem_replicate z⟩)
    · exact ⟨s1, by rw [List.getElem?_set_ne (fun z => e z.symm)]; exact q1, by rw [la]; omega, old⟩
end
/-! ### beside the scripts, as data -/
def R5 (K : PySem.W.Frag) (a c wd ch : Addr) (A : KA) : Res ((Wo × KF) × List PyData) := (R1 K a c wd ch A).own K A.aS
section
variable {K : PySem.W.Frag} {a c wd ch : Addr} {A : KA}
theorem l15 : Lift (R1 K a c wd ch A) (R5 K a c wd ch A) Prod.fst (fun δ γ' => (γ', δ.2)) := lift_own
theorem lW5 : Lift (RW a c wd ch) (R5 K a c wd ch A) (fun δ => δ.1.1) (fun δ γ' => ((γ', δ.1.2), δ.2)) := lW1.trans l15
theorem lS5 : Lift (RS a c) (R5 K a c wd ch A) (fun _ => ()) (fun δ _ => δ) := lift_RW.trans lW5
theorem hasE5 {k j : Nat} (hk : k ∈ [0, 1, 3, 4]) (hj : j < A.n) : HasL K (R5 K a c wd ch A) (A.p k j) (fun δ => δ.1.2 k j) (fun δ ds => ((δ.1.1, up2 δ.1.2 k j ds), δ.2)) := (hasL_fam (R := R0 K a c wd ch A) hk hj).lift l15
theorem hasS5 : HasL K (R5 K a c wd ch A) A.aS (fun δ => δ.2) (fun δ ds => (δ.1, ds)) := hasL_own
theorem R5.kid {δ : (Wo × KF) × List PyData} {F H : Hp} (J : (R5 K a c wd ch A).J δ F H) : KidF K A F := J.1.1.2
/-- the scripts are frozen -/
theorem R3.fix {δ : (Wo × KF) × KF} {F H : Hp} (f : Same F H) (J : (R3 K a c wd ch A).J δ F H) : ∃ F', Same F F' ∧ Same F' H ∧ (R5 K a c wd ch A).J (δ.1, (List.range A.n).map fun j => .list (δ.2 5 j)) F' H ∧ ∀ b, F' b = F b ∨ FamM [5] A.n A.p b := by
  obtain ⟨F1, h1, h2, h3, h4, h5⟩ := fam_freeze f J
  obtain ⟨j1, m, n, hS⟩ := h3
  exact ⟨F1, h1, h2, ⟨j1, m, n, _, hS, Das.map fun j hj => h4 5 j (List.mem_singleton.mpr rfl) (List.mem_range.mp hj)⟩, h5⟩
variable {Γ : Type} {R : Res Γ} {e : DE} {pn : List (Nat × V)} {γ : Γ} {ta tb tc : TE} {x i j : Nat}
theorem inV_int2 {z x y : Int} : inV (.int z) [.int x, .int y] = (decide (x = z) || decide (y = z)) := by
  unfold inV
  simp only [List.any_cons, List.any_nil, Bool.or_false, eqV]
  rw [Bool.beq_eq_decide_eq, Bool.beq_eq_decide_eq] <;> rfl
/-- x in (i, j) -/
theorem xb_in2 (ha : XP K R ta e pn γ (dn x)) (hb : XP K R tb e pn γ (dn i)) (hc : XP K R tc e pn γ (dn j)) : XB K R (tTest (tOp (rIn K false) ta (tTup (tCons tb (tCons tc tNil))))) e pn γ (fun b γ' => b = decide (x = i ∨ x = j) ∧ γ' = γ) := fun σ F H Q f s p jj q => ha σ F H _ f s p jj fun v1 d1 γ1 F1 H1 g1 j1 ⟨x1, x2⟩ a1 => by
  subst x1
  subst x2
  cases a1.intI
  refine hb σ F1 H1 _ g1.sub (s.mono g1.f) p j1 fun v2 d2 γ2 F2 H2 g2 j2 ⟨x1, x2⟩ a2 => ?_
  subst x1
  subst x2
  cases a2.intI
  refine hc σ F2 H2 _ g2.sub (s.mono (g1.f.trans g2.f)) p j2 fun v3 d3 γ3 F3 H3 g3 j3 ⟨x1, x2⟩ a3 => ?_
  subst x1
  subst x2
  cases a3.intI
  refine ⟨line_le (show 2 ≤ 16000000 by decide), fun b hb => ⟨b, [.int (i : Int), .int (j : Int)], rfl, .inr (SqT.of upd_same), rfl, rfl, ?_⟩⟩
  have z : Fz F3 H3 F3 (upd H3 b (.tup [.int (i : Int), .int (j : Int)])) := Fz.loose g3.sub hb
  refine ⟨_, rfl, q _ _ F3 _ (((g1.trans g2).trans g3).trans z.gr) (R.thru _ _ _ _ _ j3 z) ⟨?_, rfl⟩⟩
  rw [if_neg Bool.false_ne_true, inV_int2, ← Bool.decide_or]
  exact decide_eq_decide.mpr ⟨fun h => h.imp (fun z => by omega) fun z => by omega, fun h => h.imp (fun z => by omega) fun z => by omega⟩
abbrev tLenE (K : PySem.W.Frag) (i : Nat) : TE := tLenL K (tVar i)
/-- a channel is handed on -/
theorem share_step {kk : Nat} {key tag : Str} {ω : Wo} {f : KF} {ss : List PyData} {c' : Nat} {Z : PyData → ((Wo × KF) × List PyData) → Prop} (hkk : kk ∈ [0, 1, 3, 4]) (hv : ∀ j, valV (envKV (.ref (A.p 0 j)) (.ref (A.p 1 j)) (A.x2 j) (.ref (A.p 3 j)) (.ref (A.p 4 j))) (.inr key) = some (.ref (A.p kk j)))
    (m0 : (0, V.ref a) ∈ pn) (m2 : (2, V.ref A.aE) ∈ pn) (m3 : (3, V.ref A.aS) ∈ pn) (hpn : (pn.map Prod.fst).all (fun i => ![5, 6].contains i) = true) (hp5 : (pn.map Prod.fst).contains 5 = false) (he : e.length = 8) (h7 : e[7]? = some (some (dn c'))) (hn : 1 ≤ A.n) (hn1 : A.n ≤ 1000) (hs : ss.length = A.n) (hss : ∀ j, j < A.n → ∃ s, ss[j]? = some (.list s) ∧ s.length ≤ 10000000) (hf : ∀ j, j < A.n → (f kk j).length ≤ 15000000) :
    XS K (R5 K a c wd ch A) (tSeq (tAsg (tCall (spS K preDraw rDraw) [] E0 (tCons (tVar 0) (tCons (tLenL K (tVar 2)) tNil))) (gName 5)) (tSeq (tDrop (tBM K "list" rAppend (tDGet (tOp (rIxL K) (tVar 2) (tVar 5)) (tC (.str key))) (tCons (tVar 7) tNil)))
      (tAsg (tOp rCat (tOp (rIxL K) (tVar 3) (tVar 5)) (tLc (iRng1 (tCons (tCall (spS K preDraw rDraw) [] E0 (tCons (tVar 0) (tCons (tC (.int 3)) tNil))) tNil)) (gName 6) tYes (tTup (tCons (tC (.str tag)) (tCons (tVar 7) (tCons (tC (.str "")) tNil)))) [6])) (gSub (tVar 3) (tVar 5) rSetL)))) e pn ((ω, f), ss)
      (fun e' δ => ∃ j s m, j < A.n ∧ ss[j]? = some (.list s) ∧ m ≤ 2 ∧ e' = e.set 5 (some (dn j)) ∧ δ = ((ω, up2 f kk j (f kk j ++ [dn c'])), ss.set j (.list (s ++ List.replicate m (itemD tag c'))))) Z := by
  have kid : ∀ {δ : (Wo × KF) × List PyData} F H, Same F H → (R5 K a c wd ch A).J δ F H → KidF K A F := fun F H _ jj => R5.kid jj
  refine xs_let (P := fun d δ => δ = ((ω, f), ss) ∧ ∃ j : Nat, d = dn j ∧ j < A.n) ((xn_draw lS5 (fun _ => rfl) (xn_vlen (xv_pin m2) fun F H s jj => s _ _ (R5.kid jj).hE) (fun m γ' h => by omega) m0).mono fun d δ' ⟨i, h1, m, ⟨h2, h3⟩, h4⟩ => ⟨h3, i, h1, by omega⟩) (fun d δ ⟨h1, j, h2, hj⟩ => ?_) hp5
  subst h1
  subst h2
  let e1 : DE := e.set 5 (some (dn j))
  have g5 : e1[5]? = some (some (dn j)) := List.getElem?_set_self (by omega)
  have g7 : e1[7]? = some (some (dn c')) := by
    show (e.set 5 _)[7]? = _
    rw [List.getElem?_set_ne (by decide)]
    exact h7
  obtain ⟨s, hs1, hs2⟩ := hss j hj
  refine xs_seq (N1 := fun e' δ => e' = e1 ∧ δ = ((ω, up2 f kk j (f kk j ++ [dn c'])), ss)) ((xs_happ (P := fun d δ => d = dn c' ∧ δ = ((ω, f), ss)) (hasE5 hkk hj) (xv_env m2 kid g5 hj (hv j)) (xe_ed (ed_var g7)) fun d δ1 ⟨x, y⟩ => by rw [y]; exact hf j hj).mono (fun e' δ ⟨he, d, δ1, ⟨x, y⟩, z⟩ => ⟨he, by rw [z, y, x]⟩) fun _ _ z => z) fun e' δ ⟨he', hδ⟩ => ?_
  subst he'
  subst hδ
  let cur : (Wo × KF) × List PyData := ((ω, up2 f kk j (f kk j ++ [dn c'])), ss)
  have item : ∀ {e' : DE}, e'[7]? = some (some (dn c')) → ED K (tTup (tCons (tC (.str tag)) (tCons (tVar 7) (tCons (tC (.str "")) tNil)))) e' (itemD tag c') := fun h => ed_tup (ea_cons ed_str (ea_cons (ed_var h) (ea_cons ed_str ea_nil)))
  have w7 : ∀ k : Nat, ((wipeD e1 [6]).set 6 (some (dn k)))[7]? = some (some (dn c')) := fun k => by
    rw [List.getElem?_set_ne (by decide)]
    show (e1.set 6 none)[7]? = _
    rw [List.getElem?_set_ne (by decide)]
    exact g7
  have hlc : XE K (R5 K a c wd ch A) (tLc (iRng1 (tCons (tCall (spS K preDraw rDraw) [] E0 (tCons (tVar 0) (tCons (tC (.int 3)) tNil))) tNil)) (gName 6) tYes (tTup (tCons (tC (.str tag)) (tCons (tVar 7) (tCons (tC (.str "")) tNil)))) [6]) e1 pn cur (fun d δ => ∃ m, m ≤ 2 ∧ d = .list (List.replicate m (itemD tag c')) ∧ δ = cur) :=
    (xl_lcR (ws := [6]) (P1 := fun d δ => (∃ k : Nat, d = dn k ∧ k < 3) ∧ δ = cur) (fun k acc δ => acc = List.replicate k (itemD tag c') ∧ δ = cur) ((xn_drawC (m := 3) lS5 (fun _ => rfl) ed_int (by decide) (by decide) m0).mono fun d δ ⟨k, h1, h2, h3⟩ => ⟨k, h1, ⟨k, rfl, h2⟩, h3⟩) (fun n δ ⟨⟨k, h1, h2⟩, h3⟩ => ⟨by have := dn_inj h1; omega, rfl, h3⟩) (by
      refine List.all_eq_true.mpr fun i hi => ?_
      have := List.all_eq_true.mp hpn i hi
      simp only [List.contains_cons, List.contains_nil, Bool.or_false, Bool.not_or, Bool.and_eq_true] at this ⊢
      exact this.2) (fun k acc δ h => by rw [h.1, List.length_replicate]; exact Nat.le_refl _)
      fun n δ0 k acc δ _ hk h => ⟨_, eg_name, (xe_ed (item (w7 k))).mono fun d δ' x => ⟨by rw [x.1, h.1, List.replicate_succ'], x.2.trans h.2⟩⟩).xe.mono fun d δ ⟨ds, h1, n, δ0, ⟨⟨k, h2, h3⟩, _⟩, h4, h5⟩ => ⟨n, by have := dn_inj h2; omega, by rw [h1, h4], h5⟩
  refine (xs_hput (k := j) (P := fun d δ => ∃ m, m ≤ 2 ∧ d = .list (s ++ List.replicate m (itemD tag c')) ∧ δ = cur) hasS5 m3 ((xe_op (res := fun d1 d2 => match d1, d2 with | .list x, .list y => .list (x ++ y) | _, _ => .none) (P2 := fun d1 d2 δ => d1 = .list s ∧ ∃ m, m ≤ 2 ∧ d2 = .list (List.replicate m (itemD tag c')) ∧ δ = cur) (xe_hix (k := j) hasS5 (xv_pin m3) (ed_var g5) hs1) (fun d δ ⟨x, y⟩ => by rw [y]; exact hlc.mono fun d2 δ2 z => ⟨x, z⟩) fun d1 d2 δ ⟨x, m, hm, y, _⟩ => by
    subst x
    subst y
    exact rd_cat (by rw [List.length_replicate]; omega)).mono fun d δ ⟨d1, d2, ⟨x, m, hm, y, z⟩, u⟩ => ⟨m, hm, by rw [u, x, y], z⟩) (ed_var g5) fun d δ ⟨m, _, _, y⟩ => by rw [y]; show j < ss.length; omega).mono (fun e' δ ⟨he', d, δ1, ⟨m, hm, x, y⟩, z⟩ => ⟨j, s, m, hj, hs1, hm, he', by rw [z, y, x]⟩) fun _ _ z => z
end
def spShare (K : PySem.W.Frag) : Sp := fun vs H Q _ => ∃ (a c wd ch : Addr) (A : KA) (E : Sur) (vE : V) (F : Hp) (ω : Wo) (f : KF) (ss : List PyData) (c0 r0 g0 t0 : Nat → List Nat) (s0 : Nat → List PyData), vs = [.ref a, vE, .ref A.aE, .ref A.aS] ∧ Same F H ∧ Da K F vE E.d ∧ SurOk E ∧ 1 ≤ A.n ∧ A.n ≤ 1000 ∧
  (∀ j, j < A.n → (c0 j).length ≤ 1000 ∧ (r0 j).length ≤ 1000 ∧ (g0 j).length ≤ 1000 ∧ (t0 j).length ≤ 1000 ∧ (s0 j).length ≤ 1000) ∧ (R5 K a c wd ch A).J ((ω, f), ss) F H ∧ SI A.n c0 r0 g0 t0 s0 [] [] [] f ss ∧
  ∀ (ac ag at_ : List (Nat × Nat)) (f' : KF) (ss' : List PyData) (F' H' : Hp), Gr (R5 K a c wd ch A).M No F H F' H' → (R5 K a c wd ch A).J ((ω, f'), ss') F' H' → ac.map Prod.fst = E.cells → ag.map Prod.fst = E.gives → at_.map Prod.fst = E.takes → (∀ x, x ∈ ac → x.2 ≤ A.n) → SI A.n c0 r0 g0 t0 s0 ac ag at_ f' ss' → Q .non H'
section
variable {P : Program} {w : World} {K : PySem.W.Frag} {mg : Str → Option Value} {base : Heap} {tW : Tok} {aF aS : Addr}
theorem take_succ' {α : Type} {l : List α} {k : Nat} {x : α} (h : l[k]? = some x) : l.take (k + 1) = l.take k ++ [x] := by
  rw [List.take_add_one, h]; rfl
abbrev s_shared : Stmt := topS 55
theorem sc_shared : FnScope ["_law_state_here", "_law_env_here", "_law_envs", "_law_scripts", "_law_cell", "_law_at", "_law_k", "_law_c"] ["_law_state_here", "_law_env_here", "_law_envs", "_law_scripts"] (defScope s_shared) := ⟨rfl, rfl, rfl, by decide +kernel, rfl, by decide +kernel, by decide +kernel⟩
theorem ok_shared (T : Txt K mg tW aF aS) (d : Def K mg "_law_shared" s_shared) (c_draw : CDraw P w K mg base) : Cal P w K mg base 2 "_law_shared" ["_law_state_here", "_law_env_here", "_law_envs", "_law_scripts"] (spShare K) := by
  refine d.cal sc_shared (fun vs H Q E' ⟨a, c, wd, ch, A, E, vE, F, ω, f, ss, c0, r0, g0, t0, s0, z, _⟩ => by rw [z]; rfl) (fun _ _ _ _ _ _ us hl => match us, hl with | [_, _, _, _], _ => rfl) fun f' cdv A' outer s H vs Q E' hr ⟨a, c, wd, ch, A, E, vE, F, ω, f, ss, c0, r0, g0, t0, s0, z, fs0, hvE, hE, hn, hn1, hlen, J0, hSI, q⟩ => ?_
  subst z
  have hu := hu_of hr
  refine ⟨_, 
      (pss_cons (ps_for PassesOwn.never rfl (pi_list (pe_dget hu (pv 1) pe_str (fun _ _ => rfl))) (pg_name (i := 4) sc_shared.nd rfl (Or.inl rfl))
      (pss_cons (ps_set (i := 5) sc_shared.nd rfl (Or.inl rfl) (pe_cal c_draw (hr.mono (by decide)) (pa_cons (pv 0) (pa_cons (pe_op op_add (pe_callB call_len_seq (by rfl) T.len (by decide +kernel) (pa_cons (pv 2) pa_nil)) pe_int) pa_nil))))
      (pss_cons (ps_for PassesOwn.never rfl (pi_range1 rfl T.range (pa_cons (pe_callB call_len_seq (by rfl) T.len (by decide +kernel) (pa_cons (pv 2) pa_nil)) pa_nil)) (pg_name (i := 6) sc_shared.nd rfl (Or.inl rfl))
      (pss_one (ps_if (pt_cmpR op_in_seq (pv 5) (pe_tup (pa_cons (pv 6) (pa_cons (pe_callB call_len_seq (by rfl) T.len (by decide +kernel) (pa_cons (pv 2) pa_nil)) pa_nil))) (by rfl))
      (pss_one (ps_expr (pe_bm PySem.F.plainAttrs_list PySem.F.slot_list_append PySem.F.type_list_append mt_append (pe_dget hu (pe_ix ix_list (pv 2) (pv 6) (fun _ _ => rfl)) pe_str (fun _ _ => rfl)) (pa_cons (pv 4) pa_nil)))) pss_nil)))
      (pss_one (ps_if (pt_cmpR op_lt (pv 5) (pe_callB call_len_seq (by rfl) T.len (by decide +kernel) (pa_cons (pv 2) pa_nil)) (nomark _))
      (pss_one (ps_expr (pe_bm PySem.F.plainAttrs_list PySem.F.slot_list_append PySem.F.type_list_append mt_append (pe_dget hu (pe_ix ix_list (pv 2) (pv 5) (fun _ _ => rfl)) pe_str (fun _ _ => rfl)) (pa_cons (pv 4) pa_nil)))) pss_nil)))))
      (pss_cons (ps_for PassesOwn.never rfl (pi_list (pe_dget hu (pv 1) pe_str (fun _ _ => rfl))) (pg_name (i := 7) sc_shared.nd rfl (Or.inr rfl))
      (pss_cons (ps_set (i := 5) sc_shared.nd rfl (Or.inl rfl) (pe_cal c_draw (hr.mono (by decide)) (pa_cons (pv 0) (pa_cons (pe_callB call_len_seq (by rfl) T.len (by decide +kernel) (pa_cons (pv 2) pa_nil)) pa_nil))))
      (pss_cons (ps_expr (pe_bm PySem.F.plainAttrs_list PySem.F.slot_list_append PySem.F.type_list_append mt_append (pe_dget hu (pe_ix ix_list (pv 2) (pv 5) (fun _ _ => rfl)) pe_str (fun _ _ => rfl)) (pa_cons (pv 7) pa_nil)))
      (pss_one (ps_asg (pe_op op_cat (pe_ix ix_list (pv 3) (pv 5) (fun _ _ => rfl)) (pe_lc (own := [("_law_k", 6)]) (g := gName 6) (tt := tYes) rfl sc_shared.nd (pi_range1 rfl T.range (pa_cons (pe_cal c_draw (hr.mono (by decide)) (pa_cons (pv 0) (pa_cons pe_int pa_nil))) pa_nil)) (blkOk_by (own := [("_law_k", 6)]) (N := ["_law_state_here", "_law_env_here", "_law_envs", "_law_scripts", "_law_cell", "_law_at", "_law_k", "_law_c"]) (sc := defScope s_shared) (by decide +kernel)) (fun _ _ _ _ _ => (pg_name (i := 6) sc_shared.nd rfl (Or.inl rfl))) (fun _ _ _ _ _ => pts_nil) (fun _ _ _ _ _ => (pe_tup (pa_cons pe_str (pa_cons (pv 7) (pa_cons pe_str pa_nil))))))) (pg_sub (pv 3) (pv 5) set_list))))))
      (pss_one (ps_for PassesOwn.never rfl (pi_list (pe_dget hu (pv 1) pe_str (fun _ _ => rfl))) (pg_name (i := 7) sc_shared.nd rfl (Or.inr rfl))
      (pss_cons (ps_set (i := 5) sc_shared.nd rfl (Or.inl rfl) (pe_cal c_draw (hr.mono (by decide)) (pa_cons (pv 0) (pa_cons (pe_callB call_len_seq (by rfl) T.len (by decide +kernel) (pa_cons (pv 2) pa_nil)) pa_nil))))
      (pss_cons (ps_expr (pe_bm PySem.F.plainAttrs_list PySem.F.slot_list_append PySem.F.type_list_append mt_append (pe_dget hu (pe_ix ix_list (pv 2) (pv 5) (fun _ _ => rfl)) pe_str (fun _ _ => rfl)) (pa_cons (pv 7) pa_nil)))
      (pss_one (ps_asg (pe_op op_cat (pe_ix ix_list (pv 3) (pv 5) (fun _ _ => rfl)) (pe_lc (own := [("_law_k", 6)]) (g := gName 6) (tt := tYes) rfl sc_shared.nd (pi_range1 rfl T.range (pa_cons (pe_cal c_draw (hr.mono (by decide)) (pa_cons (pv 0) (pa_cons pe_int pa_nil))) pa_nil)) (blkOk_by (own := [("_law_k", 6)]) (N := ["_law_state_here", "_law_env_here", "_law_envs", "_law_scripts", "_law_cell", "_law_at", "_law_k", "_law_c"]) (sc := defScope s_shared) (by decide +kernel)) (fun _ _ _ _ _ => (pg_name (i := 6) sc_shared.nd rfl (Or.inl rfl))) (fun _ _ _ _ _ => pts_nil) (fun _ _ _ _ _ => (pe_tup (pa_cons pe_str (pa_cons (pv 7) (pa_cons pe_str pa_nil))))))) (pg_sub (pv 3) (pv 5) set_list))))))))), ?_⟩
  let pn : List (Nat × V) := [(0, V.ref a), (2, V.ref A.aE), (3, V.ref A.aS)]
  let e0 : DE := [none, some E.d, none, none, none, none, none, none]
  have m0 : (0, V.ref a) ∈ pn := by simp [pn]
  have m2 : (2, V.ref A.aE) ∈ pn := by simp [pn]
  have m3 : (3, V.ref A.aS) ∈ pn := by simp [pn]
  have hE3 : ∀ {δ : (Wo × KF) × List PyData} F H, Same F H → (R5 K a c wd ch A).J δ F H → H A.aE = some (.lst (refsOf A.n A.d)) := fun F H s jj => s _ _ (R5.kid jj).hE
  have kid : ∀ {δ : (Wo × KF) × List PyData} F H, Same F H → (R5 K a c wd ch A).J δ F H → KidF K A F := fun F H _ jj => R5.kid jj
  let Ok : List (Nat × Nat) → List (Nat × Nat) → List (Nat × Nat) → (Wo × KF) × List PyData → Prop := fun ac ag at_ δ => δ.1.1 = ω ∧ SI A.n c0 r0 g0 t0 s0 ac ag at_ δ.1.2 δ.2 ∧ ∀ x, x ∈ ac → x.2 ≤ A.n
  have O0 : Ok [] [] [] ((ω, f), ss) := ⟨rfl, hSI, fun x h => (nomatch h)⟩
  refine XS.run (K := K) (R := R5 K a c wd ch A) (e := e0) (pn := pn) (γ := ((ω, f), ss)) (N := fun _ δ => ∃ ac ag at_, Ok ac ag at_ δ ∧ ac.map Prod.fst = E.cells ∧ ag.map Prod.fst = E.gives ∧ at_.map Prod.fst = E.takes) (Z := fun _ _ => False) (F := F) ?body fs0 ?sd ?pins J0 ?nx (fun _ _ _ _ _ _ _ _ x => x.elim)
  case sd =>
    refine ⟨rfl, fun i d hd => ?_⟩
    match i, hd with
    | 0, hd => cases hd | 1, hd => cases hd; exact ⟨_, rfl, hvE⟩ | 2, hd => cases hd | 3, hd => cases hd | 4, hd => cases hd | 5, hd => cases hd | 6, hd => cases hd | 7, hd => cases hd
  case pins =>
    intro i v hi
    simp only [pn, List.mem_cons, List.not_mem_nil, or_false, Prod.mk.injEq] at hi
    rcases hi with ⟨rfl, rfl⟩ | ⟨rfl, rfl⟩ | ⟨rfl, rfl⟩ <;> rfl
  case nx =>
    intro σ' e' δ F' H' g J s' p' ⟨ac, ag, at_, ⟨h1, h2, h3⟩, h4, h5, h6⟩
    obtain ⟨⟨ω', f'⟩, ss'⟩ := δ
    subst h1
    exact q ac ag at_ f' ss' F' H' g J h4 h5 h6 h3 h2
  case body =>
  refine xs_seq (N1 := fun e' δ => e' = e0 ∧ ∃ ac, Ok ac [] [] δ ∧ ac.map Prod.fst = E.cells) ((xs_for (ws := [4, 5, 6]) (ds := E.cells.map dn) (fun k δ => ∃ ac, Ok ac [] [] δ ∧ ac.map Prod.fst = E.cells.take k) (ed_cells (ed_var (i := 1) rfl)) ⟨[], O0, rfl⟩ rfl fun k x δ hx hI => ⟨_, eg_name, ?cells⟩).mono (fun e' δ ⟨h1, ac, h2, h3⟩ => ⟨h1, ac, h2, by rw [h3, List.length_map, List.take_length]⟩) fun _ _ z => z) fun e' δ ⟨he, ac, hO, hac⟩ => ?rest
  case cells =>
    obtain ⟨ac, ⟨hω, hS, hb⟩, hac⟩ := hI
    obtain ⟨⟨ω', f1⟩, ss1⟩ := δ
    dsimp only at hω hS
    subst hω
    rw [List.getElem?_map] at hx
    cases hc : E.cells[k]? with
    | none => rw [hc] at hx; cases hx
    | some cc =>
    rw [hc] at hx
    have hx' := Option.some.inj hx
    subst hx'
    have acl : ac.length ≤ 10000 := by
      have h1 := congrArg List.length hac
      rw [List.length_map, List.length_take] at h1
      have := hE.c1
      omega
    let cur : (Wo × KF) × List PyData := ((ω', f1), ss1)
    let e1 : DE := [none, some E.d, none, none, some (dn cc), none, none, none]
    refine xs_let (P := fun d δ => δ = cur ∧ ∃ j : Nat, d = dn j ∧ j ≤ A.n) ((xn_draw (A := fun m γ' => m = A.n + 1 ∧ γ' = cur) lS5 (fun _ => rfl) ((xn_add (B := fun i j γ' => i = A.n ∧ j = 1 ∧ γ' = cur) (xn_vlen (xv_pin m2) hE3) fun i γ1 h => (xn_ed (i := 1) ed_int).mono' fun j γ' h' => ⟨h.1, h'.1, h'.2.trans h.2⟩).mono' fun m γ' ⟨i, j, h1, h2, h3, h4⟩ => ⟨by omega, h4⟩) (fun m γ' h => by omega) m0).mono fun d δ' ⟨i, h1, m, ⟨h2, h3⟩, h4⟩ => ⟨h3, i, h1, by omega⟩) fun d δ ⟨h1, j, h2, hj⟩ => ?_
    subst h1
    subst h2
    let e2 : DE := [none, some E.d, none, none, some (dn cc), some (dn j), none, none]
    have l1 : ∀ i, i < A.n → (f1 1 i).length ≤ 20000 := fun i hi => by
      rw [hS.h1 i hi, List.length_map, List.length_append]
      have := (hlen i hi).2.1
      have := pickR_le (n := A.n) (j := i) (l := ac)
      omega
    have l0 : ∀ i, i < A.n → (f1 0 i).length ≤ 20000 := fun i hi => by
      rw [hS.h0 i hi, List.length_map, List.length_append]
      have := (hlen i hi).1
      have := pick_le (j := i) (l := ac)
      omega
    let Jn : Nat → (Wo × KF) × List PyData → Prop := fun k δ => ∃ f2, δ = ((ω', f2), ss1) ∧ (∀ kk i, kk ≠ 1 → f2 kk i = f1 kk i) ∧ ∀ i, i < A.n → f2 1 i = f1 1 i ++ (if i < k ∧ (j = i ∨ j = A.n) then [dn cc] else [])
    have Jn0 : Jn 0 cur := ⟨f1, rfl, fun _ _ _ => rfl, fun i hi => by rw [if_neg (fun z => Nat.not_lt_zero _ z.1), List.append_nil]⟩
    refine xs_seq (N1 := fun e' δ => e' = e2 ∧ Jn A.n δ) ((xs_range (ws := [6]) (P1 := fun d δ => d = dn A.n ∧ δ = cur) Jn ((xn_vlen (xv_pin m2) hE3).mono fun d δ ⟨k, h1, h2, h3⟩ => ⟨k, h1, by rw [h2]; exact ⟨rfl, h3⟩⟩) (fun n δ ⟨h1, h2⟩ => ⟨by have := dn_inj h1; omega, by rw [h2]; exact Jn0⟩) rfl (fun n δ6 k2 δ hP hk2 hI => ⟨_, eg_name, ?inner⟩)).mono (fun e' δ ⟨h0, n, γ1, ⟨hn', _⟩, hJ⟩ => ⟨h0, by have := dn_inj hn'; subst this; exact hJ⟩) (fun _ _ x => x)) fun e' δ ⟨he, hJ⟩ => ?after
    case inner =>
      have hk2' : k2 < A.n := by have := dn_inj hP.1; omega
      obtain ⟨f2, hδ, hf, hf1⟩ := hI
      subst hδ
      let e3 : DE := [none, some E.d, none, none, some (dn cc), some (dn j), some (dn k2), none]
      have fg : Forg e3 e2 := .keep (.keep (.keep (.keep (.keep (.keep (.drop (.keep .nil)))))))
      have f2k : f2 1 k2 = f1 1 k2 := by rw [hf1 k2 hk2', if_neg (fun z => Nat.lt_irrefl _ z.1), List.append_nil]
      refine xs_if (xb_in2 (x := j) (i := k2) (j := A.n) (xe_ed (ed_var (i := 5) rfl)) (xe_ed (ed_var (i := 6) rfl)) ((xn_vlen (xv_pin m2) hE3).mono fun d δ ⟨i, h1, h2, h3⟩ => ⟨by rw [h1, h2], h3⟩)) (fun δ1 h => ?hit) fun δ1 h => xs_next.mono (fun e' δ x => ?mis) fun _ _ z => z
      case mis =>
        rw [x.1, x.2, h.2]
        have hne := of_decide_eq_false h.1.symm
        refine ⟨fg, f2, rfl, hf, fun i hi => ?_⟩
        rw [hf1 i hi]
        by_cases e : i = k2
        · subst e
          rw [if_neg (fun z => Nat.lt_irrefl _ z.1), if_neg (fun z => hne z.2)]
        · by_cases e2 : i < k2
          · by_cases e3 : j = i ∨ j = A.n
            · rw [if_pos ⟨e2, e3⟩, if_pos ⟨by omega, e3⟩]
            · rw [if_neg (fun z => e3 z.2), if_neg (fun z => e3 z.2)]
          · rw [if_neg (fun z => e2 z.1), if_neg (fun z => by omega)]
      case hit =>
        obtain ⟨h1, h2⟩ := h
        subst h2
        have hyes := of_decide_eq_true h1.symm
        refine (xs_happ (P := fun d δ => d = dn cc ∧ δ = ((ω', f2), ss1)) (hasE5 (k := 1) (by simp) hk2') (xv_env (k := "reads") (j := k2) m2 kid rfl hk2' env_val1) (xe_ed (ed_var (i := 4) rfl)) fun d δ1 ⟨x, y⟩ => by rw [y]; show (f2 1 k2).length ≤ _; rw [f2k]; have := l1 k2 hk2'; omega).mono (fun e' δ ⟨he, d, δ1, ⟨x, y⟩, z⟩ => ?fin) fun _ _ z => z
        case fin =>
          rw [he, z, y, x]
          refine ⟨fg, _, rfl, fun kk i hk => ?_, fun i hi => ?_⟩
          · show up2 f2 1 k2 _ kk i = _
            rw [up2_nk hk]
            exact hf kk i hk
          · show up2 f2 1 k2 (f2 1 k2 ++ [dn cc]) 1 i = _
            by_cases e : i = k2
            · subst e
              rw [up2_same, f2k, if_pos ⟨Nat.lt_succ_self _, hyes⟩]
            · rw [up2_ne (fun z => e z.2), hf1 i hi]
              by_cases e2 : i < k2
              · by_cases e3 : j = i ∨ j = A.n
                · rw [if_pos ⟨e2, e3⟩, if_pos ⟨by omega, e3⟩]
                · rw [if_neg (fun z => e3 z.2), if_neg (fun z => e3 z.2)]
              · rw [if_neg (fun z => e2 z.1), if_neg (fun z => by omega)]
    case after =>
      subst he
      obtain ⟨f2, hδ, hf, hf1⟩ := hJ
      subst hδ
      have fg : Forg e2 e0 := .keep (.keep (.keep (.keep (.drop (.drop (.keep (.keep .nil)))))))
      have r1 : ∀ i, i < A.n → f2 1 i = f1 1 i ++ (if j = i ∨ j = A.n then [dn cc] else []) := fun i hi => by
        rw [hf1 i hi]
        by_cases e3 : j = i ∨ j = A.n
        · rw [if_pos ⟨hi, e3⟩, if_pos e3]
        · rw [if_neg (fun z => e3 z.2), if_neg e3]
      have hac' : (ac ++ [(cc, j)]).map Prod.fst = E.cells.take (k + 1) := by rw [List.map_append, hac, take_succ' hc]; rfl
      have hb' : ∀ x, x ∈ ac ++ [(cc, j)] → x.2 ≤ A.n := fun x hx => by
        rcases List.mem_append.mp hx with z | z
        · exact hb x z
        · rw [List.mem_singleton.mp z]; exact hj
      refine xs_if (PB := fun b δ => δ = ((ω', f2), ss1) ∧ b = decide (j < A.n)) ((xb_ltN (A := fun i δ => i = j ∧ δ = ((ω', f2), ss1)) (B := fun i i' δ => i = j ∧ i' = A.n ∧ δ = ((ω', f2), ss1)) (xn_ed (ed_var (i := 5) rfl)) fun i γ1 h => by rw [h.2]; exact (xn_vlen (xv_pin m2) hE3).mono' fun i' γ' h' => ⟨h.1, h'⟩).mono fun b δ ⟨i, i', x, y, z, u⟩ => ⟨u, by rw [x, y, z]⟩) (fun δ1 h => ?own) fun δ1 h => xs_next.mono (fun e' δ x => ?all) fun _ _ z => z
      case all =>
        have hnj := of_decide_eq_false h.2.symm
        rw [x.1, x.2, h.1]
        refine ⟨fg, _, ⟨rfl, hS.cell (c := cc) (a := j) (fun i hi => ?_) r1 (fun i => hf 3 i (by decide)) fun i => hf 4 i (by decide), hb'⟩, hac'⟩
        rw [if_neg (by omega), List.append_nil]
        exact hf 0 i (by decide)
      case own =>
        obtain ⟨h1, h2⟩ := h
        subst h1
        have hjn := of_decide_eq_true h2.symm
        refine (xs_happ (P := fun d δ => d = dn cc ∧ δ = ((ω', f2), ss1)) (hasE5 (k := 0) (by simp) hjn) (xv_env (k := "cells") (j := j) m2 kid rfl hjn env_val0) (xe_ed (ed_var (i := 4) rfl)) fun d δ1 ⟨x, y⟩ => by rw [y]; show (f2 0 j).length ≤ _; rw [hf 0 j (by decide)]; have := l0 j hjn; omega).mono (fun e' δ ⟨he, d, δ1, ⟨x, y⟩, z⟩ => ?fin) fun _ _ z => z
        case fin =>
          rw [he, z, y, x]
          refine ⟨fg, _, ⟨rfl, hS.cell (c := cc) (a := j) (fun i hi => ?_) (fun i hi => ?_) (fun i => ?_) fun i => ?_, hb'⟩, hac'⟩
          · show up2 f2 0 j (f2 0 j ++ [dn cc]) 0 i = _
            by_cases e : i = j
            · subst e
              rw [up2_same, if_pos rfl, hf 0 i (by decide)]
            · rw [up2_ne (fun z => e z.2), if_neg (fun z => e z.symm), List.append_nil]
              exact hf 0 i (by decide)
          · show up2 f2 0 j (f2 0 j ++ [dn cc]) 1 i = _
            rw [up2_nk (by decide)]
            exact r1 i hi
          · show up2 f2 0 j (f2 0 j ++ [dn cc]) 3 i = _
            rw [up2_nk (by decide)]
            exact hf 3 i (by decide)
          · show up2 f2 0 j (f2 0 j ++ [dn cc]) 4 i = _
            rw [up2_nk (by decide)]
            exact hf 4 i (by decide)
  case rest =>
    subst he
    have acl : ac.length ≤ 10000 := by
      have h1 := congrArg List.length hac
      rw [List.length_map] at h1
      have := hE.c1
      omega
    refine xs_seq (N1 := fun e' δ => e' = e0 ∧ ∃ ag, Ok ac ag [] δ ∧ ag.map Prod.fst = E.gives) ((xs_for (ws := [5, 6, 7]) (ds := E.gives.map dn) (fun k δ => ∃ ag, Ok ac ag [] δ ∧ ag.map Prod.fst = E.gives.take k) (ed_gives (ed_var (i := 1) rfl)) ⟨[], hO, rfl⟩ rfl fun k x δ hx hI => ⟨_, eg_name, ?gives⟩).mono (fun e' δ ⟨h1, ac, h2, h3⟩ => ⟨h1, ac, h2, by rw [h3, List.length_map, List.take_length]⟩) fun _ _ z => z) fun e' δ ⟨he, ag, hO, hag⟩ => ?takes
    case gives =>
      obtain ⟨ag, ⟨hω, hS, hb⟩, hag⟩ := hI
      obtain ⟨⟨ω', f1⟩, ss1⟩ := δ
      dsimp only at hω hS
      subst hω
      rw [List.getElem?_map] at hx
      cases hc : E.gives[k]? with
      | none => rw [hc] at hx; cases hx
      | some cc =>
      rw [hc] at hx
      have hx' := Option.some.inj hx
      subst hx'
      have agl : ag.length ≤ 10000 := by
        have h1 := congrArg List.length hag
        rw [List.length_map, List.length_take] at h1
        have := hE.g1
        omega
      refine (share_step (kk := 3) (key := "gives") (tag := "give") (c' := cc) (by simp) (fun j => env_val3) m0 m2 m3 rfl rfl rfl rfl hn hn1 hS.sl (fun j hj => ?_) (fun j hj => ?_)).mono (fun e' δ ⟨j, s, m, h1, h2, h3, h4, h5⟩ => ?_) fun _ _ z => z
      · obtain ⟨s, q1, q2, _⟩ := hS.s j hj
        have q3 : s.length ≤ (s0 j).length + 2 * (ag.length + 0) := q2
        exact ⟨s, q1, by have := (hlen j hj).2.2.2.2; omega⟩
      · rw [hS.h3 j hj, List.length_map, List.length_append]
        have := (hlen j hj).2.2.1
        have := pick_le (j := j) (l := ag)
        omega
      · rw [h4, h5]
        exact ⟨.keep (.keep (.keep (.keep (.keep (.drop (.keep (.drop .nil))))))), _, ⟨rfl, hS.give (c := cc) h1 h2 h3, hb⟩, by rw [List.map_append, hag, take_succ' hc]; rfl⟩
    case takes =>
      subst he
      have agl : ag.length ≤ 10000 := by
        have h1 := congrArg List.length hag
        rw [List.length_map] at h1
        have := hE.g1
        omega
      refine (xs_for (ws := [5, 6, 7]) (ds := E.takes.map dn) (fun k δ => ∃ at_, Ok ac ag at_ δ ∧ at_.map Prod.fst = E.takes.take k) (ed_takes (ed_var (i := 1) rfl)) ⟨[], hO, rfl⟩ rfl fun k x δ hx hI => ⟨_, eg_name, ?_⟩).mono (fun e' δ ⟨h1, at_, h2, h3⟩ => ⟨ac, ag, at_, h2, hac, hag, by rw [h3, List.length_map, List.take_length]⟩) fun _ _ z => z
      obtain ⟨at_, ⟨hω, hS, hb⟩, hat⟩ := hI
      obtain ⟨⟨ω', f1⟩, ss1⟩ := δ
      dsimp only at hω hS
      subst hω
      rw [List.getElem?_map] at hx
      cases hc : E.takes[k]? with
      | none => rw [hc] at hx; cases hx
      | some cc =>
      rw [hc] at hx
      have hx' := Option.some.inj hx
      subst hx'
      have atl : at_.length ≤ 10000 := by
        have h1 := congrArg List.length hat
        rw [List.length_map, List.length_take] at h1
        have := hE.t1
        omega
      refine (share_step (kk := 4) (key := "takes") (tag := "take") (c' := cc) (by simp) (fun j => env_val4) m0 m2 m3 rfl rfl rfl rfl hn hn1 hS.sl (fun j hj => ?_) (fun j hj => ?_)).mono (fun e' δ ⟨j, s, m, h1, h2, h3, h4, h5⟩ => ?_) fun _ _ z => z
      · obtain ⟨s, q1, q2, _⟩ := hS.s j hj
        exact ⟨s, q1, by have := (hlen j hj).2.2.2.2; omega⟩
      · rw [hS.h4 j hj, List.length_map, List.length_append]
        have := (hlen j hj).2.2.2.1
        have := pick_le (j := j) (l := at_)
        omega
      · rw [h4, h5]
        exact ⟨.keep (.keep (.keep (.keep (.keep (.drop (.keep (.drop .nil))))))), _, ⟨rfl, hS.take (c := cc) h1 h2 h3, hb⟩, by rw [List.map_append, hat, take_succ' hc]; rfl⟩
end
end Pa
/-! The children: made, set up, frozen. -/
namespace Pa
open PySem L2 PyProof.Rows
theorem Gr.step {M M2 : Addr → Prop} {F0 H0 F H F' H' : Hp} (g : Gr M No F0 H0 F H) (g2 : Gr M2 No F H F' H') (hm : ∀ b, M2 b → M b ∨ H0 b = none) : Gr M No F0 H0 F' H' := by
  refine ⟨fun b o n hb => g2.h b o (fun y => ?_) (g.h b o n hb), g.f.trans g2.f, g2.sub, fun a o ha => ?_, fun b hb => g2.there b (g.there b hb)⟩
  · rcases hm b y with w | w
    · exact n w
    · rw [hb] at w; cases w
  · rcases g2.fresh a o ha with w | w | w
    · exact g.fresh a o w
    · exact .inr (.inl (g.none_of w))
    · exact w.elim
theorem Gr.frzN {M : Addr → Prop} {F0 H0 F H F' : Hp} (g : Gr M No F0 H0 F H) (s : Same F F') (s2 : Same F' H) (hn : ∀ b, F' b = F b ∨ H0 b = none) : Gr M No F0 H0 F' H :=
  ⟨g.h, g.f.trans s, s2, fun a o ha => by
    rcases hn a with w | w
    · rw [w] at ha; exact g.fresh a o ha
    · exact .inr (.inl w), g.there⟩
/-- the children's own cells: two each, a span -/
structure KCells (n : Nat) (wv kk : Nat → Nat) (sp : Nat → List (Nat × Nat)) (lo hi : Nat) : Prop where
  at_ : ∀ j, j < n → lo ≤ wv j ∧ wv j + 2 + kk j ≤ hi ∧ kk j ≤ 4 ∧ (∀ s, s ∈ sp j → s = (wv j + 2, kk j)) ∧ (sp j).length ≤ 1
  ord : ∀ i j, i < j → j < n → wv i + 2 + kk i ≤ wv j
  le : lo ≤ hi
  sz : hi ≤ lo + 6 * n
theorem KCells.zero {wv kk : Nat → Nat} {sp : Nat → List (Nat × Nat)} {lo : Nat} : KCells 0 wv kk sp lo lo := ⟨fun j hj => absurd hj (Nat.not_lt_zero _), fun i j _ hj => absurd hj (Nat.not_lt_zero _), Nat.le_refl _, Nat.le_refl _⟩
theorem KCells.step {n : Nat} {wv kk : Nat → Nat} {sp : Nat → List (Nat × Nat)} {lo hi k : Nat} {s : List (Nat × Nat)} (h : KCells n wv kk sp lo hi) (hk : k ≤ 4) (hs : ∀ x, x ∈ s → x = (hi + 2, k)) (hl : s.length ≤ 1) : KCells (n + 1) (upN wv n hi) (upN kk n k) (upN sp n s) lo (hi + 2 + k) := by
  refine ⟨fun j hj => ?_, fun i j hij hj => ?_, by have := h.le; omega, by have := h.sz; omega⟩
  · by_cases e : j = n
    · subst e
      rw [upN_same, upN_same, upN_same]
      exact ⟨h.le, Nat.le_refl _, hk, hs, hl⟩
    · rw [upN_ne e, upN_ne e, upN_ne e]
      obtain ⟨h1, h2, h3, h4, h5⟩ := h.at_ j (by omega)
      exact ⟨h1, by omega, h3, h4, h5⟩
  · have hi' : i ≠ n := by omega
    rw [upN_ne hi', upN_ne hi']
    by_cases e : j = n
    · subst e
      rw [upN_same]
      exact (h.at_ i hij).2.1
    · rw [upN_ne e]
      exact h.ord i j hij (by omega)
/-- environments, new, not frozen; their dicts at ad 2 j -/
abbrev ownS (wv : Nat → Nat) (sp : Nat → List (Nat × Nat)) (j : Nat) : Sur := ⟨[wv j, wv j + 1], [wv j, wv j + 1], sp j, [], []⟩
structure EnvsM (K : PySem.W.Frag) (n : Nat) (ad : Nat → Nat → Addr) (x2 : Nat → V) (sp : Nat → List (Nat × Nat)) (wv : Nat → Nat) (C : Addr) (H0 F H : Hp) : Prop where
  new : ∀ k j, k < 5 → j < n → H0 (ad k j) = none ∧ ad k j ≠ C
  inj : ∀ k j k' j', k < 5 → j < n → k' < 5 → j' < n → ad k j = ad k' j' → k = k' ∧ j = j'
  env : ∀ j, j < n → EnvM K F H (ad 2 j) (ad 0 j) (ad 1 j) (x2 j) (ad 3 j) (ad 4 j) (ownS wv sp j)
theorem EnvM.mem {K : PySem.W.Frag} {F H : Hp} {ad : Nat → Addr} {x2 : V} {E : Sur} (m : EnvM K F H (ad 2) (ad 0) (ad 1) x2 (ad 3) (ad 4) E) {k : Nat} (hk : k < 5) : ad k ∈ [ad 2, ad 0, ad 1, ad 3, ad 4] := by
  match k, hk with
  | 0, _ => simp
  | 1, _ => simp
  | 2, _ => simp
  | 3, _ => simp
  | 4, _ => simp
theorem mem_ad {ad : Nat → Addr} {b : Addr} (h : b ∈ [ad 2, ad 0, ad 1, ad 3, ad 4]) : ∃ k, k < 5 ∧ b = ad k := by
  simp only [List.mem_cons, List.not_mem_nil, or_false] at h
  rcases h with z | z | z | z | z
  · exact ⟨2, by decide, z⟩
  · exact ⟨0, by decide, z⟩
  · exact ⟨1, by decide, z⟩
  · exact ⟨3, by decide, z⟩
  · exact ⟨4, by decide, z⟩
def sel5 (d p0 p1 p3 p4 : Addr) : Nat → Addr
  | 0 => p0
  | 1 => p1
  | 2 => d
  | 3 => p3
  | _ => p4
def adN (ad : Nat → Nat → Addr) (n : Nat) (d p0 p1 p3 p4 : Addr) : Nat → Nat → Addr := fun k j => if j = n then sel5 d p0 p1 p3 p4 k else ad k j
section
variable {K : PySem.W.Frag} {n : Nat} {ad : Nat → Nat → Addr} {x2 : Nat → V} {sp : Nat → List (Nat × Nat)} {wv : Nat → Nat} {C : Addr} {H0 F H F' H' : Hp} {M : Addr → Prop}
theorem EnvsM.thru (h : EnvsM K n ad x2 sp wv C H0 F H) (g : Gr M No F H F' H') (hm : ∀ b, M b → b = C ∨ H0 b ≠ none) : EnvsM K n ad x2 sp wv C H0 F' H' :=
  ⟨h.new, h.inj, fun j hj => (h.env j hj).thru g fun b hb y => by
    obtain ⟨k, hk, e⟩ := mem_ad (ad := fun k => ad k j) hb
    obtain ⟨h1, h2⟩ := h.new k j hk hj
    rcases hm b y with z | z
    · exact h2 (e.symm.trans z)
    · exact z (by rw [e]; exact h1)⟩
theorem EnvsM.step (h : EnvsM K n ad x2 sp wv C H0 F H) {d p0 p1 p3 p4 : Addr} {v2 : V} {s : List (Nat × Nat)} {w : Nat} (m : EnvM K F H d p0 p1 v2 p3 p4 ⟨[w, w + 1], [w, w + 1], s, [], []⟩) (hn : ∀ b, b ∈ [d, p0, p1, p3, p4] → H0 b = none ∧ b ≠ C ∧ ∀ k j, k < 5 → j < n → b ≠ ad k j) :
    EnvsM K (n + 1) (adN ad n d p0 p1 p3 p4) (upN x2 n v2) (upN sp n s) (upN wv n w) C H0 F H := by
  have nd := m.nd
  simp only [List.nodup_cons, List.mem_cons, List.not_mem_nil, or_false, not_or, not_false_eq_true, List.nodup_nil, and_true] at nd
  obtain ⟨⟨a1, a2, a3, a4⟩, ⟨b1, b2, b3⟩, ⟨c1, c2⟩, d1⟩ := nd
  have mem : ∀ k, k < 5 → adN ad n d p0 p1 p3 p4 k n ∈ [d, p0, p1, p3, p4] := fun k hk => by
    have e : adN ad n d p0 p1 p3 p4 k n = sel5 d p0 p1 p3 p4 k := if_pos rfl
    rw [e]
    match k, hk with
    | 0, _ => simp [sel5]
    | 1, _ => simp [sel5]
    | 2, _ => simp [sel5]
    | 3, _ => simp [sel5]
    | 4, _ => simp [sel5]
  have old : ∀ k j, j ≠ n → adN ad n d p0 p1 p3 p4 k j = ad k j := fun k j e => if_neg e
  refine ⟨fun k j hk hj => ?_, fun k j k' j' hk hj hk' hj' e => ?_, fun j hj => ?_⟩
  · by_cases z : j = n
    · subst z
      have := hn _ (mem k hk)
      exact ⟨this.1, this.2.1⟩
    · rw [old k j z]
      exact h.new k j hk (by omega)
  · by_cases z : j = n
    · by_cases z' : j' = n
      · subst z
        subst z'
        refine ⟨?_, rfl⟩
        have e1 : ∀ k, adN ad j' d p0 p1 p3 p4 k j' = sel5 d p0 p1 p3 p4 k := fun k => if_pos rfl
        rw [e1, e1] at e
        match k, hk, k', hk', e with
        | 0, _, 0, _, _ => rfl
        | 1, _, 1, _, _ => rfl
        | 2, _, 2, _, _ => rfl
        | 3, _, 3, _, _ => rfl
        | 4, _, 4, _, _ => rfl
        | 0, _, 1, _, e => exact absurd e b1
        | 0, _, 2, _, e => exact absurd e.symm a1
        | 0, _, 3, _, e => exact absurd e b2
        | 0, _, 4, _, e => exact absurd e b3
        | 1, _, 0, _, e => exact absurd e.symm b1
        | 1, _, 2, _, e => exact absurd e.symm a2
        | 1, _, 3, _, e => exact absurd e c1
        | 1, _, 4, _, e => exact absurd e c2
        | 2, _, 0, _, e => exact absurd e a1
        | 2, _, 1, _, e => exact absurd e a2
        | 2, _, 3, _, e => exact absurd e a3
        | 2, _, 4, _, e => exact absurd e a4
        | 3, _, 0, _, e => exact absurd e.symm b2
        | 3, _, 1, _, e => exact absurd e.symm c1
        | 3, _, 2, _, e => exact absurd e.symm a3
        | 3, _, 4, _, e => exact absurd e d1
        | 4, _, 0, _, e => exact absurd e.symm b3
        | 4, _, 1, _, e => exact absurd e.symm c2
        | 4, _, 2, _, e => exact absurd e.symm a4
        | 4, _, 3, _, e => exact absurd e.symm d1
      · subst z
        rw [old k' j' z'] at e
        exact absurd e ((hn _ (mem k hk)).2.2 k' j' hk' (by omega))
    · rw [old k j z] at e
      by_cases z' : j' = n
      · subst z'
        exact absurd e.symm ((hn _ (mem k' hk')).2.2 k j hk (by omega))
      · rw [old k' j' z'] at e
        exact h.inj k j k' j' hk (by omega) hk' (by omega) e
  · by_cases z : j = n
    · subst z
      have e1 : ∀ k, adN ad j d p0 p1 p3 p4 k j = sel5 d p0 p1 p3 p4 k := fun k => if_pos rfl
      rw [e1, e1, e1, e1, e1]
      show EnvM K F H d p0 p1 (upN x2 j v2 j) p3 p4 ⟨[upN wv j w j, upN wv j w j + 1], [upN wv j w j, upN wv j w j + 1], upN sp j s j, [], []⟩
      rw [upN_same, upN_same, upN_same]
      exact m
    · rw [old 2 j z, old 0 j z, old 1 j z, old 3 j z, old 4 j z]
      show EnvM K F H _ _ _ (upN x2 n v2 j) _ _ ⟨[upN wv n w j, upN wv n w j + 1], [upN wv n w j, upN wv n w j + 1], upN sp n s j, [], []⟩
      rw [upN_ne z, upN_ne z, upN_ne z]
      exact h.env j (by omega)
/-- envs = [env(..) for k in range(n)] -/
theorem envs_comp {a c wd ch : Addr} {ω : Wo} {σ : L2.St} {e : DE} {pn : List (Nat × V)} {Q : VK} (h4 : e[4]? = some (some (dn n))) (hn : n ≤ 1000) (m0 : (0, V.ref a) ∈ pn) (m2 : (2, V.ref wd) ∈ pn) (hp5 : (pn.map Prod.fst).all (fun i => ![5].contains i) = true) (hp5c : (pn.map Prod.fst).contains 5 = false) (f : Same F H) (s : SD K F σ e) (p : Pins σ pn) (W : (RW a c wd ch).J ω F H)
    (q : ∀ (C : Addr) (ad : Nat → Nat → Addr) (x2 : Nat → V) (sp : Nat → List (Nat × Nat)) (wv kk : Nat → Nat) (ct : Nat) (F' H' : Hp), Gr (RW a c wd ch).M No F H F' H' → (RW a c wd ch).J { ω with cells := ct } F' H' → H C = none → F' C = none → H' C = some (.lst (refsOf n (ad 2))) → EnvsM K n ad x2 sp wv C H F' H' → KCells n wv kk sp ω.cells ct → Q (.ref C) H') :
    tLc (iRng1 (tCons (tVar 4) tNil)) (gName 5) tYes (tCall (spEnv K) [] E0 (tCons (tVar 0) (tCons (tVar 2) tNil))) [5] σ H Q := by
  obtain ⟨v4, q4, a4⟩ := s.get 4 _ h4
  cases a4.intI
  refine ⟨_, q4, (n : Int), rfl, by omega, by omega, ?_⟩
  rw [Int.toNat_natCast]
  refine fun C nC => ?_
  have mC : ¬ (RW a c wd ch).M C := fun y => ((RW a c wd ch).ex _ _ _ _ W y).1 nC
  have M0 : ∀ b, (RW a c wd ch).M b → H b ≠ none := fun b y => ((RW a c wd ch).ex _ _ _ _ W y).1
  have pw := p.wiped (ws := [5]) hp5
  refine lc_range (fun k H' => ∃ ad x2 sp wv kk ct F', Gr (RW a c wd ch).M No F H F' H' ∧ (RW a c wd ch).J { ω with cells := ct } F' H' ∧ F' C = none ∧ H' C = some (.lst (refsOf k (ad 2))) ∧ EnvsM K k ad x2 sp wv C H F' H' ∧ KCells k wv kk sp ω.cells ct)
    ⟨fun _ _ => C, fun _ => .non, fun _ => [], fun _ => 0, fun _ => 0, ω.cells, F, (Fz.loose f nC).gr, (RW a c wd ch).oth _ _ _ _ _ W mC (f.free nC), f.free nC, upd_same, ⟨fun k j _ hj => absurd hj (Nat.not_lt_zero _), fun k j _ _ _ hj => absurd hj (Nat.not_lt_zero _), fun j hj => absurd hj (Nat.not_lt_zero _)⟩, KCells.zero⟩
    (fun k H' hk ⟨ad, x2, sp, wv, kk, ct, F', g, W', nC', hC, hE, hK⟩ => ?_) (fun H' ⟨ad, x2, sp, wv, kk, ct, F', g, W', nC', hC, hE, hK⟩ => q C ad x2 sp wv kk ct F' H' g W' nC nC' hC hE hK)
  refine ⟨(wipe_set (by decide) _).trans (wipe_wipe σ [5]), ?_⟩
  refine yes_intro ?_
  have pw' : Pins ((L2.wipe σ [5]).set 5 (some (V.int (0 + (k : Int))))) pn := pw.set hp5c
  refine ⟨_, pw' 0 _ m0, _, pw' 2 _ m2, a, c, wd, ch, F', { ω with cells := ct }, rfl, g.sub, W', fun d p0 p1 p3 p4 v2 k2 s2 F2 H2 g2 W2 hm hnew hk2 hs2 hl2 => ?_⟩
  have none_of : ∀ b, H' b = none → H b = none := fun b hb => g.none_of hb
  have hnb : ∀ b, b ∈ [d, p0, p1, p3, p4] → H b = none ∧ b ≠ C ∧ ∀ k' j, k' < 5 → j < k → b ≠ ad k' j := fun b hb => by
    have h1 := hnew b hb
    refine ⟨none_of b h1, (fun z => by rw [z, hC] at h1; cases h1), fun k' j hk' hj z => ?_⟩
    have h2 := hE.env j hj
    have h3 := h2.some (ad k' j) (EnvM.mem (ad := fun k => ad k j) h2 hk')
    rw [z] at h1
    exact h3 h1
  have hC2 : H2 C = some (.lst (refsOf k (ad 2))) := g2.h C _ mC hC
  have nC2 : F2 C = none := g2.away nC' (some_ne hC)
  have hE2 := (hE.thru g2 fun b y => .inr (M0 b y)).step hm hnb
  have g3 : Gr (fun b => b = C) No F2 H2 F2 (upd H2 C (.lst (refsOf k (ad 2) ++ [.ref d]))) := Gr.put g2.sub rfl nC2
  have eqr : refsOf k (ad 2) ++ [V.ref d] = refsOf (k + 1) (adN ad k d p0 p1 p3 p4 2) := by
    rw [refs_up]
    refine List.map_congr_left fun j _ => ?_
    show V.ref (if j = k then d else ad 2 j) = V.ref (if j = k then d else ad 2 j)
    rfl
  refine ⟨refsOf k (ad 2), hC2, by rw [refs_len]; exact line_lt (by omega), adN ad k d p0 p1 p3 p4, upN x2 k v2, upN sp k s2, upN wv k ct, upN kk k k2, ct + 2 + k2, F2, (g.trans g2).step g3 (fun b y => .inr (by rw [y]; exact nC)), (RW a c wd ch).oth _ _ _ _ _ W2 mC nC2, nC2, ?_, hE2.thru g3 (fun b y => .inl y), hK.step hk2 hs2 hl2⟩
  rw [upd_same, eqr]
end
end Pa
namespace Pa
open PySem L2 PyProof.Rows
theorem nd_len : ∀ (n : Nat) (l : List Nat), l.Nodup → (∀ x, x ∈ l → x < n) → l.length ≤ n
  | 0, l, _, h => by
    cases l with
    | nil => exact Nat.le_refl _
    | cons x r => exact absurd (h x (List.mem_cons_self ..)) (Nat.not_lt_zero _)
  | n + 1, l, nd, h => by
    by_cases hm : n ∈ l
    · have h1 := nd_len n (l.erase n) (nd.erase n) fun x hx => by
        have h2 := (nd.mem_erase_iff).mp hx
        have := h x h2.2
        have := h2.1
        omega
      rw [List.length_erase_of_mem hm] at h1
      omega
    · have := nd_len n l nd fun x hx => by
        have h1 := h x hx
        have : x ≠ n := fun z => hm (z ▸ hx)
        omega
      omega
/-- what the children are, behind it all -/
structure KidsFit (n : Nat) (E : Sur) (ω ω' : Wo) (Es : Nat → Sur) (Xs : Nat → List Nat) (ss : Nat → List PyData) (Bs : Nat → Fp) : Prop where
  nt : ω'.nth = ω.nth
  lf : ω'.left = ω.left
  it : ω'.items = ω.items
  lo : ω'.loops = ω.loops
  ce : ω.cells ≤ ω'.cells
  ce2 : ω'.cells ≤ ω.cells + 9 * n
  ch : ∃ m, ω'.ch = ω.ch ++ List.replicate m ("inner" : Str)
  c24 : ω'.ch.length ≤ 24
  ok : ∀ j, j < n → SurOk (Es j)
  bd : ∀ j, j < n → SurBd (Es j) ω'
  its : ∀ j, j < n → (ss j).length ≤ 1000 ∧ ∀ it, it ∈ ss j → IsPart (Es j) it ∨ IsLoop (Es j) (Xs j) it
  lt : ∀ j, j < n → (Bs j).Lt ω'.cells ω'.ch.length
  cp : ∀ i j, i < n → j < n → i ≠ j → Compat (Bs i) (Bs j)
  inn : ∀ j, j < n → SurIn (Es j) (Bs j) ∧ ∀ x, x ∈ Xs j → (Bs j).R x ∧ (Bs j).W x
  le : ∀ S, SurIn E S → NewIn ω ω' S → ∀ j, j < n → (Bs j).Le S
/-- child j's environment, its base -/
def kidE (n : Nat) (wv : Nat → Nat) (sp : Nat → List (Nat × Nat)) (gv tk : Nat → List Nat) (ac ag at_ : List (Nat × Nat)) (j : Nat) : Sur := ⟨[wv j, wv j + 1] ++ pick j ac, [wv j, wv j + 1] ++ pickR n j ac, sp j, gv j ++ pick j ag, tk j ++ pick j at_⟩
def Sur.base (E : Sur) (X : List Nat) : Fp where
  R := fun k => k ∈ E.reads ∨ k ∈ E.cells ∨ (∃ s, s ∈ E.spans ∧ s.1 ≤ k ∧ k < s.1 + s.2) ∨ k ∈ X
  W := fun k => k ∈ E.cells ∨ (∃ s, s ∈ E.spans ∧ s.1 ≤ k ∧ k < s.1 + s.2) ∨ k ∈ X
  G := fun c => c ∈ E.gives
  T := fun c => c ∈ E.takes
theorem Sur.base_in (E : Sur) (X : List Nat) : SurIn E (E.base X) ∧ ∀ x, x ∈ X → (E.base X).R x ∧ (E.base X).W x :=
  ⟨⟨fun k hk => ⟨.inr (.inl hk), .inl hk⟩, fun k hk => .inl hk, fun s hs k h1 h2 => ⟨.inr (.inr (.inl ⟨s, hs, h1, h2⟩)), .inr (.inl ⟨s, hs, h1, h2⟩)⟩, fun k hk => hk, fun k hk => hk⟩, fun x hx => ⟨.inr (.inr (.inr hx)), .inr (.inr hx)⟩⟩
section
variable {n : Nat} {E : Sur} {ω ω' : Wo} {ct : Nat} {wv kk : Nat → Nat} {sp : Nat → List (Nat × Nat)} {f0 f fs : KF} {gv tk X : Nat → List Nat} {kn : Prs} {ac ag at_ : List (Nat × Nat)} {ss : Nat → List PyData}
theorem kids_fit (hE : SurOk E) (hBd : SurBd E ω) (hpot : ω.cells + 40 * ω.left + ω.items + 40 * n ≤ 5000) (hK : KCells n wv kk sp ω.cells ct) (hM : MI n { ω with cells := ct } f0 9 (3 * n) gv tk X ω' f fs kn)
    (hac : ac.map Prod.fst = E.cells) (hag : ag.map Prod.fst = E.gives) (hat : at_.map Prod.fst = E.takes)
    (hss : ∀ j, j < n → (ss j).length ≤ 18 + 2 * (ag.length + at_.length) ∧ ∀ it, it ∈ ss j → it ∈ fs 5 j ∨ (∃ c, c ∈ pick j ag ∧ it = itemD "give" c) ∨ ∃ c, c ∈ pick j at_ ∧ it = itemD "take" c) :
    KidsFit n E ω ω' (kidE n wv sp gv tk ac ag at_) X ss (fun j => (kidE n wv sp gv tk ac ag at_ j).base (X j)) := by
  have ce1 : ct ≤ ω'.cells := hM.ce
  have ce2 : ω'.cells ≤ ct + 3 * n := hM.ce2
  have k1 := hK.le
  have k2 := hK.sz
  have hl : ω'.left = ω.left := hM.lf
  have hi : ω'.items = ω.items := hM.it
  obtain ⟨m, hch⟩ := hM.ch
  have hch' : ω'.ch = ω.ch ++ List.replicate m ("inner" : Str) := hch
  have chl : ω.ch.length ≤ ω'.ch.length := by rw [hch', List.length_append]; omega
  have c24 : ω'.ch.length ≤ 24 := hM.c24 hBd.c24
  have acN : (ac.map Prod.fst).Nodup := by rw [hac]; exact hBd.cN
  have agN : (ag.map Prod.fst).Nodup := by rw [hag]; exact hBd.gN
  have atN : (at_.map Prod.fst).Nodup := by rw [hat]; exact hBd.tN
  have acL : ∀ c j, (c, j) ∈ ac → c < ω.cells := fun c j h => hBd.c c (by rw [← hac]; exact List.mem_map.mpr ⟨_, h, rfl⟩)
  have agL : ∀ c j, (c, j) ∈ ag → c < ω.ch.length := fun c j h => hBd.g c (by rw [← hag]; exact List.mem_map.mpr ⟨_, h, rfl⟩)
  have atL : ∀ c j, (c, j) ∈ at_ → c < ω.ch.length := fun c j h => hBd.t c (by rw [← hat]; exact List.mem_map.mpr ⟨_, h, rfl⟩)
  have acl : ac.length ≤ ω.cells := by
    have h1 := nd_len ω.cells E.cells hBd.cN hBd.c
    have h2 := congrArg List.length hac
    rw [List.length_map] at h2
    omega
  have agl : ag.length ≤ 24 := by
    have h1 := nd_len ω.ch.length E.gives hBd.gN hBd.g
    have h2 := congrArg List.length hag
    have h3 := hBd.c24
    rw [List.length_map] at h2
    omega
  have atl : at_.length ≤ 24 := by
    have h1 := nd_len ω.ch.length E.takes hBd.tN hBd.t
    have h2 := congrArg List.length hat
    have h3 := hBd.c24
    rw [List.length_map] at h2
    omega
  -- where the cells lie
  have ownc : ∀ j k, k ∈ [wv j, wv j + 1] → k = wv j ∨ k = wv j + 1 := fun j k h => by simpa using h
  have spc : ∀ j, j < n → ∀ s, s ∈ sp j → s = (wv j + 2, kk j) := fun j hj => (hK.at_ j hj).2.2.2.1
  let Own : Nat → Nat → Prop := fun j k => wv j ≤ k ∧ k < wv j + 2 + kk j
  have wcase : ∀ j, j < n → ∀ k, ((kidE n wv sp gv tk ac ag at_ j).base (X j)).W k → Own j k ∨ k ∈ X j ∨ (k, j) ∈ ac := fun j hj k h => by
    rcases h with h | ⟨s, hs, h1, h2⟩ | h
    · rcases List.mem_append.mp h with z | z
      · have := ownc j k z
        exact .inl ⟨by omega, by omega⟩
      · exact .inr (.inr (pick_mem.mp z))
    · have := spc j hj s hs
      rw [this] at h1 h2
      exact .inl ⟨by show wv j ≤ k; have : wv j + 2 ≤ k := h1; omega, h2⟩
    · exact .inr (.inl h)
  have rcase : ∀ j, j < n → ∀ k, ((kidE n wv sp gv tk ac ag at_ j).base (X j)).R k → Own j k ∨ k ∈ X j ∨ (k, j) ∈ ac ∨ (k, n) ∈ ac := fun j hj k h => by
    rcases h with h | h
    · rcases List.mem_append.mp h with z | z
      · have := ownc j k z
        exact .inl ⟨by omega, by omega⟩
      · exact .inr (.inr (pickR_mem.mp z))
    · rcases wcase j hj k h with z | z | z
      · exact .inl z
      · exact .inr (.inl z)
      · exact .inr (.inr (.inl z))
  have ownR : ∀ j, j < n → ∀ k, Own j k → ω.cells ≤ k ∧ k < ct := fun j hj k h => by
    have h1 := hK.at_ j hj
    have h2 : wv j ≤ k ∧ k < wv j + 2 + kk j := h
    omega
  have xR : ∀ j, j < n → ∀ k, k ∈ X j → ct ≤ k ∧ k < ω'.cells := fun j hj k h => hM.xR j hj k h
  have ownD : ∀ i j, i < n → j < n → i ≠ j → ∀ k, Own i k → Own j k → False := fun i j hi hj ne k h1 h2 => by
    have h1' : wv i ≤ k ∧ k < wv i + 2 + kk i := h1
    have h2' : wv j ≤ k ∧ k < wv j + 2 + kk j := h2
    rcases Nat.lt_or_gt_of_ne ne with z | z
    · have := hK.ord i j z hj
      omega
    · have := hK.ord j i z hi
      omega
  have gcase : ∀ j c, ((kidE n wv sp gv tk ac ag at_ j).base (X j)).G c → c ∈ gv j ∨ (c, j) ∈ ag := fun j c h => (List.mem_append.mp h).imp id pick_mem.mp
  have tcase : ∀ j c, ((kidE n wv sp gv tk ac ag at_ j).base (X j)).T c → c ∈ tk j ∨ (c, j) ∈ at_ := fun j c h => (List.mem_append.mp h).imp id pick_mem.mp
  have gR : ∀ j, j < n → ∀ c, c ∈ gv j → ω.ch.length ≤ c ∧ c < ω'.ch.length := fun j hj c h => hM.gR j hj c h
  have tR : ∀ j, j < n → ∀ c, c ∈ tk j → ω.ch.length ≤ c ∧ c < ω'.ch.length := fun j hj c h => hM.tR j hj c h
  have wrF : ∀ i j, i < n → j < n → i ≠ j → ∀ k, ((kidE n wv sp gv tk ac ag at_ i).base (X i)).W k → ((kidE n wv sp gv tk ac ag at_ j).base (X j)).R k → False := fun i j hi hj ne k h1 h2 => by
    rcases wcase i hi k h1 with z | z | z
    · have r1 := ownR i hi k z
      rcases rcase j hj k h2 with y | y | y | y
      · exact ownD i j hi hj ne k z y
      · have := xR j hj k y; omega
      · have := acL k j y; omega
      · have := acL k n y; omega
    · have r1 := xR i hi k z
      rcases rcase j hj k h2 with y | y | y | y
      · have := ownR j hj k y; omega
      · exact ne (hM.xD i j k hi hj z y)
      · have := acL k j y; omega
      · have := acL k n y; omega
    · have r1 := acL k i z
      rcases rcase j hj k h2 with y | y | y | y
      · have := ownR j hj k y; omega
      · have := xR j hj k y; omega
      · exact ne (nd_fst acN z y)
      · have := nd_fst acN z y; omega
  have wsub : ∀ j k, ((kidE n wv sp gv tk ac ag at_ j).base (X j)).W k → ((kidE n wv sp gv tk ac ag at_ j).base (X j)).R k := fun j k h => .inr h
  refine ⟨hM.nt, hl, hi, hM.lo, by omega, by omega, ⟨m, hch'⟩, c24, fun j hj => ?_, fun j hj => ?_, fun j hj => ⟨?_, fun it hit => ?_⟩, fun j hj => ⟨fun k h => ?_, fun k h => ?_, fun c h => ?_, fun c h => ?_⟩, fun i j hi hj ne => ⟨wrF i j hi hj ne, fun k h1 h2 => wrF j i hj hi (Ne.symm ne) k h2 h1, fun k h1 h2 => wrF i j hi hj ne k h1 (wsub j k h2), fun c h1 h2 => ?_, fun c h1 h2 => ?_⟩, fun j hj => Sur.base_in _ _, fun S hS hN j hj => ⟨fun k h => ?_, fun k h => ?_, fun c h => ?_, fun c h => ?_⟩⟩
  · -- SurOk
    have p1 := pick_le (j := j) (l := ac)
    have p2 := pickR_le (n := n) (j := j) (l := ac)
    have p3 := pick_le (j := j) (l := ag)
    have p4 := pick_le (j := j) (l := at_)
    have p5 := hM.gl j hj
    have p6 := hM.tl j hj
    have p7 := (hK.at_ j hj).2.2.2.2
    refine ⟨?_, ?_, ?_, ?_, ?_, ?_, ?_, fun s hs => ?_⟩
    · show 0 < ([wv j, wv j + 1] ++ pick j ac).length
      rw [List.length_append]
      show 0 < 2 + _
      omega
    · show 0 < ([wv j, wv j + 1] ++ pickR n j ac).length
      rw [List.length_append]
      show 0 < 2 + _
      omega
    · show ([wv j, wv j + 1] ++ pick j ac).length ≤ 10000
      rw [List.length_append]
      show 2 + _ ≤ _
      omega
    · show ([wv j, wv j + 1] ++ pickR n j ac).length ≤ 10000
      rw [List.length_append]
      show 2 + _ ≤ _
      omega
    · show (sp j).length ≤ 10000
      omega
    · show (gv j ++ pick j ag).length ≤ 10000
      rw [List.length_append]
      omega
    · show (tk j ++ pick j at_).length ≤ 10000
      rw [List.length_append]
      omega
    · have h1 := spc j hj s hs
      have h2 := (hK.at_ j hj).2.2.1
      rw [h1]
      show kk j < 65536
      omega
  · -- SurBd
    have a1 := hK.at_ j hj
    refine ⟨?_, ?_, ?_, fun k hk => ?_, fun k hk => ?_, fun k hk => ?_, by omega, c24⟩
    · show ([wv j, wv j + 1] ++ pick j ac).Nodup
      refine List.nodup_append.mpr ⟨?_, pick_nd acN, fun x hx y hy z => ?_⟩
      · refine List.nodup_cons.mpr ⟨fun h => ?_, List.nodup_cons.mpr ⟨List.not_mem_nil, List.nodup_nil⟩⟩
        have := List.mem_singleton.mp h
        omega
      · have h1 := ownc j x hx
        have h2 := acL y j (pick_mem.mp hy)
        omega
    · refine List.nodup_append.mpr ⟨hM.gN j hj, pick_nd agN, fun x hx y hy z => ?_⟩
      have h1 := gR j hj x hx
      have h2 := agL y j (pick_mem.mp hy)
      omega
    · refine List.nodup_append.mpr ⟨hM.tN j hj, pick_nd atN, fun x hx y hy z => ?_⟩
      have h1 := tR j hj x hx
      have h2 := atL y j (pick_mem.mp hy)
      omega
    · rcases wcase j hj k (.inl hk) with z | z | z
      · have := ownR j hj k z; omega
      · have := xR j hj k z; omega
      · have := acL k j z; omega
    · rcases gcase j k hk with z | z
      · exact (gR j hj k z).2
      · have := agL k j z; omega
    · rcases tcase j k hk with z | z
      · exact (tR j hj k z).2
      · have := atL k j z; omega
  · have := (hss j hj).1
    omega
  · rcases (hss j hj).2 it hit with z | ⟨c, hc, e⟩ | ⟨c, hc, e⟩
    · have sub1 : ∀ c, c ∈ (SG gv tk j).gives → c ∈ (kidE n wv sp gv tk ac ag at_ j).gives := fun c h => List.mem_append_left _ h
      have sub2 : ∀ c, c ∈ (SG gv tk j).takes → c ∈ (kidE n wv sp gv tk ac ag at_ j).takes := fun c h => List.mem_append_left _ h
      exact (hM.its j hj it z).imp (fun y => y.sub sub1 sub2) fun y => y.sub sub1 sub2 fun x h => h
    · exact .inl (.inl ⟨c, "", e, List.mem_append_right _ hc⟩)
    · exact .inl (.inr ⟨c, "", e, List.mem_append_right _ hc⟩)
  · rcases rcase j hj k h with z | z | z | z
    · have := ownR j hj k z; omega
    · have := xR j hj k z; omega
    · have := acL k j z; omega
    · have := acL k n z; omega
  · rcases wcase j hj k h with z | z | z
    · have := ownR j hj k z; omega
    · have := xR j hj k z; omega
    · have := acL k j z; omega
  · rcases gcase j c h with z | z
    · exact (gR j hj c z).2
    · have := agL c j z; omega
  · rcases tcase j c h with z | z
    · exact (tR j hj c z).2
    · have := atL c j z; omega
  · rcases gcase i c h1 with z | z
    · rcases gcase j c h2 with y | y
      · exact ne (hM.gD i j c hi hj z y)
      · have := gR i hi c z; have := agL c j y; omega
    · rcases gcase j c h2 with y | y
      · have := gR j hj c y; have := agL c i z; omega
      · exact ne (nd_fst agN z y)
  · rcases tcase i c h1 with z | z
    · rcases tcase j c h2 with y | y
      · exact ne (hM.tD i j c hi hj z y)
      · have := tR i hi c z; have := atL c j y; omega
    · rcases tcase j c h2 with y | y
      · have := tR j hj c y; have := atL c i z; omega
      · exact ne (nd_fst atN z y)
  · rcases rcase j hj k h with z | z | z | z
    · have := ownR j hj k z
      exact (hN.cell k (by omega) (by omega)).1
    · have := xR j hj k z
      exact (hN.cell k (by omega) (by omega)).1
    · exact (hS.cells k (by rw [← hac]; exact List.mem_map.mpr ⟨_, z, rfl⟩)).1
    · exact (hS.cells k (by rw [← hac]; exact List.mem_map.mpr ⟨_, z, rfl⟩)).1
  · rcases wcase j hj k h with z | z | z
    · have := ownR j hj k z
      exact (hN.cell k (by omega) (by omega)).2
    · have := xR j hj k z
      exact (hN.cell k (by omega) (by omega)).2
    · exact (hS.cells k (by rw [← hac]; exact List.mem_map.mpr ⟨_, z, rfl⟩)).2
  · rcases gcase j c h with z | z
    · have := gR j hj c z
      exact (hN.chan c this.1 this.2).1
    · exact hS.gives c (by rw [← hag]; exact List.mem_map.mpr ⟨_, z, rfl⟩)
  · rcases tcase j c h with z | z
    · have := tR j hj c z
      exact (hN.chan c this.1 this.2).2
    · exact hS.takes c (by rw [← hat]; exact List.mem_map.mpr ⟨_, z, rfl⟩)
end
end Pa
/-! The children are set up: from the calls to data. -/
namespace Pa
open PySem L2 PyProof.Rows
theorem drop_call {sp : Sp} {E : XK} {t : TA} {D : Ends} {σ : L2.St} {H : Hp} (h : t σ H fun vs H1 => sp (vs ++ []) H1 (fun _ H2 => D.nx σ H2) E) : tDrop (tCall sp [] E t) D σ H := h
def unL : PyData → List PyData
  | .list l => l
  | _ => []
theorem lists_of {n : Nat} {ss : List PyData} (hl : ss.length = n) (h : ∀ j, j < n → ∃ s, ss[j]? = some (.list s)) : ss = (List.range n).map fun j => .list (unL (ss.getD j .none)) := by
  refine List.ext_getElem? fun j => ?_
  by_cases hj : j < n
  · obtain ⟨s, e⟩ := h j hj
    rw [List.getElem?_map, List.getElem?_range hj, e]
    show _ = some (PyData.list (unL (ss.getD j .none)))
    rw [List.getD_eq_getElem?_getD, e]
    rfl
  · rw [List.getElem?_eq_none (by omega), List.getElem?_eq_none (by rw [List.length_map, List.length_range]; omega)]
section
variable {K : PySem.W.Frag} {a c wd ch : Addr} {ω : Wo} {E : Sur} {e : DE} {pn : List (Nat × V)} {n : Nat} {N : DE → Wo → Prop} {Z : PyData → Wo → Prop} {u : TS}
theorem xs_kids (hn : 2 ≤ n) (hn1 : n ≤ 1000) (h1 : e[1]? = some (some E.d)) (h4 : e[4]? = some (some (dn n))) (hel : e.length = 12) (hE : SurOk E) (hBd : SurBd E ω) (hpot : ω.cells + 40 * ω.left + ω.items + 40 * n ≤ 5000) (m0 : (0, V.ref a) ∈ pn) (m2 : (2, V.ref wd) ∈ pn)
    (hp5 : (pn.map Prod.fst).all (fun i => ![5].contains i) = true) (hp5c : (pn.map Prod.fst).contains 5 = false) (hp6 : (pn.map Prod.fst).contains 6 = false) (hp7 : (pn.map Prod.fst).contains 7 = false)
    (h : ∀ (ω' : Wo) (Es : Nat → Sur) (Xs : Nat → List Nat) (ss : Nat → List PyData) (Bs : Nat → Fp), KidsFit n E ω ω' Es Xs ss Bs → XS K (RW a c wd ch) u ((e.set 6 (some (.list ((List.range n).map fun j => (Es j).d)))).set 7 (some (.list ((List.range n).map fun j => .list (ss j))))) pn ω' N Z) :
    XS K (RW a c wd ch) (tSeq (tAsg (tLc (iRng1 (tCons (tVar 4) tNil)) (gName 5) tYes (tCall (spEnv K) [] E0 (tCons (tVar 0) (tCons (tVar 2) tNil))) [5]) (gName 6)) (tSeq (tAsg (tLc (iRng1 (tCons (tVar 4) tNil)) (gName 5) tYes (tLst tNil) [5]) (gName 7)) (tSeq (tDrop (tCall (spMeet K) [] E0 (tCons (tVar 0) (tCons (tVar 2) (tCons (tVar 7) (tCons (tVar 6) tNil))))))
      (tSeq (tDrop (tCall (spShare K) [] E0 (tCons (tVar 0) (tCons (tVar 1) (tCons (tVar 6) (tCons (tVar 7) tNil)))))) u)))) e pn ω N Z := fun D σ F H f s p W q r => by
  obtain ⟨v4, q4, a4⟩ := s.get 4 _ h4
  cases a4.intI
  obtain ⟨vE, q1, aE⟩ := s.get 1 _ h1
  refine asg_next ?_
  refine envs_comp h4 hn1 m0 m2 hp5 hp5c f s p W fun C ad x2 sp wv kk ct F1 H1 g1 W1 nC nC1 hC hEn hK => ?_
  refine asg_next ?_
  refine newLs_range (n := n) (fun Q' hq' => ⟨_, by rw [List.getElem?_set_ne (by decide)]; exact q4, hq'⟩) (by omega) (by decide) fun S b H2 nl => ?_
  have nM : ∀ x, H x = none → ¬ (RW a c wd ch).M x := fun x hx y => ((RW a c wd ch).ex _ _ _ _ W y).1 hx
  have none1 : ∀ x, H1 x = none → H x = none := fun x hx => g1.none_of hx
  have zl := nl.fz g1.sub
  have g2 : Gr (RW a c wd ch).M No F H F1 H2 := g1.trans zl.gr
  have W2 : (RW a c wd ch).J { ω with cells := ct } F1 H2 := (RW a c wd ch).thru _ _ _ _ _ W1 zl
  have hEn2 : EnvsM K n ad x2 sp wv C H F1 H2 := hEn.thru (M := No) zl.gr fun b y => y.elim
  have hC2 : H2 C = some (.lst (refsOf n (ad 2))) := nl.same _ _ hC
  have adF : ∀ k j, k < 5 → j < n → F1 (ad k j) = none ∧ H2 (ad k j) ≠ none := fun k j hk hj => by
    have m := hEn2.env j hj
    have mem := EnvM.mem (ad := fun k => ad k j) m hk
    exact ⟨m.fn _ mem, m.some _ mem⟩
  have bS : ∀ j, j < n → H (b j) = none ∧ b j ≠ S ∧ b j ≠ C ∧ ∀ k i, k < 5 → i < n → b j ≠ ad k i := fun j hj => by
    obtain ⟨h1, h2, h3⟩ := nl.nb j hj
    refine ⟨none1 _ h1, h2, (fun z => by rw [z, hC] at h1; cases h1), fun k i hk hi z => ?_⟩
    have m := hEn.env i hi
    have := m.some _ (EnvM.mem (ad := fun k => ad k i) m hk)
    rw [z] at h1
    exact this h1
  have sC : S ≠ C := fun z => by have := nl.hC; rw [z, hC] at this; cases this
  have sAd : ∀ k i, k < 5 → i < n → S ≠ ad k i := fun k i hk hi z => by
    have m := hEn.env i hi
    have h1 := m.some _ (EnvM.mem (ad := fun k => ad k i) m hk)
    have h2 := nl.hC
    rw [z] at h2
    exact h1 h2
  have sH : H S = none := none1 _ nl.hC
  have fS : F1 S = none := g1.sub.free nl.hC
  have fb : ∀ j, j < n → F1 (b j) = none := fun j hj => g1.sub.free (nl.nb j hj).1
  obtain ⟨F2, s12, s22, W2', eq2, ne2⟩ := bulk (R := RW a c wd ch) g2.sub W2 (C :: (List.range n).map (ad 2)) (fun x hx => by
    rcases List.mem_cons.mp hx with z | z
    · subst z
      exact ⟨nM _ nC, nC1, some_ne hC2⟩
    · obtain ⟨j, hj, e⟩ := List.mem_map.mp z
      have hj' := List.mem_range.mp hj
      subst e
      exact ⟨nM _ (hEn.new 2 j (by decide) hj').1, (adF 2 j (by decide) hj').1, (adF 2 j (by decide) hj').2⟩)
  have memC : C ∈ (C :: (List.range n).map (ad 2)) := List.mem_cons_self ..
  have memD : ∀ j, j < n → ad 2 j ∈ (C :: (List.range n).map (ad 2)) := fun j hj => List.mem_cons_of_mem _ (List.mem_map.mpr ⟨j, List.mem_range.mpr hj, rfl⟩)
  have notin : ∀ x, x ≠ C → (∀ j, j < n → x ≠ ad 2 j) → x ∉ (C :: (List.range n).map (ad 2)) := fun x h1 h2 z => by
    rcases List.mem_cons.mp z with w | w
    · exact h1 w
    · obtain ⟨j, hj, e⟩ := List.mem_map.mp w
      exact h2 j (List.mem_range.mp hj) e.symm
  let A : KA := ⟨n, C, S, ad 2, fun k j => if k = 5 then b j else ad k j, x2, sp⟩
  have p5 : ∀ j, A.p 5 j = b j := fun j => (if_pos rfl : (if 5 = 5 then b j else ad 5 j) = b j)
  have pk : ∀ k j, k ∈ [0, 1, 3, 4] → A.p k j = ad k j ∧ k < 5 ∧ k ≠ 2 := fun k j hk => by
    simp only [List.mem_cons, List.not_mem_nil, or_false] at hk
    have h5 : k ≠ 5 := by omega
    exact ⟨(if_neg h5 : (if k = 5 then b j else ad k j) = ad k j), by omega, by omega⟩
  let f0 : KF := fun k j => if k = 0 ∨ k = 1 then [dn (wv j), dn (wv j + 1)] else []
  have kidF : KidF K A F2 := ⟨(eq2 _ memC).trans hC2, fun j hj => (eq2 _ (memD j hj)).trans (hEn2.env j hj).hd, fun j hj => ((hEn2.env j hj).a2).mono s12⟩
  have fam1 : FamJ K [0, 1, 3, 4] n A.p (RW a c wd ch).M f0 F2 H2 := by
    refine ⟨fun k j k' j' hk hj hk' hj' e => ?_, fun k j hk hj => ?_, fun k j hk hj => ?_, fun k j hk hj => ?_⟩
    · rw [(pk k j hk).1, (pk k' j' hk').1] at e
      exact hEn.inj k j k' j' (pk k j hk).2.1 hj (pk k' j' hk').2.1 hj' e
    · rw [(pk k j hk).1]
      exact nM _ (hEn.new k j (pk k j hk).2.1 hj).1
    · rw [(pk k j hk).1, ne2 _ (notin _ (hEn.new k j (pk k j hk).2.1 hj).2 fun i hi z => (pk k j hk).2.2 (hEn.inj k j 2 i (pk k j hk).2.1 hj (by decide) hi z).1)]
      exact (adF k j (pk k j hk).2.1 hj).1
    · rw [(pk k j hk).1]
      have m := hEn2.env j hj
      simp only [List.mem_cons, List.not_mem_nil, or_false] at hk
      rcases hk with rfl | rfl | rfl | rfl
      · exact ⟨_, m.h0, .cons (.int _) (.cons (.int _) .nil)⟩
      · exact ⟨_, m.h1, .cons (.int _) (.cons (.int _) .nil)⟩
      · exact ⟨_, m.h3, .nil⟩
      · exact ⟨_, m.h4, .nil⟩
  have J3 : (R3 K a c wd ch A).J (({ ω with cells := ct }, f0), fun _ _ => []) F2 H2 := by
    refine ⟨⟨⟨⟨W2', kidF⟩, fam1⟩, fun y => ?_, ?_, ?_⟩, fun k j k' j' hk hj hk' hj' e => ?_, fun k j hk hj y => ?_, fun k j hk hj => ?_, fun k j hk hj => ?_⟩
    · rcases y with y | ⟨k, j, hk, hj, e⟩
      · exact nM _ sH y
      · rw [(pk k j hk).1] at e
        exact sAd k j (pk k j hk).2.1 hj e
    · exact (ne2 _ (notin _ sC fun j hj => sAd 2 j (by decide) hj)).trans fS
    · show H2 S = some (.lst (refsOf n fun j => A.p 5 j))
      rw [nl.lC]
      rfl
    · rw [List.mem_singleton.mp hk, List.mem_singleton.mp hk'] at e ⊢
      rw [p5, p5] at e
      exact ⟨rfl, nl.inj _ _ hj hj' e⟩
    · rw [List.mem_singleton.mp hk, p5] at y
      obtain ⟨y1, y2, y3, y4⟩ := bS j hj
      rcases y with (y | ⟨k', j', hk', hj', e⟩) | y
      · exact nM _ y1 y
      · rw [(pk k' j' hk').1] at e
        exact y4 k' j' (pk k' j' hk').2.1 hj' e
      · exact y2 y
    · rw [List.mem_singleton.mp hk, p5]
      obtain ⟨y1, y2, y3, y4⟩ := bS j hj
      exact (ne2 _ (notin _ y3 fun i hi => y4 2 i (by decide) hi)).trans (fb j hj)
    · rw [List.mem_singleton.mp hk, p5]
      exact ⟨[], (nl.nb j hj).2.2, .nil⟩
  have newR3 : ∀ x, (R3 K a c wd ch A).M x → (RW a c wd ch).M x ∨ H x = none := fun x y => by
    rcases y with ((y | ⟨k, j, hk, hj, e⟩) | y) | ⟨k, j, hk, hj, e⟩
    · exact .inl y
    · rw [(pk k j hk).1] at e
      rw [e]
      exact .inr (hEn.new k j (pk k j hk).2.1 hj).1
    · rw [y]; exact .inr sH
    · rw [List.mem_singleton.mp hk, p5] at e
      rw [e]
      exact .inr (bS j hj).1
  have newR5 : ∀ x, (R5 K a c wd ch A).M x → (RW a c wd ch).M x ∨ H x = none := fun x y => newR3 x (by
    rcases y with y | y
    · exact .inl (.inl y)
    · exact .inl (.inr y))
  have g2' : Gr (RW a c wd ch).M No F H F2 H2 := g2.frzN s12 s22 fun x => by
    by_cases hx : x ∈ (C :: (List.range n).map (ad 2))
    · rcases List.mem_cons.mp hx with z | z
      · rw [z]; exact .inr nC
      · obtain ⟨j, hj, e⟩ := List.mem_map.mp z
        rw [← e]
        exact .inr (hEn.new 2 j (by decide) (List.mem_range.mp hj)).1
    · exact .inl (ne2 x hx)
  have p2 : Pins ((σ.set 6 (some (.ref C))).set 7 (some (.ref S))) pn := (p.set hp6).set hp7
  have sl : σ.length = 12 := s.len.trans hel
  have s6 : ((σ.set 6 (some (V.ref C))).set 7 (some (V.ref S)))[6]? = some (some (.ref C)) := by
    rw [List.getElem?_set_ne (by decide)]
    exact List.getElem?_set_self (by omega)
  have s7 : ((σ.set 6 (some (V.ref C))).set 7 (some (V.ref S)))[7]? = some (some (.ref S)) := List.getElem?_set_self (by rw [List.length_set]; omega)
  have s1 : ((σ.set 6 (some (V.ref C))).set 7 (some (V.ref S)))[1]? = some (some vE) := by
    rw [List.getElem?_set_ne (by decide), List.getElem?_set_ne (by decide)]
    exact q1
  refine seq_intro (drop_call ⟨_, p2 0 _ m0, _, p2 2 _ m2, _, s7, _, s6, a, c, wd, ch, A, F2, { ω with cells := ct }, f0, rfl, s22, J3, hn, hn1, fun j hj => ⟨rfl, rfl⟩, fun gv tk X ω' f' fs kn F3 H3 g3 J3' hM hl => ?_⟩)
  have g3' := g2'.step g3 newR3
  obtain ⟨F4, s4a, s4b, J5, e4⟩ := R3.fix g3.sub J3'
  have g4' : Gr (RW a c wd ch).M No F H F4 H3 := g3'.frzN s4a s4b fun x => (e4 x).imp id fun ⟨k, j, hk, hj, e⟩ => by
    rw [List.mem_singleton.mp hk, p5] at e
    rw [e]
    exact (bS j hj).1
  have own0 : ∀ j, f0 0 j = [dn (wv j), dn (wv j + 1)] := fun j => if_pos (.inl rfl)
  have own1 : ∀ j, f0 1 j = [dn (wv j), dn (wv j + 1)] := fun j => if_pos (.inr rfl)
  have SI0 : SI n (fun j => [wv j, wv j + 1]) (fun j => [wv j, wv j + 1]) gv tk (fun j => fs 5 j) [] [] [] f' ((List.range n).map fun j => .list (fs 5 j)) := by
    refine ⟨fun j hj => (hM.cf0 j).trans (own0 j), fun j hj => (hM.cf1 j).trans (own1 j), fun j hj => ?_, fun j hj => ?_, by rw [List.length_map, List.length_range], fun j hj => ⟨fs 5 j, by rw [List.getElem?_map, List.getElem?_range hj]; rfl, Nat.le_refl _, fun it hit => .inl hit⟩⟩
    · rw [hM.cf3 j hj]
      show _ = (gv j ++ []).map dn
      rw [List.append_nil]
    · rw [hM.cf4 j hj]
      show _ = (tk j ++ []).map dn
      rw [List.append_nil]
  show tSeq (tDrop (tCall (spShare K) [] E0 (tCons (tVar 0) (tCons (tVar 1) (tCons (tVar 6) (tCons (tVar 7) tNil)))))) u D _ H3
  refine seq_intro (drop_call ⟨_, p2 0 _ m0, _, s1, _, s6, _, s7, a, c, wd, ch, A, E, vE, F4, ω', f', _, _, _, _, _, _, rfl, s4b, aE.mono g4'.f, hE, (by show 1 ≤ n; omega), hn1, fun j hj => ⟨by show 2 ≤ 1000; decide, by show 2 ≤ 1000; decide, by have := hM.gl j hj; omega, by have := hM.tl j hj; omega, by have := hl j hj; omega⟩, J5, SI0, fun ac ag at_ f'' ss' F5 H5 g5 J5' hac hag hat hacn hSI => ?_⟩)
  have g5' := g4'.step g5 newR5
  obtain ⟨jr, mS, nS, xs, hS, dS⟩ := J5'
  obtain ⟨F6, s6a, s6b, J6, da6, e6⟩ := fam_freeze g5.sub jr
  have nS6 : F6 S = none := by
    rcases e6 S with z | ⟨k, j, hk, hj, e⟩
    · rw [z]; exact nS
    · rw [(pk k j hk).1] at e
      exact absurd e (sAd k j (pk k j hk).2.1 hj)
  have s67 : Same F6 (upd F6 S (.lst xs)) := same_upd nS6
  have s57 := s6a.trans s67
  have sub7 : Same (upd F6 S (.lst xs)) H5 := fun x o hx => by
    by_cases y : x = S
    · subst y; rw [upd_same] at hx; rw [← hx]; exact hS
    · rw [upd_ne y] at hx; exact s6b _ _ hx
  have J7 : (RW a c wd ch).J ω' (upd F6 S (.lst xs)) H5 := (RW a c wd ch).frz _ _ _ _ _ J6.1 (nM _ sH) nS6
  have g7 : Gr (RW a c wd ch).M No F H (upd F6 S (.lst xs)) H5 := g5'.frzN s57 sub7 fun x => by
    by_cases y : x = S
    · rw [y]; exact .inr sH
    · rw [upd_ne y]
      refine (e6 x).imp id fun ⟨k, j, hk, hj, e⟩ => ?_
      rw [(pk k j hk).1] at e
      rw [e]
      exact (hEn.new k j (pk k j hk).2.1 hj).1
  have kf7 : KidF K A (upd F6 S (.lst xs)) := J6.2.mono _ _ s67
  have hSI' : SI n (fun j => [wv j, wv j + 1]) (fun j => [wv j, wv j + 1]) gv tk (fun j => fs 5 j) ac ag at_ f'' ss' := hSI
  have envD : ∀ j, j < n → Da K (upd F6 S (.lst xs)) (.ref (ad 2 j)) (kidE n wv sp gv tk ac ag at_ j).d := fun j hj => by
    have l0 := (da6 0 j (by simp) hj).mono s67
    have l1 := (da6 1 j (by simp) hj).mono s67
    have l3 := (da6 3 j (by simp) hj).mono s67
    have l4 := (da6 4 j (by simp) hj).mono s67
    rw [show (ω', f'').2 0 j = f'' 0 j from rfl, hSI'.h0 j hj] at l0
    rw [show (ω', f'').2 1 j = f'' 1 j from rfl, hSI'.h1 j hj] at l1
    rw [show (ω', f'').2 3 j = f'' 3 j from rfl, hSI'.h3 j hj] at l3
    rw [show (ω', f'').2 4 j = f'' 4 j from rfl, hSI'.h4 j hj] at l4
    exact Da.env (kf7.hd j hj) l0 l1 (kf7.h2 j hj) l3 l4
  have ssE : ss' = (List.range n).map fun j => .list (unL (ss'.getD j .none)) := lists_of hSI'.sl fun j hj => by
    obtain ⟨s, e, _⟩ := hSI'.s j hj
    exact ⟨s, e⟩
  have fit : KidsFit n E ω ω' (kidE n wv sp gv tk ac ag at_) X (fun j => unL (ss'.getD j .none)) (fun j => (kidE n wv sp gv tk ac ag at_ j).base (X j)) := kids_fit hE hBd hpot hK hM hac hag hat fun j hj => by
    obtain ⟨s, e, l1, l2⟩ := hSI'.s j hj
    have e2 : unL (ss'.getD j .none) = s := by rw [List.getD_eq_getElem?_getD, e]; rfl
    rw [e2]
    exact ⟨by have := hl j hj; omega, l2⟩
  refine h ω' _ X _ _ fit D _ (upd F6 S (.lst xs)) H5 sub7 (((s.mono g7.f).set (.lst kf7.hE (Das.map fun j hj => envD j (List.mem_range.mp hj)))).set ?_) p2 J7 (fun σ3 e3 γ3 F3 H3 y1 y2 y3 y4 y5 => q σ3 e3 γ3 F3 H3 (g7.trans y1) y2 y3 y4 y5) fun v d γ3 F3 H3 y1 y2 y3 y4 => r v d γ3 F3 H3 (g7.trans y1) y2 y3 y4
  rw [← ssE]
  exact .lst upd_same (dS.mono s57)
end
end Pa
/-! par -/
namespace Pa
open PySem L2 PyProof.Rows
local macro_rules | `(tactic| walk_at "ed") => `(tactic| first
  | ((with_reducible show ED _ (tVar _) _ _); exact ed_var rfl)
  | ((with_reducible show ED _ (tC _) _ _); first | exact ed_int | exact ed_str | exact ed_non | exact ed_bl | exact ed_tupC T.fF | exact ed_tupC T.fS)
  | ((with_reducible show EA _ tNil _ _); exact ea_nil) | ((with_reducible show EA _ (tCons _ _) _ _); exact ea_cons (by walk_at "ed") (by walk_at "ed"))
  | ((with_reducible show ED _ (tTup _) _ _); exact ed_tup (by walk_at "ed")) | ((with_reducible show ED _ (tLst _) _ _); exact ed_lst (by walk_at "ed"))
  | ((with_reducible show ED _ (tOp (rI0 fun i j => V.int (i + j)) _ _) _ _); exact ed_add (by walk_at "ed") (by walk_at "ed"))
  | ((with_reducible show ED _ (tOp (rI0 fun i j => V.int (i - j)) _ _) _ _); exact ed_sub (by walk_at "ed") (by walk_at "ed"))
  | ((with_reducible show ED _ (tOp (rI0 fun i j => V.int (Builtin.bitAnd i j)) _ _) _ _); exact ed_and (by walk_at "ed") (by walk_at "ed"))
  | ((with_reducible show ED _ (tOp (rIxT _) _ (tC (.int 0))) _ _); exact ed_ix0 (by walk_at "ed")) | ((with_reducible show ED _ (tOp (rIxT _) _ (tC (.int 1))) _ _); exact ed_ix1 (by walk_at "ed"))
  | ((with_reducible show ED _ (tOp (rIxT _) _ (tC (.int 2))) _ _); exact ed_ix2 (by walk_at "ed")) | ((with_reducible show ED _ (tOp (rIxT _) _ (tC (.int 3))) _ _); exact ed_ix3 (by walk_at "ed"))
  | ((with_reducible show ED _ (tSl _ _ tNoPart (tPart _)) _ _); exact ed_take (by walk_at "ed") (by walk_at "ed")) | ((with_reducible show ED _ (tSl _ _ (tPart _) tNoPart) _ _); exact ed_dropI (by walk_at "ed") (by walk_at "ed") rfl)
  | ((with_reducible show ED _ (tOp rEq _ _) _ _); exact ed_eqS (by walk_at "ed") (by walk_at "ed"))
  | ((with_reducible show ED _ (tOp rEq _ _) _ _); exact ed_eqI (by walk_at "ed") (by walk_at "ed"))
  | ((with_reducible show ED _ (tOp (fun x y H Q => y = V.non ∧ Q (V.bl (decide (x = V.non))) H) _ _) _ _); exact ed_isN (by walk_at "ed"))
  | ((with_reducible show ED _ (tOp (rIn _ false) _ _) _ _); exact ed_in2 (by walk_at "ed"))
  | ((with_reducible show ED _ (tCB _ _) _ _); exact ed_len (by walk_at "ed")))
local macro_rules | `(tactic| walk_at "eb") => `(tactic| first
  | ((with_reducible show EB _ (tTest (tOp (rIn _ false) _ _)) _ _); exact (eb_cmp (ed_in2 (by walk_at "ed"))).eq (by decide +kernel))
  | ((with_reducible show EB _ (tTest (tOp rEq _ _)) _ _); exact (eb_cmp (ed_eqS (by walk_at "ed") (by walk_at "ed"))).eq (by decide +kernel)))

section
variable {P : Program} {w : World} {K : PySem.W.Frag} {mg : Str → Option Value} {base : Heap} {tW : Tok} {aF aS : Addr}
abbrev rowD (r : Nat × Sm) : PyData := .tuple [dn r.1, r.2.d]
/-- a child's statement from its items and a last one -/
theorem kid_of {E : Sur} {X : List Nat} {lvl : Nat} {ω ω' : Wo} {ss : List Sm} {s1 : Sm} (hD : 3 ≤ hgt lvl) (g : Grown E X (hgt lvl) (kap lvl) ω ω' ss) (n1 : s1.nb = 0) (w1 : s1.wk ≤ 7) (k1 : ∀ ps i S, SurIn E S → SmOk ps 3 i S s1) : KidS E X (hgt lvl + 1) (kap lvl) ω ω' (.seq (ss ++ [s1])) := by
  refine ⟨g.w, ?_, ?_, fun i ps S hp hi hE hX hN => ?_⟩
  · have := g.nb
    simp only [Sm.nb, nbL_append, nbL, n1]
    omega
  · have := g.wk
    simp only [Sm.wk, wkL_append, wkL]
    omega
  · obtain ⟨more, y1, y2⟩ := g.ok i ps S hp hi hE hX hN
    refine ⟨more, y1, fun s hs => ?_⟩
    rw [List.mem_singleton.mp hs]
    refine .seq fun y hy => ?_
    rcases List.mem_append.mp hy with z | z
    · exact y2 y z
    · rw [List.mem_singleton.mp z]
      exact (k1 _ i S hE).mono (fun _ _ z => z) hD (Fp.Le.refl S)
abbrev s_par : Stmt := topS 57
theorem sc_par : FnScope ["_law_state_here", "_law_env_here", "_law_world", "_law_deep", "_law_many", "_law_k", "_law_envs", "_law_scripts", "_law_rows", "_law_thread", "_law_script", "_law_at"] ["_law_state_here", "_law_env_here", "_law_world", "_law_deep"] (defScope s_par) := ⟨rfl, rfl, rfl, by decide +kernel, rfl, by decide +kernel, by decide +kernel⟩
abbrev CEnv (P : Program) (w : World) (K : PySem.W.Frag) (mg : Str → Option Value) (base : Heap) : Prop := Cal P w K mg base 2 "_law_env" ["_law_state_here", "_law_world"] (spEnv K)
abbrev CMeet (P : Program) (w : World) (K : PySem.W.Frag) (mg : Str → Option Value) (base : Heap) : Prop := Cal P w K mg base 3 "_law_meetings" ["_law_state_here", "_law_world", "_law_scripts", "_law_envs"] (spMeet K)
abbrev CShare (P : Program) (w : World) (K : PySem.W.Frag) (mg : Str → Option Value) (base : Heap) : Prop := Cal P w K mg base 2 "_law_shared" ["_law_state_here", "_law_env_here", "_law_envs", "_law_scripts"] (spShare K)
abbrev CFaulty (P : Program) (w : World) (K : PySem.W.Frag) (mg : Str → Option Value) (base : Heap) : Prop := Cal P w K mg base 2 "_law_faulty" ["_law_state_here", "_law_script"] (spS K preFaulty rFaulty)
theorem ok_par (T : Txt K mg tW aF aS) (d : Def K mg "_law_par" s_par) (c_draw : CDraw P w K mg base) (c_env : CEnv P w K mg base) (c_meetings : CMeet P w K mg base) (c_shared : CShare P w K mg base) (c_faulty : CFaulty P w K mg base) (c_simple : CSimple P w K mg base)
    {deep k : Nat} (hdp : deep ≤ 1) (hk : 9 ≤ k) (c_items : Cal P w K mg base k "_law_items" ["_law_state_here", "_law_env_here", "_law_world", "_law_items_here"] (spWG K (preItems (deep + 2)) (rItems (deep + 2)))) :
    Cal P w K mg base (k + 1) "_law_par" ["_law_state_here", "_law_env_here", "_law_world", "_law_deep"] (spWG K (prePar deep) (rPar deep)) := by
  refine d.genWG sc_par rfl (fun _ _ _ _ _ _ us hl => match us, hl with | [_, _, _, _], _ => rfl) fun f cdv A outer s H E0' a c wd ch E d0 d1 ω hr ⟨h, h1, hE, hBd, hi, hle⟩ => ?_
  subst h
  subst h1
  have hu := hu_of hr
  refine ⟨_, 
      (pss_cons (ps_set (i := 4) sc_par.nd rfl (Or.inl rfl) (pe_callB (call_min2 rfl) (by rfl) T.min (by decide +kernel) (pa_cons (pe_dget hu (pv 2) pe_str (fun _ _ => rfl)) (pa_cons (pe_op op_add pe_int (pe_cal c_draw (hr.mono (by omega)) (pa_cons (pv 0) (pa_cons pe_int pa_nil)))) pa_nil))))
      (pss_cons (ps_if (pt_cmpR op_lt (pv 4) pe_int (nomark _)) (pss_one (ps_ret (pe_tup (pa_cons pe_str pa_nil)))) pss_nil)
      (pss_cons (ps_dput hu (pv 2) pe_str (pe_op op_sub (pe_dget hu (pv 2) pe_str (fun _ _ => rfl)) (pv 4)) rfl)
      (pss_cons (ps_setLc (i := 6) (own := [("_law_k", 5)]) (g := gName 5) (tt := tYes) rfl sc_par.nd rfl rfl (sw_true rfl rfl rfl (by decide +kernel)) (pi_range1 rfl T.range (pa_cons (pv 4) pa_nil)) (blkOk_by (own := [("_law_k", 5)]) (N := ["_law_state_here", "_law_env_here", "_law_world", "_law_deep", "_law_many", "_law_k", "_law_envs", "_law_scripts", "_law_rows", "_law_thread", "_law_script", "_law_at"]) (sc := defScope s_par) (by decide +kernel)) (fun _ _ _ _ _ => (pg_name (i := 5) sc_par.nd rfl (Or.inl rfl))) (fun _ _ _ _ _ => pts_nil) (fun _ _ _ _ _ => (pe_cal c_env (hr.mono (by omega)) (pa_cons (pv 0) (pa_cons (pv 2) pa_nil)))))
      (pss_cons (ps_setLc (i := 7) (own := [("_law_k", 5)]) (g := gName 5) (tt := tYes) rfl sc_par.nd rfl rfl (sw_true rfl rfl rfl (by decide +kernel)) (pi_range1 rfl T.range (pa_cons (pv 4) pa_nil)) (blkOk_by (own := [("_law_k", 5)]) (N := ["_law_state_here", "_law_env_here", "_law_world", "_law_deep", "_law_many", "_law_k", "_law_envs", "_law_scripts", "_law_rows", "_law_thread", "_law_script", "_law_at"]) (sc := defScope s_par) (by decide +kernel)) (fun _ _ _ _ _ => (pg_name (i := 5) sc_par.nd rfl (Or.inl rfl))) (fun _ _ _ _ _ => pts_nil) (fun _ _ _ _ _ => (pe_lst pa_nil)))
      (pss_cons (ps_expr (pe_cal c_meetings (hr.mono (by omega)) (pa_cons (pv 0) (pa_cons (pv 2) (pa_cons (pv 7) (pa_cons (pv 6) pa_nil))))))
      (pss_cons (ps_expr (pe_cal c_shared (hr.mono (by omega)) (pa_cons (pv 0) (pa_cons (pv 1) (pa_cons (pv 6) (pa_cons (pv 7) pa_nil))))))
      (pss_cons (ps_set (i := 8) sc_par.nd rfl (Or.inl rfl) (pe_lst pa_nil))
      (pss_cons (ps_for PassesOwn.never rfl (pi_range1 rfl T.range (pa_cons (pv 4) pa_nil)) (pg_name (i := 5) sc_par.nd rfl (Or.inl rfl))
      (pss_cons (ps_set (i := 9) sc_par.nd rfl (Or.inl rfl) (pe_dget hu (pv 2) pe_str (fun _ _ => rfl))) (pss_cons (ps_dput hu (pv 2) pe_str (pe_op op_add (pv 9) pe_int) rfl)
      (pss_cons (ps_set (i := 10) sc_par.nd rfl (Or.inl rfl) (pe_cal c_faulty (hr.mono (by omega)) (pa_cons (pv 0) (pa_cons (pe_ix ix_list (pv 7) (pv 5) (fun _ _ => rfl)) pa_nil))))
      (pss_cons (ps_if (PW.pt (pw_and (pt_cmpR op_gt (pv 3) pe_int (nomark _)) (pw_and1 (pt_cmpR op_eq (pe_cal c_draw (hr.mono (by omega)) (pa_cons (pv 0) (pa_cons pe_int pa_nil))) pe_int (nomark _)))))
      (pss_cons (ps_set (i := 11) sc_par.nd rfl (Or.inl rfl) (pe_cal c_draw (hr.mono (by omega)) (pa_cons (pv 0) (pa_cons (pe_op op_add (pe_callB call_len_seq (by rfl) T.len (by decide +kernel) (pa_cons (pv 10) pa_nil)) pe_int) pa_nil))))
      (pss_one (ps_set (i := 10) sc_par.nd rfl (Or.inl rfl) (pe_op op_cat (pe_op op_cat (pe_slice sl_list (pv 10) po_none (po_some (pv 11))) (pe_lst (pa_cons (pe_tup (pa_cons pe_str pa_nil)) pa_nil))) (pe_slice sl_list (pv 10) (po_some (pv 11)) po_none))))) pss_nil)
      (pss_one (ps_expr (pe_bm PySem.F.plainAttrs_list PySem.F.slot_list_append PySem.F.type_list_append mt_append (pv 8) (pa_cons (pe_tup (pa_cons (pv 9) (pa_cons (pe_tup (pa_cons pe_str (pa_cons (pe_op op_cat (pe_cal c_items (hr.mono (by omega)) (pa_cons (pv 0) (pa_cons (pe_ix ix_list (pv 6) (pv 5) (fun _ _ => rfl)) (pa_cons (pv 2) (pa_cons (pv 10) pa_nil))))) (pe_lst (pa_cons (pe_cal c_simple (hr.mono (by omega)) (pa_cons (pv 0) (pa_cons (pe_ix ix_list (pv 6) (pv 5) (fun _ _ => rfl)) pa_nil))) pa_nil))) pa_nil))) pa_nil))) pa_nil)))))))))
      (pss_one (ps_ret (pe_tup (pa_cons pe_str (pa_cons (pv 8) pa_nil)))))))))))))), ?_⟩
  let pn : List (Nat × V) := [(0, V.ref a), (2, V.ref wd)]
  have ha : (0, V.ref a) ∈ pn := List.mem_cons_self ..
  have hw : (2, V.ref wd) ∈ pn := List.mem_cons_of_mem _ (List.mem_cons_self ..)
  have lS : Lift (RS a c) (RW a c wd ch) (fun _ => ()) (fun ω _ => ω) := lift_RW
  have hD3 : 3 ≤ hgt (deep + 2) := by
    have : deep = 0 ∨ deep = 1 := by omega
    rcases this with z | z <;> (rw [z]; decide)
  refine xs_let (P := fun d ω' => ω' = ω ∧ ∃ n : Nat, d = dn n ∧ n ≤ ω.left ∧ n ≤ 4) ((xn_min (A := fun i ω' => i = ω.left ∧ ω' = ω) (B := fun i j ω' => i = ω.left ∧ j ≤ 4 ∧ ω' = ω) ((w_left hw).mono fun d ω' x => ⟨_, x.1, rfl, x.2⟩) fun i ω1 x => (xn_draw1 (i := 2) (m := 3) lS (fun _ => rfl) ed_int (by decide) (by decide) ha).mono' fun k ω' y => ⟨x.1, by omega, y.2.2.trans x.2⟩).mono fun d ω' ⟨n, h1, i, j, h2, h3, h4, h5⟩ => ⟨h5, n, h1, by omega, by omega⟩) fun dd ω1 ⟨h1, n, h2, hnl, hn4⟩ => ?_
  subst h1
  subst h2
  refine xs_guard (xb_eb (eb_cmp (ed_lt (ed_var (i := 4) rfl) ed_int))) (fun ω2 hx => ?_) fun ω2 hx => ?_
  · obtain ⟨_, rfl⟩ := hx
    refine xs_ret ((xe_ed (ed_tup (ea_cons ed_str ea_nil))).mono fun d ω' x => ⟨.skip, x.1, ?_⟩)
    rw [x.2]
    have hp : ∃ m, pHgt deep = m + 1 := by
      have : deep = 0 ∨ deep = 1 := by omega
      rcases this with z | z
      · rw [z]; exact ⟨6, rfl⟩
      · rw [z]; exact ⟨11, rfl⟩
    refine ⟨Wle.refl _, Nat.zero_add _, by show 1 + _ + _ ≤ _; omega, Made.one fun ps i S hS => ?_⟩
    obtain ⟨m, e⟩ := hp
    rw [e]
    exact .skip
  obtain ⟨hx, rfl⟩ := hx
  have hn2 : 2 ≤ n := by have := of_decide_eq_false hx.symm; omega
  let ω1 : Wo := { ω2 with left := ω2.left - n }
  refine xs_seq (N1 := fun e' ω' => e' = [none, some E.d, none, some (dn deep), some (dn n), none, none, none, none, none, none, none] ∧ ω' = ω1) ((xs_wput (N := fun ω3 => ω3 = ω1) (Z := fun d ω' => rPar deep E E.d (dn deep) ω2 d ω') hw (xe_op (res := fun d1 d2 => match d1, d2 with | .int i, .int j => .int (i - j) | _, _ => .none) (P2 := fun d1 d2 ω3 => d1 = dn ω2.left ∧ d2 = dn n ∧ ω3 = ω2) (w_left hw) (fun d1 ω3 x => (xe_ed (ed_var (i := 4) rfl)).mono fun d2 ω4 y => ⟨x.1, y.1, y.2.trans x.2⟩) fun d1 d2 ω3 x => by
      obtain ⟨rfl, rfl, _⟩ := x
      exact rd_I0 (f := fun i j => .int (i - j)) fun i j H => .int _) fun d ω3 x => by
        obtain ⟨d1, d2, ⟨rfl, rfl, rfl⟩, rfl⟩ := x
        exact ⟨ω3.left - n, _, congrArg PyData.int (by omega), put_left, rfl, rfl⟩).mono (fun e' ω' x => x) fun _ _ z => z) fun e1 ω3 ⟨he, hω⟩ => ?_
  subst he
  subst hω
  have hBd1 : SurBd E ω1 := hBd.go (Nat.le_refl _) (Nat.le_refl _) (by show ω2.cells + 40 * (ω2.left - n) + ω2.items ≤ _; omega) fun h => h
  refine xs_kids (n := n) (E := E) hn2 (by omega) rfl rfl rfl hE hBd1 (by have := hBd.pot; show ω2.cells + 40 * (ω2.left - n) + ω2.items + 40 * n ≤ 5000; omega) ha hw rfl rfl rfl rfl fun ω3 Es Xs ss Bs fit => ?_
  let e7 : DE := [none, some E.d, none, some (dn deep), some (dn n), none, some (.list ((List.range n).map fun j => (Es j).d)), some (.list ((List.range n).map fun j => .list (ss j))), none, none, none, none]
  let I : Nat → Wo × List PyData → Prop := fun k δ => ∃ rows, δ.2 = rows.map rowD ∧ RowsG Es Xs (hgt (deep + 2) + 1) (kap (deep + 2)) ω3 k δ.1 rows ∧ (deep = 0 → δ.1.left = ω3.left)
  refine xs_ownX (R := RW a c wd ch) (P1 := I n) (i := 8) rfl xl_nil rfl (fun p ds ω4 ⟨h1, h2⟩ => ?loop) fun δ hI => ?ret
  case ret =>
    obtain ⟨rows, h1, h2, h3⟩ := hI
    obtain ⟨ω4, ds⟩ := δ
    dsimp only at h1 h2 h3
    subst h1
    refine xs_ret ((xe_ed (ed_tup (ea_cons ed_str (ea_cons (ed_var (i := 8) rfl) ea_nil)))).mono fun d ω' x => ⟨.par rows, ?_, ?_⟩)
    · rw [x.1]
      show PyData.tuple [.str "par", .list (rows.map rowD)] = PyData.tuple [.str "par", .list (rowsD rows)]
      rw [rowsD_map]
    · rw [x.2]
      dsimp only
      have wr := h2.wrow
      have f1 : ω3.nth = ω2.nth := fit.nt
      have f2 : ω3.left = ω2.left - n := fit.lf
      have f3 : ω3.items = ω2.items := fit.it
      have f4 : ω2.cells ≤ ω3.cells := fit.ce
      have f5 : ω3.cells ≤ ω2.cells + 9 * n := fit.ce2
      obtain ⟨m1, f6⟩ := fit.ch
      obtain ⟨m2, f7⟩ := wr.ch
      have f6' : ω3.ch = ω2.ch ++ List.replicate m1 ("inner" : Str) := f6
      have w1 := wr.th
      have w2 := wr.le
      have w3 := wr.ce
      have w4 := wr.pot
      have w5 := wr.it
      have k1 := h2.wk
      have n1 := h2.nb
      refine ⟨⟨wr.lo.trans fit.lo, by omega, by omega, by omega, by omega, by omega, ⟨m1 + m2, by rw [f7, f6', List.append_assoc, List.replicate_append_replicate]⟩, fun _ => wr.c24 fit.c24⟩, ?_, ?_, ?_⟩
      · show nbR rows + ω2.nth = ω4.nth
        omega
      · show 2 + wkR rows + pKap deep * ω4.items + pLam deep * ω4.left ≤ 2 + pKap deep * ω2.items + pLam deep * ω2.left
        have hdc : deep = 0 ∨ deep = 1 := by omega
        rcases hdc with z | z
        · subst z
          have e1 : kap (0 + 2) = 60 := rfl
          have e2 : pKap 0 = 60 := rfl
          have e3 : pLam 0 = 8 := rfl
          have e4 := h3 rfl
          rw [e1] at k1
          rw [e2, e3]
          omega
        · subst z
          have e1 : kap (1 + 2) = 300 := rfl
          have e2 : pKap 1 = 300 := rfl
          have e3 : pLam 1 = 16 := rfl
          rw [e1] at k1
          rw [e2, e3]
          omega
      · have hH : pHgt deep = hgt (deep + 2) + 1 + 1 := by
          have hdc : deep = 0 ∨ deep = 1 := by omega
          rcases hdc with z | z <;> (rw [z]; rfl)
        rw [hH]
        have chl : ω2.ch.length ≤ ω3.ch.length := by rw [f6', List.length_append]; omega
        exact h2.made fit.lt fit.cp fit.inn (f1.symm) ⟨by omega, f4, chl⟩ fun S hS hN j hj => fit.le S hS ⟨fun k q1 q2 => hN.cell k q1 q2, fun c q1 q2 => hN.chan c q1 q2⟩ j hj
  case loop =>
    subst h1
    subst h2
    let pn8 : List (Nat × V) := (8, V.ref p) :: pn
    have ha8 : (0, V.ref a) ∈ pn8 := List.mem_cons_of_mem _ ha
    have hw8 : (2, V.ref wd) ∈ pn8 := List.mem_cons_of_mem _ hw
    have hp8 : (8, V.ref p) ∈ pn8 := List.mem_cons_self ..
    show XS K ((RW a c wd ch).own K p) _ e7 pn8 (ω4, []) _ _
    have I0 : I 0 (ω4, []) := ⟨[], rfl, .nil, fun _ => rfl⟩
    refine (xs_range (ws := [5]) (P1 := fun d δ => d = dn n ∧ δ = (ω4, [])) I ((xe_ed (ed_var (i := 4) rfl)).mono fun d δ x => ⟨n, x.1, rfl, x.2⟩) (fun m δ ⟨h1, h2⟩ => ⟨by have := dn_inj h1; omega, by rw [h2]; exact I0⟩) rfl (fun m δ6 k2 δ hP hk2 hI => ⟨_, eg_name, ?_⟩)).mono (fun e' δ ⟨h0, m, γ1, ⟨hn', _⟩, hJ⟩ => ⟨h0, by have := dn_inj hn'; subst this; exact hJ⟩) (fun _ _ x => x)
    have hk2' : k2 < n := by have := dn_inj hP.1; omega
    clear hP
    obtain ⟨rows, h1, h2, h3⟩ := hI
    obtain ⟨ω5, ds⟩ := δ
    dsimp only at h1 h2 h3
    subst h1
    let e8 : DE := [none, some E.d, none, some (dn deep), some (dn n), some (dn k2), some (.list ((List.range n).map fun j => (Es j).d)), some (.list ((List.range n).map fun j => .list (ss j))), none, none, none, none]
    have f3 : ω4.items = ω2.items := fit.it
    have f2 : ω4.left = ω2.left - n := fit.lf
    have wr := h2.wrow
    have rl := h2.len
    have gE : ((List.range n).map fun j => (Es j).d)[k2]? = some (Es k2).d := by rw [List.getElem?_map, List.getElem?_range hk2']; rfl
    have gS : ((List.range n).map fun j => PyData.list (ss j))[k2]? = some (.list (ss k2)) := by rw [List.getElem?_map, List.getElem?_range hk2']; rfl
    have bd5 : SurBd (Es k2) ω5.next := (fit.bd k2 hk2').go wr.ce (by
      obtain ⟨m, e⟩ := wr.ch
      show ω4.ch.length ≤ ω5.ch.length
      rw [e, List.length_append]
      omega) wr.pot wr.c24
    have it5 : ω5.next.items ≤ 1000 := by have := wr.it; show ω5.items ≤ 1000; omega
    have le5 : ω5.next.left ≤ 1000 := by have := wr.le; show ω5.left ≤ 1000; omega
    show XS K ((RW a c wd ch).own K p) _ e8 pn8 (ω5, rows.map rowD) _ _
    refine xs_let (P := fun d δ => d = dn ω5.nth ∧ δ = (ω5, rows.map rowD)) ((XE.lift (δ := (ω5, rows.map rowD)) lift_own (w_threads hw8)).mono fun d δ ⟨ω', ⟨x, y⟩, z⟩ => ⟨x, by rw [z, y]⟩) fun dt δ ⟨h4, h5⟩ => ?_
    subst h4
    subst h5
    let e9 : DE := [none, some E.d, none, some (dn deep), some (dn n), some (dn k2), some (.list ((List.range n).map fun j => (Es j).d)), some (.list ((List.range n).map fun j => .list (ss j))), none, some (dn ω5.nth), none, none]
    refine xs_seq (N1 := fun e' δ => e' = e9 ∧ δ = (ω5.next, rows.map rowD)) ((XS.lift (δ := (ω5, rows.map rowD)) lift_own (xs_wput (N := fun ω3 => ω3 = ω5.next) (Z := fun _ _ => False) hw8 (xe_op (res := fun d1 d2 => match d1, d2 with | .int i, .int j => .int (i + j) | _, _ => .none) (P2 := fun d1 d2 ω3 => d1 = dn ω5.nth ∧ d2 = .int 1 ∧ ω3 = ω5) (xe_ed (ed_var (i := 9) rfl)) (fun d1 ω3 x => (xe_ed ed_int).mono fun d2 ω4 y => ⟨x.1, y.1, y.2.trans x.2⟩) fun d1 d2 ω3 x => by
      obtain ⟨rfl, rfl, _⟩ := x
      exact rd_I0 (f := fun i j => .int (i + j)) fun i j H => .int _) fun d ω3 x => by
        obtain ⟨d1, d2, ⟨rfl, rfl, rfl⟩, rfl⟩ := x
        exact ⟨ω3.nth + 1, _, congrArg PyData.int (by omega), put_threads, rfl, rfl⟩)).mono (fun e' γ' ⟨ω3, ⟨h1, h2⟩, h3⟩ => ⟨h1, by rw [h3, h2]⟩) fun _ _ ⟨_, z, _⟩ => z) fun e1 δ ⟨he, hδ⟩ => ?_
    subst he
    subst hδ
    let cur : Wo × List PyData := (ω5.next, rows.map rowD)
    have l1 := (fit.its k2 hk2').1
    refine xs_let (P := fun d δ => δ = cur ∧ ∃ ys : List PyData, d = .list ys ∧ (∀ y, y ∈ ys → y ∈ ss k2) ∧ ys.length ≤ 1000) ((XE.lift (δ := cur) lift_own (XE.w (xe_callD (ds := [.list (ss k2)]) (ea_cons (ed_ixL (n := k2) (ed_var (i := 7) rfl) (ed_var (i := 5) rfl) gS) ea_nil) (show preFaulty [.list (ss k2)] from ⟨ss k2, rfl, by omega⟩) ha8))).mono fun d δ ⟨ω', ⟨⟨xs, ys, x1, x2, x3, x4⟩, y⟩, z⟩ => ⟨by rw [z, y], ys, x2, by
      simp only [List.cons.injEq, and_true, PyData.list.injEq] at x1
      rw [x1]; exact x3, by
      simp only [List.cons.injEq, and_true, PyData.list.injEq] at x1
      rw [← x1] at x4; omega⟩) fun dt δ ⟨h4, ys, h5, hys, hyl⟩ => ?_
    subst h4
    subst h5
    let e10 : List PyData → DE := fun ys => [none, some E.d, none, some (dn deep), some (dn n), some (dn k2), some (.list ((List.range n).map fun j => (Es j).d)), some (.list ((List.range n).map fun j => .list (ss j))), none, some (dn ω5.nth), some (.list ys), none]
    have base_it : ∀ y, y ∈ ys → IsItem (Es k2) (Xs k2) (deep + 2) y := fun y hy => by
      have h4 := (fit.its k2 hk2').2 y (hys y hy)
      have hdc : deep = 0 ∨ deep = 1 := by omega
      rcases hdc with z | z
      · rw [z]; exact h4
      · rw [z]
        rcases h4 with h4 | h4
        · exact .inl h4
        · exact .inr (.inl h4)
    refine xs_seq (N1 := fun e' δ => ∃ its : List PyData, Forg e' (e10 its) ∧ δ = cur ∧ its.length ≤ 1001 ∧ ∀ y, y ∈ its → IsItem (Es k2) (Xs k2) (deep + 2) y) (xs_if (PB := fun b δ => δ = cur ∧ (b = true → 0 < deep)) (xb_and (PB1 := fun b δ => δ = cur ∧ b = decide ((0 : Int) < (deep : Int))) ((xb_eb (eb_cmp (ed_gt (ed_var (i := 3) rfl) ed_int))).mono fun b δ x => ⟨x.2, x.1⟩) (fun δ1 h => by
        obtain ⟨h4, h5⟩ := h
        subst h4
        exact (XB.lift (δ := cur) lift_own (XB.w (xb_eqC (xe_drawC (m := 3) ed_int (by decide) (by decide) ha8) fun d ⟨k, hd, _⟩ => ⟨k, hd⟩))).mono fun b δ ⟨ω', ⟨_, y⟩, z⟩ => ⟨by rw [z, y], fun _ => by have := of_decide_eq_true h5.symm; omega⟩) fun δ1 h => ⟨h.1, fun z => nomatch z⟩) (fun δ1 h => ?nest) fun δ1 h => xs_next.mono (fun e' δ x => ⟨ys, by rw [x.1]; exact .keep (.keep (.keep (.keep (.keep (.keep (.keep (.keep (.keep (.keep (.keep (.keep .nil))))))))))), by rw [x.2, h.1], by omega, base_it⟩) fun _ _ z => z) fun e' δ ⟨its, hf, hδ, hil, hits⟩ => ?app
    case nest =>
      obtain ⟨h4, h5⟩ := h
      subst h4
      have hd1 : deep = 1 := by have := h5 rfl; omega
      refine xs_let (P := fun d δ => δ = cur ∧ ∃ j : Nat, d = dn j ∧ j ≤ ys.length) ((XE.lift (δ := cur) lift_own (XE.w (xe_drawC (m := ys.length + 1) ((ed_add (ed_len (ed_var (i := 10) rfl)) ed_int).eq (congrArg PyData.int (by omega))) (by omega) (by omega) ha8))).mono fun d δ ⟨ω', ⟨⟨j, x1, x2⟩, y⟩, z⟩ => ⟨by rw [z, y], j, x1, by omega⟩) fun dj δ ⟨h6, j, h7, hj⟩ => ?_
      subst h6
      subst h7
      refine (xs_set (xe_ed (ed_cat (ed_cat (ed_take (ed_var (i := 10) rfl) (ed_var (i := 11) rfl)) (ed_lst (ea_cons (ed_tup (ea_cons ed_str ea_nil)) ea_nil)) ?z1) (ed_dropI (n := j) (ed_var (i := 10) rfl) (ed_var (i := 11) rfl) rfl) ?z2))).mono (fun e' δ ⟨d, x, y⟩ => ?z3) fun _ _ z => z
      case z1 =>
        rw [List.length_take]
        show _ + 1 ≤ _
        omega
      case z2 =>
        rw [List.length_append, List.length_take, List.length_drop]
        show _ + 1 + _ ≤ _
        omega
      case z3 =>
        rw [y, x.1, x.2]
        refine ⟨_, .keep (.keep (.keep (.keep (.keep (.keep (.keep (.keep (.keep (.keep (.keep (.drop .nil))))))))))), rfl, ?_, fun y hy => ?_⟩
        · simp only [List.length_append, List.length_take, List.length_drop, List.length_cons, List.length_nil]
          omega
        · simp only [List.mem_append, List.mem_cons, List.not_mem_nil, or_false] at hy
          rcases hy with (hy | hy) | hy
          · exact base_it y (List.mem_of_mem_take hy)
          · rw [hy, hd1]; exact .inr (.inr rfl)
          · exact base_it y (List.mem_of_mem_drop hy)
    case app =>
      subst hδ
      have rdE : ED K (tOp (rIxL K) (tVar 6) (tVar 5)) (e10 its) (Es k2).d := ed_ixL (n := k2) (ed_var rfl) (ed_var rfl) gE
      have okE := fit.ok k2 hk2'
      have itemsX : XE K (RW a c wd ch) (tCall (spWG K (preItems (deep + 2)) (rItems (deep + 2))) [] E0 (tCons (tVar 0) (tCons (tOp (rIxL K) (tVar 6) (tVar 5)) (tCons (tVar 2) (tCons (tVar 10) tNil))))) (e10 its) pn8 ω5.next (fun d ω' => ∃ sl : List Sm, d = .list (sl.map Sm.d) ∧ Grown (Es k2) (Xs k2) (hgt (deep + 2)) (kap (deep + 2)) ω5.next ω' sl ∧ (deep = 0 → ω'.left = ω5.next.left)) :=
        (xe_callG (g := (Es k2, Xs k2)) (Pk := fun d ω' => d = .list its ∧ ω' = ω5.next) ha8 hw8 rdE (xe_ed (ed_var (i := 10) rfl)) fun d1 ω' hx => ⟨rfl, okE, by rw [hx.2]; exact bd5, by rw [hx.2]; exact it5, by rw [hx.2]; exact le5, its, hx.1, hits⟩).mono fun d ω' ⟨d1, ω6, ⟨x1, x2⟩, sl, x3, x4, x5⟩ => by
          subst x2
          exact ⟨sl, x3, x4, fun h => x5 (by omega)⟩
      have simpX : ∀ ω', XE K (RW a c wd ch) (tCall (spS K preEnv rSimple) [] E0 (tCons (tVar 0) (tCons (tOp (rIxL K) (tVar 6) (tVar 5)) tNil))) (e10 its) pn8 ω' (fun d ω'' => IsSm (Es k2) 3 7 d ∧ ω'' = ω') := fun ω' => XE.w (P := fun d _ => IsSm (Es k2) 3 7 d) ((xe_callD (ds := [(Es k2).d]) (Pre := preEnv) (Rr := rSimple) (ea_cons rdE ea_nil) ⟨Es k2, rfl, okE⟩ ha8).mono fun d γ' ⟨E', e1, x⟩ => by
        simp only [List.cons.injEq, and_true] at e1
        rw [Sur.inj e1]
        exact x)
      let Out : PyData → Wo → Prop := fun d ω' => ∃ s : Sm, d = rowD (ω5.nth, s) ∧ KidS (Es k2) (Xs k2) (hgt (deep + 2) + 1) (kap (deep + 2)) ω5.next ω' s ∧ (deep = 0 → ω'.left = ω5.next.left)
      have wl : ∀ {sl : List Sm} {ω'}, Grown (Es k2) (Xs k2) (hgt (deep + 2)) (kap (deep + 2)) ω5.next ω' sl → sl.length ≤ 400000 := fun {sl ω'} g => by
        have z1 := len_wkL sl
        have z2 := g.wk
        have z3 : kap (deep + 2) ≤ 300 := by
          unfold kap
          split <;> decide
        have z4 : kap (deep + 2) * ω5.next.items ≤ 300 * 1000 := Nat.mul_le_mul z3 it5
        omega
      have catX : XE K (RW a c wd ch) (tOp rCat (tCall (spWG K (preItems (deep + 2)) (rItems (deep + 2))) [] E0 (tCons (tVar 0) (tCons (tOp (rIxL K) (tVar 6) (tVar 5)) (tCons (tVar 2) (tCons (tVar 10) tNil))))) (tLst (tCons (tCall (spS K preEnv rSimple) [] E0 (tCons (tVar 0) (tCons (tOp (rIxL K) (tVar 6) (tVar 5)) tNil))) tNil))) (e10 its) pn8 ω5.next
          (fun d ω' => ∃ s : Sm, PyData.tuple [.str "seq", d] = s.d ∧ KidS (Es k2) (Xs k2) (hgt (deep + 2) + 1) (kap (deep + 2)) ω5.next ω' s ∧ (deep = 0 → ω'.left = ω5.next.left)) :=
        (xe_op (res := fun d1 d2 => match d1, d2 with | .list x, .list y => .list (x ++ y) | _, _ => .none) (P2 := fun d1 d2 ω' => ∃ sl s1, d1 = .list (sl.map Sm.d) ∧ d2 = .list [Sm.d s1] ∧ Grown (Es k2) (Xs k2) (hgt (deep + 2)) (kap (deep + 2)) ω5.next ω' sl ∧ (deep = 0 → ω'.left = ω5.next.left) ∧ s1.nb = 0 ∧ s1.wk ≤ 7 ∧ ∀ ps i S, SurIn (Es k2) S → SmOk ps 3 i S s1) itemsX (fun d ω' ⟨sl, x1, x2, x3⟩ => (xe_lst (PA := fun ds ω'' => ∃ x, ds = [x] ∧ IsSm (Es k2) 3 7 x ∧ ω'' = ω') ((xa_cons (P2 := fun d r ω'' => IsSm (Es k2) 3 7 d ∧ r = [] ∧ ω'' = ω') (simpX ω') fun d1 ω'' y => xa_nil.mono fun ds ω3 u => ⟨y.1, u.1, u.2.trans y.2⟩).mono fun ds ω'' ⟨d1, r, y1, y2, y3, y4⟩ => ⟨d1, by rw [y1, y3], y2, y4⟩) fun ds ω'' ⟨x, y, _⟩ => by rw [y]; show 1 ≤ 16000000; decide).mono fun d2 ω'' ⟨ds, ⟨x, y1, ⟨s1, y2, y3, y4, y5⟩, y6⟩, y7⟩ => ⟨sl, s1, x1, by rw [y7, y1, y2], by rw [y6]; exact x2, by rw [y6]; exact x3, y3, y4, y5⟩) fun d1 d2 ω' ⟨sl, s1, x1, x2, x3, _⟩ => by
          subst x1
          subst x2
          exact rd_cat (by rw [List.length_map]; have := wl x3; show _ + 1 ≤ _; omega)).mono fun d ω' ⟨d1, d2, ⟨sl, s1, x1, x2, x3, x4, x5, x6, x7⟩, x8⟩ => by
            subst x1
            subst x2
            refine ⟨.seq (sl ++ [s1]), ?_, kid_of hD3 x3 x5 x6 x7, x4⟩
            rw [x8]
            show PyData.tuple [.str "seq", .list (sl.map Sm.d ++ [s1.d])] = PyData.tuple [.str "seq", .list (smsD (sl ++ [s1]))]
            rw [smsD_map, List.map_append]
            rfl
      have rowX : XE K (RW a c wd ch) (tTup (tCons (tVar 9) (tCons (tTup (tCons (tC (.str "seq")) (tCons (tOp rCat (tCall (spWG K (preItems (deep + 2)) (rItems (deep + 2))) [] E0 (tCons (tVar 0) (tCons (tOp (rIxL K) (tVar 6) (tVar 5)) (tCons (tVar 2) (tCons (tVar 10) tNil))))) (tLst (tCons (tCall (spS K preEnv rSimple) [] E0 (tCons (tVar 0) (tCons (tOp (rIxL K) (tVar 6) (tVar 5)) tNil))) tNil))) tNil))) tNil))) (e10 its) pn8 ω5.next Out :=
        (xe_tup2L (ed_var (i := 9) rfl) (xe_tup2L ed_str catX)).mono fun d ω' ⟨x, ⟨y, ⟨s, z1, z2, z3⟩, z4⟩, z5⟩ => ⟨s, by rw [z5, z4, z1], z2, z3⟩
      refine XS.run' hf ((xs_app (Z := fun _ _ => False) rowX (by rw [List.length_map]; omega) hp8).mono (fun e' δ ⟨h4, d, ⟨s, h5, h6, h7⟩, h8⟩ => ?fin) fun _ _ z => z)
      case fin =>
        rw [h4]
        refine ⟨.keep (.keep (.keep (.keep (.keep (.drop (.keep (.keep (.keep (.drop (.drop (.keep .nil))))))))))), rows ++ [(ω5.nth, s)], ?_, h2.snoc h6, fun h => (h7 h).trans (h3 h)⟩
        rw [h8, h5, List.map_append]
        rfl
end
end Pa
/-! core -/
namespace Pa
open PySem L2 PyProof.Rows
local macro_rules | `(tactic| walk_at "ed") => `(tactic| first
  | ((with_reducible show ED _ (tVar _) _ _); exact ed_var rfl)
  | ((with_reducible show ED _ (tC _) _ _); first | exact ed_int | exact ed_str | exact ed_non | exact ed_bl | exact ed_tupC T.fF | exact ed_tupC T.fS)
  | ((with_reducible show EA _ tNil _ _); exact ea_nil) | ((with_reducible show EA _ (tCons _ _) _ _); exact ea_cons (by walk_at "ed") (by walk_at "ed"))
  | ((with_reducible show ED _ (tTup _) _ _); exact ed_tup (by walk_at "ed")) | ((with_reducible show ED _ (tLst _) _ _); exact ed_lst (by walk_at "ed"))
  | ((with_reducible show ED _ (tOp (rI0 fun i j => V.int (i + j)) _ _) _ _); exact ed_add (by walk_at "ed") (by walk_at "ed"))
  | ((with_reducible show ED _ (tOp (rI0 fun i j => V.int (i - j)) _ _) _ _); exact ed_sub (by walk_at "ed") (by walk_at "ed"))
  | ((with_reducible show ED _ (tOp (rI0 fun i j => V.int (Builtin.bitAnd i j)) _ _) _ _); exact ed_and (by walk_at "ed") (by walk_at "ed"))
  | ((with_reducible show ED _ (tOp (rIxT _) _ (tC (.int 0))) _ _); exact ed_ix0 (by walk_at "ed")) | ((with_reducible show ED _ (tOp (rIxT _) _ (tC (.int 1))) _ _); exact ed_ix1 (by walk_at "ed"))
  | ((with_reducible show ED _ (tOp (rIxT _) _ (tC (.int 2))) _ _); exact ed_ix2 (by walk_at "ed")) | ((with_reducible show ED _ (tOp (rIxT _) _ (tC (.int 3))) _ _); exact ed_ix3 (by walk_at "ed"))
  | ((with_reducible show ED _ (tSl _ _ tNoPart (tPart _)) _ _); exact ed_take (by walk_at "ed") (by walk_at "ed")) | ((with_reducible show ED _ (tSl _ _ (tPart _) tNoPart) _ _); exact ed_dropI (by walk_at "ed") (by walk_at "ed") rfl)
  | ((with_reducible show ED _ (tOp rEq _ _) _ _); exact ed_eqS (by walk_at "ed") (by walk_at "ed"))
  | ((with_reducible show ED _ (tOp rEq _ _) _ _); exact ed_eqI (by walk_at "ed") (by walk_at "ed"))
  | ((with_reducible show ED _ (tOp (fun x y H Q => y = V.non ∧ Q (V.bl (decide (x = V.non))) H) _ _) _ _); exact ed_isN (by walk_at "ed"))
  | ((with_reducible show ED _ (tOp (rIn _ false) _ _) _ _); exact ed_in2 (by walk_at "ed"))
  | ((with_reducible show ED _ (tCB _ _) _ _); exact ed_len (by walk_at "ed")))
local macro_rules | `(tactic| walk_at "eb") => `(tactic| first
  | ((with_reducible show EB _ (tTest (tOp (rIn _ false) _ _)) _ _); exact (eb_cmp (ed_in2 (by walk_at "ed"))).eq (by decide +kernel))
  | ((with_reducible show EB _ (tTest (tOp rEq _ _)) _ _); exact (eb_cmp (ed_eqS (by walk_at "ed") (by walk_at "ed"))).eq (by decide +kernel)))

section
variable {K : PySem.W.Frag} {F H : Hp} {σ : L2.St} {e : DE} {ta tb : TE} {ds es : List PyData}
theorem el_cat (ha : ED K ta e (.list ds)) (hb : ED K tb e (.list es)) (hz : ds.length + es.length ≤ 16000000) : EL K (tOp rCat ta tb) e (ds ++ es) := fun σ F H Q f s q => ha σ F H _ f s fun v F1 H1 z1 a1 => hb σ F1 H1 _ z1.sub (s.mono z1.f) fun v2 F2 H2 z2 a2 => by
  obtain ⟨a, xs, rfl, h1, h2⟩ := a1.lstI
  obtain ⟨b, ys, rfl, h3, h4⟩ := a2.lstI
  have z := z1.trans z2
  refine ⟨a, b, xs, ys, rfl, rfl, z2.sub _ _ (z2.f _ _ h1), z2.sub _ _ h3, by rw [h2.length, h4.length]; exact line_le hz, fun p hp => q p _ F2 _ (z.trans (Fz.loose z2.sub hp)) (z.h.free hp) (z2.sub.free hp) upd_same ((h2.mono z2.f).append h4)⟩
theorem SD.hid {i : Nat} {y : Option V} (s : SD K F σ e) (hi : e[i]? = some none) : SD K F (σ.set i y) e := ⟨by rw [List.length_set]; exact s.len, fun j d q => by
  have n : i ≠ j := fun z => by
    subst z
    rw [hi] at q
    cases q
  rw [List.getElem?_set_ne n]
  exact s.get j d q⟩
theorem merge_world {ω : Wo} {ch : Addr} : mergeK [] (worldKV ω ch) = worldKV ω ch := by
  have step : ∀ (l : List (Key × V)) (k : Str) (v : V), (∀ x, x ∈ l → ¬ x.1 = (.inr k : Key)) → putK l (.inr k) v = l ++ [(.inr k, v)] := fun l k v h => putK_new _ (by
    induction l with
    | nil => exact valV_nil
    | cons x r ih => rw [show x :: r = (x.1, x.2) :: r from rfl, valV_neg (h x (List.mem_cons_self ..))]; exact ih fun y hy => h y (List.mem_cons_of_mem _ hy))
  unfold mergeK
  simp only [worldKV, List.foldl_cons, List.foldl_nil]
  rw [step [] "threads" _ (fun x hx => (nomatch hx))]
  rw [step _ "left" _ (fun x hx => by simp only [List.nil_append, List.mem_cons, List.not_mem_nil, or_false] at hx; rw [hx]; exact nk (by decide +kernel))]
  rw [step _ "items" _ (fun x hx => by simp only [List.nil_append, List.cons_append, List.mem_cons, List.not_mem_nil, or_false] at hx; rcases hx with rfl | rfl <;> exact nk (by decide +kernel))]
  rw [step _ "cells" _ (fun x hx => by simp only [List.nil_append, List.cons_append, List.mem_cons, List.not_mem_nil, or_false] at hx; rcases hx with rfl | rfl | rfl <;> exact nk (by decide +kernel))]
  rw [step _ "channels" _ (fun x hx => by simp only [List.nil_append, List.cons_append, List.mem_cons, List.not_mem_nil, or_false] at hx; rcases hx with rfl | rfl | rfl | rfl <;> exact nk (by decide +kernel))]
  rw [step _ "alts" _ (fun x hx => by simp only [List.nil_append, List.cons_append, List.mem_cons, List.not_mem_nil, or_false] at hx; rcases hx with rfl | rfl | rfl | rfl | rfl <;> exact nk (by decide +kernel))]
  rw [step _ "loops" _ (fun x hx => by simp only [List.nil_append, List.cons_append, List.mem_cons, List.not_mem_nil, or_false] at hx; rcases hx with rfl | rfl | rfl | rfl | rfl | rfl <;> exact nk (by decide +kernel))]
  rfl
theorem put_takes {x0 x1 x2 x3 x4 y : V} : putK (envKV x0 x1 x2 x3 x4) (.inr "takes") y = envKV x0 x1 x2 x3 y := by
  rw [putK_map (by rw [env_val4]; rfl)]
  simp only [envKV, List.map_cons, List.map_nil, nk2 (x := "cells") (y := "takes") (by decide +kernel), nk2 (x := "reads") (y := "takes") (by decide +kernel), nk2 (x := "spans") (y := "takes") (by decide +kernel), nk2 (x := "gives") (y := "takes") (by decide +kernel), if_false, if_true]
theorem put_gives {x0 x1 x2 x3 x4 y : V} : putK (envKV x0 x1 x2 x3 x4) (.inr "gives") y = envKV x0 x1 x2 y x4 := by
  rw [putK_map (by rw [env_val3]; rfl)]
  simp only [envKV, List.map_cons, List.map_nil, nk2 (x := "cells") (y := "gives") (by decide +kernel), nk2 (x := "reads") (y := "gives") (by decide +kernel), nk2 (x := "spans") (y := "gives") (by decide +kernel), nk2 (x := "takes") (y := "gives") (by decide +kernel), if_false, if_true]
theorem dput_intro {td ty tv : TE} {D : Ends} {σ : L2.St} {H : Hp} (h : tv σ H fun v H1 => td σ H1 fun x H2 => ty σ H2 fun y H3 => ∃ a H4, x = .ref a ∧ DPut H3 a y v H4 ∧ D.nx σ H4) : sDPut td ty tv D σ H := h
theorem ret_intro {te : TE} {D : Ends} {σ : L2.St} {H : Hp} (h : te σ H D.rt) : tRet te D σ H := h
theorem if_tC {σ : L2.St} {H : Hp} {Q : VK} {x y : V} {b : Bool} (h : tC (if b = true then x else y) σ H Q) : if b = true then tC x σ H Q else tC y σ H Q := by cases b <;> exact h
theorem if_val {Q : VK} {H : Hp} {x y : V} {b : Bool} (h : Q (if b = true then x else y) H) : if b = true then Q x H else Q y H := by cases b <;> exact h
end
/-- statements of the body, one behind the other; c: the work beside what the world pays -/
structure GrownC (E : Sur) (c : Nat) (ω ω' : Wo) (ss : List Sm) : Prop where
  w : Wle ω ω'
  nb : nbL ss + ω.nth = ω'.nth
  wk : wkL ss + 300 * ω'.items + 16 * ω'.left ≤ c + 300 * ω.items + 16 * ω.left
  ok : Made E [] 12 ω ω' ss
theorem GrownC.nil {E : Sur} {ω : Wo} : GrownC E 0 ω ω [] := ⟨Wle.refl ω, Nat.zero_add _, by show 0 + _ + _ ≤ _; omega, Made.nil⟩
theorem GrownC.app {E : Sur} {c1 c2 : Nat} {ω ω1 ω2 : Wo} {ss ts : List Sm} (a : GrownC E c1 ω ω1 ss) (b : GrownC E c2 ω1 ω2 ts) : GrownC E (c1 + c2) ω ω2 (ss ++ ts) :=
  ⟨a.w.trans b.w, by rw [nbL_append]; have := a.nb; have := b.nb; omega, by rw [wkL_append]; have := a.wk; have := b.wk; omega, a.ok.app b.ok a.w.mo b.w.mo⟩
theorem GrownC.one {E : Sur} {c D : Nat} {ω : Wo} {s : Sm} (h1 : s.nb = 0) (h2 : s.wk ≤ c) (hD : D ≤ 12) (h3 : ∀ ps i S, SurIn E S → SmOk ps D i S s) : GrownC E c ω ω [s] :=
  ⟨Wle.refl ω, by simp only [nbL, h1]; omega, by simp only [wkL]; omega, Made.one fun ps i S hS => (h3 ps i S hS).mono (fun _ _ z => z) hD (Fp.Le.refl S)⟩
theorem GrownC.le {E : Sur} {c c' : Nat} {ω ω' : Wo} {ss : List Sm} (h : GrownC E c ω ω' ss) (q : c ≤ c') : GrownC E c' ω ω' ss := ⟨h.w, h.nb, by have := h.wk; omega, h.ok⟩
section
variable {P : Program} {w : World} {K : PySem.W.Frag} {mg : Str → Option Value} {base : Heap} {tW : Tok} {aF aS : Addr}
theorem xe_callG2 {G : Type} {a c wd ch : Addr} {ω : Wo} {e : DE} {pn : List (Nat × V)} {iw : Nat} {t1 t3 : TE} {d0 : PyData} {Pk : PyData → Wo → Prop} {Pre : G → PyData → PyData → Wo → Prop} {Rr : G → PyData → PyData → Wo → PyData → Wo → Prop} {E : XK} (g : G) (ha : (0, V.ref a) ∈ pn) (hw : (iw, V.ref wd) ∈ pn) (h1 : ED K t1 e d0) (h3 : XE K (RW a c wd ch) t3 e pn ω Pk) (hp : ∀ d1 ω1, Pk d1 ω1 → Pre g d0 d1 ω1) :
    XE K (RW a c wd ch) (tCall (spWG K Pre Rr) [] E (tCons (tVar 0) (tCons t1 (tCons (tVar iw) (tCons t3 tNil))))) e pn ω (fun d ω' => ∃ d1 ω1, Pk d1 ω1 ∧ Rr g d0 d1 ω1 d ω') := fun σ F H Q f s p W q =>
  ⟨_, p 0 _ ha, h1 σ F H _ f s fun v1 F1 H1 z1 a1 => ⟨_, p iw _ hw, h3 σ F1 H1 _ z1.sub (s.mono z1.f) p ((RW a c wd ch).thru _ _ _ _ _ W z1) fun v3 d1 ω1 F2 H2 g2 W2 x2 a2 => ⟨g, a, c, wd, ch, F2, [v1, v3], [d0, d1], ω1, rfl, g2.sub, W2, .cons (a1.mono g2.f) (.cons a2 .nil), ⟨d0, d1, rfl, hp d1 ω1 x2⟩, fun v d ω' F' H' g W' ⟨d0', d1', e1, r⟩ aa => q v d ω' F' H' ((z1.gr.trans g2).trans g) W' (by
    simp only [List.cons.injEq, and_true] at e1
    rw [← e1.1, ← e1.2] at r
    exact ⟨d1, ω1, x2, r⟩) aa⟩⟩⟩
def preCore : List PyData → Prop := fun ds => ds = [.bool false]
/-- a core that may be run -/
def rCore : List PyData → PyData → Prop := fun _ d => ∃ (nIn nOut m nc : Nat) (body : Sm) (ps : List Nat) (B : Fp), d = .tuple [.str "core", dn nc, .list ((List.replicate nIn ("in" : Str) ++ List.replicate nOut ("out" : Str) ++ List.replicate m ("inner" : Str)).map .str), body.d] ∧
  nIn ≤ 1000 ∧ nOut ≤ 1000 ∧ m ≤ 1000 ∧ nc ≤ 100000 ∧ ps.length ≤ 100000 ∧ (∀ k, B.R k → k < nc) ∧ (∀ k, B.W k → k < nc) ∧ (∀ c, B.G c → c < nIn + nOut + m) ∧ (∀ c, B.T c → c < nIn + nOut + m) ∧ SmOk ps 16 0 B body ∧ ps.length = body.nb + 1 ∧ body.wk ≤ 100000
abbrev s_core : Stmt := topS 58
theorem sc_core : FnScope ["_law_state_here", "_law_alts", "_law_ins", "_law_outs", "_law_k", "_law_channels", "_law_loops", "_law_world", "_law_env_here", "_law_c", "_law_body"] ["_law_state_here", "_law_alts"] (defScope s_core) := ⟨rfl, rfl, rfl, by decide +kernel, rfl, by decide +kernel, by decide +kernel⟩
theorem ok_core (T : Txt K mg tW aF aS) (d : Def K mg "_law_core" s_core) (c_draw : CDraw P w K mg base) (c_env : CEnv P w K mg base) (c_set : CSet P w K mg base) (c_simple : CSimple P w K mg base) (c_expression : CExpr P w K mg base)
    {k : Nat} (hk : 9 ≤ k) (c_par : Cal P w K mg base k "_law_par" ["_law_state_here", "_law_env_here", "_law_world", "_law_deep"] (spWG K (prePar 1) (rPar 1))) : Cal P w K mg base (k + 1) "_law_core" ["_law_state_here", "_law_alts"] (spS K preCore rCore) := by
  refine d.genS sc_core (fun ds z => by rw [z]; rfl) (fun _ _ _ _ _ _ us hl => match us, hl with | [_, _], _ => rfl) fun f' cdv A outer s' H' E0' a c ds hr z => ?_
  subst z
  have hu := hu_of hr
  refine ⟨_, 
      (pss_cons (ps_set (i := 2) sc_core.nd rfl (Or.inr rfl) (pe_cal c_draw (hr.mono (by omega)) (pa_cons (pv 0) (pa_cons pe_int pa_nil))))
      (pss_cons (ps_set (i := 3) sc_core.nd rfl (Or.inl rfl) (pe_cal c_draw (hr.mono (by omega)) (pa_cons (pv 0) (pa_cons pe_int pa_nil))))
      (pss_cons (ps_set (i := 5) sc_core.nd rfl (Or.inl rfl) (pe_op op_cat (pe_lc (own := [("_law_k", 4)]) (g := gName 4) (tt := tYes) rfl sc_core.nd (pi_range1 rfl T.range (pa_cons (pv 2) pa_nil)) (blkOk_by (own := [("_law_k", 4)]) (N := ["_law_state_here", "_law_alts", "_law_ins", "_law_outs", "_law_k", "_law_channels", "_law_loops", "_law_world", "_law_env_here", "_law_c", "_law_body"]) (sc := defScope s_core) (by decide +kernel)) (fun _ _ _ _ _ => (pg_name (i := 4) sc_core.nd rfl (Or.inl rfl))) (fun _ _ _ _ _ => pts_nil) (fun _ _ _ _ _ => pe_str)) (pe_lc (own := [("_law_k", 4)]) (g := gName 4) (tt := tYes) rfl sc_core.nd (pi_range1 rfl T.range (pa_cons (pv 3) pa_nil)) (blkOk_by (own := [("_law_k", 4)]) (N := ["_law_state_here", "_law_alts", "_law_ins", "_law_outs", "_law_k", "_law_channels", "_law_loops", "_law_world", "_law_env_here", "_law_c", "_law_body"]) (sc := defScope s_core) (by decide +kernel)) (fun _ _ _ _ _ => (pg_name (i := 4) sc_core.nd rfl (Or.inl rfl))) (fun _ _ _ _ _ => pts_nil) (fun _ _ _ _ _ => pe_str))))
      (pss_cons (ps_set (i := 6) sc_core.nd rfl (Or.inl rfl) (pe_cmpR op_eq (pe_cal c_draw (hr.mono (by omega)) (pa_cons (pv 0) (pa_cons pe_int pa_nil))) pe_int (nomark _)))
      (pss_cons (ps_set (i := 7) sc_core.nd rfl (Or.inl rfl) (pe_disp (pps_cons pe_str pe_int (pps_cons pe_str pe_int (pps_cons pe_str (pe_ifExp (pt_val (pv 6)) pe_int pe_int) (pps_cons pe_str pe_int (pps_cons pe_str (pv 5) (pps_cons pe_str (pv 1) (pps_cons pe_str (pv 6) pps_nil))))))) (by rfl) (by rfl) (fun z => by cases z) (by decide)))
      (pss_cons (ps_set (i := 8) sc_core.nd rfl (Or.inr rfl) (pe_cal c_env (hr.mono (by omega)) (pa_cons (pv 0) (pa_cons (pv 7) pa_nil))))
      (pss_cons (ps_dput hu (pv 8) pe_str (pe_lc (own := [("_law_c", 9)]) (g := gName 9) (tt := tYes) rfl sc_core.nd (pi_range1 rfl T.range (pa_cons (pv 2) pa_nil)) (blkOk_by (own := [("_law_c", 9)]) (N := ["_law_state_here", "_law_alts", "_law_ins", "_law_outs", "_law_k", "_law_channels", "_law_loops", "_law_world", "_law_env_here", "_law_c", "_law_body"]) (sc := defScope s_core) (by decide +kernel)) (fun _ _ _ _ _ => (pg_name (i := 9) sc_core.nd rfl (Or.inl rfl))) (fun _ _ _ _ _ => pts_nil) (fun _ _ _ _ _ => (pv 9))) rfl)
      (pss_cons (ps_dput hu (pv 8) pe_str (pe_lc (own := [("_law_c", 9)]) (g := gName 9) (tt := tYes) rfl sc_core.nd (pi_range1 rfl T.range (pa_cons (pv 3) pa_nil)) (blkOk_by (own := [("_law_c", 9)]) (N := ["_law_state_here", "_law_alts", "_law_ins", "_law_outs", "_law_k", "_law_channels", "_law_loops", "_law_world", "_law_env_here", "_law_c", "_law_body"]) (sc := defScope s_core) (by decide +kernel)) (fun _ _ _ _ _ => (pg_name (i := 9) sc_core.nd rfl (Or.inl rfl))) (fun _ _ _ _ _ => pts_nil) (fun _ _ _ _ _ => (pe_op op_add (pv 2) (pv 9)))) rfl)
      (pss_cons (ps_setLc (i := 10) (own := [("_law_k", 4)]) (g := gName 4) (tt := tYes) rfl sc_core.nd rfl rfl (sw_true rfl rfl rfl (by decide +kernel)) (pi_range1 rfl T.range (pa_cons (pe_cal c_draw (hr.mono (by omega)) (pa_cons (pv 0) (pa_cons pe_int pa_nil))) pa_nil)) (blkOk_by (own := [("_law_k", 4)]) (N := ["_law_state_here", "_law_alts", "_law_ins", "_law_outs", "_law_k", "_law_channels", "_law_loops", "_law_world", "_law_env_here", "_law_c", "_law_body"]) (sc := defScope s_core) (by decide +kernel)) (fun _ _ _ _ _ => (pg_name (i := 4) sc_core.nd rfl (Or.inl rfl))) (fun _ _ _ _ _ => pts_nil) (fun _ _ _ _ _ => (pe_cal c_set (hr.mono (by omega)) (pa_cons (pv 0) (pa_cons (pv 8) pa_nil)))))
      (pss_cons (ps_for PassesOwn.never rfl (pi_range1 rfl T.range (pa_cons (pe_op op_add pe_int (pe_cal c_draw (hr.mono (by omega)) (pa_cons (pv 0) (pa_cons pe_int pa_nil)))) pa_nil)) (pg_name (i := 4) sc_core.nd rfl (Or.inl rfl))
      (pss_cons (ps_expr (pe_bm PySem.F.plainAttrs_list PySem.F.slot_list_append PySem.F.type_list_append mt_append (pv 10) (pa_cons (pe_cal c_par (hr.mono (by omega)) (pa_cons (pv 0) (pa_cons (pv 8) (pa_cons (pv 7) (pa_cons pe_int pa_nil))))) pa_nil)))
      (pss_one (ps_expr (pe_bm PySem.F.plainAttrs_list PySem.F.slot_list_append PySem.F.type_list_append mt_append (pv 10) (pa_cons (pe_cal c_simple (hr.mono (by omega)) (pa_cons (pv 0) (pa_cons (pv 8) pa_nil))) pa_nil))))))
      (pss_cons (ps_for PassesOwn.never rfl (pi_list (pe_dget hu (pv 8) pe_str (fun _ _ => rfl))) (pg_name (i := 9) sc_core.nd rfl (Or.inl rfl))
      (pss_one (ps_if (pt_cmpR op_eq (pe_cal c_draw (hr.mono (by omega)) (pa_cons (pv 0) (pa_cons pe_int pa_nil))) pe_int (nomark _))
      (pss_one (ps_expr (pe_bm PySem.F.plainAttrs_list PySem.F.slot_list_append PySem.F.type_list_append mt_append (pv 10) (pa_cons (pe_tup (pa_cons pe_str (pa_cons (pv 9) (pa_cons (pe_cal c_expression (hr.mono (by omega)) (pa_cons (pv 0) (pa_cons (pv 8) (pa_cons pe_int pa_nil)))) pa_nil)))) pa_nil)))) pss_nil)))
      (pss_one (ps_ret (pe_tup (pa_cons pe_str (pa_cons (pe_dget hu (pv 7) pe_str (fun _ _ => rfl)) (pa_cons (pe_dget hu (pv 7) pe_str (fun _ _ => rfl)) (pa_cons (pe_tup (pa_cons pe_str (pa_cons (pv 10) pa_nil))) pa_nil)))))))))))))))))), ?_⟩
  have h0 : (0, V.ref a) ∈ [(0, V.ref a)] := List.mem_singleton.mpr rfl
  refine xs_let (xe_drawC (m := 3) ed_int (by decide) (by decide) h0) fun d1 γ1 ⟨ins, h1, hin⟩ => ?_
  subst h1
  refine xs_let (xe_drawC (m := 3) ed_int (by decide) (by decide) h0) fun d1 γ1 ⟨outs, h1, hout⟩ => ?_
  subst h1
  refine fun D σ F H f s p j q r => ?_
  let e1 : DE := [none, some (.bool false), some (dn ins), some (dn outs), none, none, none, none, none, none, none]
  let ks : List Str := List.replicate ins ("in" : Str) ++ List.replicate outs ("out" : Str)
  have s1 : SD K F σ e1 := s
  have comp : ∀ (n i : Nat) (x : Str), e1[i]? = some (some (dn n)) → n ≤ 1000 → ED K (tLc (iRng1 (tCons (tVar i) tNil)) (gName 4) tYes (tC (.str x)) [4]) e1 (.list ((List.replicate n x).map .str)) := fun n i x hi hn => (el_lcR (fun _ => .str x) (ed_var hi) (by omega) fun k hk => ⟨_, eg_name, ed_str⟩).ed.eq (by
    congr 1
    refine List.ext_getElem? fun k => ?_
    by_cases hk : k < n
    · rw [List.getElem?_map, List.getElem?_map, List.getElem?_range hk, List.getElem?_replicate_of_lt hk]; rfl
    · rw [List.getElem?_eq_none (by rw [List.length_map, List.length_range]; omega), List.getElem?_eq_none (by rw [List.length_map, List.length_replicate]; omega)])
  refine asg_next ?_
  refine el_cat (comp ins 2 "in" rfl (by omega)) (comp outs 3 "out" rfl (by omega)) (by rw [List.length_map, List.length_map, List.length_replicate, List.length_replicate]; omega) σ F H _ f s1 fun ch xs F1 H1 z1 hch nch lch ach => ?_
  rw [← List.map_append] at ach
  have hxs := Das.strs ach
  subst hxs
  have nM : ∀ x, H x = none → ¬ (RS a c).M x := fun x hx y => ((RS a c).ex _ _ _ _ j y).1 hx
  have s2 : SD K F1 (σ.set 5 (some (.ref ch))) e1 := (s1.mono z1.f).hid rfl
  have p2 : Pins (σ.set 5 (some (.ref ch))) [(0, V.ref a)] := p.set rfl
  refine asg_next ?_
  refine (xe_opN (f := fun i j => .bool (decide (i = j))) (A := fun k _ => True) (B := fun _ _ _ => True) ((xe_drawC (m := 2) ed_int (by decide) (by decide) h0).mono fun d γ ⟨k, x, _⟩ => ⟨k, x, trivial⟩) (fun i γ1 _ => (xn_ed (i := 0) ed_int).mono' fun _ _ _ => trivial) fun i j γ' _ => by
    intro v w F H Q f hx hy q
    cases hx.intI
    cases hy.intI
    exact ⟨rfl, q _ F H (Fz.refl f) (by rw [dec_I]; exact .bl _)⟩) _ F1 H1 _ z1.sub s2 p2 ((RS a c).thru _ _ _ _ _ j z1) fun v2 d2 γ2 F2 H2 g2 j2 ⟨ki, kj, hb, _⟩ a2 => ?_
  generalize decide ((ki : Int) = (kj : Int)) = lb at hb
  subst hb
  cases a2.blI
  have lch2 := g2.h ch _ (nM _ hch) lch
  have nch2 := g2.away nch (some_ne lch)
  refine asg_next ?_
  refine fun wd hwd => ?_
  have sl : σ.length = 11 := s1.len
  have t6 : ((σ.set 5 (some (V.ref ch))).set 6 (some (V.bl lb)))[6]? = some (some (.bl lb)) := List.getElem?_set_self (by rw [List.length_set]; omega)
  have t5 : ((σ.set 5 (some (V.ref ch))).set 6 (some (V.bl lb)))[5]? = some (some (.ref ch)) := by
    rw [List.getElem?_set_ne (by decide)]
    exact List.getElem?_set_self (by omega)
  have t1 : ((σ.set 5 (some (V.ref ch))).set 6 (some (V.bl lb)))[1]? = some (some (.bl false)) := by
    obtain ⟨v, y1, y2⟩ := s1.get 1 _ rfl
    cases y2.blI
    rw [List.getElem?_set_ne (by decide), List.getElem?_set_ne (by decide)]
    exact y1
  refine ⟨_, t6, _, rfl, if_tC ?_⟩
  let ω0 : Wo := ⟨1, 11, if lb = true then 14 else 30, 0, ks, lb⟩
  refine ⟨_, t5, _, t1, _, t6, upd_same, worldKV ω0 ch, (by cases lb <;> rfl), (show 7 ≤ 15 by decide), ?_⟩
  rw [merge_world]
  dsimp only
  have fwd : F2 wd = none := g2.sub.free hwd
  have mwd : ¬ (RS a c).M wd := fun y => ((RS a c).ex _ _ _ _ j2 y).1 hwd
  have mch : ¬ (RS a c).M ch := nM _ hch
  have chwd : ch ≠ wd := fun z => by rw [z, hwd] at lch2; cases lch2
  have hwdH : H wd = none := z1.h.free (g2.none_of hwd)
  have z3 : Fz F2 H2 F2 (upd H2 wd (.dK [])) := Fz.loose g2.sub hwd
  have z3' : Fz F2 H2 F2 (upd (upd H2 wd (.dK [])) wd (.dK (worldKV ω0 ch))) := z3.mut hwd fwd
  have W3 : (RW a c wd ch).J ω0 F2 (upd (upd H2 wd (.dK [])) wd (.dK (worldKV ω0 ch))) := by
    refine ⟨(RS a c).thru _ _ _ _ _ j2 z3', fun z => mwd (.inl z), fun z => mwd (.inr z), fun z => mch (.inl z), fun z => mch (.inr z), chwd, fwd, nch2, upd_same, ?_⟩
    rw [upd_ne chwd, upd_ne chwd]
    exact lch2
  generalize upd (upd H2 wd (.dK [])) wd (.dK (worldKV ω0 ch)) = H3 at z3' W3 ⊢
  have newW : ∀ x, (RW a c wd ch).M x → (RS a c).M x ∨ H x = none := fun x y => by
    rcases y with y | y | y
    · exact .inl y
    · rw [y]; exact .inr hwdH
    · rw [y]; exact .inr hch
  have g3 : Gr (RS a c).M No F H F2 H3 := ((z1.gr (M := (RS a c).M) (O := No)).trans g2).trans z3'.gr
  have p3 : Pins (((σ.set 5 (some (V.ref ch))).set 6 (some (V.bl lb))).set 7 (some (.ref wd))) [(0, V.ref a), (7, V.ref wd)] := fun i v hi => by
    rcases List.mem_cons.mp hi with z | z
    · cases z
      rw [List.getElem?_set_ne (by decide), List.getElem?_set_ne (by decide)]
      exact p2 0 _ h0
    · cases List.mem_singleton.mp z
      exact List.getElem?_set_self (by rw [List.length_set, List.length_set]; omega)
  have s3 : SD K F2 (((σ.set 5 (some (V.ref ch))).set 6 (some (V.bl lb))).set 7 (some (.ref wd))) e1 := ((s2.mono g2.f).hid rfl).hid rfl
  generalize ((σ.set 5 (some (V.ref ch))).set 6 (some (V.bl lb))).set 7 (some (.ref wd)) = σ3 at p3 s3 ⊢
  have q0 : (0, V.ref a) ∈ [(0, V.ref a), (7, V.ref wd)] := List.mem_cons_self ..
  have q7 : (7, V.ref wd) ∈ [(0, V.ref a), (7, V.ref wd)] := List.mem_cons_of_mem _ (List.mem_cons_self ..)
  refine asg_next ?_
  refine ⟨_, p3 0 _ q0, _, p3 7 _ q7, a, c, wd, ch, F2, ω0, rfl, z3'.sub, W3, fun dd p0 p1 p3' p4 x2 kk sp F4 H4 g4 W4 hm hnew hkk hsp hspl => ?_⟩
  have g4' : Gr (RS a c).M No F H F4 H4 := g3.step g4 newW
  have p4' : Pins (σ3.set 8 (some (.ref dd))) [(0, V.ref a), (7, V.ref wd)] := p3.set rfl
  have s4 : SD K F4 (σ3.set 8 (some (.ref dd))) e1 := (s3.mono g4.f).hid rfl
  have t8 : (σ3.set 8 (some (V.ref dd)))[8]? = some (some (.ref dd)) := List.getElem?_set_self (by rw [s3.len]; show 8 < 11; decide)
  dsimp only
  generalize σ3.set 8 (some (V.ref dd)) = σ4 at p4' s4 t8 ⊢
  have hddH : ∀ b, b ∈ [dd, p0, p1, p3', p4] → H b = none := fun b hb => g3.none_of (hnew b hb)
  have mW : ∀ x, H x = none → ¬ (RW a c wd ch).M x → True := fun _ _ _ => trivial
  have nW : ∀ b, b ∈ [dd, p0, p1, p3', p4] → ¬ (RW a c wd ch).M b := fun b hb y => ((RW a c wd ch).ex _ _ _ _ W3 y).1 (hnew b hb)
  let ω1 : Wo := { ω0 with cells := ω0.cells + 2 + kk }
  -- env["takes"]
  refine seq_intro ?_
  have lt : ED K (tLc (iRng1 (tCons (tVar 2) tNil)) (gName 9) tYes (tVar 9) [9]) e1 (dns (List.range ins)) := (el_lcR dn (ed_var (i := 2) rfl) (by omega) fun k hk => ⟨_, eg_name, ed_var rfl⟩).ed
  refine dput_intro (lt σ4 F4 H4 _ g4.sub s4 fun vt F5 H5 z5 at5 => ?_)
  have hm5 := hm.thru (M := No) z5.gr fun b _ y => y.elim
  have W5 := (RW a c wd ch).thru _ _ _ _ _ W4 z5
  refine ⟨_, t8, dd, _, rfl, DPut.k (k := .inr "takes") hm5.hd (line_lt (show 5 ≤ 16000000 by decide)), ?_⟩
  rw [put_takes]
  dsimp only
  have fdd5 := hm5.fn dd (by simp)
  have nd5 := hm5.nd
  simp only [List.nodup_cons, List.mem_cons, List.not_mem_nil, or_false, not_or, not_false_eq_true, List.nodup_nil, and_true] at nd5
  obtain ⟨⟨a1, a2', a3, a4⟩, ⟨b1, b2, b3⟩, _, _⟩ := nd5
  have W6 : (RW a c wd ch).J ω1 F5 (upd H5 dd (.dK (envKV (.ref p0) (.ref p1) x2 (.ref p3') vt))) := (RW a c wd ch).oth _ _ _ _ _ W5 (nW dd (by simp)) fdd5
  have g6 : Gr (fun b => b = dd) No F5 H5 F5 (upd H5 dd (.dK (envKV (.ref p0) (.ref p1) x2 (.ref p3') vt))) := Gr.put z5.sub rfl fdd5
  have hd6 : (upd H5 dd (.dK (envKV (.ref p0) (.ref p1) x2 (.ref p3') vt))) dd = some (.dK (envKV (.ref p0) (.ref p1) x2 (.ref p3') vt)) := upd_same
  have h06 : (upd H5 dd (.dK (envKV (.ref p0) (.ref p1) x2 (.ref p3') vt))) p0 = some (.lst ([ω0.cells, ω0.cells + 1].map dnV)) := by rw [upd_ne (Ne.symm a1)]; exact hm5.h0
  have h16 : (upd H5 dd (.dK (envKV (.ref p0) (.ref p1) x2 (.ref p3') vt))) p1 = some (.lst ([ω0.cells, ω0.cells + 1].map dnV)) := by rw [upd_ne (Ne.symm a2')]; exact hm5.h1
  generalize upd H5 dd (.dK (envKV (.ref p0) (.ref p1) x2 (.ref p3') vt)) = H6 at W6 g6 hd6 h06 h16 ⊢
  have s5 := s4.mono z5.f
  -- env["gives"]
  refine seq_intro ?_
  have lg : ED K (tLc (iRng1 (tCons (tVar 3) tNil)) (gName 9) tYes (tOp (rI0 fun i j => V.int (i + j)) (tVar 2) (tVar 9)) [9]) e1 (dns ((List.range outs).map fun c => ins + c)) := (el_lcR (fun c => dn (ins + c)) (ed_var (i := 3) rfl) (by omega) fun k hk => ⟨_, eg_name, (ed_add (ed_var (i := 2) rfl) (ed_var (i := 9) rfl)).eq (congrArg PyData.int (by omega))⟩).ed.eq (by show PyData.list _ = PyData.list _; rw [List.map_map]; rfl)
  refine dput_intro (lg σ4 F5 H6 _ g6.sub s5 fun vg F7 H7 z7 at7 => ?_)
  refine ⟨_, t8, dd, _, rfl, DPut.k (k := .inr "gives") (z7.h _ _ hd6) (line_lt (show 5 ≤ 16000000 by decide)), ?_⟩
  rw [put_gives]
  dsimp only
  have fdd7 : F7 dd = none := z7.away fdd5 (some_ne hd6)
  have fp07 : F7 p0 = none := z7.away (hm5.fn p0 (by simp)) (some_ne h06)
  have fp17 : F7 p1 = none := z7.away (hm5.fn p1 (by simp)) (some_ne h16)
  have W7 := (RW a c wd ch).thru _ _ _ _ _ W6 z7
  have W8 : (RW a c wd ch).J ω1 F7 (upd H7 dd (.dK (envKV (.ref p0) (.ref p1) x2 vg vt))) := (RW a c wd ch).oth _ _ _ _ _ W7 (nW dd (by simp)) fdd7
  have g8 : Gr (fun b => b = dd) No F7 H7 F7 (upd H7 dd (.dK (envKV (.ref p0) (.ref p1) x2 vg vt))) := Gr.put z7.sub rfl fdd7
  have hd8 : (upd H7 dd (.dK (envKV (.ref p0) (.ref p1) x2 vg vt))) dd = some (.dK (envKV (.ref p0) (.ref p1) x2 vg vt)) := upd_same
  have h08 : (upd H7 dd (.dK (envKV (.ref p0) (.ref p1) x2 vg vt))) p0 = some (.lst ([ω0.cells, ω0.cells + 1].map dnV)) := by rw [upd_ne (Ne.symm a1)]; exact z7.h _ _ h06
  have h18 : (upd H7 dd (.dK (envKV (.ref p0) (.ref p1) x2 vg vt))) p1 = some (.lst ([ω0.cells, ω0.cells + 1].map dnV)) := by rw [upd_ne (Ne.symm a2')]; exact z7.h _ _ h16
  generalize upd H7 dd (.dK (envKV (.ref p0) (.ref p1) x2 vg vt)) = H8 at W8 g8 hd8 h08 h18 ⊢
  have g8' : Gr (RS a c).M No F H F7 H8 := (((g4'.trans z5.gr).step g6 fun b y => .inr (by rw [y]; exact hddH dd (by simp))).trans z7.gr).step g8 fun b y => .inr (by rw [y]; exact hddH dd (by simp))
  obtain ⟨F9, s79, s98, W9, eq9, ne9⟩ := bulk (R := RW a c wd ch) g8.sub W8 [dd, p0, p1] (fun x hx => by
    simp only [List.mem_cons, List.not_mem_nil, or_false] at hx
    rcases hx with rfl | rfl | rfl
    · exact ⟨nW _ (by simp), fdd7, some_ne hd8⟩
    · exact ⟨nW _ (by simp), fp07, some_ne h08⟩
    · exact ⟨nW _ (by simp), fp17, some_ne h18⟩)
  have g9 : Gr (RS a c).M No F H F9 H8 := g8'.frzN s79 s98 fun x => by
    by_cases hx : x ∈ [dd, p0, p1]
    · simp only [List.mem_cons, List.not_mem_nil, or_false] at hx
      rcases hx with rfl | rfl | rfl
      · exact .inr (hddH _ (by simp))
      · exact .inr (hddH _ (by simp))
      · exact .inr (hddH _ (by simp))
    · exact .inl (ne9 x hx)
  let E : Sur := ⟨[ω0.cells, ω0.cells + 1], [ω0.cells, ω0.cells + 1], sp, (List.range outs).map fun c => ins + c, List.range ins⟩
  have daE : Da K F9 (.ref dd) E.d := Da.env ((eq9 dd (by simp)).trans hd8) (.lst ((eq9 p0 (by simp)).trans h08) (.cons (.int _) (.cons (.int _) .nil))) (.lst ((eq9 p1 (by simp)).trans h18) (.cons (.int _) (.cons (.int _) .nil))) (hm5.a2.mono (z7.f.trans s79)) (at7.mono s79) (at5.mono (z7.f.trans s79))
  let e9 : DE := [none, some (.bool false), some (dn ins), some (dn outs), none, none, none, none, some E.d, none, none]
  have s9 : SD K F9 σ4 e9 := by
    refine ⟨s5.len, fun i dx hi => ?_⟩
    have s5' := s5.mono (z7.f.trans s79)
    match i, hi with
    | 0, hi => cases hi
    | 1, hi => exact s5'.get 1 _ hi
    | 2, hi => exact s5'.get 2 _ hi
    | 3, hi => exact s5'.get 3 _ hi
    | 4, hi => cases hi
    | 5, hi => cases hi
    | 6, hi => cases hi
    | 7, hi => cases hi
    | 8, hi => cases hi; exact ⟨_, t8, daE⟩
    | 9, hi => cases hi
    | 10, hi => cases hi
  have ch0 : ω0.ch.length = ins + outs := by show (List.replicate ins ("in" : Str) ++ List.replicate outs ("out" : Str)).length = _; rw [List.length_append, List.length_replicate, List.length_replicate]
  have it0 : ω0.items ≤ 30 := by show (if lb = true then 14 else 30) ≤ 30; split <;> decide
  have c0 : ω0.cells = 0 := rfl
  have okE : SurOk E := by
    refine ⟨by show 0 < 2; decide, by show 0 < 2; decide, by show 2 ≤ 10000; decide, by show 2 ≤ 10000; decide, by show sp.length ≤ 10000; omega, ?_, ?_, fun s hs => ?_⟩
    · show ((List.range outs).map _).length ≤ 10000
      rw [List.length_map, List.length_range]
      omega
    · show (List.range ins).length ≤ 10000
      rw [List.length_range]
      omega
    · rw [hsp s hs]
      show kk < 65536
      omega
  have bdE : SurBd E ω1 := by
    refine ⟨by show [0, 0 + 1].Nodup; decide, ?_, List.nodup_range, fun k hk => ?_, fun k hk => ?_, fun k hk => ?_, ?_, ?_⟩
    · show ((List.range outs).map fun c => ins + c).Nodup
      exact List.pairwise_map.mpr (List.Pairwise.imp (fun {x y} h e => h (by omega)) List.nodup_range)
    · have hk' : k ∈ [0, 0 + 1] := hk
      show k < 0 + 2 + kk
      simp only [List.mem_cons, List.not_mem_nil, or_false] at hk'
      omega
    · obtain ⟨x, hx, e⟩ := List.mem_map.mp (show k ∈ (List.range outs).map fun c => ins + c from hk)
      have := List.mem_range.mp hx
      show k < ω0.ch.length
      omega
    · have := List.mem_range.mp (show k ∈ List.range ins from hk)
      show k < ω0.ch.length
      omega
    · show 0 + 2 + kk + 40 * 11 + ω0.items ≤ 5000
      omega
    · show ω0.ch.length ≤ 24
      omega
  let pn : List (Nat × V) := [(0, V.ref a), (7, V.ref wd)]
  have setX : ∀ (e' : DE) (ω' : Wo), e'[8]? = some (some E.d) → XE K (RW a c wd ch) (tCall (spS K preEnv rSet) [] E0 (tCons (tVar 0) (tCons (tVar 8) tNil))) e' pn ω' (fun d ω'' => IsSm E 1 1 d ∧ ω'' = ω') := fun e' ω' h8 => XE.w (P := fun d _ => IsSm E 1 1 d) ((xe_callD (ds := [E.d]) (Pre := preEnv) (Rr := rSet) (ea_cons (ed_var h8) ea_nil) ⟨E, rfl, okE⟩ q0).mono fun d γ' ⟨E', e1, x⟩ => by
    simp only [List.cons.injEq, and_true] at e1
    rw [Sur.inj e1]
    exact x)
  refine asg_next ((xl_lcR (R := RW a c wd ch) (pn := pn) (ws := [4]) (P1 := fun d ω' => (∃ k : Nat, d = dn k ∧ k < 3) ∧ ω' = ω1) (fun k acc ω' => ω' = ω1 ∧ ∃ ss : List Sm, acc = ss.map Sm.d ∧ ss.length = k ∧ GrownC E k ω1 ω1 ss) ((xn_drawC (m := 3) lift_RW (fun _ => rfl) ed_int (by decide) (by decide) q0).mono fun d ω' ⟨k, h1, h2, h3⟩ => ⟨k, h1, ⟨k, rfl, h2⟩, h3⟩) (fun n ω' ⟨⟨k, h1, h2⟩, h3⟩ => ⟨by have := dn_inj h1; omega, h3, [], rfl, rfl, GrownC.nil⟩) rfl (fun k acc ω' ⟨_, ss, h1, h2, _⟩ => by rw [h1, List.length_map, h2]; exact Nat.le_refl _)
    fun n ωn k acc ω' _ hk ⟨h1, ss, h2, h3, h4⟩ => ⟨_, eg_name, (setX _ ω' rfl).mono fun d ω'' ⟨⟨s, e1, n1, w1, k1⟩, e2⟩ => ⟨e2.trans h1, ss ++ [s], by rw [h2, e1, List.map_append]; rfl, by rw [List.length_append, h3]; rfl, h4.app (GrownC.one (D := 1) n1 w1 (by decide) k1)⟩⟩) σ4 F9 H8 _ s98 s9 p4' W9 fun pb xs ds ω2 F10 H10 g10 W10 x10 hpb npb mpb lpb dpb => ?_)
  obtain ⟨n, ωn, ⟨⟨kn, hkn, hkn3⟩, _⟩, hω2, ss0, hds, hsl0, hss0⟩ := x10
  have hn3 : n < 3 := by have := dn_inj hkn; omega
  subst hω2
  subst hds
  let Body : Nat → Wo × List PyData → Prop := fun cc δ => ∃ ss, δ.2 = ss.map Sm.d ∧ GrownC E cc ω1 δ.1 ss
  have B0 : Body 2 (ω1, ss0.map Sm.d) := ⟨ss0, rfl, hss0.le (by omega)⟩
  have t10 : (σ4.set 10 (some (V.ref pb)))[10]? = some (some (.ref pb)) := List.getElem?_set_self (by rw [s9.len]; show 10 < 11; decide)
  have s10 : SD K F10 (σ4.set 10 (some (.ref pb))) e9 := (s9.mono g10.f).hid rfl
  let pb10 : List (Nat × V) := (10, V.ref pb) :: pn
  have p10 : Pins (σ4.set 10 (some (.ref pb))) pb10 := fun i v hi => by
    rcases List.mem_cons.mp hi with z | z
    · cases z; exact t10
    · exact (p4'.set rfl) i v z
  generalize σ4.set 10 (some (V.ref pb)) = σ5 at t10 s10 p10 ⊢
  have J10 : ((RW a c wd ch).own K pb).J (ω1, ss0.map Sm.d) F10 H10 := ⟨W10, mpb, npb, xs, lpb, dpb⟩
  have r0 : (0, V.ref a) ∈ pb10 := List.mem_cons_of_mem _ q0
  have r7 : (7, V.ref wd) ∈ pb10 := List.mem_cons_of_mem _ q7
  have r10 : (10, V.ref pb) ∈ pb10 := List.mem_cons_self ..
  have newO : ∀ x, ((RW a c wd ch).own K pb).M x → (RS a c).M x ∨ H x = none := fun x y => by
    rcases y with y | y
    · exact newW x y
    · rw [y]; exact .inr (g9.none_of hpb)
  have g10' : Gr (RS a c).M No F H F10 H10 := g9.step g10 newW
  have blen : ∀ {cc : Nat} {ω' : Wo} {ss : List Sm}, GrownC E cc ω1 ω' ss → cc ≤ 100 → ss.length ≤ 10000 ∧ wkL ss ≤ 10000 ∧ ω'.items ≤ 30 ∧ ω'.left ≤ 11 := fun {cc ω' ss} g hc => by
    have h1 := g.wk
    have h2 := len_wkL ss
    have h3 := g.w.it
    have h4 := g.w.le
    have h5 : ω1.items ≤ 30 := it0
    have h6 : ω1.left = 11 := rfl
    omega
  refine seq_intro (XS.run (K := K) (R := (RW a c wd ch).own K pb) (e := e9) (pn := pb10) (γ := (ω1, ss0.map Sm.d)) (N := fun e' δ => e' = e9 ∧ Body 20 δ) (Z := fun _ _ => False) (F := F10) ?forK g10.sub s10 p10 J10 (fun σ6 e6 δ6 F11 H11 g11 J11 s11 p11 ⟨he, hB⟩ => ?after) (fun _ _ _ _ _ _ _ _ x => x.elim))
  case forK =>
    refine (xs_range (ws := [4]) (P1 := fun d δ => (∃ k : Nat, d = dn k ∧ k ≤ 2) ∧ δ = (ω1, ss0.map Sm.d)) (fun k δ => Body (2 + 9 * k) δ ∧ k ≤ 2) ((xn_draw1 (i := 1) (m := 2) (lift_RW.trans lift_own) (fun _ => rfl) ed_int (by decide) (by decide) r0).mono fun d δ ⟨k, h1, h2, h3, h4⟩ => ⟨k, h1, ⟨k, rfl, by omega⟩, h4⟩) (fun n δ ⟨⟨k, h1, h2⟩, h3⟩ => ⟨by have := dn_inj h1; omega, by rw [h3]; exact B0, by decide⟩) rfl (fun n δ0 k δ hP hk hI => ⟨_, eg_name, ?_⟩)).mono (fun e' δ ⟨h0, n, γ1, _, ⟨ss, hJ, hJ2⟩, hk2⟩ => ⟨h0, ss, hJ, hJ2.le (by omega)⟩) (fun _ _ x => x)
    obtain ⟨⟨ss, h1, h2⟩, hk2⟩ := hI
    obtain ⟨ω', ds⟩ := δ
    dsimp only at h1 h2
    subst h1
    have hk3 : k + 1 ≤ 2 := by
      obtain ⟨⟨kq, e, hq⟩, _⟩ := hP
      have := dn_inj e
      omega
    obtain ⟨bl1, bl2, bl3, bl4⟩ := blen h2 (by omega)
    have bd' : SurBd E ω' := bdE.mono h2.w
    let e4 : DE := [none, some (.bool false), some (dn ins), some (dn outs), some (dn k), none, none, none, some E.d, none, none]
    have parX : XE K (RW a c wd ch) (tCall (spWG K (prePar 1) (rPar 1)) [] E0 (tCons (tVar 0) (tCons (tVar 8) (tCons (tVar 7) (tCons (tC (.int 1)) tNil))))) e4 pb10 ω' (fun d ω'' => ∃ s : Sm, d = s.d ∧ GrownC E 2 ω' ω'' [s]) :=
      (xe_callG2 (g := E) (Pk := fun d ω'' => d = dn 1 ∧ ω'' = ω') r0 r7 (ed_var (i := 8) rfl) (xe_ed ed_int) fun d1 ω'' hx => ⟨rfl, hx.1, okE, by rw [hx.2]; exact bd', by rw [hx.2]; omega, by rw [hx.2]; omega⟩).mono fun d ω'' ⟨d1, ω3, ⟨x1, x2⟩, s, y1, y2, y3, y4, y5⟩ => by
        subst x2
        refine ⟨s, y1, y2, ?_, ?_, y5⟩
        · simp only [nbL]; omega
        · have e1 : pKap 1 = 300 := rfl
          have e2 : pLam 1 = 16 := rfl
          rw [e1, e2] at y4
          simp only [wkL]
          omega
    refine xs_seq (N1 := fun e' δ => e' = e4 ∧ ∃ ts, δ.2 = ts.map Sm.d ∧ GrownC E (2 + 9 * k + 2) ω1 δ.1 ts) ((xs_app (Z := fun _ _ => False) parX (by rw [List.length_map]; omega) r10).mono (fun e' δ ⟨he, d, ⟨s, x1, x2⟩, x3⟩ => ⟨he, ss ++ [s], by rw [x3, x1, List.map_append]; rfl, h2.app x2⟩) fun _ _ z => z) fun e' δ ⟨he, ts, hts, hgt⟩ => ?_
    subst he
    obtain ⟨ω'', ds⟩ := δ
    dsimp only at hts hgt
    subst hts
    obtain ⟨bl5, _, _, _⟩ := blen hgt (by omega)
    have simpX : XE K (RW a c wd ch) (tCall (spS K preEnv rSimple) [] E0 (tCons (tVar 0) (tCons (tVar 8) tNil))) e4 pb10 ω'' (fun d ω3 => IsSm E 3 7 d ∧ ω3 = ω'') := XE.w (P := fun d _ => IsSm E 3 7 d) ((xe_callD (ds := [E.d]) (Pre := preEnv) (Rr := rSimple) (ea_cons (ed_var (i := 8) rfl) ea_nil) ⟨E, rfl, okE⟩ r0).mono fun d γ' ⟨E', e1, x⟩ => by
      simp only [List.cons.injEq, and_true] at e1
      rw [Sur.inj e1]
      exact x)
    refine (xs_app (Z := fun _ _ => False) simpX (by rw [List.length_map]; omega) r10).mono (fun e' δ ⟨he, d, ⟨⟨s, e1, n1, w1, k1⟩, x2⟩, x3⟩ => ⟨by rw [he]; exact .keep (.keep (.keep (.keep (.drop (.keep (.keep (.keep (.keep (.keep (.keep .nil)))))))))), ⟨ts ++ [s], by rw [x3, e1, List.map_append]; rfl, ?_⟩, hk3⟩) fun _ _ z => z
    rw [x2]
    exact (hgt.app (GrownC.one (D := 3) n1 w1 (by decide) k1)).le (by omega)
  case after =>
  subst he
  obtain ⟨ω6, ds6⟩ := δ6
  obtain ⟨ss6, hd6, hg6⟩ := hB
  dsimp only at hd6 hg6
  subst hd6
  have g11' : Gr (RS a c).M No F H F11 H11 := g10'.step g11 newO
  dsimp only
  refine seq_intro (XS.run (K := K) (R := (RW a c wd ch).own K pb) (e := e9) (pn := pb10) (γ := (ω6, ss6.map Sm.d)) (N := fun e' δ => e' = e9 ∧ Body 30 δ) (Z := fun _ _ => False) (F := F11) ?forC g11.sub s11 p11 J11 (fun σ7 e7 δ7 F12 H12 g12 J12 s12 p12 ⟨he, hB⟩ => ?ret) (fun _ _ _ _ _ _ _ _ x => x.elim))
  case forC =>
    have gl : E.gives.length = outs := by show ((List.range outs).map _).length = _; rw [List.length_map, List.length_range]
    refine (xs_for (K := K) (R := (RW a c wd ch).own K pb) (γ := (ω6, ss6.map Sm.d)) (pn := pb10) (e := e9) (ws := [9]) (ds := E.gives.map dn) (fun k δ => Body (20 + 2 * k) δ ∧ k ≤ outs) (ed_gives (ed_var (i := 8) rfl)) ⟨⟨ss6, rfl, hg6⟩, Nat.zero_le _⟩ rfl fun k x δ hx hI => ⟨_, eg_name, ?_⟩).mono (fun e' δ ⟨h1, ⟨ss, h2, h3⟩, h4⟩ => ⟨h1, ss, h2, h3.le (by omega)⟩) fun _ _ z => z
    obtain ⟨⟨ss, h1, h2⟩, hk2⟩ := hI
    obtain ⟨ω', ds⟩ := δ
    dsimp only at h1 h2
    subst h1
    rw [List.getElem?_map] at hx
    cases hc : E.gives[k]? with
    | none => rw [hc] at hx; cases hx
    | some cc =>
    rw [hc] at hx
    have hx' := Option.some.inj hx
    subst hx'
    have hcm := List.mem_of_getElem? hc
    have hkl : k < outs := by rw [← gl]; exact (List.getElem?_eq_some_iff.mp hc).1
    obtain ⟨bl1, bl2, bl3, bl4⟩ := blen h2 (by omega)
    let e5 : DE := [none, some (.bool false), some (dn ins), some (dn outs), none, none, none, none, some E.d, some (dn cc), none]
    have fg : Forg e5 e9 := .keep (.keep (.keep (.keep (.keep (.keep (.keep (.keep (.keep (.drop (.keep .nil))))))))))
    let cur : Wo × List PyData := (ω', ss.map Sm.d)
    refine xs_if (PB := fun _ δ => δ = cur) ((XB.lift (δ := cur) lift_own (XB.w (xb_eqC (xe_drawC (m := 2) ed_int (by decide) (by decide) r0) fun d ⟨k, hd, _⟩ => ⟨k, hd⟩))).mono fun b δ ⟨ω'', ⟨_, y⟩, z⟩ => by rw [z, y]) (fun δ1 h => ?_) fun δ1 h => xs_next.mono (fun e' δ x => ⟨by rw [x.1]; exact fg, ⟨ss, by rw [x.2, h], by rw [x.2, h]; exact h2.le (by omega)⟩, by omega⟩) fun _ _ z => z
    subst h
    have exX : XE K (RW a c wd ch) (tTup (tCons (tC (.str "give")) (tCons (tVar 9) (tCons (tCall (spS K (preExpr 3) rExpr) [] E0 (tCons (tVar 0) (tCons (tVar 8) (tCons (tC (.int 2)) tNil)))) tNil)))) e5 pb10 ω' (fun d ω'' => (∃ x y z, d = .tuple [x, y, z] ∧ x = .str "give" ∧ y = dn cc ∧ IsEx E 4 z) ∧ ω'' = ω') :=
      XE.w (P := fun d _ => ∃ x y z, d = .tuple [x, y, z] ∧ x = .str "give" ∧ y = dn cc ∧ IsEx E 4 z) (xe_tup3 (P1 := fun d => d = .str "give") (P2 := fun d => d = dn cc) (P3 := fun d => IsEx E 4 d) xe_strC (fun _ => xe_con (ed_var (i := 9) rfl) rfl) fun _ => (xe_callD (ds := [E.d, dn 2]) (Pre := preExpr 3) (Rr := rExpr) (ea_cons (ed_var (i := 8) rfl) (ea_cons ed_int ea_nil)) ⟨E, 2, rfl, okE, by decide⟩ r0).mono fun d γ' ⟨E', n', e1, x⟩ => by
        simp only [List.cons.injEq, and_true] at e1
        have e3 := dn_inj e1.2
        rw [Sur.inj e1.1]
        rw [← e3] at x
        exact x)
    refine (xs_app (Z := fun _ _ => False) exX (by rw [List.length_map]; omega) r10).mono (fun e' δ hq => ?_) fun _ _ z => z
    obtain ⟨he, d, ⟨⟨_, _, _, e1, rfl, rfl, y, rfl, y1, y2⟩, x2⟩, x3⟩ := hq
    refine ⟨by rw [he]; exact fg, ⟨ss ++ [.give cc y], by rw [x3, e1, List.map_append]; rfl, ?_⟩, by omega⟩
    rw [x2]
    exact (h2.app (GrownC.one (c := 2) (D := 1) (s := .give cc y) rfl (by show 2 ≤ 2; decide) (by decide) fun ps i S hS => .give (hS.gives _ hcm) ⟨y2 S hS, by omega⟩)).le (by omega)
  case ret =>
  subst he
  obtain ⟨ω7, ds7⟩ := δ7
  obtain ⟨ss7, hd7, hg7⟩ := hB
  dsimp only at hd7 hg7
  subst hd7
  have g12' : Gr (RS a c).M No F H F12 H12 := g11'.step g12 newO
  obtain ⟨W12, m12, n12, ys, l12, d12⟩ := J12
  dsimp only at W12 d12
  have mpb' : ¬ (RS a c).M pb := fun y => m12 (.inl y)
  have pbch : pb ≠ ch := fun z => m12 (.inr (.inr z))
  obtain ⟨F13, s13a, s13b, J13, eq13, ne13⟩ := bulk (R := RS a c) (γ := ()) g12.sub W12.st [pb, ch] (fun x hx => by
    simp only [List.mem_cons, List.not_mem_nil, or_false] at hx
    rcases hx with rfl | rfl
    · exact ⟨mpb', n12, some_ne l12⟩
    · exact ⟨mch, W12.fc, some_ne W12.hc⟩)
  have g13 : Gr (RS a c).M No F H F13 H12 := g12'.frzN s13a s13b fun x => by
    by_cases hx : x ∈ [pb, ch]
    · simp only [List.mem_cons, List.not_mem_nil, or_false] at hx
      rcases hx with rfl | rfl
      · exact .inr (g9.none_of hpb)
      · exact .inr hch
    · exact .inl (ne13 x hx)
  have lpb13 : F13 pb = some (.lst ys) := (eq13 pb (by simp)).trans l12
  have lch13 : F13 ch = some (.lst (ω7.ch.map V.str)) := (eq13 ch (by simp)).trans W12.hc
  have dpb13 : Da K F13 (.ref pb) (.list (ss7.map Sm.d)) := .lst lpb13 (d12.mono s13a)
  have dstr : ∀ (F : Hp) (l : List Str), Das K F (l.map V.str) (l.map PyData.str) := fun F l => Das.map fun x _ => .str x
  have dch13 : Da K F13 (.ref ch) (.list (ω7.ch.map .str)) := .lst lch13 (dstr _ _)
  have gc := DGet.k (k := .inr "cells") W12.hw
  rw [show valV (worldKV ω7 ch) (.inr "cells") = some (.int (ω7.cells : Int)) by rw [worldKV, valV_neg (nk (by decide +kernel)), valV_neg (nk (by decide +kernel)), valV_neg (nk (by decide +kernel))]; exact valV_pos rfl] at gc
  have gch := DGet.k (k := .inr "channels") W12.hw
  rw [w_chV (kv := ch)] at gch
  dsimp only
  refine ret_intro ?_
  refine ⟨_, p12 7 _ r7, wd, _, rfl, gc, _, p12 7 _ r7, wd, _, rfl, gch, _, p12 10 _ r10, line_le (show 2 ≤ 16000000 by decide), fun b1 hb1 => ⟨line_le (show 4 ≤ 16000000 by decide), fun b2 hb2 => ?_⟩⟩
  have hds1 : Das K F13 [V.str "seq", .ref pb] [.str "seq", .list (ss7.map Sm.d)] := .cons (.str _) (.cons dpb13 .nil)
  obtain ⟨zz1, da1⟩ := fz_tup (K := K) s13b hb1 hds1
  have hds2 : Das K (upd F13 b1 (.tup [V.str "seq", .ref pb])) [V.str "core", .int (ω7.cells : Int), .ref ch, .ref b1] [.str "core", dn ω7.cells, .list (ω7.ch.map .str), .tuple [.str "seq", .list (ss7.map Sm.d)]] := .cons (.str _) (.cons (.int _) (.cons (dch13.mono zz1.f) (.cons da1 .nil)))
  obtain ⟨zz2, da2⟩ := fz_tup (K := K) zz1.sub hb2 hds2
  have zz := zz1.trans zz2
  refine r _ _ () _ _ (g13.trans zz.gr) ((RS a c).thru _ _ _ _ _ J13 zz) da2 ?_
  -- the core's properties
  obtain ⟨m, hm7⟩ := hg7.w.ch
  have hm7' : ω7.ch = ks ++ List.replicate m ("inner" : Str) := hm7
  have chl7 : ω7.ch.length = ins + outs + m := by rw [hm7', List.length_append, List.length_replicate]; have : ks.length = ins + outs := ch0; omega
  have c24 : ω7.ch.length ≤ 24 := hg7.w.c24 bdE.c24
  have pot7 := hg7.w.pot
  have ce7 : 2 + kk ≤ ω7.cells := by have := hg7.w.ce; have e : ω1.cells = 0 + 2 + kk := rfl; omega
  have th7 := hg7.w.th
  have nb7 := hg7.nb
  have e1n : ω1.nth = 1 := rfl
  have e1l : ω1.left = 11 := rfl
  have e1c : ω1.cells = 0 + 2 + kk := rfl
  have e1i : ω1.items ≤ 30 := it0
  obtain ⟨bl1, bl2, bl3, bl4⟩ := blen hg7 (by decide)
  let B : Fp := ⟨fun k => k < ω7.cells, fun k => k < ω7.cells, fun c => c < ω7.ch.length, fun c => c < ω7.ch.length⟩
  have inB : SurIn E B := by
    have hc : ∀ k, k ∈ [ω0.cells, ω0.cells + 1] → k < ω7.cells := fun k hk => by
      have hk' : k ∈ [0, 0 + 1] := hk
      simp only [List.mem_cons, List.not_mem_nil, or_false] at hk'
      omega
    refine ⟨fun k hk => ⟨hc k hk, hc k hk⟩, fun k hk => hc k hk, fun s hs k h1 h2 => ?_, fun k hk => ?_, fun k hk => ?_⟩
    · have hs' := hsp s hs
      have e2 : ω0.cells + 2 = 2 := rfl
      rw [hs'] at h2
      have h3 : k < ω0.cells + 2 + kk := h2
      have : k < ω7.cells := by omega
      exact ⟨this, this⟩
    · have := bdE.g k hk
      have h2 : ω1.ch.length ≤ ω7.ch.length := hg7.w.chl
      show k < ω7.ch.length
      omega
    · have := bdE.t k hk
      have h2 : ω1.ch.length ≤ ω7.ch.length := hg7.w.chl
      show k < ω7.ch.length
      omega
  obtain ⟨more, y1, y2⟩ := hg7.ok 0 [0] B rfl (by show 0 < 1; decide) inB (fun _ h => (nomatch h)) ⟨fun k _ h => ⟨h, h⟩, fun c _ h => ⟨h, h⟩⟩
  refine ⟨ins, outs, m, ω7.cells, .seq ss7, [0] ++ more, B, ?_, by omega, by omega, by omega, by omega, by omega, fun k h => h, fun k h => h, fun c h => by rw [← chl7]; exact h, fun c h => by rw [← chl7]; exact h, ?_, ?_, ?_⟩
  · show PyData.tuple [.str "core", dn ω7.cells, .list (ω7.ch.map .str), .tuple [.str "seq", .list (ss7.map Sm.d)]] = PyData.tuple [.str "core", dn ω7.cells, _, .tuple [.str "seq", .list (smsD ss7)]]
    rw [smsD_map, hm7']
  · exact (SmOk.seq y2).mono (fun _ _ z => z) (by decide) (Fp.Le.refl _)
  · rw [y1]
    show ω7.nth = nbL ss7 + 1
    omega
  · show 1 + wkL ss7 ≤ 100000
    omega
end
end Pa
/-! state, by_channel, law -/
namespace Pa
open PySem L2 PyProof.Rows
local macro_rules | `(tactic| walk_at "ed") => `(tactic| first
  | ((with_reducible show ED _ (tVar _) _ _); exact ed_var rfl)
  | ((with_reducible show ED _ (tC _) _ _); first | exact ed_int | exact ed_str | exact ed_non | exact ed_bl | exact ed_tupC T.fF | exact ed_tupC T.fS)
  | ((with_reducible show EA _ tNil _ _); exact ea_nil) | ((with_reducible show EA _ (tCons _ _) _ _); exact ea_cons (by walk_at "ed") (by walk_at "ed"))
  | ((with_reducible show ED _ (tTup _) _ _); exact ed_tup (by walk_at "ed")) | ((with_reducible show ED _ (tLst _) _ _); exact ed_lst (by walk_at "ed"))
  | ((with_reducible show ED _ (tOp (rI0 fun i j => V.int (i + j)) _ _) _ _); exact ed_add (by walk_at "ed") (by walk_at "ed"))
  | ((with_reducible show ED _ (tOp (rI0 fun i j => V.int (i - j)) _ _) _ _); exact ed_sub (by walk_at "ed") (by walk_at "ed"))
  | ((with_reducible show ED _ (tOp (rI0 fun i j => V.int (Builtin.bitAnd i j)) _ _) _ _); exact ed_and (by walk_at "ed") (by walk_at "ed"))
  | ((with_reducible show ED _ (tOp (rIxT _) _ (tC (.int 0))) _ _); exact ed_ix0 (by walk_at "ed")) | ((with_reducible show ED _ (tOp (rIxT _) _ (tC (.int 1))) _ _); exact ed_ix1 (by walk_at "ed"))
  | ((with_reducible show ED _ (tOp (rIxT _) _ (tC (.int 2))) _ _); exact ed_ix2 (by walk_at "ed")) | ((with_reducible show ED _ (tOp (rIxT _) _ (tC (.int 3))) _ _); exact ed_ix3 (by walk_at "ed"))
  | ((with_reducible show ED _ (tSl _ _ tNoPart (tPart _)) _ _); exact ed_take (by walk_at "ed") (by walk_at "ed")) | ((with_reducible show ED _ (tSl _ _ (tPart _) tNoPart) _ _); exact ed_dropI (by walk_at "ed") (by walk_at "ed") rfl)
  | ((with_reducible show ED _ (tOp rEq _ _) _ _); exact ed_eqS (by walk_at "ed") (by walk_at "ed"))
  | ((with_reducible show ED _ (tOp rEq _ _) _ _); exact ed_eqI (by walk_at "ed") (by walk_at "ed"))
  | ((with_reducible show ED _ (tOp (fun x y H Q => y = V.non ∧ Q (V.bl (decide (x = V.non))) H) _ _) _ _); exact ed_isN (by walk_at "ed"))
  | ((with_reducible show ED _ (tOp (rIn _ false) _ _) _ _); exact ed_in2 (by walk_at "ed"))
  | ((with_reducible show ED _ (tCB _ _) _ _); exact ed_len (by walk_at "ed")))
local macro_rules | `(tactic| walk_at "eb") => `(tactic| first
  | ((with_reducible show EB _ (tTest (tOp (rIn _ false) _ _)) _ _); exact (eb_cmp (ed_in2 (by walk_at "ed"))).eq (by decide +kernel))
  | ((with_reducible show EB _ (tTest (tOp rEq _ _)) _ _); exact (eb_cmp (ed_eqS (by walk_at "ed") (by walk_at "ed"))).eq (by decide +kernel)))

section
variable {P : Program} {w : World} {K : PySem.W.Frag} {mg : Str → Option Value} {base : Heap} {tW : Tok} {aF aS : Addr}
abbrev noH : Hp := fun _ => none
def absI (i : Int) : Int := if i < 0 then -i else i
def spState (K : PySem.W.Frag) : Sp := fun vs H Q _ => ∃ (s : Addr) (ns : List Int), vs = [.ref s] ∧ SqL K H s (ns.map V.int) ∧ ns.length ≤ 63 ∧ ∀ a c ms seed H', StA a c ms seed noH H' → Q (.ref a) H'
abbrev s_state : Stmt := topS 38
theorem sc_state : FnScope ["_law_script", "_law_seed", "_law_cell"] ["_law_script"] (defScope s_state) := ⟨rfl, rfl, rfl, by decide +kernel, rfl, by decide +kernel, by decide +kernel⟩
theorem ok_state (d : Def K mg "_law_state" s_state) (T : Txt K mg tW aF aS) : Cal P w K mg base 1 "_law_state" ["_law_script"] (spState K) := by
  refine d.cal sc_state (fun vs H Q E ⟨s, ns, z, _⟩ => by rw [z]; rfl) (fun _ _ _ _ _ _ us hl => match us, hl with | [_], _ => rfl) fun f cdv A outer s' H vs Q E hr ⟨s, ns, z, hS, hn, q⟩ => ?_
  subst z
  have hu := hu_of hr
  refine ⟨_, 
      (pss_cons (ps_set (i := 1) sc_state.nd rfl (Or.inl rfl) pe_int) (pss_cons (ps_for PassesOwn.never rfl (pi_list (pv 0)) (pg_name (i := 2) sc_state.nd rfl (Or.inl rfl))
      (pss_one (ps_set (i := 1) sc_state.nd rfl (Or.inl rfl) (pe_op op_mod (pe_callTy call_int1 (by rfl) T.int (by decide +kernel) (pa_cons (pe_op op_add (pe_op op_mul (pv 1) pe_int) (pv 2)) pa_nil)) pe_int))))
      (pss_one (ps_ret (pe_lst (pa_cons (pe_lc (own := [("_law_cell", 2)]) (g := gName 2) (tt := tYes) rfl sc_state.nd (pi_list (pv 0)) (blkOk_by (own := [("_law_cell", 2)]) (N := ["_law_script", "_law_seed", "_law_cell"]) (sc := defScope s_state) (by decide +kernel)) (fun _ _ _ _ _ => (pg_name (i := 2) sc_state.nd rfl (Or.inl rfl))) (fun _ _ _ _ _ => pts_nil) (fun _ _ _ _ _ => (pe_callB call_abs (by rfl) T.abs (by decide +kernel) (pa_cons (pv 2) pa_nil)))) (pa_cons (pe_op op_add (pv 1) pe_int) pa_nil))))))), ?_⟩
  refine asg_next ?_
  show tSeq _ _ _ [some (.ref s), some (.int 7), none] H
  refine seq_intro ?_
  refine ⟨_, rfl, s, rfl, ⟨_, hS⟩, for_list (K := K) (a := s) (xs := ns.map V.int) (fun k σ' H' => H' = H ∧ ∃ seed y, σ' = [some (.ref s), some (.int seed), y] ∧ (0 : Int) ≤ seed ∧ seed < 1000003) ⟨rfl, 7, none, rfl, by decide, by decide⟩ (fun k σ' H' _ ⟨h1, _⟩ => by rw [h1]; exact hS) (fun k x σ' H' hx ⟨h1, seed, y, h2, h3, h4⟩ => ?_) (fun σ' H0 ⟨h1, seed, y, h2, h3, h4⟩ => ?_)⟩
  · subst h1
    subst h2
    rw [List.getElem?_map] at hx
    cases hc : ns[k]? with
    | none => rw [hc] at hx; cases hx
    | some x' =>
    rw [hc] at hx
    have hx' := Option.some.inj hx
    subst hx'
    refine ⟨_, rfl, _, _, rfl, rfl, .inr ⟨by decide, by decide⟩, _, rfl, _, _, rfl, rfl, .inl ⟨_, rfl, _, _, rfl, rfl, (show (0 : Int) < 1000003 by decide), ?_⟩⟩
    exact ⟨rfl, (seed * 31 + x') % 1000003, some (.int x'), rfl, Int.emod_nonneg _ (by decide), Int.emod_lt_of_pos _ (by decide)⟩
  · subst h1
    subst h2
    dsimp only
    refine ret_intro ?_
    refine ⟨_, rfl, s, rfl, ⟨_, hS⟩, fun C nC => ?_⟩
    refine lc_list (K := K) (a := s) (xs := ns.map V.int) (fun k H' => Same H' H' ∧ Same H0 H' ∧ H' C = some (.lst (((ns.take k).map absI).map V.int))) ⟨Same.refl _, same_upd nC, upd_same⟩ (fun k H' _ ⟨_, h1, _⟩ => h1.seq hS) (fun k x H' hx ⟨_, h1, h2⟩ => ?_) (fun H' ⟨_, h1, h2⟩ => ?_)
    · rw [List.getElem?_map] at hx
      cases hc : ns[k]? with
      | none => rw [hc] at hx; cases hx
      | some x' =>
      rw [hc] at hx
      have hx' := Option.some.inj hx
      subst hx'
      refine ⟨rfl, yes_intro ?_⟩
      refine ⟨_, rfl, x', rfl, _, h2, ?_, Same.refl _, fun b o hb => ?_, ?_⟩
      · rw [List.length_map, List.length_map, List.length_take]
        exact line_lt (by omega)
      · rw [upd_ne (ne_of_none hb nC)]
        exact h1 _ _ hb
      · rw [upd_same, List.take_add_one, hc, List.map_append, List.map_append]
        rfl
    · refine ⟨_, rfl, _, _, rfl, rfl, line_le (show 2 ≤ 16000000 by decide), fun a na => ?_⟩
      rw [List.length_map, List.take_length] at h2
      have nac : a ≠ C := fun z => by rw [z, h2] at na; cases na
      refine q a C (ns.map absI) (seed + 1) _ ⟨nac, rfl, rfl, upd_same, by rw [upd_ne (Ne.symm nac)]; exact h2, fun n hn' => ?_, by rw [List.length_map]; omega, by omega, by omega⟩
      obtain ⟨x, _, e⟩ := List.mem_map.mp hn'
      rw [← e]
      unfold absI
      split <;> omega
/-- nothing that changes -/
def Res.nil : Res Unit where
  M := fun _ => False
  J := fun _ _ _ => True
  thru := fun _ _ _ _ _ _ _ => trivial
  frz := fun _ _ _ _ _ _ _ _ => trivial
  ex := fun _ _ _ _ _ h => h.elim
  oth := fun _ _ _ _ _ _ _ _ => trivial
theorem Gr.fz {F H F' H' : Hp} (g : Gr Res.nil.M No F H F' H') : Fz F H F' H' := ⟨fun b o hb => g.h b o (fun z => z) hb, g.f, g.sub, fun a o h => (g.fresh a o h).imp id fun z => z.elim id False.elim⟩
def byCh (m : Nat) (evs : List (Nat × Nat)) : PyData := .list ((List.range m).map fun c => dns (proj c evs))
def rByCh : List PyData → PyData → Prop := fun ds d => ∃ (evs : List (Nat × Nat)) (m : Nat), ds = [.list (evs.map evD), dn m] ∧ (∀ e, e ∈ evs → e.1 < m) ∧ m ≤ 10000 ∧ evs.length ≤ 1000000 ∧ d = byCh m evs
theorem proj_snoc (c : Nat) (evs : List (Nat × Nat)) (k w : Nat) : proj c (evs ++ [(k, w)]) = proj c evs ++ (if k = c then [w] else []) := by
  rw [proj_append]
  congr 1
  unfold proj
  by_cases h : k = c
  · rw [if_pos h, List.filter_cons_of_pos (by exact beq_iff_eq.mpr h)]; rfl
  · rw [if_neg h, List.filter_cons_of_neg (by rw [beq_iff_eq]; exact h)]; rfl
theorem proj_len (c : Nat) (evs : List (Nat × Nat)) : (proj c evs).length ≤ evs.length := by
  unfold proj
  rw [List.length_map]
  exact List.length_filter_le _ _
abbrev s_by_channel : Stmt := topS 61
theorem sc_by_channel : FnScope ["_law_events", "_law_many", "_law_k", "_law_rows", "_law_c", "_law_word"] ["_law_events", "_law_many"] (defScope s_by_channel) := ⟨rfl, rfl, rfl, by decide +kernel, rfl, by decide +kernel, by decide +kernel⟩
theorem ok_by_channel (T : Txt K mg tW aF aS) (d : Def K mg "_law_by_channel" s_by_channel) : Cal P w K mg base 1 "_law_by_channel" ["_law_events", "_law_many"] (spD K rByCh) := by
  refine d.cal sc_by_channel (fun vs H Q E ⟨F, ds, d, _, h, ⟨evs, m, e, _⟩, _⟩ => by rw [h.length, e]; rfl) (fun _ _ _ _ _ _ us hl => match us, hl with | [_, _], _ => rfl) fun f cdv A outer s' H vs Q E hr ⟨F, ds, d, fs, h, ⟨evs, m, e, hev, hm, hel, hd⟩, q⟩ => ?_
  subst e
  subst hd
  have hu := hu_of hr
  obtain ⟨v0, v1, rfl, a0, a1⟩ := h.inv2
  cases a1.intI
  refine ⟨_, 
      (pss_cons (ps_setLc (i := 3) (own := [("_law_k", 2)]) (g := gName 2) (tt := tYes) rfl sc_by_channel.nd rfl rfl (sw_true rfl rfl rfl (by decide +kernel)) (pi_range1 rfl T.range (pa_cons (pv 1) pa_nil)) (blkOk_by (own := [("_law_k", 2)]) (N := ["_law_events", "_law_many", "_law_k", "_law_rows", "_law_c", "_law_word"]) (sc := defScope s_by_channel) (by decide +kernel)) (fun _ _ _ _ _ => (pg_name (i := 2) sc_by_channel.nd rfl (Or.inl rfl))) (fun _ _ _ _ _ => pts_nil) (fun _ _ _ _ _ => (pe_lst pa_nil)))
      (pss_cons (ps_for PassesOwn.never rfl (pi_list (pv 0)) (pg_tup rfl (pgs_cons (pg_name (i := 4) sc_by_channel.nd rfl (Or.inl rfl)) (pgs_cons (pg_name (i := 5) sc_by_channel.nd rfl (Or.inl rfl)) pgs_nil)))
      (pss_one (ps_expr (pe_bm PySem.F.plainAttrs_list PySem.F.slot_list_append PySem.F.type_list_append mt_append (pe_ix ix_list (pv 3) (pv 4) (fun _ _ => rfl)) (pa_cons (pv 5) pa_nil)))))
      (pss_one (ps_ret (pv 3))))), ?_⟩
  refine asg_next ?_
  refine newLs_range (n := m) (fun Q' hq' => ⟨_, rfl, hq'⟩) (by omega) (by decide) fun C b H1 nl => ?_
  have J := nl.res (K := K) (R := Res.nil) (γ := ()) fs trivial
  let e0 : DE := [some (.list (evs.map evD)), some (dn m), none, none, none, none]
  have s0 : SD K F [some v0, some (.int (m : Int)), none, some (.ref C), none, none] e0 := ⟨rfl, fun i d hd => by
    match i, hd with
    | 0, hd => cases hd; exact ⟨_, rfl, a0⟩
    | 1, hd => cases hd; exact ⟨_, rfl, .int _⟩
    | 2, hd => cases hd
    | 3, hd => cases hd
    | 4, hd => cases hd
    | 5, hd => cases hd⟩
  show tSeq _ _ _ [some v0, some (.int (m : Int)), none, some (.ref C), none, none] H1
  let R := ((Res.nil).fam K [0] m (fun _ => b)).raw C (refsOf m b)
  have mC : (3, V.ref C) ∈ [(3, V.ref C)] := List.mem_singleton.mpr rfl
  refine seq_intro (XS.run (K := K) (R := R) (e := e0) (pn := [(3, V.ref C)]) (γ := ((), fun _ _ => [])) (N := fun _ δ => ∀ j, j < m → δ.2 0 j = (proj j evs).map dn) (Z := fun _ _ => False) (F := F) ?body (fs.trans nl.same) s0 (fun i v hi => by cases List.mem_singleton.mp hi; rfl) J (fun σ1 e1 δ F1 H2 g1 J1 s1 p1 hN => ?fin) (fun _ _ _ _ _ _ _ _ x => x.elim))
  case fin =>
    obtain ⟨F2, g2, _, h3, h4⟩ := nl.done (K := K) (R := Res.nil) fs J1 g1
    dsimp only
    refine ret_intro ⟨_, p1 3 _ mC, ?_⟩
    refine q _ F2 H2 g2.fz ?_
    have e : ((List.range m).map fun j => PyData.list (δ.2 0 j)) = (List.range m).map fun c => dns (proj c evs) := List.map_congr_left fun j hj => by
      rw [hN j (List.mem_range.mp hj)]
    rw [e] at h4
    exact h4
  case body =>
    refine (xs_for (K := K) (R := R) (γ := ((), fun _ _ => [])) (pn := [(3, V.ref C)]) (e := e0) (ws := [4, 5]) (ds := evs.map evD) (fun k δ => ∀ j, j < m → δ.2 0 j = (proj j (evs.take k)).map dn) (ed_var (i := 0) rfl) (fun j hj => rfl) rfl fun k x δ hx hI => ?_).mono (fun e' δ ⟨_, h2⟩ => fun j hj => by rw [h2 j hj, List.length_map, List.take_length]) fun _ _ z => z
    rw [List.getElem?_map] at hx
    cases hc : evs[k]? with
    | none => rw [hc] at hx; cases hx
    | some ev =>
    rw [hc] at hx
    have hx' := Option.some.inj hx
    subst hx'
    obtain ⟨c, x⟩ := ev
    have hcm := hev (c, x) (List.mem_of_getElem? hc)
    refine ⟨_, eg_tup (ds := [dn c, dn x]) (et_cons (et_cons et_nil (by decide)) (by decide)) rfl, ?_⟩
    refine (xs_happ (P := fun d δ' => d = dn x ∧ δ' = δ) ((hasL_fam (R := Res.nil) (ad := fun _ => b) (List.mem_singleton.mpr rfl) hcm).lift lift_raw) (xv_ix (xv_pin mC) (fun F H _ jj => jj.2.2.2) rfl (refs_at hcm)) (xe_ed (ed_var (i := 5) rfl)) fun d δ1 ⟨_, y⟩ => ?_).mono (fun e' δ' ⟨he, d, δ1, ⟨y1, y2⟩, y3⟩ => ?_) fun _ _ z => z
    · rw [y]
      show (δ.2 0 c).length ≤ _
      rw [hI c hcm, List.length_map]
      have := proj_len c (evs.take k)
      rw [List.length_take] at this
      omega
    · rw [he, y3, y2, y1]
      refine ⟨.keep (.keep (.keep (.keep (.drop (.drop .nil))))), fun j hj => ?_⟩
      show up2 δ.2 0 c (δ.2 0 c ++ [dn x]) 0 j = _
      rw [take_succ' hc, proj_snoc]
      by_cases e : j = c
      · subst e
        rw [up2_same, hI j hj, if_pos rfl, List.map_append]
        rfl
      · rw [up2_ne (fun z => e z.2), if_neg (fun z => e z.symm), List.append_nil]
        exact hI j hj
/-! ### runs, read -/
section
variable {Γ : Type} {R : Res Γ} {γ : Γ} {e : DE} {pn : List (Nat × V)} {tr : TA} {ta tb : TE} {g : Cfg} {m nc : Nat} {ps : List Nat} {B : Fp} {body : Sm} {cs : List Int}
theorem xe_run (ha : EA K tr e [coreD g m nc body, inpD g.inp, choicesD cs]) (hR : Runs g m nc ps B body cs) : XE K R (tCall (spRun K) [] E0 tr) e pn γ (fun d γ' => γ' = γ ∧ ∃ n evs σ', Path g (start g nc (body.nb + 1) body) n evs σ' ∧ redexes g σ' = [] ∧ d = .tuple [σ'.d, .list (evs.map evD)]) := fun σ F H Q f s p j q => ha σ F H _ f s fun vs F1 H1 z a =>
  ⟨F1, g, m, nc, body, ps, B, cs, z.sub, by rw [List.append_nil]; exact a, hR, fun v n evs σ' F' H' pt hr z2 hv => q v _ γ F' H' (z.trans z2).gr (R.thru _ _ _ _ _ j (z.trans z2)) ⟨rfl, n, evs, σ', pt, hr, rfl⟩ hv⟩
theorem xe_steps (ha : EA K tr e [coreD g m nc body, inpD g.inp, choicesD cs]) (hR : Runs g m nc ps B body cs) : XE K R (tCall (spSteps K) [] E0 tr) e pn γ (fun d γ' => γ' = γ ∧ ∃ n evs σ', Path g (start g nc (body.nb + 1) body) n evs σ' ∧ redexes g σ' = [] ∧ d = dn n) := fun σ F H Q f s p j q => ha σ F H _ f s fun vs F1 H1 z a =>
  ⟨F1, g, m, nc, body, ps, B, cs, z.sub, by rw [List.append_nil]; exact a, hR, fun n evs σ' F' H' pt hr z2 => q _ (dn n) γ F' H' (z.trans z2).gr (R.thru _ _ _ _ _ j (z.trans z2)) ⟨rfl, n, evs, σ', pt, hr, rfl⟩ (.int _)⟩
theorem ed_neD {d1 d2 : PyData} (ha : ED K ta e d1) (hb : ED K tb e d2) (h1 : SeqAt.shaped d1 = true) (h2 : SeqAt.shaped d2 = true) : ED K (tOp (rNeD K) ta tb) e (.bool (!PyData.eqv d1 d2)) := ed_op ha hb fun x y F H Q f hx hy q =>
  ⟨d1, d2, (hx.mono f).dp (Bool.and_eq_true_iff.mp h1).1, (hy.mono f).dp (Bool.and_eq_true_iff.mp h2).1, h1, h2, q _ F H (Fz.refl f) (.bl _)⟩
theorem ed_neSame {d : PyData} (ha : ED K ta e d) (hb : ED K tb e d) (h : SeqAt.shaped d = true) : ED K (tOp (rNeD K) ta tb) e (.bool false) := (ed_neD ha hb h h).eq (by
  rw [eqv_self (Bool.and_eq_true_iff.mp h).1]
  rfl)
/-- a call of a def that draws; the drawing state in slot i -/
theorem xe_callI {a c : Addr} {i : Nat} {ds : List PyData} {Pre : List PyData → Prop} {Rr : List PyData → PyData → Prop} (ha : EA K tr e ds) (hp : Pre ds) (h0 : (i, V.ref a) ∈ pn) : XE K (RS a c) (tCall (spS K Pre Rr) [] E0 (tCons (tVar i) tr)) e pn () (fun d _ => Rr ds d) := fun σ F H Q f s p j q =>
  ⟨_, p i _ h0, ha σ F H _ f s fun vs F1 H1 z a1 => ⟨a, c, F1, vs, ds, by rw [List.append_nil], z.sub, (RS a c).thru _ _ _ _ _ j z, a1, hp, fun v d F' H' g2 j2 r2 a2 => q v d () F' H' (z.gr.trans g2) j2 r2 a2⟩⟩
theorem count_in {nIn nOut m : Nat} : (List.replicate nIn ("in" : Str) ++ List.replicate nOut ("out" : Str) ++ List.replicate m ("inner" : Str)).countP (fun k => decide (k = ("in" : Str))) = nIn := by
  rw [List.countP_append, List.countP_append, List.countP_replicate, List.countP_replicate, List.countP_replicate]
  rw [if_pos (by decide), if_neg (by decide), if_neg (by decide)]
  rfl
/-- the channels of events are there -/
theorem Path.ev_lt {σ σ' : State} {n : Nat} {evs : List (Nat × Nat)} (hin : g.Words) (p : Path g σ n evs σ') (I : SInv g ps 16 nc B σ) (hb : ∀ c, B.G c → c < g.nIn + g.nOut + m) : ∀ e, e ∈ evs → e.1 < g.nIn + g.nOut + m := by
  induction p with
  | nil => exact fun e h => (nomatch h)
  | @cons σ σ' r n evs h p ih =>
    intro e he
    rcases List.mem_append.mp he with z | z
    · obtain ⟨F, J⟩ := I.ex
      cases r with
      | step t => cases z
      | fin t => cases z
      | meet c x t =>
        obtain ⟨h1, _, w, st, h2⟩ := h
        have e1 : event g σ (.meet c x t) = some (c, w) := by
          show (match σ.th[x]? with | some (.giv _ w _) => some (c, w) | _ => none) = _
          rw [h2]
        rw [e1] at z
        rw [List.mem_singleton.mp z]
        exact hb c ((J.le x _ h2 trivial).g c (J.ok x _ h2).1)
      | input c t =>
        have e1 : event g σ (.input c t) = some (c, g.word σ c) := rfl
        rw [e1] at z
        rw [List.mem_singleton.mp z]
        have := h.1
        show c < _
        omega
      | output c t =>
        obtain ⟨h1, h2, w, st, h3⟩ := h
        have e1 : event g σ (.output c t) = some (c, w) := by
          show (match σ.th[t]? with | some (.giv _ w _) => some (c, w) | _ => none) = _
          rw [h3]
        rw [e1] at z
        rw [List.mem_singleton.mp z]
        show c < _
        omega
    · exact ih (I.perform hin h) e z
theorem shaped_byCh {M : Nat} {evs : List (Nat × Nat)} : SeqAt.shaped (byCh M evs) = true := by
  refine shaped_of ?_ ?_
  · show PyData.canLayAll0 _ = true
    refine can_all fun d hd => ?_
    obtain ⟨c, _, rfl⟩ := List.mem_map.mp hd
    exact can_dns _
  · have : PyData.depthAll ((List.range M).map fun c => dns (proj c evs)) ≤ 1 := dep_all fun d hd => by
      obtain ⟨c, _, rfl⟩ := List.mem_map.mp hd
      exact dep_dns _
    show PyData.depthAll _ + 1 ≤ 64
    omega
end
end
end Pa
/-! law -/
namespace Pa
open PySem L2 PyProof.Rows
local macro_rules | `(tactic| walk_at "ed") => `(tactic| first
  | ((with_reducible show ED _ (tVar _) _ _); exact ed_var rfl)
  | ((with_reducible show ED _ (tC _) _ _); first | exact ed_int | exact ed_str | exact ed_non | exact ed_bl | exact ed_tupC T.fF | exact ed_tupC T.fS)
  | ((with_reducible show EA _ tNil _ _); exact ea_nil) | ((with_reducible show EA _ (tCons _ _) _ _); exact ea_cons (by walk_at "ed") (by walk_at "ed"))
  | ((with_reducible show ED _ (tTup _) _ _); exact ed_tup (by walk_at "ed")) | ((with_reducible show ED _ (tLst _) _ _); exact ed_lst (by walk_at "ed"))
  | ((with_reducible show ED _ (tOp (rI0 fun i j => V.int (i + j)) _ _) _ _); exact ed_add (by walk_at "ed") (by walk_at "ed"))
  | ((with_reducible show ED _ (tOp (rI0 fun i j => V.int (i - j)) _ _) _ _); exact ed_sub (by walk_at "ed") (by walk_at "ed"))
  | ((with_reducible show ED _ (tOp (rI0 fun i j => V.int (Builtin.bitAnd i j)) _ _) _ _); exact ed_and (by walk_at "ed") (by walk_at "ed"))
  | ((with_reducible show ED _ (tOp (rIxT _) _ (tC (.int 0))) _ _); exact ed_ix0 (by walk_at "ed")) | ((with_reducible show ED _ (tOp (rIxT _) _ (tC (.int 1))) _ _); exact ed_ix1 (by walk_at "ed"))
  | ((with_reducible show ED _ (tOp (rIxT _) _ (tC (.int 2))) _ _); exact ed_ix2 (by walk_at "ed")) | ((with_reducible show ED _ (tOp (rIxT _) _ (tC (.int 3))) _ _); exact ed_ix3 (by walk_at "ed"))
  | ((with_reducible show ED _ (tSl _ _ tNoPart (tPart _)) _ _); exact ed_take (by walk_at "ed") (by walk_at "ed")) | ((with_reducible show ED _ (tSl _ _ (tPart _) tNoPart) _ _); exact ed_dropI (by walk_at "ed") (by walk_at "ed") rfl)
  | ((with_reducible show ED _ (tOp rEq _ _) _ _); exact ed_eqS (by walk_at "ed") (by walk_at "ed"))
  | ((with_reducible show ED _ (tOp rEq _ _) _ _); exact ed_eqI (by walk_at "ed") (by walk_at "ed"))
  | ((with_reducible show ED _ (tOp (fun x y H Q => y = V.non ∧ Q (V.bl (decide (x = V.non))) H) _ _) _ _); exact ed_isN (by walk_at "ed"))
  | ((with_reducible show ED _ (tOp (rIn _ false) _ _) _ _); exact ed_in2 (by walk_at "ed"))
  | ((with_reducible show ED _ (tCB _ _) _ _); exact ed_len (by walk_at "ed")))
local macro_rules | `(tactic| walk_at "eb") => `(tactic| first
  | ((with_reducible show EB _ (tTest (tOp (rIn _ false) _ _)) _ _); exact (eb_cmp (ed_in2 (by walk_at "ed"))).eq (by decide +kernel))
  | ((with_reducible show EB _ (tTest (tOp rEq _ _)) _ _); exact (eb_cmp (ed_eqS (by walk_at "ed") (by walk_at "ed"))).eq (by decide +kernel)))

section
variable {P : Program} {w : World} {K : PySem.W.Frag} {mg : Str → Option Value} {base : Heap} {tW : Tok} {aF aS : Addr}
def spLaw (K : PySem.W.Frag) : Sp := fun vs H Q _ => ∃ (a : Addr) (ns : List Int), vs = [.ref a] ∧ SqL K H a (ns.map V.int) ∧ ns.length ≤ 63 ∧ ∀ H', Q (.bl true) H'
abbrev s_law : Stmt := topS 62
theorem sc_law : FnScope ["_law_script", "_law_state_here", "_law_core_here", "_law_inputs_here", "_law_last", "_law_events", "_law_many", "_law_due", "_law_k", "_law_choices_here", "_law_told", "_law_other"] ["_law_script"] (defScope s_law) := ⟨rfl, rfl, rfl, by decide +kernel, rfl, by decide +kernel, by decide +kernel⟩
theorem ok_law (T : Txt K mg tW aF aS) {fl : Addr} {fdl : FuncData} (FL : Fun K "law" "law" s_law fl fdl) (c_draw : CDraw P w K mg base) (c_state : Cal P w K mg base 1 "_law_state" ["_law_script"] (spState K)) {k : Nat} (hk : 22 ≤ k)
    (c_core : Cal P w K mg base k "_law_core" ["_law_state_here", "_law_alts"] (spS K preCore rCore)) (c_inputs : Cal P w K mg base 3 "_law_inputs" ["_law_state_here", "_law_core_here"] (spS K preInputs rInputs)) (c_choices : Cal P w K mg base 3 "_law_choices" ["_law_state_here"] (spS K preNo rChoices))
    (c_by_channel : Cal P w K mg base 1 "_law_by_channel" ["_law_events", "_law_many"] (spD K rByCh)) (c_run : Cal P w K mg base 21 "run" ["core", "inputs", "choices"] (spRun K)) (c_steps : Cal P w K mg base 21 "steps" ["core", "inputs", "choices"] (spSteps K)) : FnOk P w K mg base CX0 (k + 1) fl fdl ["_law_script"] (spLaw K) := by
  refine FL.ok sc_law (fun vs H Q E ⟨a, ns, z, _⟩ => by rw [z]; rfl) fun cdv A outer s' H vs Q E hr ⟨s, ns, z, hS, hn, q⟩ => ?_
  subst z
  have hu := hu_of hr
  refine ⟨_, 
      (pss_cons (ps_set (i := 1) sc_law.nd rfl (Or.inl rfl) (pe_cal c_state (hr.mono (by omega)) (pa_cons (pv 0) pa_nil)))
      (pss_cons (ps_set (i := 2) sc_law.nd rfl (Or.inl rfl) (pe_cal c_core (hr.mono (by omega)) (pa_cons (pv 1) (pa_cons pe_bl pa_nil))))
      (pss_cons (ps_set (i := 3) sc_law.nd rfl (Or.inl rfl) (pe_cal c_inputs (hr.mono (by omega)) (pa_cons (pv 1) (pa_cons (pv 2) pa_nil))))
      (pss_cons (ps_asg (pe_cal c_run (hr.mono (by omega)) (pa_cons (pv 2) (pa_cons (pv 3) (pa_cons (pe_lst pa_nil) pa_nil)))) (pg_tup rfl (pgs_cons (pg_name (i := 4) sc_law.nd rfl (Or.inl rfl)) (pgs_cons (pg_name (i := 5) sc_law.nd rfl (Or.inl rfl)) pgs_nil))))
      (pss_cons (ps_set (i := 6) sc_law.nd rfl (Or.inl rfl) (pe_cal c_steps (hr.mono (by omega)) (pa_cons (pv 2) (pa_cons (pv 3) (pa_cons (pe_lst pa_nil) pa_nil)))))
      (pss_cons (ps_set (i := 7) sc_law.nd rfl (Or.inl rfl) (pe_cal c_by_channel (hr.mono (by omega)) (pa_cons (pv 5) (pa_cons (pe_callB call_len_seq (by rfl) T.len (by decide +kernel) (pa_cons (pe_ix ix_tup (pv 2) pe_int (fun _ _ => rfl)) pa_nil)) pa_nil))))
      (pss_cons (ps_for PassesOwn.never rfl (pi_range1 rfl T.range (pa_cons pe_int pa_nil)) (pg_name (i := 8) sc_law.nd rfl (Or.inl rfl))
      (pss_cons (ps_set (i := 9) sc_law.nd rfl (Or.inl rfl) (pe_op op_cat (pe_cal c_choices (hr.mono (by omega)) (pa_cons (pv 1) pa_nil)) (pe_lst (pa_cons (pe_op op_add pe_int (pe_cal c_draw (hr.mono (by omega)) (pa_cons (pv 1) (pa_cons pe_int pa_nil)))) pa_nil))))
      (pss_cons (ps_asg (pe_cal c_run (hr.mono (by omega)) (pa_cons (pv 2) (pa_cons (pv 3) (pa_cons (pv 9) pa_nil)))) (pg_tup rfl (pgs_cons (pg_name (i := 10) sc_law.nd rfl (Or.inl rfl)) (pgs_cons (pg_name (i := 11) sc_law.nd rfl (Or.inl rfl)) pgs_nil))))
      (pss_cons (ps_if (PW.pt (pw_or (pt_cmpR (op_neD hr.units) (pv 10) (pv 4) (nomark _)) (pw_or1 (pt_cmpR op_ne (pe_cal c_steps (hr.mono (by omega)) (pa_cons (pv 2) (pa_cons (pv 3) (pa_cons (pv 9) pa_nil)))) (pv 6) (nomark _)))))
      (pss_one (ps_ret pe_bl)) pss_nil)
      (pss_one (ps_if (pt_cmpR (op_neD hr.units) (pe_cal c_by_channel (hr.mono (by omega)) (pa_cons (pv 11) (pa_cons (pe_callB call_len_seq (by rfl) T.len (by decide +kernel) (pa_cons (pe_ix ix_tup (pv 2) pe_int (fun _ _ => rfl)) pa_nil)) pa_nil))) (pv 7) (nomark _))
      (pss_one (ps_ret pe_bl)) pss_nil)))))) (pss_one (ps_ret pe_bl))))))))), ?_⟩
  refine asg_next ?_
  refine ⟨_, rfl, s, ns, rfl, hS, hn, fun a c ms seed H1 St => ?_⟩
  let e0 : DE := List.replicate 12 none
  let pn : List (Nat × V) := [(1, V.ref a)]
  have h1 : (1, V.ref a) ∈ pn := List.mem_singleton.mpr rfl
  dsimp only
  refine XS.run (K := K) (R := RS a c) (e := e0) (pn := pn) (γ := ()) (N := fun _ _ => False) (Z := fun d _ => d = .bool true) (F := noH) ?body (fun b o h => nomatch h) (SD.nones 12 rfl) (fun i v hi => by cases List.mem_singleton.mp hi; rfl) ⟨ms, seed, St⟩ (fun _ _ _ _ _ _ _ _ _ x => x.elim) (fun v d γ' F' H' _ _ aa x => by subst x; cases aa.blI; exact q H')
  refine xs_let (xe_callI (ds := [.bool false]) (Pre := preCore) (Rr := rCore) (ea_cons ed_bl ea_nil) rfl h1) fun dc γ1 hc => ?_
  obtain ⟨nIn, nOut, m, nc, body, ps, B, rfl, b1, b2, b3, b4, b5, b6, b7, b8, b9, b10, b11, b12⟩ := hc
  let ks : List Str := List.replicate nIn ("in" : Str) ++ List.replicate nOut ("out" : Str) ++ List.replicate m ("inner" : Str)
  have hks : ks.length = nIn + nOut + m := by simp only [ks, List.length_append, List.length_replicate]
  refine xs_let (xe_callI (ds := [.tuple [.str "core", dn nc, .list (ks.map .str), body.d]]) (Pre := preInputs) (Rr := rInputs) (ea_cons (ed_var (i := 2) rfl) ea_nil) ⟨nc, ks, body.d, rfl, by omega⟩ h1) fun di γ2 hi => ?_
  obtain ⟨nc', ks', b', inp, e1, rfl, i1, i2⟩ := hi
  have eks : ks' = ks := by
    simp only [List.cons.injEq, and_true, PyData.tuple.injEq, PyData.list.injEq, true_and] at e1
    exact (map_inj (f := PyData.str) (fun x y h => PyData.str.inj h) e1.2.1).symm
  subst eks
  rw [count_in] at i1
  let g : Cfg := ⟨nIn, nOut, inp⟩
  have good : Good g m nc ps B := ⟨b1, b2, i1, i2, b4, b5, b6, b7, b8, b9⟩
  have hRuns : ∀ cs : List Int, cs.length ≤ 1000 → Runs g m nc ps B body cs := fun cs h => ⟨good, b10, b11, b12, h⟩
  have I0 : SInv g ps 16 nc B (start g nc (body.nb + 1) body) := (hRuns [] (by decide)).sinv
  have bound : ∀ {n : Nat} {evs : List (Nat × Nat)} {σ' : State}, Path g (start g nc (body.nb + 1) body) n evs σ' → (∀ e, e ∈ evs → e.1 < nIn + nOut + m) ∧ evs.length ≤ 1000000 := fun {n evs σ'} p => by
    refine ⟨p.ev_lt good.words I0 good.bg, ?_⟩
    have h1 := p.evs_le
    have h2 := p.ms
    have h3 := start_ms g nc (body.nb + 1) body
    omega
  let core : PyData := coreD g m nc body
  let e4 : DE := [none, none, some core, some (inpD g.inp), none, none, none, none, none, none, none, none]
  show XS K (RS a c) _ e4 pn _ _ _
  refine xs_unp2 (P := fun x y _ => ∃ n evs σ', Path g (start g nc (body.nb + 1) body) n evs σ' ∧ redexes g σ' = [] ∧ x = σ'.d ∧ y = .list (evs.map evD)) ((xe_run (cs := []) (ea_cons (ed_var (i := 2) rfl) (ea_cons (ed_var (i := 3) rfl) (ea_cons (ed_lst ea_nil) ea_nil))) (hRuns [] (by decide))).mono fun d γ' ⟨_, n, evs, σ', x1, x2, x3⟩ => ⟨_, _, x3, n, evs, σ', x1, x2, rfl, rfl⟩) fun x y γ3 ⟨n0, evs0, σ0, p0, f0, ex, ey⟩ => ?_
  subst ex
  subst ey
  have same : ∀ {n : Nat} {evs : List (Nat × Nat)} {σ' : State}, Path g (start g nc (body.nb + 1) body) n evs σ' → redexes g σ' = [] → n0 = n ∧ σ0 = σ' ∧ ∀ c, proj c evs0 = proj c evs := fun {n evs σ'} p hf => alike good.words p0 (redexes_nil f0) I0 p (redexes_nil hf)
  refine xs_let (P := fun d _ => d = dn n0) ((xe_steps (cs := []) (ea_cons (ed_var (i := 2) rfl) (ea_cons (ed_var (i := 3) rfl) (ea_cons (ed_lst ea_nil) ea_nil))) (hRuns [] (by decide))).mono fun d γ' ⟨_, n, evs, σ', x1, x2, x3⟩ => by rw [x3, (same x1 x2).1]) fun dm γ4 hm => ?_
  subst hm
  have lenM : ∀ {e : DE}, e[2]? = some (some core) → ED K (tLenL K (tOp (rIxT K) (tVar 2) (tC (.int 2)))) e (dn (nIn + nOut + m)) := fun h => (ed_len (ed_ix2 (ed_var h))).eq (congrArg PyData.int (by rw [List.length_map]; show ((ks.length : Nat) : Int) = _; rw [hks]))
  have due : ∀ {e : DE} {i : Nat} {evs : List (Nat × Nat)}, e[2]? = some (some core) → e[i]? = some (some (.list (evs.map evD))) → (∀ e, e ∈ evs → e.1 < nIn + nOut + m) ∧ evs.length ≤ 1000000 → ED K (tCall (spD K rByCh) [] E0 (tCons (tVar i) (tCons (tLenL K (tOp (rIxT K) (tVar 2) (tC (.int 2)))) tNil))) e (byCh (nIn + nOut + m) evs) := fun {e i evs} h1 h2 h3 => ed_call (ea_cons (ed_var h2) (ea_cons (lenM h1) ea_nil)) ⟨evs, _, rfl, h3.1, by omega, h3.2, rfl⟩
  refine xs_let (xe_ed (due (i := 5) (evs := evs0) rfl rfl (bound p0))) fun dd γ5 hd => ?_
  obtain ⟨hd, _⟩ := hd
  subst hd
  let e8 : DE := [none, none, some core, some (inpD g.inp), some σ0.d, some (.list (evs0.map evD)), some (dn n0), some (byCh (nIn + nOut + m) evs0), none, none, none, none]
  refine xs_seq (N1 := fun e' _ => e' = e8) ((xs_range (ws := [8]) (P1 := fun d _ => d = dn 2) (fun _ _ => True) ((xe_ed ed_int).mono fun d γ' x => ⟨2, x.1, rfl⟩) (fun n γ' h => ⟨by have := dn_inj h; omega, trivial⟩) rfl (fun n γ0 k γ' _ _ _ => ⟨_, eg_name, ?_⟩)).mono (fun e' γ' h => h.1) fun _ _ z => z) fun e' γ6 he => ?_
  rotate_left
  · exact xs_ret ((xe_ed ed_bl).mono fun d γ' x => x.1)
  refine xs_let (P := fun d _ => ∃ cs : List Int, d = choicesD cs ∧ cs.length ≤ 1000) ((xe_op (res := fun d1 d2 => match d1, d2 with | .list x, .list y => .list (x ++ y) | _, _ => .none) (P1 := fun d _ => ∃ cs : List Int, d = choicesD cs ∧ cs.length ≤ 30) (P2 := fun d1 d2 _ => ∃ (cs : List Int) (i : Int), d1 = choicesD cs ∧ cs.length ≤ 30 ∧ d2 = .list [.int i]) ((xe_callI (ds := []) (Pre := preNo) (Rr := rChoices) ea_nil rfl h1).mono fun d γ' x => x)
      (fun d γ' ⟨cs, x1, x2⟩ => (xe_lst (PA := fun ds _ => ∃ i : Int, ds = [.int i]) ((xa_cons (P1 := fun d _ => ∃ i : Int, d = .int i) (P2 := fun d r _ => (∃ i : Int, d = .int i) ∧ r = []) ((xe_op (res := fun d1 d2 => match d1, d2 with | .int i, .int j => .int (i + j) | _, _ => .none) (P2 := fun d1 d2 _ => d1 = .int 1 ∧ ∃ k : Nat, d2 = dn k) (xe_ed ed_int) (fun d γ1 x => (xe_callI (ds := [dn 9]) (Pre := preDraw) (Rr := rDraw) (ea_cons ed_int ea_nil) ⟨9, rfl, by decide, by decide⟩ h1).mono fun d2 γ2 ⟨n, k, _, hk, _⟩ => ⟨x.1, k, hk⟩) fun d1 d2 γ2 ⟨x1, k, x2⟩ => by
          subst x1
          subst x2
          exact rd_I0 (f := fun i j => .int (i + j)) fun i j H => .int _).mono fun d γ' ⟨d1, d2, ⟨x1, k, x2⟩, x3⟩ => by
            subst x1
            subst x2
            exact ⟨_, x3⟩) fun d γ1 hd => xa_nil.mono fun ds γ' x => ⟨hd, x.1⟩).mono fun ds γ' ⟨d, r, x1, ⟨i, x2⟩, x3⟩ => ⟨i, by rw [x1, x2, x3]⟩) fun ds γ' ⟨i, x⟩ => by rw [x]; show 1 ≤ 16000000; decide).mono fun d2 γ2 ⟨ds, ⟨i, y1⟩, y2⟩ => ⟨cs, i, x1, x2, by rw [y2, y1]⟩) fun d1 d2 γ2 ⟨cs, i, x1, x2, x3⟩ => by
        subst x1
        subst x3
        exact rd_cat (by rw [List.length_map]; show _ + 1 ≤ _; omega)).mono fun d γ' ⟨d1, d2, ⟨cs, i, x1, x2, x3⟩, x4⟩ => by
          subst x1
          subst x3
          exact ⟨cs ++ [i], by rw [x4]; show PyData.list (cs.map .int ++ [.int i]) = PyData.list _; rw [List.map_append]; rfl, by rw [List.length_append]; show _ + 1 ≤ _; omega⟩) fun dch γ7 ⟨cs, hch, hcs⟩ => ?_
  subst hch
  refine xs_unp2 (P := fun x y _ => ∃ n evs σ', Path g (start g nc (body.nb + 1) body) n evs σ' ∧ redexes g σ' = [] ∧ x = σ'.d ∧ y = .list (evs.map evD)) ((xe_run (cs := cs) (ea_cons (ed_var (i := 2) rfl) (ea_cons (ed_var (i := 3) rfl) (ea_cons (ed_var (i := 9) rfl) ea_nil))) (hRuns cs hcs)).mono fun d γ' ⟨_, n, evs, σ', x1, x2, x3⟩ => ⟨_, _, x3, n, evs, σ', x1, x2, rfl, rfl⟩) fun x y γ8 ⟨n1, evs1, σ1, p1, f1, ex, ey⟩ => ?_
  subst ex
  subst ey
  obtain ⟨q1, q2, q3⟩ := same p1 f1
  subst q2
  have sh0 : SeqAt.shaped σ0.d = true := (p0.inv good.words I0).shaped
  have dueE : byCh (nIn + nOut + m) evs1 = byCh (nIn + nOut + m) evs0 := congrArg PyData.list (List.map_congr_left fun c _ => by rw [q3 c])
  refine xs_guard (PB := fun b _ => b = false) (xb_or (PB1 := fun b _ => b = false) ((xb_eb (eb_cmp (ed_neSame (d := σ0.d) (ed_var (i := 10) rfl) (ed_var (i := 4) rfl) sh0))).mono fun b γ' x => x.1) (fun γ9 _ => (xb_cmp (xe_opN (f := fun i j => .bool (!decide (i = j))) (A := fun n _ => n = n0) (B := fun n n' _ => n = n0 ∧ n' = n0) ((xe_steps (cs := cs) (ea_cons (ed_var (i := 2) rfl) (ea_cons (ed_var (i := 3) rfl) (ea_cons (ed_var (i := 9) rfl) ea_nil))) (hRuns cs hcs)).mono fun d γ' ⟨_, n, evs, σ', x1, x2, x3⟩ => ⟨n, x3, (same x1 x2).1.symm⟩) (fun i γ1 h => (xn_ed (ed_var (i := 6) rfl)).mono' fun j γ' h' => ⟨h, h'.1⟩) fun i j γ' _ => by
      intro v w F H Q f hx hy q
      cases hx.intI
      cases hy.intI
      exact ⟨rfl, q _ F H (Fz.refl f) (by rw [dec_I]; exact .bl _)⟩) fun d γ' ⟨i, j, x, _⟩ => ⟨_, x⟩).mono fun b γ' ⟨i, j, x, y1, y2⟩ => by
        have := PyData.bool.inj x
        rw [this, y1, y2, decide_eq_true rfl]
        rfl) fun γ9 h => by cases h) (fun γ9 h => by cases h) fun γ9 _ => ?_
  refine xs_if (PB := fun b _ => b = false) ((xb_eb (eb_cmp (ed_neSame (d := byCh (nIn + nOut + m) evs0) ((due (i := 11) (evs := evs1) rfl rfl (bound p1)).eq dueE) (ed_var (i := 7) rfl) shaped_byCh))).mono fun b γ' x => x.1) (fun γ9 h => by cases h) fun γ9 _ => xs_next.mono (fun e' γ' x => ⟨by rw [x.1]; exact .keep (.keep (.keep (.keep (.keep (.keep (.keep (.keep (.drop (.drop (.drop (.drop .nil))))))))))), trivial⟩) fun _ _ z => z
end
end Pa
/-! from the defs to the law -/
namespace Pa
open PySem L2 PyProof.Rows
theorem def_mk {K : PySem.W.Frag} {h : Heap} {mg : Str → Option Value} {x : Str} {st : Stmt} {f : Addr} {oc : Value} {od an : Option Addr} {osl : Array (Option Value)} {kV doc pm cdv ct : Value} (X : K.In h) (G : h.Ns mainGlobals mg)
    (a : PySem.W.nsIn K mainGlobals x = some (some (.ref f))) (l : K.lookup f = some ⟨oc, od, .func (PySem.W.fnOf x x (defArgs st) (defBody st) (defScope st) .none kV doc pm an cdv ct), osl⟩) (c : PySem.W.codeIn K cdv x = true) (k : PySem.W.keepIn K (.ref f) = true) : Def K mg x st :=
  ⟨f, _, PySem.W.mg_of X G a, fun_mk l c k⟩
theorem runC_mk {K : PySem.W.Frag} {mg : Str → Option Value} {C : Addr} (g : mg "Run" = some (.ref C)) (c : Cls K C) (nS : PySem.W.findIn K (.ref C) "state" = some none) (nE : PySem.W.findIn K (.ref C) "events" = some none) (nM : PySem.W.findIn K (.ref C) "many" = some none)
    (i : ∃ f fd, Fun K "__init__" "Run.__init__" s_Run___init__ f fd ∧ Mk K C f) : RunC K mg C := ⟨g, c, nS, nE, nM, i⟩
theorem tup_mk {K : PySem.W.Frag} {a : Addr} {x : Str} {t : Tok} {od : Option Addr} {n : Nat} {osl : Array (Option Value)} (l : K.lookup a = some ⟨.type "tuple", od, .seq #[.str x t] n, osl⟩) (H : Hp) : SqT K H a [.str x] :=
  .inr ⟨_, _, n, l, rfl, rfl, by show 1 ≤ sizeLine; exact line_le (by decide), .cons ⟨t, rfl⟩ .nil⟩
section
variable {P : Program} {w : World} {K : PySem.W.Frag} {mg : Str → Option Value} {base : Heap} {tW : Tok} {aF aS C : Addr}
theorem all_law (T : Txt K mg tW aF aS) (RC : RunC K mg C) (d_parts : Def K mg "parts" s_parts) (d_inner_statements : Def K mg "inner_statements" s_inner_statements) (d_branches : Def K mg "branches" s_branches) (d_threads_of : Def K mg "threads_of" s_threads_of) (d_thread_number : Def K mg "thread_number" s_thread_number) (d_at : Def K mg "at" s_at) (d_initial : Def K mg "initial" s_initial) (d_calculate : Def K mg "calculate" s_calculate) (d_place : Def K mg "place" s_place) (d_value : Def K mg "value" s_value) (d_giver_on : Def K mg "giver_on" s_giver_on) (d_row_redexes : Def K mg "row_redexes" s_row_redexes) (d_thread_redexes : Def K mg "thread_redexes" s_thread_redexes) (d_redexes : Def K mg "redexes" s_redexes) (d_after_test : Def K mg "after_test" s_after_test) (d_after_step : Def K mg "after_step" s_after_step) (d_with_cell : Def K mg "with_cell" s_with_cell) (d_with_item : Def K mg "with_item" s_with_item) (d_step : Def K mg "step" s_step) (d_received : Def K mg "received" s_received) (d_perform : Def K mg "perform" s_perform) (d_event : Def K mg "event" s_event) (d_go_on : Def K mg "go_on" s_go_on) (d_run_from : Def K mg "run_from" s_run_from) (d_run : Def K mg "run" s_run) (d_steps : Def K mg "steps" s_steps) (d_state : Def K mg "_law_state" s_state) (d_draw : Def K mg "_law_draw" s_draw) (d_pick : Def K mg "_law_pick" s_pick) (d_number : Def K mg "_law_number" s_number) (d_operator : Def K mg "_law_operator" s_operator) (d_index : Def K mg "_law_index" s_index) (d_read : Def K mg "_law_read" s_read) (d_expression : Def K mg "_law_expression" s_expression) (d_target : Def K mg "_law_target" s_target) (d_set : Def K mg "_law_set" s_set) (d_simple : Def K mg "_law_simple" s_simple) (d_more_cells : Def K mg "_law_more_cells" s_more_cells) (d_env : Def K mg "_law_env" s_env) (d_wrapped : Def K mg "_law_wrapped" s_wrapped) (d_items : Def K mg "_law_items" s_items) (d_meetings : Def K mg "_law_meetings" s_meetings) (d_shared : Def K mg "_law_shared" s_shared) (d_faulty : Def K mg "_law_faulty" s_faulty) (d_par : Def K mg "_law_par" s_par) (d_core : Def K mg "_law_core" s_core) (d_inputs : Def K mg "_law_inputs" s_inputs) (d_choices : Def K mg "_law_choices" s_choices) (d_by_channel : Def K mg "_law_by_channel" s_by_channel) {fl : Addr} {fdl : FuncData} (FL : Fun K "law" "law" s_law fl fdl) : FnOk P w K mg base CX0 23 fl fdl ["_law_script"] (spLaw K) := by
  have c_with_item := ok_with_item (P := P) (w := w) (base := base) d_with_item
  have c_with_cell := ok_with_cell (P := P) (w := w) (base := base) d_with_cell
  have c_at := ok_at (P := P) (w := w) (base := base) T d_at
  have c_calculate := ok_calculate (P := P) (w := w) (base := base) T d_calculate
  have v0 : Cal P w K mg base (2 * 0) "value" ["e", "cells"] (spD K (rVal 0)) := d_value.never (fun vs H Q E => spD_no (fun ds d ⟨_, _, _, _, h0, _⟩ => Nat.not_lt_zero _ h0) vs H Q E) (fun _ _ _ _ _ _ us hl => match us, hl with | [_, _], _ => rfl)
  have p1 := ok_place (P := P) (w := w) (base := base) (h := 0) T d_place v0
  have v1 := ok_value (P := P) (w := w) (base := base) (h := 0) T d_value v0 p1 c_calculate
  have p2 := ok_place (P := P) (w := w) (base := base) (h := 1) T d_place v1
  have v2 := ok_value (P := P) (w := w) (base := base) (h := 1) T d_value v1 p2 c_calculate
  have p3 := ok_place (P := P) (w := w) (base := base) (h := 2) T d_place v2
  have v3 := ok_value (P := P) (w := w) (base := base) (h := 2) T d_value v2 p3 c_calculate
  have p4 := ok_place (P := P) (w := w) (base := base) (h := 3) T d_place v3
  have v4 := ok_value (P := P) (w := w) (base := base) (h := 3) T d_value v3 p4 c_calculate
  have p5 := ok_place (P := P) (w := w) (base := base) (h := 4) T d_place v4
  have v5 := ok_value (P := P) (w := w) (base := base) (h := 4) T d_value v4 p5 c_calculate
  have p6 := ok_place (P := P) (w := w) (base := base) (h := 5) T d_place v5
  have v6 := ok_value (P := P) (w := w) (base := base) (h := 5) T d_value v5 p6 c_calculate
  have p7 := ok_place (P := P) (w := w) (base := base) (h := 6) T d_place v6
  have v7 := ok_value (P := P) (w := w) (base := base) (h := 6) T d_value v6 p7 c_calculate
  have c_after_test := ok_after_test T d_after_test v7 c_at
  have c_after_step := ok_after_step T d_after_step v7 p7 c_at c_after_test
  have c_received := ok_received d_received c_at c_with_cell c_with_item
  have c_step := ok_step T d_step v7 p7 c_at c_with_cell c_with_item c_after_step
  have c_event := ok_event (P := P) (w := w) (base := base) d_event
  have c_perform := ok_perform T d_perform c_at c_with_item c_step c_received
  have c_giver_on := ok_giver_on (P := P) (w := w) (base := base) T d_giver_on
  have c_row_redexes := ok_row_redexes T d_row_redexes c_giver_on
  have c_thread_redexes := ok_thread_redexes T d_thread_redexes c_row_redexes
  have c_redexes := ok_redexes T d_redexes c_thread_redexes
  have c_parts := ok_parts (P := P) (w := w) (base := base) d_parts
  have c_inner := ok_inner_statements d_inner_statements c_parts
  have c_branches := ok_branches c_inner d_branches 16
  have c_threads_of := ok_threads_of T d_thread_number d_threads_of c_branches
  have c_initial := ok_initial T d_initial c_at c_threads_of
  have c_go_on := ok_go_on RC T d_go_on c_redexes c_event c_perform
  have c_run_from := ok_run_from RC d_run_from c_go_on
  have c_run := ok_run d_run c_initial c_run_from
  have c_steps := ok_steps RC d_steps c_initial c_go_on
  have c_draw := ok_draw (P := P) (w := w) (base := base) T d_draw
  have c_pick := ok_pick T d_pick c_draw
  have c_number := ok_number T d_number c_draw c_pick
  have c_operator := ok_operator T d_operator c_pick
  have c_index := ok_index T d_index c_draw c_pick
  have c_read := ok_read T d_read c_draw c_pick c_index
  have c_target := ok_target T d_target c_draw c_pick c_index
  have c_expression := ok_expression T d_expression c_draw c_pick c_read c_number c_operator 3
  have c_set := ok_set T d_set c_target c_expression
  have c_simple := ok_simple T d_simple c_draw c_pick c_expression c_set
  have c_faulty := ok_faulty T d_faulty c_draw
  have c_choices := ok_choices T d_choices c_draw c_pick
  have c_inputs := ok_inputs T d_inputs c_draw c_pick
  have c_more := ok_more_cells (P := P) (w := w) (base := base) d_more_cells
  have c_env := ok_env T d_env c_draw c_more
  have c_wrapped := ok_wrapped T d_wrapped c_draw c_expression c_set c_more
  have c_meetings := ok_meetings T d_meetings c_draw c_pick c_more
  have c_shared := ok_shared T d_shared c_draw
  have c_state := ok_state (P := P) (w := w) (base := base) d_state T
  have c_by_channel := ok_by_channel (P := P) (w := w) (base := base) T d_by_channel
  have i0 : ∀ k : Nat, Cal P w K mg base k "_law_items" ["_law_state_here", "_law_env_here", "_law_world", "_law_items_here"] (spWG K (G := Sur × List Nat) (fun _ _ _ _ => False) (rItems 1)) := fun k => d_items.never (fun vs H Q E ⟨g, a, c, wd, ch, F, ws, ds, ω, _, _, _, _, ⟨_, _, _, z⟩, _⟩ => z) (fun _ _ _ _ _ _ us hl => match us, hl with | [_, _, _, _], _ => rfl)
  have q0 : ∀ k : Nat, Cal P w K mg base k "_law_par" ["_law_state_here", "_law_env_here", "_law_world", "_law_deep"] (spWG K (G := Sur) (fun _ _ _ _ => False) (rPar 0)) := fun k => d_par.never (fun vs H Q E ⟨g, a, c, wd, ch, F, ws, ds, ω, _, _, _, _, ⟨_, _, _, z⟩, _⟩ => z) (fun _ _ _ _ _ _ us hl => match us, hl with | [_, _, _, _], _ => rfl)
  have i1 := ok_items (lvl := 1) (k := 9) T d_items c_draw c_expression c_target c_simple c_wrapped (by decide) (by decide) (fun h => absurd h (by decide)) (by decide) (i0 9) (fun h => absurd h (by decide)) (q0 9)
  have i2 := ok_items (lvl := 2) (k := 10) T d_items c_draw c_expression c_target c_simple c_wrapped (by decide) (by decide) (fun _ _ _ _ _ h => h) (by decide) i1 (fun h => absurd h (by decide)) (q0 10)
  have q1 := ok_par (deep := 0) (k := 11) T d_par c_draw c_env c_meetings c_shared c_faulty c_simple (by decide) (by decide) i2
  have i3 := ok_items (lvl := 3) (k := 12) T d_items c_draw c_expression c_target c_simple c_wrapped (by decide) (by decide) (fun _ _ _ _ _ h => h) (by decide) (i1.mono (by decide)) (fun _ _ _ _ _ h => h) q1
  have q2 := ok_par (deep := 1) (k := 13) T d_par c_draw c_env c_meetings c_shared c_faulty c_simple (by decide) (by decide) i3
  have c_core := ok_core (k := 14) T d_core c_draw c_env c_set c_simple c_expression (by decide) q2
  exact ok_law (k := 22) T FL c_draw c_state (by decide) (c_core.mono (by decide)) c_inputs c_choices c_by_channel c_run c_steps
end
theorem all_mk {l : PySem.W.OpenLaw} {w : World} {K : PySem.W.Frag} {h : Heap} {mg : Str → Option Value} {tW : Tok} {aF aS C fa f1 : Addr} (X : K.In h) (G : h.Ns mainGlobals mg) (hfa : mg "law" = some (.ref fa)) (T : Txt K mg tW aF aS) (RC : RunC K mg C) (d_parts : Def K mg "parts" s_parts) (d_inner_statements : Def K mg "inner_statements" s_inner_statements) (d_branches : Def K mg "branches" s_branches) (d_threads_of : Def K mg "threads_of" s_threads_of) (d_thread_number : Def K mg "thread_number" s_thread_number) (d_at : Def K mg "at" s_at) (d_initial : Def K mg "initial" s_initial) (d_calculate : Def K mg "calculate" s_calculate) (d_place : Def K mg "place" s_place) (d_value : Def K mg "value" s_value) (d_giver_on : Def K mg "giver_on" s_giver_on) (d_row_redexes : Def K mg "row_redexes" s_row_redexes) (d_thread_redexes : Def K mg "thread_redexes" s_thread_redexes) (d_redexes : Def K mg "redexes" s_redexes) (d_after_test : Def K mg "after_test" s_after_test) (d_after_step : Def K mg "after_step" s_after_step) (d_with_cell : Def K mg "with_cell" s_with_cell) (d_with_item : Def K mg "with_item" s_with_item) (d_step : Def K mg "step" s_step) (d_received : Def K mg "received" s_received) (d_perform : Def K mg "perform" s_perform) (d_event : Def K mg "event" s_event) (d_go_on : Def K mg "go_on" s_go_on) (d_run_from : Def K mg "run_from" s_run_from) (d_run : Def K mg "run" s_run) (d_steps : Def K mg "steps" s_steps) (d_state : Def K mg "_law_state" s_state) (d_draw : Def K mg "_law_draw" s_draw) (d_pick : Def K mg "_law_pick" s_pick) (d_number : Def K mg "_law_number" s_number) (d_operator : Def K mg "_law_operator" s_operator) (d_index : Def K mg "_law_index" s_index) (d_read : Def K mg "_law_read" s_read) (d_expression : Def K mg "_law_expression" s_expression) (d_target : Def K mg "_law_target" s_target) (d_set : Def K mg "_law_set" s_set) (d_simple : Def K mg "_law_simple" s_simple) (d_more_cells : Def K mg "_law_more_cells" s_more_cells) (d_env : Def K mg "_law_env" s_env) (d_wrapped : Def K mg "_law_wrapped" s_wrapped) (d_items : Def K mg "_law_items" s_items) (d_meetings : Def K mg "_law_meetings" s_meetings) (d_shared : Def K mg "_law_shared" s_shared) (d_faulty : Def K mg "_law_faulty" s_faulty) (d_par : Def K mg "_law_par" s_par) (d_core : Def K mg "_law_core" s_core) (d_inputs : Def K mg "_law_inputs" s_inputs) (d_choices : Def K mg "_law_choices" s_choices) (d_by_channel : Def K mg "_law_by_channel" s_by_channel)
    {od1 an1 : Option Addr} {sl1 : Array (Option Value)} {oc1 kV1 dc1 pm1 cd1 ct1 : Value} (a1 : PySem.W.nsIn K mainGlobals "law" = some (some (.ref f1))) (l1 : K.lookup f1 = some ⟨oc1, od1, .func (PySem.W.fnOf "law" "law" (defArgs s_law) (defBody s_law) (defScope s_law) .none kV1 dc1 pm1 an1 cd1 ct1), sl1⟩) (c1 : PySem.W.codeIn K cd1 "law" = true) (k1 : PySem.W.keepIn K (.ref f1) = true) :
    ∃ fd : FuncData, (∀ (s : Shared) (v : Value), BindsTo s fd ⟨[v], []⟩ [("_law_script", v)]) ∧ ∀ base : Heap, K.In base → base.Ns mainGlobals mg → FnOk l.prog w K mg base CX0 23 fa fd ["_law_script"] (spLaw K) := by
  have e := hfa.symm.trans (PySem.W.mg_of X G a1)
  cases e
  exact ⟨PySem.W.fnOf "law" "law" (defArgs s_law) (defBody s_law) (defScope s_law) .none kV1 dc1 pm1 an1 cd1 ct1, fun s v => .of_eq rfl, fun base _ _ => all_law T RC d_parts d_inner_statements d_branches d_threads_of d_thread_number d_at d_initial d_calculate d_place d_value d_giver_on d_row_redexes d_thread_redexes d_redexes d_after_test d_after_step d_with_cell d_with_item d_step d_received d_perform d_event d_go_on d_run_from d_run d_steps d_state d_draw d_pick d_number d_operator d_index d_read d_expression d_target d_set d_simple d_more_cells d_env d_wrapped d_items d_meetings d_shared d_faulty d_par d_core d_inputs d_choices d_by_channel (fun_mk (st := s_law) l1 c1 k1)⟩
end Pa
open PySem PySem.W PyProof.Rows
set_option maxRecDepth 100000 in
set_option maxHeartbeats 0 in
theorem PySem.Challenge.cw_placedanyhow_k20_whole_any_choices_one_e_holds : PySem.Challenge.rw_placedanyhow_k20_whole_any_choices_one_e.Holds := by
  w_on; o_law; k_head; (case hw => w_witness2)
  k_fill
  refine L2.walk_of (l := PySem.Challenge.rw_placedanyhow_k20_whole_any_choices_one_e) (n := 63) (k := 23) (x := "_law_script") (CX := fun _ => L2.CX0) (sp := fun w => Pa.spLaw _) rfl (by decide) rfl ⟨rfl, by decide, by decide⟩ (fun w h Y => PySem.W.kIn_of Y) ?F (fun _ _ a ns hl _ hS => ⟨a, ns, rfl, hS, hl, fun _ => rfl⟩) (fun _ _ _ _ _ h => h)
  case F =>
    intro w mg fa h KX G hmg
    refine' Pa.all_mk KX G hmg (Pa.Txt.mk (PySem.W.mg_none_of KX G ?z0) (PySem.W.mg_none_of KX G ?z1) (PySem.W.mg_none_of KX G ?z2) (PySem.W.mg_none_of KX G ?z3) (PySem.W.mg_none_of KX G ?z4) (PySem.W.mg_none_of KX G ?z5) (PySem.W.mg_none_of KX G ?z6) (PySem.W.mg_none_of KX G ?z7) (PySem.W.mg_of KX G ?gW) (PySem.W.mg_of KX G ?gF) (PySem.W.mg_of KX G ?gS) (fun H => Pa.tup_mk ?fF H) (fun H => Pa.tup_mk ?fS H)) (Pa.runC_mk (PySem.W.mg_of KX G ?rG) ⟨?pg, ?hd, ?po, ?sa⟩ ?nS ?nE ?nM ⟨_, _, L2.fun_mk ?il ?ic ?ik, ?mk, ?ii, ?ifn, ?ikp⟩) (Pa.def_mk (x := "parts") (st := Pa.s_parts) KX G ?a_parts ?l_parts ?c_parts ?k_parts) (Pa.def_mk (x := "inner_statements") (st := Pa.s_inner_statements) KX G ?a_inner_statements ?l_inner_statements ?c_inner_statements ?k_inner_statements) (Pa.def_mk (x := "branches") (st := Pa.s_branches) KX G ?a_branches ?l_branches ?c_branches ?k_branches) (Pa.def_mk (x := "threads_of") (st := Pa.s_threads_of) KX G ?a_threads_of ?l_threads_of ?c_threads_of ?k_threads_of) (Pa.def_mk (x := "thread_number") (st := Pa.s_thread_number) KX G ?a_thread_number ?l_thread_number ?c_thread_number ?k_thread_number) (Pa.def_mk (x := "at") (st := Pa.s_at) KX G ?a_at ?l_at ?c_at ?k_at) (Pa.def_mk (x := "initial") (st := Pa.s_initial) KX G ?a_initial ?l_initial ?c_initial ?k_initial) (Pa.def_mk (x := "calculate") (st := Pa.s_calculate) KX G ?a_calculate ?l_calculate ?c_calculate ?k_calculate) (Pa.def_mk (x := "place") (st := Pa.s_place) KX G ?a_place ?l_place ?c_place ?k_place) (Pa.def_mk (x := "value") (st := Pa.s_value) KX G ?a_value ?l_value ?c_value ?k_value) (Pa.def_mk (x := "giver_on") (st := Pa.s_giver_on) KX G ?a_giver_on ?l_giver_on ?c_giver_on ?k_giver_on) (Pa.def_mk (x := "row_redexes") (st := Pa.s_row_redexes) KX G ?a_row_redexes ?l_row_redexes ?c_row_redexes ?k_row_redexes) (Pa.def_mk (x := "thread_redexes") (st := Pa.s_thread_redexes) KX G ?a_thread_redexes ?l_thread_redexes ?c_thread_redexes ?k_thread_redexes) (Pa.def_mk (x := "redexes") (st := Pa.s_redexes) KX G ?a_redexes ?l_redexes ?c_redexes ?k_redexes) (Pa.def_mk (x := "after_test") (st := Pa.s_after_test) KX G ?a_after_test ?l_after_test ?c_after_test ?k_after_test) (Pa.def_mk (x := "after_step") (st := Pa.s_after_step) KX G ?a_after_step ?l_after_step ?c_after_step ?k_after_step) (Pa.def_mk (x := "with_cell") (st := Pa.s_with_cell) KX G ?a_with_cell ?l_with_cell ?c_with_cell ?k_with_cell) (Pa.def_mk (x := "with_item") (st := Pa.s_with_item) KX G ?a_with_item ?l_with_item ?c_with_item ?k_with_item) (Pa.def_mk (x := "step") (st := Pa.s_step) KX G ?a_step ?l_step ?c_step ?k_step) (Pa.def_mk (x := "received") (st := Pa.s_received) KX G ?a_received ?l_received ?c_received ?k_received) (Pa.def_mk (x := "perform") (st := Pa.s_perform) KX G ?a_perform ?l_perform ?c_perform ?k_perform) (Pa.def_mk (x := "event") (st := Pa.s_event) KX G ?a_event ?l_event ?c_event ?k_event) (Pa.def_mk (x := "go_on") (st := Pa.s_go_on) KX G ?a_go_on ?l_go_on ?c_go_on ?k_go_on) (Pa.def_mk (x := "run_from") (st := Pa.s_run_from) KX G ?a_run_from ?l_run_from ?c_run_from ?k_run_from) (Pa.def_mk (x := "run") (st := Pa.s_run) KX G ?a_run ?l_run ?c_run ?k_run) (Pa.def_mk (x := "steps") (st := Pa.s_steps) KX G ?a_steps ?l_steps ?c_steps ?k_steps) (Pa.def_mk (x := "_law_state") (st := Pa.s_state) KX G ?a_state ?l_state ?c_state ?k_state) (Pa.def_mk (x := "_law_draw") (st := Pa.s_draw) KX G ?a_draw ?l_draw ?c_draw ?k_draw) (Pa.def_mk (x := "_law_pick") (st := Pa.s_pick) KX G ?a_pick ?l_pick ?c_pick ?k_pick) (Pa.def_mk (x := "_law_number") (st := Pa.s_number) KX G ?a_number ?l_number ?c_number ?k_number) (Pa.def_mk (x := "_law_operator") (st := Pa.s_operator) KX G ?a_operator ?l_operator ?c_operator ?k_operator) (Pa.def_mk (x := "_law_index") (st := Pa.s_index) KX G ?a_index ?l_index ?c_index ?k_index) (Pa.def_mk (x := "_law_read") (st := Pa.s_read) KX G ?a_read ?l_read ?c_read ?k_read) (Pa.def_mk (x := "_law_expression") (st := Pa.s_expression) KX G ?a_expression ?l_expression ?c_expression ?k_expression) (Pa.def_mk (x := "_law_target") (st := Pa.s_target) KX G ?a_target ?l_target ?c_target ?k_target) (Pa.def_mk (x := "_law_set") (st := Pa.s_set) KX G ?a_set ?l_set ?c_set ?k_set) (Pa.def_mk (x := "_law_simple") (st := Pa.s_simple) KX G ?a_simple ?l_simple ?c_simple ?k_simple) (Pa.def_mk (x := "_law_more_cells") (st := Pa.s_more_cells) KX G ?a_more_cells ?l_more_cells ?c_more_cells ?k_more_cells) (Pa.def_mk (x := "_law_env") (st := Pa.s_env) KX G ?a_env ?l_env ?c_env ?k_env) (Pa.def_mk (x := "_law_wrapped") (st := Pa.s_wrapped) KX G ?a_wrapped ?l_wrapped ?c_wrapped ?k_wrapped) (Pa.def_mk (x := "_law_items") (st := Pa.s_items) KX G ?a_items ?l_items ?c_items ?k_items) (Pa.def_mk (x := "_law_meetings") (st := Pa.s_meetings) KX G ?a_meetings ?l_meetings ?c_meetings ?k_meetings) (Pa.def_mk (x := "_law_shared") (st := Pa.s_shared) KX G ?a_shared ?l_shared ?c_shared ?k_shared) (Pa.def_mk (x := "_law_faulty") (st := Pa.s_faulty) KX G ?a_faulty ?l_faulty ?c_faulty ?k_faulty) (Pa.def_mk (x := "_law_par") (st := Pa.s_par) KX G ?a_par ?l_par ?c_par ?k_par) (Pa.def_mk (x := "_law_core") (st := Pa.s_core) KX G ?a_core ?l_core ?c_core ?k_core) (Pa.def_mk (x := "_law_inputs") (st := Pa.s_inputs) KX G ?a_inputs ?l_inputs ?c_inputs ?k_inputs) (Pa.def_mk (x := "_law_choices") (st := Pa.s_choices) KX G ?a_choices ?l_choices ?c_choices ?k_choices) (Pa.def_mk (x := "_law_by_channel") (st := Pa.s_by_channel) KX G ?a_by_channel ?l_by_channel ?c_by_channel ?k_by_channel) ?a1 ?l1 ?c1 ?k1
    (case a_parts => k_is); (case l_parts => k_is); (case c_parts => k_is); (case k_parts => k_is)
    (case a_inner_statements => k_is); (case l_inner_statements => k_is); (case c_inner_statements => k_is); (case k_inner_statements => k_is)
    (case a_branches => k_is); (case l_branches => k_is); (case c_branches => k_is); (case k_branches => k_is)
    (case a_threads_of => k_is); (case l_threads_of => k_is); (case c_threads_of => k_is); (case k_threads_of => k_is)
    (case a_thread_number => k_is); (case l_thread_number => k_is); (case c_thread_number => k_is); (case k_thread_number => k_is)
    (case a_at => k_is); (case l_at => k_is); (case c_at => k_is); (case k_at => k_is)
    (case a_initial => k_is); (case l_initial => k_is); (case c_initial => k_is); (case k_initial => k_is)
    (case a_calculate => k_is); (case l_calculate => k_is); (case c_calculate => k_is); (case k_calculate => k_is)
    (case a_place => k_is); (case l_place => k_is); (case c_place => k_is); (case k_place => k_is)
    (case a_value => k_is); (case l_value => k_is); (case c_value => k_is); (case k_value => k_is)
    (case a_giver_on => k_is); (case l_giver_on => k_is); (case c_giver_on => k_is); (case k_giver_on => k_is)
    (case a_row_redexes => k_is); (case l_row_redexes => k_is); (case c_row_redexes => k_is); (case k_row_redexes => k_is)
    (case a_thread_redexes => k_is); (case l_thread_redexes => k_is); (case c_thread_redexes => k_is); (case k_thread_redexes => k_is)
    (case a_redexes => k_is); (case l_redexes => k_is); (case c_redexes => k_is); (case k_redexes => k_is)
    (case a_after_test => k_is); (case l_after_test => k_is); (case c_after_test => k_is); (case k_after_test => k_is)
    (case a_after_step => k_is); (case l_after_step => k_is); (case c_after_step => k_is); (case k_after_step => k_is)
    (case a_with_cell => k_is); (case l_with_cell => k_is); (case c_with_cell => k_is); (case k_with_cell => k_is)
    (case a_with_item => k_is); (case l_with_item => k_is); (case c_with_item => k_is); (case k_with_item => k_is)
    (case a_step => k_is); (case l_step => k_is); (case c_step => k_is); (case k_step => k_is)
    (case a_received => k_is); (case l_received => k_is); (case c_received => k_is); (case k_received => k_is)
    (case a_perform => k_is); (case l_perform => k_is); (case c_perform => k_is); (case k_perform => k_is)
    (case a_event => k_is); (case l_event => k_is); (case c_event => k_is); (case k_event => k_is)
    (case a_go_on => k_is); (case l_go_on => k_is); (case c_go_on => k_is); (case k_go_on => k_is)
    (case a_run_from => k_is); (case l_run_from => k_is); (case c_run_from => k_is); (case k_run_from => k_is)
    (case a_run => k_is); (case l_run => k_is); (case c_run => k_is); (case k_run => k_is)
    (case a_steps => k_is); (case l_steps => k_is); (case c_steps => k_is); (case k_steps => k_is)
    (case a_state => k_is); (case l_state => k_is); (case c_state => k_is); (case k_state => k_is)
    (case a_draw => k_is); (case l_draw => k_is); (case c_draw => k_is); (case k_draw => k_is)
    (case a_pick => k_is); (case l_pick => k_is); (case c_pick => k_is); (case k_pick => k_is)
    (case a_number => k_is); (case l_number => k_is); (case c_number => k_is); (case k_number => k_is)
    (case a_operator => k_is); (case l_operator => k_is); (case c_operator => k_is); (case k_operator => k_is)
    (case a_index => k_is); (case l_index => k_is); (case c_index => k_is); (case k_index => k_is)
    (case a_read => k_is); (case l_read => k_is); (case c_read => k_is); (case k_read => k_is)
    (case a_expression => k_is); (case l_expression => k_is); (case c_expression => k_is); (case k_expression => k_is)
    (case a_target => k_is); (case l_target => k_is); (case c_target => k_is); (case k_target => k_is)
    (case a_set => k_is); (case l_set => k_is); (case c_set => k_is); (case k_set => k_is)
    (case a_simple => k_is); (case l_simple => k_is); (case c_simple => k_is); (case k_simple => k_is)
    (case a_more_cells => k_is); (case l_more_cells => k_is); (case c_more_cells => k_is); (case k_more_cells => k_is)
    (case a_env => k_is); (case l_env => k_is); (case c_env => k_is); (case k_env => k_is)
    (case a_wrapped => k_is); (case l_wrapped => k_is); (case c_wrapped => k_is); (case k_wrapped => k_is)
    (case a_items => k_is); (case l_items => k_is); (case c_items => k_is); (case k_items => k_is)
    (case a_meetings => k_is); (case l_meetings => k_is); (case c_meetings => k_is); (case k_meetings => k_is)
    (case a_shared => k_is); (case l_shared => k_is); (case c_shared => k_is); (case k_shared => k_is)
    (case a_faulty => k_is); (case l_faulty => k_is); (case c_faulty => k_is); (case k_faulty => k_is)
    (case a_par => k_is); (case l_par => k_is); (case c_par => k_is); (case k_par => k_is)
    (case a_core => k_is); (case l_core => k_is); (case c_core => k_is); (case k_core => k_is)
    (case a_inputs => k_is); (case l_inputs => k_is); (case c_inputs => k_is); (case k_inputs => k_is)
    (case a_choices => k_is); (case l_choices => k_is); (case c_choices => k_is); (case k_choices => k_is)
    (case a_by_channel => k_is); (case l_by_channel => k_is); (case c_by_channel => k_is); (case k_by_channel => k_is)
    (case z0 => k_is)
    (case z1 => k_is)
    (case z2 => k_is)
    (case z3 => k_is)
    (case z4 => k_is)
    (case z5 => k_is)
    (case z6 => k_is)
    (case z7 => k_is)
    (case gW => k_is)
    (case gF => k_is)
    (case gS => k_is)
    (case fF => k_is)
    (case fS => k_is)
    (case rG => k_is)
    (case pg => k_is)
    (case hd => k_is)
    (case po => k_is)
    (case sa => k_is)
    (case nS => k_is)
    (case nE => k_is)
    (case nM => k_is)
    (case ii => k_is)
    (case ifn => k_is)
    (case ikp => k_is)
    (case mk => k_is)
    (case il => k_is)
    (case ic => k_is)
    (case ik => k_is)
    (case a1 => k_is)
    (case l1 => k_is)
    (case c1 => k_is)
    (case k1 => k_is)
