import PyProof.Rows.All
import Wide.All
import OpenK.AllK
import Wide.FinOn
import HandS.ForMost
import HandS.WordsExc
import HandS.Defaults
import HandS.Walk
import HandS.Conv
import HandS.NoneIn
import HandS.Style
import HandS.SortKw
import HandS.WideBits
import HandS.StrMore
import HandS.IsInst
import HandS.OwnEq
import HandS.TupLen
import HandS.Zip
import KE.GoesEnum
import KE.GoesZip
import KE.GoesMore
import KE.KDictDisplayH
import HandS.HeadHook2
import HandS.Head2
import HandS.HeadEnd
import PySem.Challenge.RW_keptqubits_k19_whole_regions
set_option Elab.async false
set_option maxRecDepth 100000
set_option maxHeartbeats 4000000
/-! own rules for constructs that the hand layer does not carry -/
namespace Kq
open PySem PySem.Spec PyProof.Rows L2

/-- a natural number as a value -/
abbrev nV (n : Nat) : V := V.int (n : Int)

section ops
variable {X : Cx}
theorem pe_never {e : Expr} : PE X e (fun _ _ _ => False) := ⟨fun _ _ _ _ _ _ h => h.elim⟩
theorem pe_nat (n : Nat) {i : Int} {j pos} (h : i = (n : Int) := by rfl) : PE X (.Constant (.int i) j pos) (tC (nV n)) := by
  subst h; exact pe_int

def rAdd : R2 := fun x y H Q => ∃ a b : Nat, x = nV a ∧ y = nV b ∧ Q (nV (a + b)) H
def rSub : R2 := fun x y H Q => ∃ a b : Nat, x = nV a ∧ y = nV b ∧ b ≤ a ∧ Q (nV (a - b)) H
def rMul : R2 := fun x y H Q => ∃ a b : Nat, x = nV a ∧ y = nV b ∧ (a < 2 ^ 64 ∨ b < 2 ^ 64) ∧ Q (nV (a * b)) H
def rMod : R2 := fun x y H Q => ∃ a b : Nat, x = nV a ∧ y = nV b ∧ 0 < b ∧ Q (nV (a % b)) H
def rDiv : R2 := fun x y H Q => ∃ a b : Nat, x = nV a ∧ y = nV b ∧ (0 < b ∧ b < 1073741824) ∧ Q (nV (a / b)) H
def rShl : R2 := fun x y H Q => ∃ a b : Nat, x = nV a ∧ y = nV b ∧ (a < 2 ^ 64 ∧ b ≤ 1000000) ∧ Q (nV (a <<< b)) H
def rShr : R2 := fun x y H Q => ∃ a b : Nat, x = nV a ∧ y = nV b ∧ Q (nV (a >>> b)) H
def rAnd : R2 := fun x y H Q => ∃ a b : Nat, x = nV a ∧ y = nV b ∧ Q (nV (a &&& b)) H
def rOr : R2 := fun x y H Q => ∃ a b : Nat, x = nV a ∧ y = nV b ∧ Q (nV (a ||| b)) H
def rXor : R2 := fun x y H Q => ∃ a b : Nat, x = nV a ∧ y = nV b ∧ Q (nV (a ^^^ b)) H
def rLt : R2 := fun x y H Q => ∃ a b : Nat, x = nV a ∧ y = nV b ∧ Q (.bl (decide (a < b))) H
def rLe : R2 := fun x y H Q => ∃ a b : Nat, x = nV a ∧ y = nV b ∧ Q (.bl (decide (a ≤ b))) H
def rGt : R2 := fun x y H Q => ∃ a b : Nat, x = nV a ∧ y = nV b ∧ Q (.bl (decide (b < a))) H
def rGe : R2 := fun x y H Q => ∃ a b : Nat, x = nV a ∧ y = nV b ∧ Q (.bl (decide (b ≤ a))) H
def rEqN : R2 := fun x y H Q => ∃ a b : Nat, x = nV a ∧ y = nV b ∧ Q (.bl (decide (a = b))) H
def rNeN : R2 := fun x y H Q => ∃ a b : Nat, x = nV a ∧ y = nV b ∧ Q (.bl (!decide (a = b))) H
def rEqS : R2 := fun x y H Q => ∃ a b : Str, x = .str a ∧ y = .str b ∧ Q (.bl (decide (a = b))) H
def rNeS : R2 := fun x y H Q => ∃ a b : Str, x = .str a ∧ y = .str b ∧ Q (.bl (!decide (a = b))) H

theorem opR_mono {f : Value → Value → Sem Value} {r r' : R2} (h : OpR X f r) (m : ∀ x y H Q, r' x y H Q → r x y H Q) : OpR X f r' :=
  fun pins s σ H x y v u Q I rx ry q => h pins s σ H x y v u Q I rx ry (m x y H Q q)

theorem and_xor_or (a : Nat) : ∀ b : Nat, (a &&& b) + (a ^^^ b) = a ||| b := by
  induction a using Nat.strongRecOn with
  | _ a ih =>
    intro b
    by_cases h : a = 0
    · subst h; simp
    · have e := ih (a / 2) (by omega) (b / 2)
      have e1 := Nat.and_div_two (a := a) (b := b)
      have e2 := Nat.xor_div_two (a := a) (b := b)
      have e3 := Nat.or_div_two (a := a) (b := b)
      have m1 : (a &&& b) % 2 = (a % 2) * (b % 2) := by
        have := Nat.and_mod_two_pow (a := a) (b := b) (n := 1)
        simp only [Nat.pow_one] at this
        rw [this]
        rcases Nat.mod_two_eq_zero_or_one a with h1 | h1 <;> rcases Nat.mod_two_eq_zero_or_one b with h2 | h2 <;> rw [h1, h2] <;> rfl
      have m2 : (a ^^^ b) % 2 = (a % 2 + b % 2) % 2 := by
        have := Nat.xor_mod_two_pow (a := a) (b := b) (n := 1)
        simp only [Nat.pow_one] at this
        rw [this]
        rcases Nat.mod_two_eq_zero_or_one a with h1 | h1 <;> rcases Nat.mod_two_eq_zero_or_one b with h2 | h2 <;> rw [h1, h2] <;> rfl
      have m3 : (a ||| b) % 2 = (a % 2 + b % 2) - (a % 2) * (b % 2) := by
        have := Nat.or_mod_two_pow (a := a) (b := b) (n := 1)
        simp only [Nat.pow_one] at this
        rw [this]
        rcases Nat.mod_two_eq_zero_or_one a with h1 | h1 <;> rcases Nat.mod_two_eq_zero_or_one b with h2 | h2 <;> rw [h1, h2] <;> rfl
      have d1 := Nat.div_add_mod (a &&& b) 2
      have d2 := Nat.div_add_mod (a ^^^ b) 2
      have d3 := Nat.div_add_mod (a ||| b) 2
      rw [e1, m1] at d1
      rw [e2, m2] at d2
      rw [e3, m3] at d3
      rcases Nat.mod_two_eq_zero_or_one a with h1 | h1 <;> rcases Nat.mod_two_eq_zero_or_one b with h2 | h2 <;> rw [h1, h2] at d1 d2 d3 <;> omega
theorem bAnd (a b : Nat) : Builtin.bitAnd (a : Int) (b : Int) = ((a &&& b : Nat) : Int) := by
  rw [bitAnd_pp (Int.natCast_nonneg a) (Int.natCast_nonneg b), Int.toNat_natCast, Int.toNat_natCast]
theorem bOr (a b : Nat) : Builtin.bitOr (a : Int) (b : Int) = ((a ||| b : Nat) : Int) := by
  rw [bitOr_nn (Int.natCast_nonneg a) (Int.natCast_nonneg b), Int.toNat_natCast, Int.toNat_natCast]
theorem bXor (a b : Nat) : Builtin.bitXor (a : Int) (b : Int) = ((a ^^^ b : Nat) : Int) := by
  unfold Builtin.bitXor
  rw [bAnd, bOr, ← and_xor_or a b]
  omega
theorem on_add : OpR X (binaryOp .Add) rAdd := opR_mono op_addN fun _ _ _ _ h => h
theorem on_sub : OpR X (binaryOp .Sub) rSub := opR_mono op_subN fun _ _ _ _ h => h
theorem on_mul : OpR X (binaryOp .Mult) rMul := opR_mono op_mul fun x y H Q h => by
  obtain ⟨a, b, rfl, rfl, c, q⟩ := h
  refine ⟨_, _, rfl, rfl, ?_, by dsimp only; rw [← Int.natCast_mul]; exact q⟩
  rcases c with c | c
  · exact .inl ⟨by omega, by omega⟩
  · exact .inr ⟨by omega, by omega⟩
theorem on_mod : OpR X (binaryOp .Mod) rMod := opR_mono op_mod fun x y H Q h => by
  obtain ⟨a, b, rfl, rfl, c, q⟩ := h
  exact ⟨_, _, rfl, rfl, by omega, by dsimp only; rw [← Int.natCast_emod]; exact q⟩
theorem on_div : OpR X (binaryOp .FloorDiv) rDiv := opR_mono op_fdivNN fun x y H Q h => by
  obtain ⟨a, b, rfl, rfl, c, q⟩ := h
  exact ⟨_, _, rfl, rfl, by omega, q⟩
theorem on_shl : OpR X (binaryOp .LShift) rShl := opR_mono op_shl fun x y H Q h => by
  obtain ⟨a, b, rfl, rfl, c, q⟩ := h
  refine ⟨_, _, rfl, rfl, ⟨by omega, by omega, by omega⟩, ?_⟩
  dsimp only
  rw [Int.toNat_natCast, show (a : Int) * 2 ^ b = ((a <<< b : Nat) : Int) by rw [Nat.shiftLeft_eq]; simp]
  exact q
theorem on_shr : OpR X (binaryOp .RShift) rShr := opR_mono op_shr fun x y H Q h => by
  obtain ⟨a, b, rfl, rfl, q⟩ := h
  refine ⟨_, _, rfl, rfl, Int.natCast_nonneg b, ?_⟩
  dsimp only
  rw [Int.toNat_natCast, show (a : Int) / 2 ^ b = ((a >>> b : Nat) : Int) by rw [Nat.shiftRight_eq_div_pow]; simp]
  exact q
theorem on_and : OpR X (binaryOp .BitAnd) rAnd := opR_mono op_and fun x y H Q h => by
  obtain ⟨a, b, rfl, rfl, q⟩ := h
  exact ⟨_, _, rfl, rfl, by dsimp only; rw [bAnd]; exact q⟩
theorem on_or : OpR X (binaryOp .BitOr) rOr := opR_mono op_or fun x y H Q h => by
  obtain ⟨a, b, rfl, rfl, q⟩ := h
  exact ⟨_, _, rfl, rfl, by dsimp only; rw [bOr]; exact q⟩
theorem on_xor : OpR X (binaryOp .BitXor) rXor := opR_mono op_xor fun x y H Q h => by
  obtain ⟨a, b, rfl, rfl, q⟩ := h
  exact ⟨_, _, rfl, rfl, by dsimp only; rw [bXor]; exact q⟩
theorem dec_iff {p q : Prop} [Decidable p] [Decidable q] (h : p ↔ q) : decide p = decide q := by
  by_cases hp : p
  · rw [decide_eq_true hp, decide_eq_true (h.mp hp)]
  · rw [decide_eq_false hp, decide_eq_false (fun x => hp (h.mpr x))]
theorem on_lt : OpR X (compareOp .Lt) rLt := opR_mono op_lt fun x y H Q h => by
  obtain ⟨a, b, rfl, rfl, q⟩ := h
  exact ⟨_, _, rfl, rfl, by dsimp only; rw [dec_iff (Int.ofNat_lt (n := a) (m := b))]; exact q⟩
theorem on_le : OpR X (compareOp .LtE) rLe := opR_mono op_le fun x y H Q h => by
  obtain ⟨a, b, rfl, rfl, q⟩ := h
  exact ⟨_, _, rfl, rfl, by dsimp only; rw [dec_iff (Int.ofNat_le (m := a) (n := b))]; exact q⟩
theorem on_gt : OpR X (compareOp .Gt) rGt := opR_mono op_gt fun x y H Q h => by
  obtain ⟨a, b, rfl, rfl, q⟩ := h
  exact ⟨_, _, rfl, rfl, by dsimp only; rw [dec_iff (Int.ofNat_lt (n := b) (m := a))]; exact q⟩
theorem on_ge : OpR X (compareOp .GtE) rGe := opR_mono op_ge fun x y H Q h => by
  obtain ⟨a, b, rfl, rfl, q⟩ := h
  exact ⟨_, _, rfl, rfl, by dsimp only; rw [dec_iff (Int.ofNat_le (m := b) (n := a))]; exact q⟩
theorem nV_inj {a b : Nat} : nV a = nV b ↔ a = b := ⟨fun h => Int.ofNat.inj (V.int.inj h), fun h => by rw [h]⟩
theorem on_eq : OpR X (compareOp .Eq) rEqN := opR_mono op_eq fun x y H Q h => by
  obtain ⟨a, b, rfl, rfl, q⟩ := h
  exact ⟨rfl, by rw [dec_iff nV_inj]; exact q⟩
theorem on_ne : OpR X (compareOp .NotEq) rNeN := opR_mono op_ne fun x y H Q h => by
  obtain ⟨a, b, rfl, rfl, q⟩ := h
  exact ⟨rfl, by rw [dec_iff nV_inj]; exact q⟩
theorem strV_inj {a b : Str} : V.str a = V.str b ↔ a = b := ⟨fun h => V.str.inj h, fun h => by rw [h]⟩
theorem on_eqS : OpR X (compareOp .Eq) rEqS := opR_mono op_eq fun x y H Q h => by
  obtain ⟨a, b, rfl, rfl, q⟩ := h
  exact ⟨rfl, by rw [dec_iff strV_inj]; exact q⟩
theorem on_neS : OpR X (compareOp .NotEq) rNeS := opR_mono op_ne fun x y H Q h => by
  obtain ⟨a, b, rfl, rfl, q⟩ := h
  exact ⟨rfl, by rw [dec_iff strV_inj]; exact q⟩
/-- text times int -/
def rMulS : R2 := fun x y H Q => ∃ (a : Str) (k : Nat), x = .str a ∧ y = nV k ∧ a.length = 1 ∧ k ≤ 1000 ∧ Q (.str (Txt.mul a (k : Int))) H
theorem on_mulS : OpR X (binaryOp .Mult) rMulS := by
  rintro pins s σ H x y v u Q I rx ry ⟨a, k, rfl, rfl, h1, h2, q⟩
  obtain ⟨t, rfl⟩ := (show ∃ t, v = Value.str a t from rx)
  obtain ⟨t', rfl⟩ := (show ∃ t, u = Value.int (k : Int) t from ry)
  refine SB.mul ⟨?_, ?_, ?_⟩ fun t'' k' => ⟨.str (Txt.mul a (k : Int)), H, I.tok _, ⟨_, rfl⟩, q⟩
  · rw [decide_eq_false (show ¬ (k : Int) < -(2 ^ 63) by omega), decide_eq_false (show ¬ (k : Int) ≥ 2 ^ 63 by omega)]; rfl
  · intro hk _
    rw [h1]
    have h3 : (0 : Int) < k := by omega
    have h4 : (1 : Int) ≤ (2 ^ 63 - 1) / k := by
      rw [Int.le_ediv_iff_mul_le h3]; omega
    omega
  · intro _ _
    rw [h1, Int.toNat_natCast, Nat.one_mul]
    have : Builtin.Str.tooLong k = decide (k > sizeLine) := rfl
    rw [this, decide_eq_false]
    rw [sizeLine_eq]; omega
/-- any of a list of ints -/
def rAnyN (K : PySem.W.Frag) : List V → Hp → VK → Prop := fun vs H Q => ∃ (a : Addr) (ns : List Nat), vs = [V.ref a] ∧ SqL K H a (ns.map nV) ∧ Q (.bl (ns.any fun n => decide (n ≠ 0))) H
theorem truth_nats {prog : Program} {w : World} {A : Around} {ns : List Nat} {its : List Value} (rv : Vals (ns.map nV) its) :
    TruthOf prog w A (fun i v => its.toArray[i]? = some v) (fun i => (ns.map fun n => decide (n ≠ 0)).getD i false) := fun i v s Q E hv hq => by
  have hv' : its[i]? = some v := by simpa using hv
  have hl := rv.length
  rw [List.length_map] at hl
  have hi : i < ns.length := by rw [hl]; exact (List.getElem?_eq_some_iff.mp hv').1
  obtain ⟨u, hu, ru⟩ := rv.get (i := i) (x := nV ns[i]) (by simp [hi])
  rw [hv'] at hu
  cases hu
  obtain ⟨t, rfl⟩ := (show ∃ t, v = Value.int ((ns[i] : Nat) : Int) t from ru)
  have hg : (ns.map fun n => decide (n ≠ 0)).getD i false = (((ns[i] : Nat) : Int) != 0) := by
    rw [List.getD_eq_getElem?_getD, List.getElem?_map, List.getElem?_eq_getElem hi]
    simp
    rw [bne, Bool.eq_iff_iff]; simp
  dsimp only at hq
  rw [hg] at hq
  exact truthy_int hq
theorem cr_anyN (hc : X.calm = true) : CallR X (.builtin "any") (rAnyN X.K) := by
  rintro pins s σ H vs us Q I r ⟨a, ns, rfl, hs, q⟩
  obtain ⟨its, rv, hl, _⟩ := I.list hs
  rw [Vals.ref1 r]
  refine call_any_walk (iter_any hl.isList fun s₂ e2 st hne => ?_)
  subst e2
  refine ⟨_, _, _, _, _, _, _, rfl, Walks.list (A := X.A.in1) (I.ok.hd hc) _ a hne its.toArray, st, truth_nats rv, fun h' tk hk => ?_⟩
  refine ⟨.bl _, H, I.kept fun b o eo => hk b o (fun hmem => ?_) (Heap.get?_push_of_some _ eo), ?_, q⟩
  · rcases List.mem_cons.mp hmem with e1 | hmem
    · exact absurd (e1 ▸ Heap.lt_size eo) (Nat.lt_irrefl _)
    · cases hmem
  · have e := any_range (ns.map fun n => decide (n ≠ 0))
    rw [List.length_map, List.any_map] at e
    have e2 : its.toArray.size = ns.length := by have := rv.length; simp at this; simp [this]
    show Value.bool _ = Value.bool _
    rw [e2, e]
    congr 1
end ops

section attr
variable {X : Cx}
/-- o.f as one of several targets -/
def gFld (K : PySem.W.Frag) (to : TE) (f : Str) : TG := fun v σ H Q => to σ H fun x H1 => ∃ a C dx fs, x = .ref a ∧ H1 a = some (.ins C dx fs) ∧ Cls K C ∧ NoAttr K C f ∧ fs.length < 1000 ∧ Q σ (upd H1 a (.ins C dx (putF f v fs)))
theorem pg_fld {o : Expr} {f : Str} {pos : Pos} {to : TE} (ho : PE X o to)
    (ha : ∀ v, assign (.Attribute o f pos) X.env v = (do
      let ov ← holding [v] (eval o X.env)
      standAt pos.atName
      holding [v, ov] (setAttr ov f v)
      release [v, ov] []) := by intro _; rfl) : PG X (.Attribute o f pos) (gFld X.K to f) := by
  refine ⟨fun pins s σ H v u Q I r h => ?_⟩
  rw [ha]
  refine wpAny_bind (wpAny_holding (thn (ho.run pins s σ H _ I h) fun ov s1 ⟨x, H1, I1, r1, a, C, dx, fs, ex, ea, c, n, l, q⟩ => ?_))
  subst ex
  obtain rfl : ov = Value.ref a := r1
  refine wpAny_bind (wpAny_standAt (wpAny_bind (wpAny_holding ?_)))
  refine setattr_ok I1 ea c n l r fun s3 I3 => wpAny_release ⟨σ, _, I3, q⟩
end attr
end Kq

set_option Elab.async false
set_option maxRecDepth 100000
set_option maxHeartbeats 4000000
/-! further own rules: enumerate over texts and tuples, zip of a tuple and a list, a display whose one key is a tuple -/
namespace Kq
open PySem PySem.Spec PyProof.Rows L2

section disp
variable {X : Cx}
/-- {k: v}, the key a tuple -/
def tDispT (tk tv : TE) : TE := fun σ H Q => ∀ p, H p = none → tk σ (upd H p (.dT [])) fun x H1 => tv σ H1 fun y H2 => H2 p = some (.dT []) ∧ ∃ b ks, x = .ref b ∧ H2 b = some (.tup (ks.map kV)) ∧ Q (.ref p) (upd H2 p (.dT [(ks, y)]))
theorem pe_dispT {k v : Expr} {pos : Pos} {tk tv : TE} (hu : X.A.units < cLine) (hk : PE X k tk) (hv : PE X v tv) : PE X (.Dict [some k] [v] pos) (tDispT tk tv) := by
  refine ⟨fun pins s σ H Q I q => ?_⟩
  have hn := I.hok.fresh (Nat.le_refl s.heap.objs.size)
  have J := I.laid (a := s.heap.objs.size) (o := .dT []) (h' := s.heap.push { cls := .type "dict", data := .dict #[] }) (t' := s.toks) (fun _ _ z => Heap.get?_push_of_some _ z) (Nat.le_refl _) (dt_empty s.heap I.big)
  have hsh := zip_pairTrees [some k] [v] X.env pos rfl rfl
  rw [arm_eval_Dict, hsh, dictDisplay_pairs _ (by intro z; cases z) (by show 1 < 17; omega)]
  refine wpAny_bind (wpAny_standAt (wpAny_bind (wpAny_subDictH (knd := tupleKind (mixKind X.prog X.w)) (Q := fun d s' => wpAny (model X.prog X.w) X.A (pure (Value.ref d)) (EP X pins σ Q) X.xe s') hu (by show 1 ≤ 15; omega) ?_)))
  refine pairTrees_cons_walk (thn (hk.run pins _ σ _ _ J (q _ hn)) fun kv s1 ⟨x, H1, I1, rx, q1⟩ => thn (hv.run pins s1 σ H1 _ I1 q1) fun vv s2 ⟨y, H2, I2, ry, e, b, ks, ex, eb, q2⟩ => pairTrees_nil_walk ?_)
  subst ex
  obtain rfl : kv = Value.ref b := rx
  obtain ⟨z, hd, xs, r, dd⟩ := dt_of I2.hok e
  have hxs : xs = [] := by cases r; rfl
  subst hxs
  refine ⟨[(ks, b, vv)], ⟨rfl, rfl, key_of I2.hok eb, trivial⟩, dd, fun h' tk dd' sb => wpAny_pure ⟨.ref s.heap.objs.size, _, ?_, rfl, q2⟩⟩
  obtain ⟨o, es, ep, ho, hc, hdat, he, his, hnd⟩ := id dd'
  refine d_write I2 (by rw [e]; exact True.intro) sb ⟨o, ho⟩ ?_
  have hne : b ≠ s.heap.objs.size := ne_of eb e (by intro z; cases z)
  exact ⟨by show 1 ≤ sizeLine; rw [sizeLine_eq]; omega, hd, _, .cons ⟨rfl, by rw [upd_ne hne]; exact eb, ry⟩ .nil, o, es, ep, ho, hc, hdat, he, hnd⟩
end disp

section enum
theorem strIter_at {h h' : Heap} {a : Addr} {ty : String} {x : Str} {t : Tok} {i : Nat} (y : h.IsStrIter a ty x t i) (k : ∀ o, h.get? a = some o → h'.get? a = some o) : h'.IsStrIter a ty x t i :=
  let ⟨o, e, c, d⟩ := y; ⟨o, k o e, c, d⟩
theorem obj_ne {h : Heap} {a b : Addr} {o u : Obj} {S T : String} (ha : h.get? a = some o) (hb : h.get? b = some u) (hS : o.cls = .type S) (hT : u.cls = .type T) (d : S ≠ T) : a ≠ b := fun z => by
  subst z
  rw [ha] at hb
  have e : o = u := Option.some.inj hb
  rw [← e, hS] at hT
  exact d (Value.type.inj hT)
/-- enumerate(text) -/
def ItES (x : Str) : It := ⟨fun i _ => i < x.cps.size, fun i H v H' => ∃ T c, v = .ref T ∧ H T = none ∧ H' = upd H T (.tup [.int (i : Nat), .str ⟨#[c]⟩]) ∧ x.cps[i]? = some c, fun i _ => i = x.cps.size⟩
theorem turn_enumS {P : Program} {w : World} {K : PySem.W.Frag} {elts : List Expr} {kk : Nat} {tpos : Pos} (x : Str) (t : Tok) (e it : Addr) :
    Turn P w K (.Tuple elts kk tpos) (ItES x) [e, it] e (fun i h => (∃ old, IsEnum h e it ((i : Nat) : Int) old) ∧ h.IsStrIter it (strIterType x) x t i ∧ e ≠ it) where
  mem := by simp
  obj := fun i h st b hb => by
    obtain ⟨⟨old, he⟩, ⟨o, ho, hc, hd⟩, _⟩ := st
    rcases (show b = e ∨ b = it by simpa using hb) with z | z
    · subst z; exact ⟨_, he, fun v q => nomatch q⟩
    · subst z; exact ⟨o, ho, fun v q => by rw [hd] at q; cases q⟩
  keep := fun i h h' ⟨⟨old, he⟩, hi, hne⟩ k => ⟨⟨old, k e (by simp) _ he⟩, strIter_at hi fun o q => k it (by simp) o q, hne⟩
  item := by
    rintro X rfl rfl rfl hc i pins s σ H E I hf ⟨⟨old, he⟩, hit, hne⟩ hg
    have hel : e < s.heap.objs.size := Heap.lt_size he
    have hil : it < s.heap.objs.size := by obtain ⟨_, q, _⟩ := hit; exact Heap.lt_size q
    refine wpAny_pyNext_enum_itemD (Draws.text (A := X.A.in1) (I.ok.hd hc) it x t) he hit hg hne (by simpa using hne) fun u h' tk ⟨c, tu, hx, eu⟩ ho hit' hT hsz hk => ?_
    subst eu
    refine ⟨_, rfl, wpAny_letOwnedTupleGo_enum (s := { s with heap := h', toks := tk + 1 }) ho fun h'' he' sb => ?_⟩
    have hT2 : h''.get? s.heap.objs.size = some { cls := .type "tuple", data := .seq #[.int i tk, .str ⟨#[c]⟩ tu] } := (sb.2 _ (Nat.ne_of_gt hel)).trans hT
    have nw : ObjOk X.prog X.w (upd H s.heap.objs.size (.tup [.int (i : Nat), .str ⟨#[c]⟩])) h'' s.heap.objs.size (.tup [.int (i : Nat), .str ⟨#[c]⟩]) :=
      ⟨by show 2 ≤ sizeLine; decide, [.int i tk, .str ⟨#[c]⟩ tu], .cons ⟨_, rfl⟩ (.cons ⟨_, rfl⟩ .nil), ⟨_, hT2, rfl, _, rfl⟩⟩
    have J : Inv X pins σ (upd H s.heap.objs.size (.tup [.int (i : Nat), .str ⟨#[c]⟩])) { s with heap := h'', toks := tk + 1 } :=
      I.turnedNew (ch := [e, it]) (fun b ob hb q => (sb.2 b (fun z => hb (by simp [z]))).trans (hk b ob (fun z => hb (by simp [z])) (fun z => hb (by simp [z])) q)) hf (Nat.le_refl _) nw
    refine ⟨.ref s.heap.objs.size, _, J, rfl, ⟨_, c, rfl, I.hok.fresh (Nat.le_refl _), rfl, hx⟩, ⟨⟨_, by have z := he'; rw [show ((i + 1 : Nat) : Int) = (i : Int) + 1 by omega]; exact z⟩, strIter_at hit' fun o q => (sb.2 it (Ne.symm hne)).trans q, hne⟩, fun b hb => ?_⟩
    have hb' : b < s.heap.objs.size := by
      rcases (show b = e ∨ b = it by simpa using hb) with z | z
      · subst z; exact hel
      · subst z; exact hil
    rw [upd_ne (Nat.ne_of_lt hb')]
    exact (hf b hb).1
  done := by
    rintro X rfl rfl rfl hc i pins s σ H E I hf ⟨⟨old, he⟩, hit, hne⟩ hg
    obtain ⟨f0, f1, f2, f3, f4, f5⟩ := hf it (by simp)
    have hg' : i = x.cps.size := hg
    subst hg'
    exact wpAny_pyNext_enum_endD (Draws.text (A := X.A.in1) (I.ok.hd hc) it x t) he hit fun h' eb => ⟨rfl, I.turned (t' := s.toks) (fun b o hb q => eb b o hb q) f0 f1 f3 f4 f5⟩
  self := fun A i s Q E st h => let ⟨⟨_, he⟩, _⟩ := st; wpAny_pyIter_enum he h
def iEnumS (ta : TA) : TI := fun σ H R => ta σ H fun vs H1 => ∃ x : Str, vs = [.str x] ∧ R (ItES x) H1
theorem pi_enumS {X : Cx} {e : Expr} {ta : TA} {p pos tpos : Pos} {elts : List Expr} {kk : Nat} (hg : Gl X "enumerate") (hm : X.mg "enumerate" = none) (ha : PA X [e] ta) (hs : starEach [e] X.env = [(false, eval e X.env)] := by rfl) :
    PI X (.Tuple elts kk tpos) (.Call (.Name "enumerate" p) [e] [] pos) (iEnumS ta) := by
  refine ⟨fun pins s σ H R I h => ?_⟩
  refine Call_ (ld_blt I hg hm boot_enumerate (PyProof.Rows.callWith_type1 (thn (ha.run pos pins s σ H _ I h) fun us s1 ⟨vs, H1, I1, r1, x, ex, q⟩ => ?_) hs rfl))
  subst ex
  obtain ⟨u, rfl, t, rfl⟩ := Vals.one r1
  refine call_enumerate_str fun h' he hit hsz hk => wpAny_pyIter_enum he ?_
  have J : Inv X pins σ H1 { s1 with heap := h' } := I1.kept (t' := s1.toks) hk
  refine ⟨s1.heap.objs.size + 1, [s1.heap.objs.size + 1, s1.heap.objs.size], _, _, H1, rfl, J, turn_enumS x t (s1.heap.objs.size + 1) s1.heap.objs.size, ⟨⟨.none, he⟩, hit, Nat.succ_ne_self _⟩, fun b hb => ?_, q⟩
  have hle : s1.heap.objs.size ≤ b := by
    rcases (show b = s1.heap.objs.size + 1 ∨ b = s1.heap.objs.size by simpa using hb) with z | z <;> subst z
    · exact Nat.le_add_right _ _
    · exact Nat.le_refl _
  exact I1.fpOk hle (I1.hok.fresh hle)
theorem walk_enumS {x : Str} : Walk (ItES x) x.cps.size (fun _ => True) (fun i H v H' => ∃ T c, v = .ref T ∧ H T = none ∧ H' = upd H T (.tup [nV i, .str ⟨#[c]⟩]) ∧ x.cps[i]? = some c) :=
  ⟨fun _ _ hi _ => hi, fun _ _ => rfl, fun _ _ _ _ _ _ y => y⟩

/-- enumerate(tuple) -/
def ItET (K : PySem.W.Frag) (a : Addr) : It :=
  ⟨fun i H => ∃ (xs : List V) (x : V), SqT K H a xs ∧ xs[i]? = some x, fun i H v H' => ∃ T x, v = .ref T ∧ H T = none ∧ H' = upd H T (.tup [.int (i : Nat), x]) ∧ ∀ xs, SqT K H a xs → xs[i]? = some x, fun i H => ∃ xs : List V, SqT K H a xs ∧ i = xs.length⟩
theorem turn_enumT {P : Program} {w : World} {K : PySem.W.Frag} {elts : List Expr} {kk : Nat} {tpos : Pos} (a e it : Addr) :
    Turn P w K (.Tuple elts kk tpos) (ItET K a) [e, it] e (fun i h => (∃ old, IsEnum h e it ((i : Nat) : Int) old) ∧ h.IsTupleIter it a i ∧ e ≠ it) where
  mem := by simp
  obj := fun i h st b hb => by
    obtain ⟨⟨old, he⟩, ⟨o, ho, hc, hd⟩, _⟩ := st
    rcases (show b = e ∨ b = it by simpa using hb) with z | z
    · subst z; exact ⟨_, he, fun v q => nomatch q⟩
    · subst z; exact ⟨o, ho, fun v q => by rw [hd] at q; cases q⟩
  keep := fun i h h' ⟨⟨old, he⟩, hi, hne⟩ k => ⟨⟨old, k e (by simp) _ he⟩, hi.at fun o q => k it (by simp) o q, hne⟩
  item := by
    rintro X rfl rfl rfl hc i pins s σ H E I hf ⟨⟨old, he⟩, hit, hne⟩ ⟨xs, x, hq, hx⟩
    obtain ⟨its, rv, p, hz⟩ := I.tuple hq
    obtain ⟨u, hu, ru⟩ := rv.get hx
    have hel : e < s.heap.objs.size := Heap.lt_size he
    have hil : it < s.heap.objs.size := by obtain ⟨_, q, _⟩ := hit; exact Heap.lt_size q
    have hae : a ≠ e := by obtain ⟨o, q1, q2, _⟩ := id p; exact obj_ne q1 he q2 rfl (by decide)
    have hai : a ≠ it := by obtain ⟨o, q1, q2, _⟩ := id p; obtain ⟨o', q3, q4, _⟩ := id hit; exact obj_ne q1 q3 q2 q4 (by decide)
    have hlt : i < its.toArray.size := by have z := (List.getElem?_eq_some_iff.mp hu).1; simpa using z
    refine wpAny_pyNext_enum_itemD (Draws.tuple (A := X.A.in1) (I.ok.hd hc) it a hai its.toArray) he ⟨hit, p⟩ hlt hne (by simpa using ⟨hne, Ne.symm hae⟩) fun u' h' tk hu' ho hst hT hsz hk => ?_
    have eu : u' = u := by
      have z : its[i]? = some u' := by simpa using hu'
      rw [hu] at z
      exact (Option.some.inj z).symm
    subst eu
    refine ⟨_, rfl, wpAny_letOwnedTupleGo_enum (s := { s with heap := h', toks := tk + 1 }) ho fun h'' he' sb => ?_⟩
    have hT2 : h''.get? s.heap.objs.size = some { cls := .type "tuple", data := .seq #[.int i tk, u'] } := (sb.2 _ (Nat.ne_of_gt hel)).trans hT
    have nw : ObjOk X.prog X.w (upd H s.heap.objs.size (.tup [.int (i : Nat), x])) h'' s.heap.objs.size (.tup [.int (i : Nat), x]) :=
      ⟨by show 2 ≤ sizeLine; decide, [.int i tk, u'], .cons ⟨_, rfl⟩ (.cons ru .nil), ⟨_, hT2, rfl, _, rfl⟩⟩
    have J : Inv X pins σ (upd H s.heap.objs.size (.tup [.int (i : Nat), x])) { s with heap := h'', toks := tk + 1 } :=
      I.turnedNew (ch := [e, it]) (fun b ob hb q => (sb.2 b (fun z => hb (by simp [z]))).trans (hk b ob (fun z => hb (by simp [z])) (fun z => hb (by simp [z])) q)) hf (Nat.le_refl _) nw
    refine ⟨.ref s.heap.objs.size, _, J, rfl, ⟨_, x, rfl, I.hok.fresh (Nat.le_refl _), rfl, fun ys hy => by rw [I.tuple_inj hy hq]; exact hx⟩, ⟨⟨_, by have z := he'; rw [show ((i + 1 : Nat) : Int) = (i : Int) + 1 by omega]; exact z⟩, hst.1.at fun o q => (sb.2 it (Ne.symm hne)).trans q, hne⟩, fun b hb => ?_⟩
    have hb' : b < s.heap.objs.size := by
      rcases (show b = e ∨ b = it by simpa using hb) with z | z
      · subst z; exact hel
      · subst z; exact hil
    rw [upd_ne (Nat.ne_of_lt hb')]
    exact (hf b hb).1
  done := by
    rintro X rfl rfl rfl hc i pins s σ H E I hf ⟨⟨old, he⟩, hit, hne⟩ ⟨xs, hq, hx⟩
    obtain ⟨its, rv, p, hz⟩ := I.tuple hq
    obtain ⟨f0, f1, f2, f3, f4, f5⟩ := hf it (by simp)
    have hai : a ≠ it := by obtain ⟨o, q1, q2, _⟩ := id p; obtain ⟨o', q3, q4, _⟩ := id hit; exact obj_ne q1 q3 q2 q4 (by decide)
    have e2 : i = its.toArray.size := by have z := rv.length; simp; omega
    subst e2
    exact wpAny_pyNext_enum_endD (Draws.tuple (A := X.A.in1) (I.ok.hd hc) it a hai its.toArray) he ⟨hit, p⟩ fun h' eb => ⟨rfl, I.turned (t' := s.toks) (fun b o hb q => eb b o hb q) f0 f1 f3 f4 f5⟩
  self := fun A i s Q E st h => let ⟨⟨_, he⟩, _⟩ := st; wpAny_pyIter_enum he h
set_option maxHeartbeats 1000000 in
theorem meets_enumT {v : Value} {ob : Obj} {H : Heap → Prop} (B : Begins v ob H) :
    Meets (Builtin.«enumerate.__new__» ⟨[.type "enumerate", v], []⟩) (fun _ R s => H s.heap ∧
      R (.ok (.ret (.ref (s.heap.push ob).objs.size))) { s with heap := (s.heap.push ob).push { cls := .type "enumerate", data := .fields #[.none, .bool false, .ref s.heap.objs.size, rawInt 0, .none, .none] } }) :=
  .of_wp fun prog w A R s ⟨h1, h⟩ => by
    obtain ⟨hp, g, d, tk, os⟩ := s
    have hs := sub_enumerate
    have q1 : ∀ {A' : Around} {E : Value → Shared → Prop} {Q : Value → Shared → Prop}, Q (.ref hp.objs.size) ⟨hp.push ob, g, d, tk, os⟩ → wpAny (model prog w) A' (pyIter v) Q E ⟨hp, g, d, tk, os⟩ :=
      fun q => B.iter prog w _ _ ⟨hp, g, d, tk, os⟩ _ h1 q
    wp_walk using q1
    refine wpAny_stack_any fun st => wpAny_pure ?_
    split
    · rename_i c _ _ _ _ _
      cases (c == Value.type "enumerate") <;> (wp_walk using q1; exact ⟨_, rfl, h⟩)
    · wp_walk using q1
      exact ⟨_, rfl, h⟩
theorem call_enumT {prog : Program} {w : World} {A : Around} {E : Value → Shared → Prop} {s : Shared} {v : Value} {ob : Obj} {H : Heap → Prop} {Q : Value → Shared → Prop} (B : Begins v ob H) (h1 : H s.heap)
    (h : ∀ h', IsEnum h' (s.heap.objs.size + 1) s.heap.objs.size 0 .none → h'.get? s.heap.objs.size = some ob → h'.objs.size = s.heap.objs.size + 2 →
      (∀ b o, s.heap.get? b = some o → h'.get? b = some o) → Q (.ref (s.heap.objs.size + 1)) { s with heap := h' }) :
    wpAny (model prog w) A (call (.type "enumerate") [v]) Q E s := by
  refine callType_new F.called_enumerate (by decide) (F.typeCall_enumerate_1 _) (F.newCall_enumerate_1 _) (fun obj => F.args_object_init_2 obj _) F.entry_enumerate_new (meets_enumT B) ⟨h1, ?_⟩
  have hz : (s.heap.push ob).objs.size = s.heap.objs.size + 1 := Heap.size_push ..
  show _ ∧ _
  rw [hz]
  have he : IsEnum ((s.heap.push ob).push { cls := .type "enumerate", data := .fields #[.none, .bool false, .ref s.heap.objs.size, rawInt 0, .none, .none] }) (s.heap.objs.size + 1) s.heap.objs.size 0 .none := by
    have z := Heap.get?_push_size (s.heap.push ob) (o := { cls := .type "enumerate", data := .fields #[.none, .bool false, .ref s.heap.objs.size, rawInt 0, .none, .none] }) rfl
    rw [hz] at z; exact z
  exact ⟨⟨_, he, rfl⟩, h _ he (Heap.get?_push_of_some _ (Heap.get?_push_size _ B.free)) (by rw [Heap.size_push, hz]) fun b o x => Heap.get?_push_of_some _ (Heap.get?_push_of_some _ x)⟩
def iEnumT (K : PySem.W.Frag) (ta : TA) : TI := fun σ H R => ta σ H fun vs H1 => ∃ a xs, vs = [.ref a] ∧ SqT K H1 a xs ∧ R (ItET K a) H1
theorem pi_enumT {X : Cx} {e : Expr} {ta : TA} {p pos tpos : Pos} {elts : List Expr} {kk : Nat} (hg : Gl X "enumerate") (hm : X.mg "enumerate" = none) (ha : PA X [e] ta) (hs : starEach [e] X.env = [(false, eval e X.env)] := by rfl) :
    PI X (.Tuple elts kk tpos) (.Call (.Name "enumerate" p) [e] [] pos) (iEnumT X.K ta) := by
  refine ⟨fun pins s σ H R I h => ?_⟩
  refine Call_ (ld_blt I hg hm boot_enumerate (PyProof.Rows.callWith_type1 (thn (ha.run pos pins s σ H _ I h) fun us s1 ⟨vs, H1, I1, r1, a, xs, ex, hq, q⟩ => ?_) hs rfl))
  subst ex
  rw [Vals.ref1 r1]
  obtain ⟨its, rv, p', hz⟩ := I1.tuple hq
  refine call_enumT (begins_tuple a its.toArray) p' fun h' he hit hsz hk => wpAny_pyIter_enum he ?_
  have J : Inv X pins σ H1 { s1 with heap := h' } := I1.kept (t' := s1.toks) hk
  refine ⟨s1.heap.objs.size + 1, [s1.heap.objs.size + 1, s1.heap.objs.size], _, _, H1, rfl, J, turn_enumT a (s1.heap.objs.size + 1) s1.heap.objs.size, ⟨⟨.none, he⟩, ⟨_, hit, rfl, rfl⟩, Nat.succ_ne_self _⟩, fun b hb => ?_, q⟩
  have hle : s1.heap.objs.size ≤ b := by
    rcases (show b = s1.heap.objs.size + 1 ∨ b = s1.heap.objs.size by simpa using hb) with z | z <;> subst z
    · exact Nat.le_add_right _ _
    · exact Nat.le_refl _
  exact I1.fpOk hle (I1.hok.fresh hle)
theorem walk_enumT {K : PySem.W.Frag} {a : Addr} {xs : List V} : Walk (ItET K a) xs.length (fun H => SqT K H a xs) (YPair (fun i => some (nV i)) (fun i => xs[i]?)) :=
  ⟨fun i _ hi q => ⟨xs, xs[i], q, by simp [hi]⟩, fun _ q => ⟨xs, q, rfl⟩, fun i H v H' _ q ⟨T, x, h1, h2, h3, h4⟩ => ⟨T, nV i, x, h1, h2, h3, rfl, h4 xs q⟩⟩
end enum

section zip
/-- zip(tuple, list) -/
def ItZ (K : PySem.W.Frag) (a b : Addr) : It :=
  ⟨fun i H => ∃ (xs ys : List V) (x y : V), SqT K H a xs ∧ SqL K H b ys ∧ xs[i]? = some x ∧ ys[i]? = some y,
    fun i H v H' => ∃ T x y, v = .ref T ∧ H T = none ∧ H' = upd H T (.tup [x, y]) ∧ (∀ xs, SqT K H a xs → xs[i]? = some x) ∧ ∀ ys, SqL K H b ys → ys[i]? = some y,
    fun i H => ∃ xs ys : List V, SqT K H a xs ∧ SqL K H b ys ∧ i = xs.length ∧ i = ys.length⟩
theorem turn_zipM {P : Program} {w : World} {K : PySem.W.Frag} {elts : List Expr} {kk : Nat} {tpos : Pos} {a b z TI TO i1 i2 : Addr} (S : ZipSep2 z TI TO i1 i2 [i1, a] [i2, b]) :
    Turn P w K (.Tuple elts kk tpos) (ItZ K a b) [z, TI, TO, i1, i2] z (fun i h => IsZip h z TI TO .none ∧ IsTupOf2 h TI (.ref i1) (.ref i2) ∧ (∃ x y, IsTupOf2 h TO x y) ∧ h.IsTupleIter i1 a i ∧ h.IsListIter i2 b i) where
  mem := by simp
  obj := fun i h ⟨hz, hTI, ⟨x, y, hTO⟩, ⟨o1, e1, _, d1⟩, ⟨o2, e2, _, d2⟩⟩ c hc => by
    rcases (show c = z ∨ c = TI ∨ c = TO ∨ c = i1 ∨ c = i2 by simpa using hc) with q | q | q | q | q <;> subst q
    · exact ⟨_, hz, fun v q => nomatch q⟩
    · exact ⟨_, hTI, fun v q => nomatch q⟩
    · exact ⟨_, hTO, fun v q => nomatch q⟩
    · exact ⟨o1, e1, fun v q => by rw [d1] at q; cases q⟩
    · exact ⟨o2, e2, fun v q => by rw [d2] at q; cases q⟩
  keep := fun i h h' ⟨hz, hTI, ⟨x, y, hTO⟩, h1, h2⟩ k =>
    ⟨k z (by simp) _ hz, k TI (by simp) _ hTI, ⟨x, y, k TO (by simp) _ hTO⟩, h1.at fun o q => k i1 (by simp) o q, h2.at fun o q => k i2 (by simp) o q⟩
  item := by
    rintro X rfl rfl rfl hc i pins s σ H E I hf ⟨hz, hTI, ⟨x0, y0, hTO⟩, h1, h2⟩ ⟨xs, ys, x, y, hqx, hqy, hx, hy⟩
    obtain ⟨its, rv, p, _⟩ := I.tuple hqx
    obtain ⟨its2, rv2, p2, _⟩ := I.list hqy
    obtain ⟨u, hu, ru⟩ := rv.get hx
    obtain ⟨u2, hu2, ru2⟩ := rv2.get hy
    have hzl : z < s.heap.objs.size := Heap.lt_size hz
    have n1 : a ≠ i1 := by obtain ⟨o, q1, q2, _⟩ := id p; obtain ⟨o', q3, q4, _⟩ := id h1; exact obj_ne q1 q3 q2 q4 (by decide)
    have n2 : b ≠ i2 := by obtain ⟨o, q1, q2, _⟩ := id p2.isList; obtain ⟨o', q3, q4, _⟩ := id h2; exact obj_ne q1 q3 q2 q4 (by decide)
    have l1 : i < its.toArray.size := by have z := (List.getElem?_eq_some_iff.mp hu).1; simpa using z
    have l2 : i < its2.toArray.size := by have z := (List.getElem?_eq_some_iff.mp hu2).1; simpa using z
    refine wpAny_pyNext_zipD2_item S (Draws.tuple (A := X.A.in1) (I.ok.hd hc) i1 a n1 its.toArray) (Draws.list (A := X.A.in1) (I.ok.hd hc) i2 b n2 its2.toArray) hz hTI hTO ⟨h1, p⟩ ⟨h2, p2.isList⟩ l1 l2 fun v1 v2 h' tk hv1 hv2 z' TO' st1 st2 hT hsz hk => ?_
    have e1 : v1 = u := by
      have z : its[i]? = some v1 := by simpa using hv1
      rw [hu] at z
      exact (Option.some.inj z).symm
    have e2 : v2 = u2 := by
      have z : its2[i]? = some v2 := by simpa using hv2
      rw [hu2] at z
      exact (Option.some.inj z).symm
    subst e1 e2
    refine ⟨_, rfl, wpAny_letOwnedTupleGo_zip (s := { s with heap := h', toks := tk }) z' fun h'' z'' sb => ?_⟩
    have hT2 : h''.get? s.heap.objs.size = some { cls := .type "tuple", data := .seq #[v1, v2] } := (sb.2 _ (Nat.ne_of_gt hzl)).trans hT
    have nw : ObjOk X.prog X.w (upd H s.heap.objs.size (.tup [x, y])) h'' s.heap.objs.size (.tup [x, y]) :=
      ⟨by show 2 ≤ sizeLine; decide, [v1, v2], .cons ru (.cons ru2 .nil), ⟨_, hT2, rfl, _, rfl⟩⟩
    have J : Inv X pins σ (upd H s.heap.objs.size (.tup [x, y])) { s with heap := h'', toks := tk } :=
      I.turnedNew (ch := [z, TI, TO, i1, i2]) (fun c o hb q => (sb.2 c (fun q' => hb (by simp [q']))).trans (hk c o (fun q' => hb (by simp [q'])) (fun q' => hb (by simp [q'])) (fun q' => hb (by simp [q'])) (fun q' => hb (by simp [q'])) q)) hf (Nat.le_refl _) nw
    refine ⟨.ref s.heap.objs.size, _, J, rfl, ⟨_, x, y, rfl, I.hok.fresh (Nat.le_refl _), rfl, fun l hl => by rw [I.tuple_inj hl hqx]; exact hx, fun l hl => by rw [I.list_inj hl hqy]; exact hy⟩, ⟨z'', ?_, ⟨v1, v2, ?_⟩, ?_, ?_⟩, fun c hcm => ?_⟩
    · exact (sb.2 _ S.TIz).trans (hk _ _ S.TIz S.TITO S.TIi1 S.TIi2 hTI)
    · exact (sb.2 _ S.TOz).trans TO'
    · exact st1.1.at fun o q => (sb.2 _ (Ne.symm S.zi1)).trans q
    · exact st2.1.at fun o q => (sb.2 _ (Ne.symm S.zi2)).trans q
    · have hlt : c < s.heap.objs.size := by
        rcases (show c = z ∨ c = TI ∨ c = TO ∨ c = i1 ∨ c = i2 by simpa using hcm) with q | q | q | q | q <;> subst q
        · exact hzl
        · exact Heap.lt_size hTI
        · exact Heap.lt_size hTO
        · obtain ⟨_, e1, _⟩ := h1; exact Heap.lt_size e1
        · obtain ⟨_, e2, _⟩ := h2; exact Heap.lt_size e2
      rw [upd_ne (Nat.ne_of_lt hlt)]
      exact (hf c hcm).1
  done := by
    rintro X rfl rfl rfl hc i pins s σ H E I hf ⟨hz, hTI, ⟨x0, y0, hTO⟩, h1, h2⟩ ⟨xs, ys, hqx, hqy, f1, f2⟩
    obtain ⟨its, rv, p, _⟩ := I.tuple hqx
    obtain ⟨its2, rv2, p2, _⟩ := I.list hqy
    have l1 : its.toArray.size = i := by have z := rv.length; simp; omega
    have l2 : its2.toArray.size = i := by have z := rv2.length; simp; omega
    have n1 : a ≠ i1 := by obtain ⟨o, q1, q2, _⟩ := id p; obtain ⟨o', q3, q4, _⟩ := id h1; exact obj_ne q1 q3 q2 q4 (by decide)
    have n2 : b ≠ i2 := by obtain ⟨o, q1, q2, _⟩ := id p2.isList; obtain ⟨o', q3, q4, _⟩ := id h2; exact obj_ne q1 q3 q2 q4 (by decide)
    exact wpAny_pyNext_zipD2_end S (Draws.tuple (A := X.A.in1) (I.ok.hd hc) i1 a n1 its.toArray) (Draws.list (A := X.A.in1) (I.ok.hd hc) i2 b n2 its2.toArray) hz hTI hTO ⟨h1, p⟩ ⟨h2, p2.isList⟩ (Nat.le_of_eq l1.symm) (Nat.le_of_eq l2.symm) (.inl l1.symm)
      fun h' tk hk => ⟨rfl, I.turnedL (t' := tk) (ch := [z, TI, TO, i1, i2]) (fun c o hb q => hk c o (fun q' => hb (by simp [q'])) (fun q' => hb (by simp [q'])) (fun q' => hb (by simp [q'])) (fun q' => hb (by simp [q'])) q) hf⟩
  self := fun A i s Q E st h => wpAny_pyIter_zip st.1 h
def iZipM (K : PySem.W.Frag) (ta : TA) : TI := fun σ H R => ta σ H fun vs H1 => ∃ a b xs ys, vs = [.ref a, .ref b] ∧ SqT K H1 a xs ∧ SqL K H1 b ys ∧ R (ItZ K a b) H1
theorem pi_zipM {X : Cx} {e e2 : Expr} {ta : TA} {p pos tpos : Pos} {elts : List Expr} {kk : Nat} (hg : Gl X "zip") (hm : X.mg "zip" = none) (ha : PA X [e, e2] ta)
    (hs : starEach [e, e2] X.env = (false, eval e X.env) :: starEach [e2] X.env := by rfl) (hpl : (backTo pos (starEach [e2] X.env)).any (·.1) = false := by rfl) :
    PI X (.Tuple elts kk tpos) (.Call (.Name "zip" p) [e, e2] [] pos) (iZipM X.K ta) := by
  refine ⟨fun pins s σ H R I h => ?_⟩
  refine Call_ (ld_blt I hg hm PyProof.Rows.boot_zip (PyProof.Rows.callWith_type1 (thn (ha.run pos pins s σ H _ I h) fun us s1 ⟨vs, H1, I1, r1, a, b, xs, ys, ex, hqx, hqy, q⟩ => ?_) hs hpl))
  subst ex
  obtain ⟨u1, u2, rfl, ra, rb⟩ := Vals.two r1
  obtain rfl : u1 = Value.ref a := ra
  obtain rfl : u2 = Value.ref b := rb
  obtain ⟨its, rv, p1, _⟩ := I1.tuple hqx
  obtain ⟨its2, rv2, p2, _⟩ := I1.list hqy
  have la : a < s1.heap.objs.size := by obtain ⟨o, q1, _⟩ := id p1; exact Heap.lt_size q1
  have lb : b < s1.heap.objs.size := p2.lt
  refine zip_begins2 (begins_tuple a its.toArray) (begins_list b its2.toArray) p1 p2.isList fun h' hz hTI hTO h1 h2 hsz hk => wpAny_pyIter_zip hz ?_
  have J : Inv X pins σ H1 { s1 with heap := h' } := I1.kept (t' := s1.toks) hk
  refine ⟨s1.heap.objs.size + 4, [s1.heap.objs.size + 4, s1.heap.objs.size + 2, s1.heap.objs.size + 3, s1.heap.objs.size, s1.heap.objs.size + 1], _, _, H1, rfl, J, turn_zipM (zip_sep2 (fp1 := [a]) (fp2 := [b]) (by simpa using la) (by simpa using lb)), ⟨hz, hTI, ⟨_, _, hTO⟩, ⟨_, h1, rfl, rfl⟩, ⟨_, h2, rfl, rfl⟩⟩, fun c hcm => ?_, q⟩
  have hle : s1.heap.objs.size ≤ c := by
    rcases (show c = s1.heap.objs.size + 4 ∨ c = s1.heap.objs.size + 2 ∨ c = s1.heap.objs.size + 3 ∨ c = s1.heap.objs.size ∨ c = s1.heap.objs.size + 1 by simpa using hcm) with z | z | z | z | z <;> subst z
    · exact Nat.le_add_right _ _
    · exact Nat.le_add_right _ _
    · exact Nat.le_add_right _ _
    · exact Nat.le_refl _
    · exact Nat.le_add_right _ _
  exact I1.fpOk hle (I1.hok.fresh hle)
theorem walk_zipM {K : PySem.W.Frag} {a b : Addr} {xs ys : List V} (hn : xs.length = ys.length) : Walk (ItZ K a b) xs.length (fun H => SqT K H a xs ∧ SqL K H b ys) (YPair (fun i => xs[i]?) (fun i => ys[i]?)) :=
  ⟨fun i _ hi q => ⟨xs, ys, xs[i], ys[i], q.1, q.2, by simp [hi], by simp [hn ▸ hi]⟩, fun _ q => ⟨xs, ys, q.1, q.2, rfl, hn⟩, fun i H v H' _ q ⟨T, x, z, h1, h2, h3, h4, h5⟩ => ⟨T, x, z, h1, h2, h3, h4 xs q.1, h5 ys q.2⟩⟩
end zip
end Kq

set_option Elab.async false
set_option linter.all false
set_option maxRecDepth 100000
set_option maxHeartbeats 4000000
/-! rules whose readings do not name what the top has written (so that they stand within comprehensions) -/
namespace Kq
open PySem PySem.Spec PyProof.Rows L2
section
variable {X : Cx} {a b e o : Expr} {es : List Expr} {ta tb te : TE} {t : TA} {pos : Pos}
def tTru (ta : TE) : TT := fun σ H Q => ta σ H fun x H' => ∃ n : Nat, x = nV n ∧ Q (decide (n ≠ 0)) H'
theorem dec_ne0 (n : Nat) : decide (n ≠ 0) = ((n : Int) != 0) := by rw [bne, Bool.eq_iff_iff]; simp
theorem xt_tru (ha : PE X a ta) (he : ∀ whole, isTrue a X.env whole = (do let v ← whole; standAt a.pos; holding [v] (truthy v)) := by intro _; rfl) : PT X a (tTru ta) := by
  refine ⟨fun pins s σ H Q I h => (pt_truth (ta := fun σ H Q => ta σ H fun x H' => ∃ n : Nat, x = nV n ∧ Q (nV n) H') ⟨fun pins s σ H Q I h => ?_⟩ he).run pins s σ H Q I ?_⟩
  · exact thn (ha.run pins s σ H _ I h) fun v s1 ⟨x, H1, I1, r1, n, e, q⟩ => ⟨_, H1, I1, by rw [← e]; exact r1, q⟩
  · exact (fun z => z) h |> fun h => by
      have h2 : ta σ H fun x H' => ∃ n : Nat, x = nV n ∧ Q (decide (n ≠ 0)) H' := h
      have e2 : (fun (x : V) (H' : Hp) => ∃ n : Nat, x = nV n ∧ Q (decide (n ≠ 0)) H') = fun x H' => ∃ n : Nat, x = nV n ∧ ∃ k, TruV X.K (nV n) H' k ∧ Q k H' := by
        funext x H'
        apply propext
        constructor
        · rintro ⟨n, e, q⟩
          exact ⟨n, e, _, dec_ne0 n, q⟩
        · rintro ⟨n, e, k, hk, q⟩
          refine ⟨n, e, ?_⟩
          have hk' : k = ((n : Int) != 0) := hk
          rw [dec_ne0, ← hk']; exact q
      rw [e2] at h2
      exact h2
/-- o.f, of the class at C -/
def tFldC (C : Addr) (f : Str) (ta : TE) : TE := fun σ H Q => ta σ H fun x H1 => ∃ a dx fs v, x = .ref a ∧ H1 a = some (.ins C dx fs) ∧ fs.lookup f = some v ∧ Q v H1
theorem xe_fld {C : Addr} {f : Str} (c : Cls X.K C) (n : NoAttr X.K C f) (he : PE X e ta) (hb : attributeBase e f X.env (eval e X.env) = eval e X.env := by rfl) : PE X (.Attribute e f pos) (tFldC C f ta) := by
  refine ⟨fun pins s σ H Q I h => attr_of hb (thn (he.run pins s σ H _ I h) fun u s1 ⟨x, H1, I1, rx, p, dx, fs, v, ex, ea, l, q⟩ => ?_)⟩
  subst ex
  obtain rfl : u = Value.ref p := rx
  exact getattr_ok I1 ea c n l fun u2 s2 I2 ru => ⟨v, H1, I2, ru, q⟩
def sFldC (C : Addr) (f : Str) (ta tv : TE) : TS := fun D σ H => tv σ H fun y H1 => ta σ H1 fun x H2 => ∃ a dx fs, x = .ref a ∧ H2 a = some (.ins C dx fs) ∧ fs.length < 1000 ∧ D.nx σ (upd H2 a (.ins C dx (putF f y fs)))
theorem xs_fld {C : Addr} {f : Str} {value : Expr} {tv : TE} {pos' : Pos} (c : Cls X.K C) (n : NoAttr X.K C f) (ha : PE X o ta) (hv : PE X value tv) (hs : swapsWith value (some (.Attribute o f pos')) pos.line X.env = pure false := by rfl) : PS X (.Assign [.Attribute o f pos'] value pos) (sFldC C f ta tv) := by
  refine ⟨fun pins s σ H D I h => plainObj_wpAny_Assign_Attribute (thn (hv.run pins s σ H _ I h) fun u s1 ⟨y, H1, I1, ry, q⟩ => thn (ha.run pins s1 σ H1 _ I1 q) fun ov s2 ⟨x, H2, I2, rx, p, dx, fs, ex, ea, l, q2⟩ => ?_) hs⟩
  subst ex
  obtain rfl : ov = Value.ref p := rx
  exact setattr_ok I2 ea c n l ry fun s3 I3 => ⟨σ, _, I3, q2⟩
def gFldC (C : Addr) (f : Str) (to : TE) : TG := fun v σ H Q => to σ H fun x H1 => ∃ a dx fs, x = .ref a ∧ H1 a = some (.ins C dx fs) ∧ fs.length < 1000 ∧ Q σ (upd H1 a (.ins C dx (putF f v fs)))
theorem xg_fld {C : Addr} {f : Str} (c : Cls X.K C) (n : NoAttr X.K C f) (ho : PE X o te) (ha : ∀ v, assign (.Attribute o f pos) X.env v = (do
      let ov ← holding [v] (eval o X.env)
      standAt pos.atName
      holding [v, ov] (setAttr ov f v)
      release [v, ov] []) := by intro _; rfl) : PG X (.Attribute o f pos) (gFldC C f te) := by
  refine ⟨fun pins s σ H v u Q I r h => ?_⟩
  rw [ha]
  refine wpAny_bind (wpAny_holding (thn (ho.run pins s σ H _ I h) fun ov s1 ⟨x, H1, I1, r1, a, dx, fs, ex, ea, l, q⟩ => ?_))
  subst ex
  obtain rfl : ov = Value.ref a := r1
  exact wpAny_bind (wpAny_standAt (wpAny_bind (wpAny_holding (setattr_ok I1 ea c n l r fun s3 I3 => wpAny_release ⟨σ, _, I3, q⟩))))
/- items -/
def rItT : R2 := fun x y H Q => ∃ p xs j v, x = .ref p ∧ y = nV j ∧ H p = some (.tup xs) ∧ xs[j]? = some v ∧ Q v H
def rItL : R2 := fun x y H Q => ∃ p xs j v, x = .ref p ∧ y = nV j ∧ H p = some (.lst xs) ∧ xs[j]? = some v ∧ Q v H
def rItLast : R2 := fun x y H Q => ∃ p xs v, x = .ref p ∧ y = .int (-1) ∧ H p = some (.lst (xs ++ [v])) ∧ Q v H
def rItS : R2 := fun x y H Q => ∃ z j c, x = .str z ∧ y = nV j ∧ z.length ≤ 100000 ∧ z.cps[j]? = some c ∧ Q (.str ⟨#[c]⟩) H
theorem ixR_mono {r r' : R2} (h : IxR X r) (m : ∀ x y H Q, r' x y H Q → r x y H Q) : IxR X r' := fun value slice pins s σ H x y v u Q I rx ry q hs => h value slice pins s σ H x y v u Q I rx ry (m x y H Q q) hs
theorem xi_tup : IxR X rItT := ixR_mono ix_tup fun x y H Q ⟨p, xs, j, v, e1, e2, h, e, q⟩ => ⟨p, xs, (j : Int), v, e1, e2, SqT.of h, atI_nat e, q⟩
theorem xi_list : IxR X rItL := ixR_mono ix_list fun x y H Q ⟨p, xs, j, v, e1, e2, h, e, q⟩ => ⟨p, xs, (j : Int), v, e1, e2, SqL.of h, atI_nat e, q⟩
theorem xi_last : IxR X rItLast := ixR_mono ix_list fun x y H Q ⟨p, xs, v, e1, e2, h, q⟩ => ⟨p, xs ++ [v], -1, v, e1, e2, SqL.of h, atI_last xs v, q⟩
theorem xi_str : IxR X rItS := ixR_mono ix_str fun x y H Q ⟨z, j, c, e1, e2, h, e, q⟩ => ⟨z, (j : Int), c, e1, e2, Nat.le_trans h (by decide), atI_nat (by simpa using e), q⟩
def rCut : V → Option Int → Option Int → Hp → VK → Prop := fun x lo hi H Q => ∃ a xs, x = .ref a ∧ H a = some (.lst xs) ∧ ∀ p, H p = none → Q (.ref p) (upd H p (.lst (cutV xs lo hi)))
theorem xl_list : SlR X rCut := fun pins s σ H x v vl vu lo hi sl Q I rx hs pl pu ⟨a, xs, e, h, q⟩ => sl_list pins s σ H x v vl vu lo hi sl Q I rx hs pl pu ⟨a, xs, e, SqL.of h, q⟩
/- targets -/
def gTp (n : Nat) (t : TGs) : TG := fun v σ H Q => ∃ a xs, v = .ref a ∧ H a = some (.tup xs) ∧ xs.length = n ∧ t xs σ H Q
def gLs (n : Nat) (t : TGs) : TG := fun v σ H Q => ∃ a xs, v = .ref a ∧ H a = some (.lst xs) ∧ xs.length = n ∧ t xs σ H Q
theorem xg_tup {k : Nat} {t : TGs} {n : Nat} (hc : X.calm = true) (h : PGs X es t) (hn : (assignEach es X.env).length = n := by rfl) (hst : (assignEach es X.env).findIdx? (·.1) = none := by rfl) : PG X (.Tuple es k pos) (gTp n t) :=
  ⟨fun pins s σ H v u Q I r ⟨a, xs, e, h1, l, q⟩ => (pg_tup hc h hn hst).run pins s σ H v u Q I r ⟨a, xs, e, SqT.of h1, l, q⟩⟩
theorem xg_lst {k : Nat} {t : TGs} {n : Nat} (hc : X.calm = true) (h : PGs X es t) (hn : (assignEach es X.env).length = n := by rfl) (hst : (assignEach es X.env).findIdx? (·.1) = none := by rfl) : PG X (.Tuple es k pos) (gLs n t) :=
  ⟨fun pins s σ H v u Q I r ⟨a, xs, e, h1, l, q⟩ => (pg_unl hc h hn hst).run pins s σ H v u Q I r ⟨a, xs, e, SqL.of h1, l, q⟩⟩
/- calls -/
theorem callR_mono {f : Value} {r r' : List V → Hp → VK → Prop} (h : CallR X f r) (m : ∀ xs H Q, r' xs H Q → r xs H Q) : CallR X f r' := fun pins s σ H xs us Q I rv q => h pins s σ H xs us Q I rv (m xs H Q q)
def rLenL : List V → Hp → VK → Prop := fun vs H Q => ∃ p xs, vs = [.ref p] ∧ H p = some (.lst xs) ∧ Q (nV xs.length) H
def rLenT' : List V → Hp → VK → Prop := fun vs H Q => ∃ p xs, vs = [.ref p] ∧ H p = some (.tup xs) ∧ Q (nV xs.length) H
def rLenS : List V → Hp → VK → Prop := fun vs H Q => ∃ z : Str, vs = [.str z] ∧ z.length ≤ 100000 ∧ Q (nV z.length) H
theorem xc_lenL : CallR X (.builtin "len") rLenL := callR_mono call_len_seq fun xs H Q ⟨p, ys, e, h, q⟩ => ⟨p, ys, e, .inl (SqL.of h), q⟩
theorem xc_lenT : CallR X (.builtin "len") rLenT' := callR_mono call_len_seq fun xs H Q ⟨p, ys, e, h, q⟩ => ⟨p, ys, e, .inr (SqT.of h), q⟩
theorem xc_lenS : CallR X (.builtin "len") rLenS := callR_mono call_len_str fun xs H Q ⟨z, e, h, q⟩ => ⟨z, e, Nat.le_trans h (by decide), q⟩
def rTupL : List V → Hp → VK → Prop := fun vs H Q => ∃ p xs, vs = [.ref p] ∧ H p = some (.lst xs) ∧ ∀ l, H l = none → Q (.ref l) (upd H l (.tup xs))
def rTupT : List V → Hp → VK → Prop := fun vs H Q => ∃ p xs, vs = [.ref p] ∧ H p = some (.tup xs) ∧ Q (.ref p) H
theorem xc_tupL : CallR X (.type "tuple") rTupL := callR_mono call_tuple_of fun xs H Q ⟨p, ys, e, h, q⟩ => ⟨p, ys, e, .inl ⟨SqL.of h, q⟩⟩
theorem xc_tupT : CallR X (.type "tuple") rTupT := callR_mono call_tuple_of fun xs H Q ⟨p, ys, e, h, q⟩ => ⟨p, ys, e, .inr ⟨SqT.of h, q⟩⟩
def rLstL : List V → Hp → VK → Prop := fun vs H Q => ∃ p xs, vs = [.ref p] ∧ H p = some (.lst xs) ∧ ∀ l, H l = none → Q (.ref l) (upd H l (.lst xs))
def rLstT : List V → Hp → VK → Prop := fun vs H Q => ∃ p xs, vs = [.ref p] ∧ H p = some (.tup xs) ∧ ∀ l, H l = none → Q (.ref l) (upd H l (.lst xs))
theorem xc_lstL : CallR X (.type "list") rLstL := callR_mono call_list_of fun xs H Q ⟨p, ys, e, h, q⟩ => ⟨p, ys, e, .inl (SqL.of h), q⟩
theorem xc_lstT : CallR X (.type "list") rLstT := callR_mono call_list_of fun xs H Q ⟨p, ys, e, h, q⟩ => ⟨p, ys, e, .inr (SqT.of h), q⟩
def rAnyB : List V → Hp → VK → Prop := fun vs H Q => ∃ (p : Addr) (bs : List Bool), vs = [.ref p] ∧ H p = some (.lst (bs.map V.bl)) ∧ Q (.bl (bs.any id)) H
theorem xc_anyB (hc : X.calm = true) : CallR X (.builtin "any") rAnyB := callR_mono (cr_any hc) fun xs H Q ⟨p, bs, e, h, q⟩ => ⟨p, bs, e, SqL.of h, q⟩
def rAnyI : List V → Hp → VK → Prop := fun vs H Q => ∃ (p : Addr) (ns : List Nat), vs = [.ref p] ∧ H p = some (.lst (ns.map nV)) ∧ Q (.bl (ns.any fun n => decide (n ≠ 0))) H
theorem xc_anyN (hc : X.calm = true) : CallR X (.builtin "any") rAnyI := callR_mono (cr_anyN hc) fun xs H Q ⟨p, bs, e, h, q⟩ => ⟨p, bs, e, SqL.of h, q⟩
theorem sum_nat : ∀ l : List Nat, (l.map fun n : Nat => (n : Int)).sum = ((l.sum : Nat) : Int)
  | [] => rfl
  | a :: l => by rw [List.map_cons, List.sum_cons, List.sum_cons, Int.natCast_add, sum_nat l]
def rSumN : List V → Hp → VK → Prop := fun vs H Q => ∃ (p : Addr) (ns : List Nat), vs = [.ref p] ∧ H p = some (.lst (ns.map nV)) ∧ Q (nV ns.sum) H
theorem xc_sum (hc : X.calm = true) : CallR X (.builtin "sum") rSumN := callR_mono (cr_sum hc) fun xs H Q ⟨p, ns, e, h, q⟩ => ⟨p, ns.map fun n : Nat => (n : Int), e, SqL.of (by rw [List.map_map]; exact h), by rw [sum_nat]; exact q⟩
def rMaxN : List V → Hp → VK → Prop := fun vs H Q => ∃ (p : Addr) (ns : List Nat), vs = [.ref p] ∧ H p = some (.lst (ns.map nV)) ∧ 0 < ns.length ∧ ∀ m, m ∈ ns → (∀ y ∈ ns, y ≤ m) → Q (nV m) H
theorem xc_max (hc : X.calm = true) : CallR X (.builtin "max") rMaxN := callR_mono (cr_max hc) fun xs H Q ⟨p, ns, e, h, l, q⟩ => ⟨p, ns.map fun n : Nat => (n : Int), e, SqL.of (by rw [List.map_map]; exact h), by simpa using l, fun m hm hy => by
  obtain ⟨k, hk, rfl⟩ := List.mem_map.mp hm
  exact q k hk fun y hy' => by have := hy (y : Int) (List.mem_map_of_mem hy'); omega⟩
def rMin2 : List V → Hp → VK → Prop := fun vs H Q => ∃ a b : Nat, vs = [nV a, nV b] ∧ Q (nV (min a b)) H
theorem xc_min (hc : X.calm = true) : CallR X (.builtin "min") rMin2 := callR_mono (call_min2 hc) fun xs H Q ⟨a, b, e, q⟩ => ⟨(a : Int), (b : Int), e, by
  rw [show (if (b : Int) < (a : Int) then (b : Int) else (a : Int)) = ((min a b : Nat) : Int) by split <;> omega]; exact q⟩
def rIntN : List V → Hp → VK → Prop := fun vs H Q => ∃ n : Nat, vs = [nV n] ∧ Q (nV n) H
def rIntI : List V → Hp → VK → Prop := fun vs H Q => ∃ n : Int, vs = [.int n] ∧ Q (.int n) H
def rIntB : List V → Hp → VK → Prop := fun vs H Q => ∃ b : Bool, vs = [.bl b] ∧ Q (nV b.toNat) H
theorem xc_intN : CallR X (.type "int") rIntN := callR_mono call_int1 fun xs H Q ⟨n, e, q⟩ => .inl ⟨_, e, q⟩
theorem xc_intI : CallR X (.type "int") rIntI := callR_mono call_int1 fun xs H Q ⟨n, e, q⟩ => .inl ⟨_, e, q⟩
theorem xc_intB : CallR X (.type "int") rIntB := callR_mono call_int1 fun xs H Q ⟨b, e, q⟩ => .inr ⟨b, e, by cases b <;> exact q⟩
/- in -/
def rInL (neg : Bool) : R2 := fun x y H Q => ∃ p xs, y = .ref p ∧ H p = some (.lst xs) ∧ flatV x = true ∧ xs.all flatV = true ∧ Q (.bl (if neg then !inV x xs else inV x xs)) H
def rInT (neg : Bool) : R2 := fun x y H Q => ∃ p xs, y = .ref p ∧ H p = some (.tup xs) ∧ flatV x = true ∧ xs.all flatV = true ∧ Q (.bl (if neg then !inV x xs else inV x xs)) H
theorem xo_inL : OpR X (compareOp .In) (rInL false) := opR_mono op_in_seq fun x y H Q ⟨p, xs, e, h, f1, f2, q⟩ => ⟨p, xs, e, .inl (SqL.of h), f1, f2, q⟩
theorem xo_ninL : OpR X (compareOp .NotIn) (rInL true) := opR_mono op_notIn_seq fun x y H Q ⟨p, xs, e, h, f1, f2, q⟩ => ⟨p, xs, e, .inl (SqL.of h), f1, f2, q⟩
theorem xo_inT : OpR X (compareOp .In) (rInT false) := opR_mono op_in_seq fun x y H Q ⟨p, xs, e, h, f1, f2, q⟩ => ⟨p, xs, e, .inr (SqT.of h), f1, f2, q⟩
theorem xo_ninT : OpR X (compareOp .NotIn) (rInT true) := opR_mono op_notIn_seq fun x y H Q ⟨p, xs, e, h, f1, f2, q⟩ => ⟨p, xs, e, .inr (SqT.of h), f1, f2, q⟩
/-- one sign in a text -/
def rSign (neg : Bool) : R2 := fun x y H Q => ∃ (c : Nat) (z : Str), x = .str ⟨#[c]⟩ ∧ y = .str z ∧ Q (.bl (neg ^^ decide (c ∈ z.cps.toList))) H
theorem xo_inS : OpR X (compareOp .In) (rSign false) := opR_mono op_in_sign fun x y H Q ⟨c, z, e1, e2, q⟩ => ⟨c, z, e1, e2, by simpa using q⟩
theorem xo_ninS : OpR X (compareOp .NotIn) (rSign true) := opR_mono op_notIn_sign fun x y H Q ⟨c, z, e1, e2, q⟩ => ⟨c, z, e1, e2, by simpa using q⟩
/- == of lists of data with the written empty list -/
def rNilE (neg : Bool) : R2 := fun x y H Q => ∃ p q xs, x = .ref p ∧ y = .ref q ∧ H p = some (.lst xs) ∧ H q = some (.lst []) ∧ (∀ v ∈ xs, (∃ n : Nat, v = nV n) ∨ ∃ (t : Addr) (ns : List Nat), v = .ref t ∧ H t = some (.tup (ns.map nV))) ∧ Q (.bl (neg ^^ xs.isEmpty)) H
def rTupE (neg : Bool) : R2 := fun x y H Q => ∃ (p q : Addr) (ns ms : List Nat), x = .ref p ∧ y = .ref q ∧ H p = some (.tup (ns.map nV)) ∧ H q = some (.tup (ms.map nV)) ∧ Q (.bl (neg ^^ decide (ns = ms))) H
/- methods of lists -/
def tBL (r : V → List V → Hp → VK → Prop) (to : TE) (t : TA) : TE := fun σ H Q => to σ H fun x H1 => ∃ p xs, x = .ref p ∧ H1 p = some (.lst xs) ∧ t σ H1 fun vs H2 => r x vs H2 Q
theorem xe_bl {name : Str} {id : String} {r : V → List V → Hp → VK → Prop} {apos cpos : Pos} (slot : Slot "list" name id) (hty : typeOf (.builtin id) = pure (.type "method_descriptor")) (hm : MtR X id r) (ho : PE X o ta) (ha : PA X (e :: es) t)
    (hbase : attributeBase o name X.env (eval o X.env) = eval o X.env := by rfl)
    (hfew : ((backTo cpos (starEach (e :: es) X.env)).all (fun x => !x.1) && (backToKw cpos (keywordEach [] X.env)).all (fun x => x.1.isSome)
      && decide ((e :: es).length + ([] : List Keyword).length + (if ([] : List Keyword).isEmpty then 0 else 1) < 30)) = true := by rfl)
    (hline : (apos.endLine == cpos.line) = true := by rfl) (hs : starEach (e :: es) X.env = (false, eval e X.env) :: starEach es X.env := by rfl) (hplain : (backTo cpos (starEach es X.env)).any (·.1) = false := by rfl) :
    PE X (.Call (.Attribute o name apos) (e :: es) [] cpos) (tBL r ta t) := by
  have ho' : PE X o (fun σ H Q => ta σ H fun x H1 => (∃ p xs, x = .ref p ∧ H1 p = some (.lst xs)) ∧ Q x H1) := ⟨fun pins s σ H Q I h => thn (ho.run pins s σ H _ I h) fun v s1 ⟨x, H1, I1, rx, _, q⟩ => ⟨x, H1, I1, rx, q⟩⟩
  refine ⟨fun pins s σ H Q I h => (pe_bm (T := "list") PySem.F.plainAttrs_list slot hty hm ho' ha hbase hfew hline hs hplain).run pins s σ H Q I ?_⟩
  have e2 : (fun (x : V) (H1 : Hp) => ∃ p xs, x = .ref p ∧ H1 p = some (.lst xs) ∧ t σ H1 fun vs H2 => r x vs H2 Q) = fun x H1 => (∃ p xs, x = .ref p ∧ H1 p = some (.lst xs)) ∧ tyV X.K "list" x H1 ∧ t σ H1 fun vs H2 => r x vs H2 Q := by
    funext x H1
    apply propext
    constructor
    · rintro ⟨p, xs, rfl, h, q⟩; exact ⟨⟨p, xs, rfl, h⟩, .inl ⟨rfl, xs, SqL.of h⟩, q⟩
    · rintro ⟨⟨p, xs, rfl, h⟩, _, q⟩; exact ⟨p, xs, rfl, h, q⟩
  have h2 : ta σ H fun (x : V) (H1 : Hp) => ∃ p xs, x = .ref p ∧ H1 p = some (.lst xs) ∧ t σ H1 fun vs H2 => r x vs H2 Q := h
  rw [e2] at h2
  exact h2
theorem dpAll_nats {K : PySem.W.Frag} {H : Hp} : ∀ l : List Nat, DpAll K H (l.map nV) (l.map fun n : Nat => PyData.int (n : Int))
  | [] => .nil
  | a :: l => .cons (.int _) (dpAll_nats l)
theorem nats_ok : ∀ l : List Nat, PyData.canLayAll0 (l.map fun n : Nat => PyData.int (n : Int)) = true ∧ PyData.depthAll (l.map fun n : Nat => PyData.int (n : Int)) = 0
  | [] => ⟨rfl, rfl⟩
  | a :: l => ⟨by rw [List.map_cons, PyData.canLayAll0, (nats_ok l).1]; rfl, by rw [List.map_cons, PyData.depthAll, (nats_ok l).2]; rfl⟩
theorem nats_eqv : ∀ l m : List Nat, PyData.eqvAll (l.map fun n : Nat => PyData.int (n : Int)) (m.map fun n : Nat => PyData.int (n : Int)) = decide (l = m)
  | [], [] => rfl
  | [], _ :: _ => by simp [PyData.eqvAll]
  | _ :: _, [] => by simp [PyData.eqvAll]
  | a :: l, b :: m => by
    rw [List.map_cons, List.map_cons, PyData.eqvAll, nats_eqv l m, PyData.eqv, Bool.eq_iff_iff]
    simp
    intro _
    omega
theorem dpAll_of {K : PySem.W.Frag} {H : Hp} : ∀ {xs : List V}, (∀ v ∈ xs, (∃ n : Nat, v = nV n) ∨ ∃ (t : Addr) (ns : List Nat), v = .ref t ∧ H t = some (.tup (ns.map nV))) →
    ∃ ds, DpAll K H xs ds ∧ PyData.canLayAll0 ds = true ∧ PyData.depthAll ds ≤ 1
  | [], _ => ⟨[], .nil, rfl, Nat.zero_le _⟩
  | v :: xs, h => by
    obtain ⟨ds, h1, h2, h3⟩ := dpAll_of (K := K) fun u hu => h u (List.mem_cons_of_mem _ hu)
    rcases h v List.mem_cons_self with ⟨n, rfl⟩ | ⟨t, ns, rfl, ht⟩
    · exact ⟨_, .cons (.int _) h1, by rw [PyData.canLayAll0, h2]; rfl, by rw [PyData.depthAll, PyData.depth]; omega⟩
    · refine ⟨_, .cons (.tup (SqT.of ht) (dpAll_nats ns)) h1, by rw [PyData.canLayAll0, h2, PyData.canLay0, (nats_ok ns).1]; rfl, ?_⟩
      rw [PyData.depthAll, PyData.depth, (nats_ok ns).2]; omega
theorem nil_eqv {ds : List PyData} {xs : List V} {K : PySem.W.Frag} {H : Hp} (h : DpAll K H xs ds) : PyData.eqv (.list ds) (.list []) = xs.isEmpty := by
  cases h with
  | nil => rfl
  | cons _ _ => rfl
theorem xo_eqNil (hu : X.A.units + 64 < cLine) : OpR X (compareOp .Eq) (rNilE false) := opR_mono (op_eqD hu) fun x y H Q ⟨p, q, xs, e1, e2, h1, h2, hx, k⟩ => by
  obtain ⟨ds, d1, d2, d3⟩ := dpAll_of (K := X.K) hx
  subst e1 e2
  refine ⟨.list ds, .list [], .lst (SqL.of h1) d1, .lst (SqL.of h2) .nil, ?_, rfl, ?_⟩
  · unfold SeqAt.shaped; rw [PyData.canLay0, d2, PyData.depth, Bool.true_and]; exact decide_eq_true (by omega)
  · rw [nil_eqv d1]; simpa using k
theorem xo_neNil (hu : X.A.units + 64 < cLine) : OpR X (compareOp .NotEq) (rNilE true) := opR_mono (op_neD hu) fun x y H Q ⟨p, q, xs, e1, e2, h1, h2, hx, k⟩ => by
  obtain ⟨ds, d1, d2, d3⟩ := dpAll_of (K := X.K) hx
  subst e1 e2
  refine ⟨.list ds, .list [], .lst (SqL.of h1) d1, .lst (SqL.of h2) .nil, ?_, rfl, ?_⟩
  · unfold SeqAt.shaped; rw [PyData.canLay0, d2, PyData.depth, Bool.true_and]; exact decide_eq_true (by omega)
  · rw [nil_eqv d1]; simpa using k
theorem xo_neTup (hu : X.A.units + 64 < cLine) : OpR X (compareOp .NotEq) (rTupE true) := opR_mono (op_neD hu) fun x y H Q ⟨p, q, ns, ms, e1, e2, h1, h2, k⟩ => by
  subst e1 e2
  refine ⟨.tuple _, .tuple _, .tup (SqT.of h1) (dpAll_nats ns), .tup (SqT.of h2) (dpAll_nats ms), ?_, ?_, ?_⟩
  · unfold SeqAt.shaped; rw [PyData.canLay0, (nats_ok ns).1, PyData.depth, (nats_ok ns).2]; rfl
  · unfold SeqAt.shaped; rw [PyData.canLay0, (nats_ok ms).1, PyData.depth, (nats_ok ms).2]; rfl
  · rw [PyData.eqv, nats_eqv]; simpa using k
/- sources within comprehensions, K named -/
theorem xp_list {K : PySem.W.Frag} {tg l : Expr} {tl : TE} (hl : PE X l tl) (hK : X.K = K := by rfl) : PI X tg l (iList K tl) := by subst hK; exact pi_list hl
theorem xp_tup {K : PySem.W.Frag} {tg l : Expr} {tl : TE} (hl : PE X l tl) (hK : X.K = K := by rfl) : PI X tg l (iTup K tl) := by subst hK; exact pi_tup hl
end
/-- what isinstance asks of a class -/
structure IsC (K : PySem.W.Frag) (C : Addr) : Prop where
  ha : PySem.W.findIn K (.ref C) "__class__" = some (some (.builtin "object.__class__"))
  hn : PySem.W.specialIn K (.builtin "object.__class__") "__get__" = some (some (.builtin "getset_descriptor.__get__"))
  htk : PySem.W.takesIn K (.builtin "object.__class__") = some true
  hm : PySem.W.mroIn K C (.type "object") = some true
end Kq

set_option Elab.async false
set_option maxRecDepth 100000
set_option maxHeartbeats 4000000
/-! the text by places; what the top leaves -/
namespace Kq
open PySem PySem.Spec PyProof.Rows L2
def top (i : Nat) : Stmt := PySem.Challenge.pw_keptqubits_k19_whole_regions.main.body.getD i (.Pass ⟨0, 0, 0, 0⟩)
abbrev s_number_of_bitrows : Stmt := top 2
theorem sc_number_of_bitrows : FnScope ["row", "number", "bit"] ["row"] (defScope s_number_of_bitrows) := ⟨rfl, rfl, rfl, by decide +kernel, rfl, by decide +kernel, by decide +kernel⟩
abbrev s_bits_of : Stmt := top 4
theorem sc_bits_of : FnScope ["number", "width", "place"] ["number", "width"] (defScope s_bits_of) := ⟨rfl, rfl, rfl, by decide +kernel, rfl, by decide +kernel, by decide +kernel⟩
abbrev s_has_lead : Stmt := top 5
theorem sc_has_lead : FnScope ["number", "other"] ["number", "other"] (defScope s_has_lead) := ⟨rfl, rfl, rfl, by decide +kernel, rfl, by decide +kernel, by decide +kernel⟩
abbrev s_rest_by : Stmt := top 6
theorem sc_rest_by : FnScope ["table", "number", "head"] ["table", "number"] (defScope s_rest_by) := ⟨rfl, rfl, rfl, by decide +kernel, rfl, by decide +kernel, by decide +kernel⟩
abbrev s_put_in : Stmt := top 7
theorem sc_put_in : FnScope ["table", "number", "cleared", "head"] ["table", "number"] (defScope s_put_in) := ⟨rfl, rfl, rfl, by decide +kernel, rfl, by decide +kernel, by decide +kernel⟩
abbrev s_reduced_numbers : Stmt := top 8
theorem sc_reduced_numbers : FnScope ["numbers", "table", "number"] ["numbers"] (defScope s_reduced_numbers) := ⟨rfl, rfl, rfl, by decide +kernel, rfl, by decide +kernel, by decide +kernel⟩
abbrev s_bit_rank : Stmt := top 9
theorem sc_bit_rank : FnScope ["rows", "row"] ["rows"] (defScope s_bit_rank) := ⟨rfl, rfl, rfl, by decide +kernel, rfl, by decide +kernel, by decide +kernel⟩
abbrev s_kernel_bits : Stmt := top 10
theorem sc_kernel_bits : FnScope ["rows", "width", "table", "pivots", "found", "place", "number", "head", "pivot", "row"] ["rows", "width"] (defScope s_kernel_bits) := ⟨rfl, rfl, rfl, by decide +kernel, rfl, by decide +kernel, by decide +kernel⟩
abbrev s_is_size : Stmt := top 24
theorem sc_is_size : FnScope ["value", "least"] ["value", "least"] (defScope s_is_size) := ⟨rfl, rfl, rfl, by decide +kernel, rfl, by decide +kernel, by decide +kernel⟩
abbrev s_read_string : Stmt := top 25
theorem sc_read_string : FnScope ["text", "place", "phase", "at"] ["text"] (defScope s_read_string) := ⟨rfl, rfl, rfl, by decide +kernel, rfl, by decide +kernel, by decide +kernel⟩
abbrev s_Pauli_init : Stmt := inClass (top 26) 0
theorem sc_Pauli_init : FnScope ["self", "text", "letter"] ["self", "text"] (defScope s_Pauli_init) := ⟨rfl, rfl, rfl, by decide +kernel, rfl, by decide +kernel, by decide +kernel⟩
abbrev s_Pauli_eq : Stmt := inClass (top 26) 1
theorem sc_Pauli_eq : FnScope ["self", "other"] ["self", "other"] (defScope s_Pauli_eq) := ⟨rfl, rfl, rfl, by decide +kernel, rfl, by decide +kernel, by decide +kernel⟩
abbrev s_ones : Stmt := top 30
theorem sc_ones : FnScope ["number", "count"] ["number"] (defScope s_ones) := ⟨rfl, rfl, rfl, by decide +kernel, rfl, by decide +kernel, by decide +kernel⟩
abbrev s_crossing : Stmt := top 31
theorem sc_crossing : FnScope ["one", "two"] ["one", "two"] (defScope s_crossing) := ⟨rfl, rfl, rfl, by decide +kernel, rfl, by decide +kernel, by decide +kernel⟩
abbrev s_row_product : Stmt := top 32
theorem sc_row_product : FnScope ["one", "two", "x", "z", "power"] ["one", "two"] (defScope s_row_product) := ⟨rfl, rfl, rfl, by decide +kernel, rfl, by decide +kernel, by decide +kernel⟩
abbrev s_row_of : Stmt := top 33
theorem sc_row_of : FnScope ["string", "x", "z", "k", "letter"] ["string"] (defScope s_row_of) := ⟨rfl, rfl, rfl, by decide +kernel, rfl, by decide +kernel, by decide +kernel⟩
abbrev s_letters_of : Stmt := top 34
theorem sc_letters_of : FnScope ["row", "size", "k"] ["row", "size"] (defScope s_letters_of) := ⟨rfl, rfl, rfl, by decide +kernel, rfl, by decide +kernel, by decide +kernel⟩
abbrev s_column_of : Stmt := top 35
theorem sc_column_of : FnScope ["row", "size", "column"] ["row", "size", "column"] (defScope s_column_of) := ⟨rfl, rfl, rfl, by decide +kernel, rfl, by decide +kernel, by decide +kernel⟩
abbrev s_reduced_rows : Stmt := top 36
theorem sc_reduced_rows : FnScope ["rows", "size", "left", "place", "column", "found", "head", "k"] ["rows", "size"] (defScope s_reduced_rows) := ⟨rfl, rfl, rfl, by decide +kernel, rfl, by decide +kernel, by decide +kernel⟩
abbrev s_Region_init : Stmt := inClass (top 38) 0
theorem sc_Region_init : FnScope ["self", "number", "inside"] ["self", "number", "inside"] (defScope s_Region_init) := ⟨rfl, rfl, rfl, by decide +kernel, rfl, by decide +kernel, by decide +kernel⟩
abbrev s_told_lot : Stmt := top 39
theorem sc_told_lot : FnScope ["code", "lot", "least", "place"] ["code", "lot"] (defScope s_told_lot) := ⟨rfl, rfl, rfl, by decide +kernel, rfl, by decide +kernel, by decide +kernel⟩
abbrev s_string_of : Stmt := top 40
theorem sc_string_of : FnScope ["row", "size"] ["row", "size"] (defScope s_string_of) := ⟨rfl, rfl, rfl, by decide +kernel, rfl, by decide +kernel, by decide +kernel⟩
abbrev s_group_rows : Stmt := top 41
theorem sc_group_rows : FnScope ["code", "string"] ["code"] (defScope s_group_rows) := ⟨rfl, rfl, rfl, by decide +kernel, rfl, by decide +kernel, by decide +kernel⟩
abbrev s_empty_rows : Stmt := top 42
theorem sc_empty_rows : FnScope ["code", "string"] ["code"] (defScope s_empty_rows) := ⟨rfl, rfl, rfl, by decide +kernel, rfl, by decide +kernel, by decide +kernel⟩
abbrev s_units_on : Stmt := top 43
theorem sc_units_on : FnScope ["lot", "found", "place"] ["lot"] (defScope s_units_on) := ⟨rfl, rfl, rfl, by decide +kernel, rfl, by decide +kernel, by decide +kernel⟩
abbrev s_bits_on : Stmt := top 44
theorem sc_bits_on : FnScope ["row", "lot", "found", "place"] ["row", "lot"] (defScope s_bits_on) := ⟨rfl, rfl, rfl, by decide +kernel, rfl, by decide +kernel, by decide +kernel⟩
abbrev s_region_of : Stmt := top 45
theorem sc_region_of : FnScope ["code", "lot", "rows", "others", "units", "found", "wide", "known", "rank", "bits", "row", "bit", "unit", "place"] ["code", "lot", "rows", "others"] (defScope s_region_of) := ⟨rfl, rfl, rfl, by decide +kernel, rfl, by decide +kernel, by decide +kernel⟩
abbrev s_region : Stmt := top 46
theorem sc_region : FnScope ["code", "lot"] ["code", "lot"] (defScope s_region) := ⟨rfl, rfl, rfl, by decide +kernel, rfl, by decide +kernel, by decide +kernel⟩
abbrev s_told_string : Stmt := top 48
theorem sc_told_string : FnScope ["row", "size"] ["row", "size"] (defScope s_told_string) := ⟨rfl, rfl, rfl, by decide +kernel, rfl, by decide +kernel, by decide +kernel⟩
abbrev s_first_column : Stmt := top 49
theorem sc_first_column : FnScope ["row", "size", "column"] ["row", "size"] (defScope s_first_column) := ⟨rfl, rfl, rfl, by decide +kernel, rfl, by decide +kernel, by decide +kernel⟩
abbrev s_need_commuting : Stmt := top 50
theorem sc_need_commuting : FnScope ["rows", "j", "row", "i"] ["rows"] (defScope s_need_commuting) := ⟨rfl, rfl, rfl, by decide +kernel, rfl, by decide +kernel, by decide +kernel⟩
abbrev s_independent_rows : Stmt := top 51
theorem sc_independent_rows : FnScope ["rows", "size", "kept", "heads", "index", "row", "left", "made", "column", "head", "other", "k"] ["rows", "size"] (defScope s_independent_rows) := ⟨rfl, rfl, rfl, by decide +kernel, rfl, by decide +kernel, by decide +kernel⟩
abbrev s_Group_init : Stmt := inClass (top 52) 0
theorem sc_Group_init : FnScope ["self", "size", "strings", "string", "rows", "told", "row"] ["self", "size", "strings"] (defScope s_Group_init) := ⟨rfl, rfl, rfl, by decide +kernel, rfl, by decide +kernel, by decide +kernel⟩
abbrev s_number_of_codes : Stmt := top 54
theorem sc_number_of_codes : FnScope ["row", "size"] ["row", "size"] (defScope s_number_of_codes) := ⟨rfl, rfl, rfl, by decide +kernel, rfl, by decide +kernel, by decide +kernel⟩
abbrev s_rest_in : Stmt := top 56
theorem sc_rest_in : FnScope ["number", "basis", "head"] ["number", "basis"] (defScope s_rest_in) := ⟨rfl, rfl, rfl, by decide +kernel, rfl, by decide +kernel, by decide +kernel⟩
abbrev s_basis_of : Stmt := top 57
theorem sc_basis_of : FnScope ["numbers", "begun", "basis", "number", "left"] ["numbers", "begun"] (defScope s_basis_of) := ⟨rfl, rfl, rfl, by decide +kernel, rfl, by decide +kernel, by decide +kernel⟩
abbrev s_added : Stmt := top 58
theorem sc_added : FnScope ["one", "other"] ["one", "other"] (defScope s_added) := ⟨rfl, rfl, rfl, by decide +kernel, rfl, by decide +kernel, by decide +kernel⟩
abbrev s_cleared : Stmt := top 60
theorem sc_cleared : FnScope ["row", "one", "two", "here"] ["row", "one", "two"] (defScope s_cleared) := ⟨rfl, rfl, rfl, by decide +kernel, rfl, by decide +kernel, by decide +kernel⟩
abbrev s_paired : Stmt := top 61
theorem sc_paired : FnScope ["rows", "left", "pairs", "rest", "one", "found", "two", "k", "other"] ["rows"] (defScope s_paired) := ⟨rfl, rfl, rfl, by decide +kernel, rfl, by decide +kernel, by decide +kernel⟩
abbrev s_check_size : Stmt := top 62
theorem sc_check_size : FnScope ["code", "string"] ["code", "string"] (defScope s_check_size) := ⟨rfl, rfl, rfl, by decide +kernel, rfl, by decide +kernel, by decide +kernel⟩
abbrev s_Code_init : Stmt := inClass (top 63) 0
theorem sc_Code_init : FnScope ["self", "size", "strings", "gauge", "hidden", "index", "string", "head", "row"] ["self", "size", "strings", "gauge", "hidden"] (defScope s_Code_init) := ⟨rfl, rfl, rfl, by decide +kernel, rfl, by decide +kernel, by decide +kernel⟩
abbrev s_Code_told : Stmt := inClass (top 63) 2
theorem sc_Code_told : FnScope ["self", "hidden", "known", "index", "pair", "one", "two", "string", "row", "other"] ["self", "hidden"] (defScope s_Code_told) := ⟨rfl, rfl, rfl, by decide +kernel, rfl, by decide +kernel, by decide +kernel⟩
abbrev s_law_pen : Stmt := top 65
theorem sc_law_pen : FnScope ["_law_script", "_law_fold", "_law_cell"] ["_law_script"] (defScope s_law_pen) := ⟨rfl, rfl, rfl, by decide +kernel, rfl, by decide +kernel, by decide +kernel⟩
abbrev s_law_draw : Stmt := top 66
theorem sc_law_draw : FnScope ["_law_pen_here", "_law_many", "_law_cell", "_law_digit", "_law_mixed"] ["_law_pen_here", "_law_many"] (defScope s_law_draw) := ⟨rfl, rfl, rfl, by decide +kernel, rfl, by decide +kernel, by decide +kernel⟩
abbrev s_law_pick : Stmt := top 67
theorem sc_law_pick : FnScope ["_law_pen_here", "_law_some"] ["_law_pen_here", "_law_some"] (defScope s_law_pick) := ⟨rfl, rfl, rfl, by decide +kernel, rfl, by decide +kernel, by decide +kernel⟩
abbrev s_law_shuffled : Stmt := top 68
theorem sc_law_shuffled : FnScope ["_law_pen_here", "_law_some", "_law_rest", "_law_found", "_law_lap"] ["_law_pen_here", "_law_some"] (defScope s_law_shuffled) := ⟨rfl, rfl, rfl, by decide +kernel, rfl, by decide +kernel, by decide +kernel⟩
abbrev s_law_ones : Stmt := top 69
theorem sc_law_ones : FnScope ["_law_number", "_law_count", "_law_lap"] ["_law_number"] (defScope s_law_ones) := ⟨rfl, rfl, rfl, by decide +kernel, rfl, by decide +kernel, by decide +kernel⟩
abbrev s_law_crosses : Stmt := top 70
theorem sc_law_crosses : FnScope ["_law_one", "_law_two"] ["_law_one", "_law_two"] (defScope s_law_crosses) := ⟨rfl, rfl, rfl, by decide +kernel, rfl, by decide +kernel, by decide +kernel⟩
abbrev s_law_times : Stmt := top 71
theorem sc_law_times : FnScope ["_law_one", "_law_two", "_law_x", "_law_z", "_law_power", "_law_k", "_law_first", "_law_second"] ["_law_one", "_law_two"] (defScope s_law_times) := ⟨rfl, rfl, rfl, by decide +kernel, rfl, by decide +kernel, by decide +kernel⟩
abbrev s_law_product : Stmt := top 72
theorem sc_law_product : FnScope ["_law_one", "_law_two", "_law_x", "_law_z", "_law_power"] ["_law_one", "_law_two"] (defScope s_law_product) := ⟨rfl, rfl, rfl, by decide +kernel, rfl, by decide +kernel, by decide +kernel⟩
abbrev s_law_letters : Stmt := top 73
theorem sc_law_letters : FnScope ["_law_string", "_law_size", "_law_found", "_law_k"] ["_law_string", "_law_size"] (defScope s_law_letters) := ⟨rfl, rfl, rfl, by decide +kernel, rfl, by decide +kernel, by decide +kernel⟩
abbrev s_law_text : Stmt := top 74
theorem sc_law_text : FnScope ["_law_string", "_law_size"] ["_law_string", "_law_size"] (defScope s_law_text) := ⟨rfl, rfl, rfl, by decide +kernel, rfl, by decide +kernel, by decide +kernel⟩
abbrev s_law_of_text : Stmt := top 75
theorem sc_law_of_text : FnScope ["_law_text_here", "_law_sign", "_law_letters_here", "_law_x", "_law_z", "_law_k"] ["_law_text_here"] (defScope s_law_of_text) := ⟨rfl, rfl, rfl, by decide +kernel, rfl, by decide +kernel, by decide +kernel⟩
abbrev s_law_gate : Stmt := top 76
theorem sc_law_gate : FnScope ["_law_string", "_law_kind", "_law_places", "_law_x", "_law_z", "_law_sign", "_law_a", "_law_one", "_law_two", "_law_turn", "_law_b", "_law_first", "_law_second", "_law_other"] ["_law_string", "_law_kind", "_law_places"] (defScope s_law_gate) := ⟨rfl, rfl, rfl, by decide +kernel, rfl, by decide +kernel, by decide +kernel⟩
abbrev s_law_drawn_code : Stmt := top 77
theorem sc_law_drawn_code : FnScope ["_law_pen_here", "_law_size", "_law_rank", "_law_gauged", "_law_marks", "_law_pairs", "_law_gates", "_law_lap", "_law_kind", "_law_places", "_law_rows", "_law_string", "_law_other", "_law_gauge", "_law_x", "_law_z", "_law_k"] ["_law_pen_here", "_law_size", "_law_rank", "_law_gauged"] (defScope s_law_drawn_code) := ⟨rfl, rfl, rfl, by decide +kernel, rfl, by decide +kernel, by decide +kernel⟩
abbrev s_law_pauli : Stmt := top 78
theorem sc_law_pauli : FnScope ["_law_string", "_law_size"] ["_law_string", "_law_size"] (defScope s_law_pauli) := ⟨rfl, rfl, rfl, by decide +kernel, rfl, by decide +kernel, by decide +kernel⟩
abbrev s_law_code : Stmt := top 79
theorem sc_law_code : FnScope ["_law_code_here", "_law_size", "_law_rows", "_law_gauge", "_law_string", "_law_x", "_law_z"] ["_law_code_here"] (defScope s_law_code) := ⟨rfl, rfl, rfl, by decide +kernel, rfl, by decide +kernel, by decide +kernel⟩
abbrev s_law_some_code : Stmt := top 80
theorem sc_law_some_code : FnScope ["_law_pen_here", "_law_most", "_law_size", "_law_rank", "_law_gauged"] ["_law_pen_here", "_law_most"] (defScope s_law_some_code) := ⟨rfl, rfl, rfl, by decide +kernel, rfl, by decide +kernel, by decide +kernel⟩
abbrev s_law_with_more : Stmt := top 81
theorem sc_law_with_more : FnScope ["_law_pen_here", "_law_code_here", "_law_rows", "_law_gauge", "_law_key"] ["_law_pen_here", "_law_code_here"] (defScope s_law_with_more) := ⟨rfl, rfl, rfl, by decide +kernel, rfl, by decide +kernel, by decide +kernel⟩
abbrev s_law_spanned : Stmt := top 82
theorem sc_law_spanned : FnScope ["_law_strings", "_law_found", "_law_string", "_law_x", "_law_z"] ["_law_strings"] (defScope s_law_spanned) := ⟨rfl, rfl, rfl, by decide +kernel, rfl, by decide +kernel, by decide +kernel⟩
abbrev s_law_kinds : Stmt := top 83
theorem sc_law_kinds : FnScope ["_law_code_here", "_law_size", "_law_found", "_law_empty", "_law_group", "_law_x", "_law_z", "_law_bare", "_law_row"] ["_law_code_here"] (defScope s_law_kinds) := ⟨rfl, rfl, rfl, by decide +kernel, rfl, by decide +kernel, by decide +kernel⟩
abbrev s_law_halvings : Stmt := top 84
theorem sc_law_halvings : FnScope ["_law_number", "_law_many", "_law_lap"] ["_law_number"] (defScope s_law_halvings) := ⟨rfl, rfl, rfl, by decide +kernel, rfl, by decide +kernel, by decide +kernel⟩
abbrev s_law_lot_numbers : Stmt := top 85
theorem sc_law_lot_numbers : FnScope ["_law_kinds_here", "_law_lot", "_law_mask", "_law_some", "_law_bare", "_law_number", "_law_place", "_law_key", "_law_one"] ["_law_kinds_here", "_law_lot"] (defScope s_law_lot_numbers) := ⟨rfl, rfl, rfl, by decide +kernel, rfl, by decide +kernel, by decide +kernel⟩
abbrev s_law_lots : Stmt := top 86
theorem sc_law_lots : FnScope ["_law_size", "_law_found", "_law_index", "_law_place"] ["_law_size"] (defScope s_law_lots) := ⟨rfl, rfl, rfl, by decide +kernel, rfl, by decide +kernel, by decide +kernel⟩
abbrev s_law_told : Stmt := top 87
theorem sc_law_told : FnScope ["_law_value", "_law_size", "_law_string"] ["_law_value", "_law_size"] (defScope s_law_told) := ⟨rfl, rfl, rfl, by decide +kernel, rfl, by decide +kernel, by decide +kernel⟩
abbrev s_law_is_within : Stmt := top 88
theorem sc_law_is_within : FnScope ["_law_string", "_law_lot", "_law_mask", "_law_place"] ["_law_string", "_law_lot"] (defScope s_law_is_within) := ⟨rfl, rfl, rfl, by decide +kernel, rfl, by decide +kernel, by decide +kernel⟩
abbrev s_law : Stmt := top 89
theorem sc_law : FnScope ["_law_script", "_law_pen_here", "_law_code_here", "_law_size", "_law_made", "_law_kinds_here", "_law_lot", "_law_given", "_law_told_here", "_law_strings", "_law_products", "_law_string", "_law_key"] ["_law_script"] (defScope s_law) := ⟨rfl, rfl, rfl, by decide +kernel, rfl, by decide +kernel, by decide +kernel⟩
/-- what the top has left, by names -/
structure Tx (K : PySem.W.Frag) (mg : Str → Option Value) where
  fd_number_of_bitrows : FuncData
  F_number_of_bitrows : FunD K "number_of" "number_of" (defArgs s_number_of_bitrows) (defBody s_number_of_bitrows) (defScope s_number_of_bitrows) [] [] (He.fAd K ("number_of_bitrows", none)) fd_number_of_bitrows
  m_number_of_bitrows : mg "number_of_bitrows" = some (.ref (He.fAd K ("number_of_bitrows", none)))
  fd_bits_of : FuncData
  F_bits_of : FunD K "bits_of" "bits_of" (defArgs s_bits_of) (defBody s_bits_of) (defScope s_bits_of) [] [] (He.fAd K ("bits_of", none)) fd_bits_of
  m_bits_of : mg "bits_of" = some (.ref (He.fAd K ("bits_of", none)))
  fd_has_lead : FuncData
  F_has_lead : FunD K "has_lead" "has_lead" (defArgs s_has_lead) (defBody s_has_lead) (defScope s_has_lead) [] [] (He.fAd K ("has_lead", none)) fd_has_lead
  m_has_lead : mg "has_lead" = some (.ref (He.fAd K ("has_lead", none)))
  fd_rest_by : FuncData
  F_rest_by : FunD K "rest_by" "rest_by" (defArgs s_rest_by) (defBody s_rest_by) (defScope s_rest_by) [] [] (He.fAd K ("rest_by", none)) fd_rest_by
  m_rest_by : mg "rest_by" = some (.ref (He.fAd K ("rest_by", none)))
  fd_put_in : FuncData
  F_put_in : FunD K "put_in" "put_in" (defArgs s_put_in) (defBody s_put_in) (defScope s_put_in) [] [] (He.fAd K ("put_in", none)) fd_put_in
  m_put_in : mg "put_in" = some (.ref (He.fAd K ("put_in", none)))
  fd_reduced_numbers : FuncData
  F_reduced_numbers : FunD K "reduced_numbers" "reduced_numbers" (defArgs s_reduced_numbers) (defBody s_reduced_numbers) (defScope s_reduced_numbers) [] [] (He.fAd K ("reduced_numbers", none)) fd_reduced_numbers
  m_reduced_numbers : mg "reduced_numbers" = some (.ref (He.fAd K ("reduced_numbers", none)))
  fd_bit_rank : FuncData
  F_bit_rank : FunD K "bit_rank" "bit_rank" (defArgs s_bit_rank) (defBody s_bit_rank) (defScope s_bit_rank) [] [] (He.fAd K ("bit_rank", none)) fd_bit_rank
  m_bit_rank : mg "bit_rank" = some (.ref (He.fAd K ("bit_rank", none)))
  fd_kernel_bits : FuncData
  F_kernel_bits : FunD K "kernel_bits" "kernel_bits" (defArgs s_kernel_bits) (defBody s_kernel_bits) (defScope s_kernel_bits) [] [] (He.fAd K ("kernel_bits", none)) fd_kernel_bits
  m_kernel_bits : mg "kernel_bits" = some (.ref (He.fAd K ("kernel_bits", none)))
  fd_is_size : FuncData
  F_is_size : FunD K "is_size" "is_size" (defArgs s_is_size) (defBody s_is_size) (defScope s_is_size) [] [] (He.fAd K ("is_size", none)) fd_is_size
  m_is_size : mg "is_size" = some (.ref (He.fAd K ("is_size", none)))
  fd_read_string : FuncData
  F_read_string : FunD K "read_string" "read_string" (defArgs s_read_string) (defBody s_read_string) (defScope s_read_string) [] [] (He.fAd K ("read_string", none)) fd_read_string
  m_read_string : mg "read_string" = some (.ref (He.fAd K ("read_string", none)))
  fd_Pauli_init : FuncData
  F_Pauli_init : FunD K "__init__" "Pauli.__init__" (defArgs s_Pauli_init) (defBody s_Pauli_init) (defScope s_Pauli_init) [] [] (He.fAd K ("Pauli", some "__init__")) fd_Pauli_init
  fd_Pauli_eq : FuncData
  F_Pauli_eq : FunD K "__eq__" "Pauli.__eq__" (defArgs s_Pauli_eq) (defBody s_Pauli_eq) (defScope s_Pauli_eq) [] [] (He.fAd K ("Pauli", some "__eq__")) fd_Pauli_eq
  fd_ones : FuncData
  F_ones : FunD K "ones" "ones" (defArgs s_ones) (defBody s_ones) (defScope s_ones) [] [] (He.fAd K ("ones", none)) fd_ones
  m_ones : mg "ones" = some (.ref (He.fAd K ("ones", none)))
  fd_crossing : FuncData
  F_crossing : FunD K "crossing" "crossing" (defArgs s_crossing) (defBody s_crossing) (defScope s_crossing) [] [] (He.fAd K ("crossing", none)) fd_crossing
  m_crossing : mg "crossing" = some (.ref (He.fAd K ("crossing", none)))
  fd_row_product : FuncData
  F_row_product : FunD K "row_product" "row_product" (defArgs s_row_product) (defBody s_row_product) (defScope s_row_product) [] [] (He.fAd K ("row_product", none)) fd_row_product
  m_row_product : mg "row_product" = some (.ref (He.fAd K ("row_product", none)))
  fd_row_of : FuncData
  F_row_of : FunD K "row_of" "row_of" (defArgs s_row_of) (defBody s_row_of) (defScope s_row_of) [] [] (He.fAd K ("row_of", none)) fd_row_of
  m_row_of : mg "row_of" = some (.ref (He.fAd K ("row_of", none)))
  fd_letters_of : FuncData
  F_letters_of : FunD K "letters_of" "letters_of" (defArgs s_letters_of) (defBody s_letters_of) (defScope s_letters_of) [] [] (He.fAd K ("letters_of", none)) fd_letters_of
  m_letters_of : mg "letters_of" = some (.ref (He.fAd K ("letters_of", none)))
  fd_column_of : FuncData
  F_column_of : FunD K "column_of" "column_of" (defArgs s_column_of) (defBody s_column_of) (defScope s_column_of) [] [] (He.fAd K ("column_of", none)) fd_column_of
  m_column_of : mg "column_of" = some (.ref (He.fAd K ("column_of", none)))
  fd_reduced_rows : FuncData
  F_reduced_rows : FunD K "reduced_rows" "reduced_rows" (defArgs s_reduced_rows) (defBody s_reduced_rows) (defScope s_reduced_rows) [] [] (He.fAd K ("reduced_rows", none)) fd_reduced_rows
  m_reduced_rows : mg "reduced_rows" = some (.ref (He.fAd K ("reduced_rows", none)))
  fd_Region_init : FuncData
  F_Region_init : FunD K "__init__" "Region.__init__" (defArgs s_Region_init) (defBody s_Region_init) (defScope s_Region_init) [] [] (He.fAd K ("Region", some "__init__")) fd_Region_init
  fd_told_lot : FuncData
  F_told_lot : FunD K "told_lot" "told_lot" (defArgs s_told_lot) (defBody s_told_lot) (defScope s_told_lot) [] [] (He.fAd K ("told_lot", none)) fd_told_lot
  m_told_lot : mg "told_lot" = some (.ref (He.fAd K ("told_lot", none)))
  fd_string_of : FuncData
  F_string_of : FunD K "string_of" "string_of" (defArgs s_string_of) (defBody s_string_of) (defScope s_string_of) [] [] (He.fAd K ("string_of", none)) fd_string_of
  m_string_of : mg "string_of" = some (.ref (He.fAd K ("string_of", none)))
  fd_group_rows : FuncData
  F_group_rows : FunD K "group_rows" "group_rows" (defArgs s_group_rows) (defBody s_group_rows) (defScope s_group_rows) [] [] (He.fAd K ("group_rows", none)) fd_group_rows
  m_group_rows : mg "group_rows" = some (.ref (He.fAd K ("group_rows", none)))
  fd_empty_rows : FuncData
  F_empty_rows : FunD K "empty_rows" "empty_rows" (defArgs s_empty_rows) (defBody s_empty_rows) (defScope s_empty_rows) [] [] (He.fAd K ("empty_rows", none)) fd_empty_rows
  m_empty_rows : mg "empty_rows" = some (.ref (He.fAd K ("empty_rows", none)))
  fd_units_on : FuncData
  F_units_on : FunD K "units_on" "units_on" (defArgs s_units_on) (defBody s_units_on) (defScope s_units_on) [] [] (He.fAd K ("units_on", none)) fd_units_on
  m_units_on : mg "units_on" = some (.ref (He.fAd K ("units_on", none)))
  fd_bits_on : FuncData
  F_bits_on : FunD K "bits_on" "bits_on" (defArgs s_bits_on) (defBody s_bits_on) (defScope s_bits_on) [] [] (He.fAd K ("bits_on", none)) fd_bits_on
  m_bits_on : mg "bits_on" = some (.ref (He.fAd K ("bits_on", none)))
  fd_region_of : FuncData
  F_region_of : FunD K "region_of" "region_of" (defArgs s_region_of) (defBody s_region_of) (defScope s_region_of) [] [] (He.fAd K ("region_of", none)) fd_region_of
  m_region_of : mg "region_of" = some (.ref (He.fAd K ("region_of", none)))
  fd_region : FuncData
  F_region : FunD K "region" "region" (defArgs s_region) (defBody s_region) (defScope s_region) [] [] (He.fAd K ("region", none)) fd_region
  m_region : mg "region" = some (.ref (He.fAd K ("region", none)))
  fd_told_string : FuncData
  F_told_string : FunD K "told_string" "told_string" (defArgs s_told_string) (defBody s_told_string) (defScope s_told_string) [] [] (He.fAd K ("told_string", none)) fd_told_string
  m_told_string : mg "told_string" = some (.ref (He.fAd K ("told_string", none)))
  fd_first_column : FuncData
  F_first_column : FunD K "first_column" "first_column" (defArgs s_first_column) (defBody s_first_column) (defScope s_first_column) [] [] (He.fAd K ("first_column", none)) fd_first_column
  m_first_column : mg "first_column" = some (.ref (He.fAd K ("first_column", none)))
  fd_need_commuting : FuncData
  F_need_commuting : FunD K "need_commuting" "need_commuting" (defArgs s_need_commuting) (defBody s_need_commuting) (defScope s_need_commuting) [] [] (He.fAd K ("need_commuting", none)) fd_need_commuting
  m_need_commuting : mg "need_commuting" = some (.ref (He.fAd K ("need_commuting", none)))
  fd_independent_rows : FuncData
  F_independent_rows : FunD K "independent_rows" "independent_rows" (defArgs s_independent_rows) (defBody s_independent_rows) (defScope s_independent_rows) [] [] (He.fAd K ("independent_rows", none)) fd_independent_rows
  m_independent_rows : mg "independent_rows" = some (.ref (He.fAd K ("independent_rows", none)))
  fd_Group_init : FuncData
  F_Group_init : FunD K "__init__" "Group.__init__" (defArgs s_Group_init) (defBody s_Group_init) (defScope s_Group_init) [] [] (He.fAd K ("Group", some "__init__")) fd_Group_init
  fd_number_of_codes : FuncData
  F_number_of_codes : FunD K "number_of" "number_of" (defArgs s_number_of_codes) (defBody s_number_of_codes) (defScope s_number_of_codes) [] [] (He.fAd K ("number_of_codes", none)) fd_number_of_codes
  m_number_of_codes : mg "number_of_codes" = some (.ref (He.fAd K ("number_of_codes", none)))
  fd_rest_in : FuncData
  F_rest_in : FunD K "rest_in" "rest_in" (defArgs s_rest_in) (defBody s_rest_in) (defScope s_rest_in) [] [] (He.fAd K ("rest_in", none)) fd_rest_in
  m_rest_in : mg "rest_in" = some (.ref (He.fAd K ("rest_in", none)))
  fd_basis_of : FuncData
  F_basis_of : FunD K "basis_of" "basis_of" (defArgs s_basis_of) (defBody s_basis_of) (defScope s_basis_of) [] [] (He.fAd K ("basis_of", none)) fd_basis_of
  m_basis_of : mg "basis_of" = some (.ref (He.fAd K ("basis_of", none)))
  fd_added : FuncData
  F_added : FunD K "added" "added" (defArgs s_added) (defBody s_added) (defScope s_added) [] [] (He.fAd K ("added", none)) fd_added
  m_added : mg "added" = some (.ref (He.fAd K ("added", none)))
  fd_cleared : FuncData
  F_cleared : FunD K "cleared" "cleared" (defArgs s_cleared) (defBody s_cleared) (defScope s_cleared) [] [] (He.fAd K ("cleared", none)) fd_cleared
  m_cleared : mg "cleared" = some (.ref (He.fAd K ("cleared", none)))
  fd_paired : FuncData
  F_paired : FunD K "paired" "paired" (defArgs s_paired) (defBody s_paired) (defScope s_paired) [] [] (He.fAd K ("paired", none)) fd_paired
  m_paired : mg "paired" = some (.ref (He.fAd K ("paired", none)))
  fd_check_size : FuncData
  F_check_size : FunD K "check_size" "check_size" (defArgs s_check_size) (defBody s_check_size) (defScope s_check_size) [] [] (He.fAd K ("check_size", none)) fd_check_size
  m_check_size : mg "check_size" = some (.ref (He.fAd K ("check_size", none)))
  fd_Code_init : FuncData
  F_Code_init : FunD K "__init__" "Code.__init__" (defArgs s_Code_init) (defBody s_Code_init) (defScope s_Code_init) [.ref (He.dflAt ("Code", some "__init__") 0 K), .non] [] (He.fAd K ("Code", some "__init__")) fd_Code_init
  fd_Code_told : FuncData
  F_Code_told : FunD K "told_pairs" "Code.told_pairs" (defArgs s_Code_told) (defBody s_Code_told) (defScope s_Code_told) [] [] (He.fAd K ("Code", some "told_pairs")) fd_Code_told
  fd_law_pen : FuncData
  F_law_pen : FunD K "_law_pen" "_law_pen" (defArgs s_law_pen) (defBody s_law_pen) (defScope s_law_pen) [] [] (He.fAd K ("_law_pen", none)) fd_law_pen
  m_law_pen : mg "_law_pen" = some (.ref (He.fAd K ("_law_pen", none)))
  fd_law_draw : FuncData
  F_law_draw : FunD K "_law_draw" "_law_draw" (defArgs s_law_draw) (defBody s_law_draw) (defScope s_law_draw) [] [] (He.fAd K ("_law_draw", none)) fd_law_draw
  m_law_draw : mg "_law_draw" = some (.ref (He.fAd K ("_law_draw", none)))
  fd_law_pick : FuncData
  F_law_pick : FunD K "_law_pick" "_law_pick" (defArgs s_law_pick) (defBody s_law_pick) (defScope s_law_pick) [] [] (He.fAd K ("_law_pick", none)) fd_law_pick
  m_law_pick : mg "_law_pick" = some (.ref (He.fAd K ("_law_pick", none)))
  fd_law_shuffled : FuncData
  F_law_shuffled : FunD K "_law_shuffled" "_law_shuffled" (defArgs s_law_shuffled) (defBody s_law_shuffled) (defScope s_law_shuffled) [] [] (He.fAd K ("_law_shuffled", none)) fd_law_shuffled
  m_law_shuffled : mg "_law_shuffled" = some (.ref (He.fAd K ("_law_shuffled", none)))
  fd_law_ones : FuncData
  F_law_ones : FunD K "_law_ones" "_law_ones" (defArgs s_law_ones) (defBody s_law_ones) (defScope s_law_ones) [] [] (He.fAd K ("_law_ones", none)) fd_law_ones
  m_law_ones : mg "_law_ones" = some (.ref (He.fAd K ("_law_ones", none)))
  fd_law_crosses : FuncData
  F_law_crosses : FunD K "_law_crosses" "_law_crosses" (defArgs s_law_crosses) (defBody s_law_crosses) (defScope s_law_crosses) [] [] (He.fAd K ("_law_crosses", none)) fd_law_crosses
  m_law_crosses : mg "_law_crosses" = some (.ref (He.fAd K ("_law_crosses", none)))
  fd_law_times : FuncData
  F_law_times : FunD K "_law_times" "_law_times" (defArgs s_law_times) (defBody s_law_times) (defScope s_law_times) [] [] (He.fAd K ("_law_times", none)) fd_law_times
  m_law_times : mg "_law_times" = some (.ref (He.fAd K ("_law_times", none)))
  fd_law_product : FuncData
  F_law_product : FunD K "_law_product" "_law_product" (defArgs s_law_product) (defBody s_law_product) (defScope s_law_product) [] [] (He.fAd K ("_law_product", none)) fd_law_product
  m_law_product : mg "_law_product" = some (.ref (He.fAd K ("_law_product", none)))
  fd_law_letters : FuncData
  F_law_letters : FunD K "_law_letters" "_law_letters" (defArgs s_law_letters) (defBody s_law_letters) (defScope s_law_letters) [] [] (He.fAd K ("_law_letters", none)) fd_law_letters
  m_law_letters : mg "_law_letters" = some (.ref (He.fAd K ("_law_letters", none)))
  fd_law_text : FuncData
  F_law_text : FunD K "_law_text" "_law_text" (defArgs s_law_text) (defBody s_law_text) (defScope s_law_text) [] [] (He.fAd K ("_law_text", none)) fd_law_text
  m_law_text : mg "_law_text" = some (.ref (He.fAd K ("_law_text", none)))
  fd_law_of_text : FuncData
  F_law_of_text : FunD K "_law_of_text" "_law_of_text" (defArgs s_law_of_text) (defBody s_law_of_text) (defScope s_law_of_text) [] [] (He.fAd K ("_law_of_text", none)) fd_law_of_text
  m_law_of_text : mg "_law_of_text" = some (.ref (He.fAd K ("_law_of_text", none)))
  fd_law_gate : FuncData
  F_law_gate : FunD K "_law_gate" "_law_gate" (defArgs s_law_gate) (defBody s_law_gate) (defScope s_law_gate) [] [] (He.fAd K ("_law_gate", none)) fd_law_gate
  m_law_gate : mg "_law_gate" = some (.ref (He.fAd K ("_law_gate", none)))
  fd_law_drawn_code : FuncData
  F_law_drawn_code : FunD K "_law_drawn_code" "_law_drawn_code" (defArgs s_law_drawn_code) (defBody s_law_drawn_code) (defScope s_law_drawn_code) [] [] (He.fAd K ("_law_drawn_code", none)) fd_law_drawn_code
  m_law_drawn_code : mg "_law_drawn_code" = some (.ref (He.fAd K ("_law_drawn_code", none)))
  fd_law_pauli : FuncData
  F_law_pauli : FunD K "_law_pauli" "_law_pauli" (defArgs s_law_pauli) (defBody s_law_pauli) (defScope s_law_pauli) [] [] (He.fAd K ("_law_pauli", none)) fd_law_pauli
  m_law_pauli : mg "_law_pauli" = some (.ref (He.fAd K ("_law_pauli", none)))
  fd_law_code : FuncData
  F_law_code : FunD K "_law_code" "_law_code" (defArgs s_law_code) (defBody s_law_code) (defScope s_law_code) [] [] (He.fAd K ("_law_code", none)) fd_law_code
  m_law_code : mg "_law_code" = some (.ref (He.fAd K ("_law_code", none)))
  fd_law_some_code : FuncData
  F_law_some_code : FunD K "_law_some_code" "_law_some_code" (defArgs s_law_some_code) (defBody s_law_some_code) (defScope s_law_some_code) [] [] (He.fAd K ("_law_some_code", none)) fd_law_some_code
  m_law_some_code : mg "_law_some_code" = some (.ref (He.fAd K ("_law_some_code", none)))
  fd_law_with_more : FuncData
  F_law_with_more : FunD K "_law_with_more" "_law_with_more" (defArgs s_law_with_more) (defBody s_law_with_more) (defScope s_law_with_more) [] [] (He.fAd K ("_law_with_more", none)) fd_law_with_more
  m_law_with_more : mg "_law_with_more" = some (.ref (He.fAd K ("_law_with_more", none)))
  fd_law_spanned : FuncData
  F_law_spanned : FunD K "_law_spanned" "_law_spanned" (defArgs s_law_spanned) (defBody s_law_spanned) (defScope s_law_spanned) [] [] (He.fAd K ("_law_spanned", none)) fd_law_spanned
  m_law_spanned : mg "_law_spanned" = some (.ref (He.fAd K ("_law_spanned", none)))
  fd_law_kinds : FuncData
  F_law_kinds : FunD K "_law_kinds" "_law_kinds" (defArgs s_law_kinds) (defBody s_law_kinds) (defScope s_law_kinds) [] [] (He.fAd K ("_law_kinds", none)) fd_law_kinds
  m_law_kinds : mg "_law_kinds" = some (.ref (He.fAd K ("_law_kinds", none)))
  fd_law_halvings : FuncData
  F_law_halvings : FunD K "_law_halvings" "_law_halvings" (defArgs s_law_halvings) (defBody s_law_halvings) (defScope s_law_halvings) [] [] (He.fAd K ("_law_halvings", none)) fd_law_halvings
  m_law_halvings : mg "_law_halvings" = some (.ref (He.fAd K ("_law_halvings", none)))
  fd_law_lot_numbers : FuncData
  F_law_lot_numbers : FunD K "_law_lot_numbers" "_law_lot_numbers" (defArgs s_law_lot_numbers) (defBody s_law_lot_numbers) (defScope s_law_lot_numbers) [] [] (He.fAd K ("_law_lot_numbers", none)) fd_law_lot_numbers
  m_law_lot_numbers : mg "_law_lot_numbers" = some (.ref (He.fAd K ("_law_lot_numbers", none)))
  fd_law_lots : FuncData
  F_law_lots : FunD K "_law_lots" "_law_lots" (defArgs s_law_lots) (defBody s_law_lots) (defScope s_law_lots) [] [] (He.fAd K ("_law_lots", none)) fd_law_lots
  m_law_lots : mg "_law_lots" = some (.ref (He.fAd K ("_law_lots", none)))
  fd_law_told : FuncData
  F_law_told : FunD K "_law_told" "_law_told" (defArgs s_law_told) (defBody s_law_told) (defScope s_law_told) [] [] (He.fAd K ("_law_told", none)) fd_law_told
  m_law_told : mg "_law_told" = some (.ref (He.fAd K ("_law_told", none)))
  fd_law_is_within : FuncData
  F_law_is_within : FunD K "_law_is_within" "_law_is_within" (defArgs s_law_is_within) (defBody s_law_is_within) (defScope s_law_is_within) [] [] (He.fAd K ("_law_is_within", none)) fd_law_is_within
  m_law_is_within : mg "_law_is_within" = some (.ref (He.fAd K ("_law_is_within", none)))
  fd_law : FuncData
  F_law : FunD K "law" "law" (defArgs s_law) (defBody s_law) (defScope s_law) [] [] (He.fAd K ("law", none)) fd_law
  m_law : mg "law" = some (.ref (He.fAd K ("law", none)))
  c_Pauli : Cls K (He.ga K "Pauli")
  k_Pauli : Mk K (He.ga K "Pauli") (He.fAd K ("Pauli", some "__init__"))
  m_Pauli : mg "Pauli" = some (.ref (He.ga K "Pauli"))
  i_Pauli : IsC K (He.ga K "Pauli")
  a_Pauli_letters : NoAttr K (He.ga K "Pauli") "letters"
  a_Pauli_phase : NoAttr K (He.ga K "Pauli") "phase"
  a_Pauli_size : NoAttr K (He.ga K "Pauli") "size"
  a_Pauli_weight : NoAttr K (He.ga K "Pauli") "weight"
  c_Region : Cls K (He.ga K "Region")
  k_Region : Mk K (He.ga K "Region") (He.fAd K ("Region", some "__init__"))
  m_Region : mg "Region" = some (.ref (He.ga K "Region"))
  i_Region : IsC K (He.ga K "Region")
  a_Region_number : NoAttr K (He.ga K "Region") "number"
  a_Region_inside : NoAttr K (He.ga K "Region") "inside"
  c_Group : Cls K (He.ga K "Group")
  k_Group : Mk K (He.ga K "Group") (He.fAd K ("Group", some "__init__"))
  m_Group : mg "Group" = some (.ref (He.ga K "Group"))
  i_Group : IsC K (He.ga K "Group")
  a_Group_size : NoAttr K (He.ga K "Group") "size"
  a_Group_rows : NoAttr K (He.ga K "Group") "rows"
  a_Group_rank : NoAttr K (He.ga K "Group") "rank"
  c_Code : Cls K (He.ga K "Code")
  k_Code : Mk K (He.ga K "Code") (He.fAd K ("Code", some "__init__"))
  m_Code : mg "Code" = some (.ref (He.ga K "Code"))
  i_Code : IsC K (He.ga K "Code")
  a_Code_size : NoAttr K (He.ga K "Code") "size"
  a_Code_group : NoAttr K (He.ga K "Code") "group"
  a_Code_gauge : NoAttr K (He.ga K "Code") "gauge"
  a_Code_heads : NoAttr K (He.ga K "Code") "heads"
  a_Code_sides : NoAttr K (He.ga K "Code") "sides"
  a_Code_inner : NoAttr K (He.ga K "Code") "inner"
  a_Code_whole : NoAttr K (He.ga K "Code") "whole"
  a_Code_gauged : NoAttr K (He.ga K "Code") "gauged"
  a_Code_kept : NoAttr K (He.ga K "Code") "kept"
  a_Code_hidden : NoAttr K (He.ga K "Code") "hidden"
  t_Code_told : Meth K (He.ga K "Code") "told_pairs" (He.fAd K ("Code", some "told_pairs"))
  t_Pauli_eq : Meth K (He.ga K "Pauli") "__eq__" (He.fAd K ("Pauli", some "__eq__"))
  n_len : mg "len" = none
  n_range : mg "range" = none
  n_sorted : mg "sorted" = none
  n_isinstance : mg "isinstance" = none
  n_tuple : mg "tuple" = none
  n_list : mg "list" = none
  n_zip : mg "zip" = none
  n_enumerate : mg "enumerate" = none
  n_any : mg "any" = none
  n_sum : mg "sum" = none
  n_max : mg "max" = none
  n_min : mg "min" = none
  n_int : mg "int" = none
  n_str : mg "str" = none
  n_bool : mg "bool" = none
section
variable {K : PySem.W.Frag} {mg : Str → Option Value} (T : Tx K mg)
theorem Tx.b_number_of_bitrows : Binds K T.fd_number_of_bitrows ["row"] [] := T.F_number_of_bitrows.bindsN fun _ _ _ _ _ _ us hl => match us, hl with | [_], _ => rfl
theorem Tx.b_bits_of : Binds K T.fd_bits_of ["number", "width"] [] := T.F_bits_of.bindsN fun _ _ _ _ _ _ us hl => match us, hl with | [_, _], _ => rfl
theorem Tx.b_has_lead : Binds K T.fd_has_lead ["number", "other"] [] := T.F_has_lead.bindsN fun _ _ _ _ _ _ us hl => match us, hl with | [_, _], _ => rfl
theorem Tx.b_rest_by : Binds K T.fd_rest_by ["table", "number"] [] := T.F_rest_by.bindsN fun _ _ _ _ _ _ us hl => match us, hl with | [_, _], _ => rfl
theorem Tx.b_put_in : Binds K T.fd_put_in ["table", "number"] [] := T.F_put_in.bindsN fun _ _ _ _ _ _ us hl => match us, hl with | [_, _], _ => rfl
theorem Tx.b_reduced_numbers : Binds K T.fd_reduced_numbers ["numbers"] [] := T.F_reduced_numbers.bindsN fun _ _ _ _ _ _ us hl => match us, hl with | [_], _ => rfl
theorem Tx.b_bit_rank : Binds K T.fd_bit_rank ["rows"] [] := T.F_bit_rank.bindsN fun _ _ _ _ _ _ us hl => match us, hl with | [_], _ => rfl
theorem Tx.b_kernel_bits : Binds K T.fd_kernel_bits ["rows", "width"] [] := T.F_kernel_bits.bindsN fun _ _ _ _ _ _ us hl => match us, hl with | [_, _], _ => rfl
theorem Tx.b_is_size : Binds K T.fd_is_size ["value", "least"] [] := T.F_is_size.bindsN fun _ _ _ _ _ _ us hl => match us, hl with | [_, _], _ => rfl
theorem Tx.b_read_string : Binds K T.fd_read_string ["text"] [] := T.F_read_string.bindsN fun _ _ _ _ _ _ us hl => match us, hl with | [_], _ => rfl
theorem Tx.b_Pauli_init : Binds K T.fd_Pauli_init ["self", "text"] [] := T.F_Pauli_init.bindsN fun _ _ _ _ _ _ us hl => match us, hl with | [_, _], _ => rfl
theorem Tx.b_Pauli_eq : Binds K T.fd_Pauli_eq ["self", "other"] [] := T.F_Pauli_eq.bindsN fun _ _ _ _ _ _ us hl => match us, hl with | [_, _], _ => rfl
theorem Tx.b_ones : Binds K T.fd_ones ["number"] [] := T.F_ones.bindsN fun _ _ _ _ _ _ us hl => match us, hl with | [_], _ => rfl
theorem Tx.b_crossing : Binds K T.fd_crossing ["one", "two"] [] := T.F_crossing.bindsN fun _ _ _ _ _ _ us hl => match us, hl with | [_, _], _ => rfl
theorem Tx.b_row_product : Binds K T.fd_row_product ["one", "two"] [] := T.F_row_product.bindsN fun _ _ _ _ _ _ us hl => match us, hl with | [_, _], _ => rfl
theorem Tx.b_row_of : Binds K T.fd_row_of ["string"] [] := T.F_row_of.bindsN fun _ _ _ _ _ _ us hl => match us, hl with | [_], _ => rfl
theorem Tx.b_letters_of : Binds K T.fd_letters_of ["row", "size"] [] := T.F_letters_of.bindsN fun _ _ _ _ _ _ us hl => match us, hl with | [_, _], _ => rfl
theorem Tx.b_column_of : Binds K T.fd_column_of ["row", "size", "column"] [] := T.F_column_of.bindsN fun _ _ _ _ _ _ us hl => match us, hl with | [_, _, _], _ => rfl
theorem Tx.b_reduced_rows : Binds K T.fd_reduced_rows ["rows", "size"] [] := T.F_reduced_rows.bindsN fun _ _ _ _ _ _ us hl => match us, hl with | [_, _], _ => rfl
theorem Tx.b_Region_init : Binds K T.fd_Region_init ["self", "number", "inside"] [] := T.F_Region_init.bindsN fun _ _ _ _ _ _ us hl => match us, hl with | [_, _, _], _ => rfl
theorem Tx.b_told_lot : Binds K T.fd_told_lot ["code", "lot"] [] := T.F_told_lot.bindsN fun _ _ _ _ _ _ us hl => match us, hl with | [_, _], _ => rfl
theorem Tx.b_string_of : Binds K T.fd_string_of ["row", "size"] [] := T.F_string_of.bindsN fun _ _ _ _ _ _ us hl => match us, hl with | [_, _], _ => rfl
theorem Tx.b_group_rows : Binds K T.fd_group_rows ["code"] [] := T.F_group_rows.bindsN fun _ _ _ _ _ _ us hl => match us, hl with | [_], _ => rfl
theorem Tx.b_empty_rows : Binds K T.fd_empty_rows ["code"] [] := T.F_empty_rows.bindsN fun _ _ _ _ _ _ us hl => match us, hl with | [_], _ => rfl
theorem Tx.b_units_on : Binds K T.fd_units_on ["lot"] [] := T.F_units_on.bindsN fun _ _ _ _ _ _ us hl => match us, hl with | [_], _ => rfl
theorem Tx.b_bits_on : Binds K T.fd_bits_on ["row", "lot"] [] := T.F_bits_on.bindsN fun _ _ _ _ _ _ us hl => match us, hl with | [_, _], _ => rfl
theorem Tx.b_region_of : Binds K T.fd_region_of ["code", "lot", "rows", "others"] [] := T.F_region_of.bindsN fun _ _ _ _ _ _ us hl => match us, hl with | [_, _, _, _], _ => rfl
theorem Tx.b_region : Binds K T.fd_region ["code", "lot"] [] := T.F_region.bindsN fun _ _ _ _ _ _ us hl => match us, hl with | [_, _], _ => rfl
theorem Tx.b_told_string : Binds K T.fd_told_string ["row", "size"] [] := T.F_told_string.bindsN fun _ _ _ _ _ _ us hl => match us, hl with | [_, _], _ => rfl
theorem Tx.b_first_column : Binds K T.fd_first_column ["row", "size"] [] := T.F_first_column.bindsN fun _ _ _ _ _ _ us hl => match us, hl with | [_, _], _ => rfl
theorem Tx.b_need_commuting : Binds K T.fd_need_commuting ["rows"] [] := T.F_need_commuting.bindsN fun _ _ _ _ _ _ us hl => match us, hl with | [_], _ => rfl
theorem Tx.b_independent_rows : Binds K T.fd_independent_rows ["rows", "size"] [] := T.F_independent_rows.bindsN fun _ _ _ _ _ _ us hl => match us, hl with | [_, _], _ => rfl
theorem Tx.b_Group_init : Binds K T.fd_Group_init ["self", "size", "strings"] [] := T.F_Group_init.bindsN fun _ _ _ _ _ _ us hl => match us, hl with | [_, _, _], _ => rfl
theorem Tx.b_number_of_codes : Binds K T.fd_number_of_codes ["row", "size"] [] := T.F_number_of_codes.bindsN fun _ _ _ _ _ _ us hl => match us, hl with | [_, _], _ => rfl
theorem Tx.b_rest_in : Binds K T.fd_rest_in ["number", "basis"] [] := T.F_rest_in.bindsN fun _ _ _ _ _ _ us hl => match us, hl with | [_, _], _ => rfl
theorem Tx.b_basis_of : Binds K T.fd_basis_of ["numbers", "begun"] [] := T.F_basis_of.bindsN fun _ _ _ _ _ _ us hl => match us, hl with | [_, _], _ => rfl
theorem Tx.b_added : Binds K T.fd_added ["one", "other"] [] := T.F_added.bindsN fun _ _ _ _ _ _ us hl => match us, hl with | [_, _], _ => rfl
theorem Tx.b_cleared : Binds K T.fd_cleared ["row", "one", "two"] [] := T.F_cleared.bindsN fun _ _ _ _ _ _ us hl => match us, hl with | [_, _, _], _ => rfl
theorem Tx.b_paired : Binds K T.fd_paired ["rows"] [] := T.F_paired.bindsN fun _ _ _ _ _ _ us hl => match us, hl with | [_], _ => rfl
theorem Tx.b_check_size : Binds K T.fd_check_size ["code", "string"] [] := T.F_check_size.bindsN fun _ _ _ _ _ _ us hl => match us, hl with | [_, _], _ => rfl
theorem Tx.b_Code_init : Binds K T.fd_Code_init ["self", "size", "strings", "gauge", "hidden"] [] := by
  obtain ⟨ds, hv, hb⟩ := T.F_Code_init.binds1 (ps := ["self", "size", "strings", "gauge", "hidden"]) 5 2 (by simp) rfl fun _ _ _ _ _ _ _ us its hl hi => by
    match us, hl, its, hi with
    | [_, _, _, _, _], _, [_, _], _ => exact ⟨_, rfl, rfl⟩
  cases hv
  exact hb
theorem Tx.b_Code_told : Binds K T.fd_Code_told ["self", "hidden"] [] := T.F_Code_told.bindsN fun _ _ _ _ _ _ us hl => match us, hl with | [_, _], _ => rfl
theorem Tx.b_law_pen : Binds K T.fd_law_pen ["_law_script"] [] := T.F_law_pen.bindsN fun _ _ _ _ _ _ us hl => match us, hl with | [_], _ => rfl
theorem Tx.b_law_draw : Binds K T.fd_law_draw ["_law_pen_here", "_law_many"] [] := T.F_law_draw.bindsN fun _ _ _ _ _ _ us hl => match us, hl with | [_, _], _ => rfl
theorem Tx.b_law_pick : Binds K T.fd_law_pick ["_law_pen_here", "_law_some"] [] := T.F_law_pick.bindsN fun _ _ _ _ _ _ us hl => match us, hl with | [_, _], _ => rfl
theorem Tx.b_law_shuffled : Binds K T.fd_law_shuffled ["_law_pen_here", "_law_some"] [] := T.F_law_shuffled.bindsN fun _ _ _ _ _ _ us hl => match us, hl with | [_, _], _ => rfl
theorem Tx.b_law_ones : Binds K T.fd_law_ones ["_law_number"] [] := T.F_law_ones.bindsN fun _ _ _ _ _ _ us hl => match us, hl with | [_], _ => rfl
theorem Tx.b_law_crosses : Binds K T.fd_law_crosses ["_law_one", "_law_two"] [] := T.F_law_crosses.bindsN fun _ _ _ _ _ _ us hl => match us, hl with | [_, _], _ => rfl
theorem Tx.b_law_times : Binds K T.fd_law_times ["_law_one", "_law_two"] [] := T.F_law_times.bindsN fun _ _ _ _ _ _ us hl => match us, hl with | [_, _], _ => rfl
theorem Tx.b_law_product : Binds K T.fd_law_product ["_law_one", "_law_two"] [] := T.F_law_product.bindsN fun _ _ _ _ _ _ us hl => match us, hl with | [_, _], _ => rfl
theorem Tx.b_law_letters : Binds K T.fd_law_letters ["_law_string", "_law_size"] [] := T.F_law_letters.bindsN fun _ _ _ _ _ _ us hl => match us, hl with | [_, _], _ => rfl
theorem Tx.b_law_text : Binds K T.fd_law_text ["_law_string", "_law_size"] [] := T.F_law_text.bindsN fun _ _ _ _ _ _ us hl => match us, hl with | [_, _], _ => rfl
theorem Tx.b_law_of_text : Binds K T.fd_law_of_text ["_law_text_here"] [] := T.F_law_of_text.bindsN fun _ _ _ _ _ _ us hl => match us, hl with | [_], _ => rfl
theorem Tx.b_law_gate : Binds K T.fd_law_gate ["_law_string", "_law_kind", "_law_places"] [] := T.F_law_gate.bindsN fun _ _ _ _ _ _ us hl => match us, hl with | [_, _, _], _ => rfl
theorem Tx.b_law_drawn_code : Binds K T.fd_law_drawn_code ["_law_pen_here", "_law_size", "_law_rank", "_law_gauged"] [] := T.F_law_drawn_code.bindsN fun _ _ _ _ _ _ us hl => match us, hl with | [_, _, _, _], _ => rfl
theorem Tx.b_law_pauli : Binds K T.fd_law_pauli ["_law_string", "_law_size"] [] := T.F_law_pauli.bindsN fun _ _ _ _ _ _ us hl => match us, hl with | [_, _], _ => rfl
theorem Tx.b_law_code : Binds K T.fd_law_code ["_law_code_here"] [] := T.F_law_code.bindsN fun _ _ _ _ _ _ us hl => match us, hl with | [_], _ => rfl
theorem Tx.b_law_some_code : Binds K T.fd_law_some_code ["_law_pen_here", "_law_most"] [] := T.F_law_some_code.bindsN fun _ _ _ _ _ _ us hl => match us, hl with | [_, _], _ => rfl
theorem Tx.b_law_with_more : Binds K T.fd_law_with_more ["_law_pen_here", "_law_code_here"] [] := T.F_law_with_more.bindsN fun _ _ _ _ _ _ us hl => match us, hl with | [_, _], _ => rfl
theorem Tx.b_law_spanned : Binds K T.fd_law_spanned ["_law_strings"] [] := T.F_law_spanned.bindsN fun _ _ _ _ _ _ us hl => match us, hl with | [_], _ => rfl
theorem Tx.b_law_kinds : Binds K T.fd_law_kinds ["_law_code_here"] [] := T.F_law_kinds.bindsN fun _ _ _ _ _ _ us hl => match us, hl with | [_], _ => rfl
theorem Tx.b_law_halvings : Binds K T.fd_law_halvings ["_law_number"] [] := T.F_law_halvings.bindsN fun _ _ _ _ _ _ us hl => match us, hl with | [_], _ => rfl
theorem Tx.b_law_lot_numbers : Binds K T.fd_law_lot_numbers ["_law_kinds_here", "_law_lot"] [] := T.F_law_lot_numbers.bindsN fun _ _ _ _ _ _ us hl => match us, hl with | [_, _], _ => rfl
theorem Tx.b_law_lots : Binds K T.fd_law_lots ["_law_size"] [] := T.F_law_lots.bindsN fun _ _ _ _ _ _ us hl => match us, hl with | [_], _ => rfl
theorem Tx.b_law_told : Binds K T.fd_law_told ["_law_value", "_law_size"] [] := T.F_law_told.bindsN fun _ _ _ _ _ _ us hl => match us, hl with | [_, _], _ => rfl
theorem Tx.b_law_is_within : Binds K T.fd_law_is_within ["_law_string", "_law_lot"] [] := T.F_law_is_within.bindsN fun _ _ _ _ _ _ us hl => match us, hl with | [_, _], _ => rfl
theorem Tx.b_law : Binds K T.fd_law ["_law_script"] [] := T.F_law.bindsN fun _ _ _ _ _ _ us hl => match us, hl with | [_], _ => rfl
end
end Kq

set_option Elab.async false
set_option linter.all false
set_option maxRecDepth 100000
set_option maxHeartbeats 0
/-! the head: the facts by names, the top's run in the kernel -/
namespace Kq
open PySem PySem.Spec PyProof.Rows L2
def d_number_of_bitrows : He.DefD := ⟨("number_of_bitrows", none), "number_of", "number_of", defArgs s_number_of_bitrows, defBody s_number_of_bitrows, defScope s_number_of_bitrows, [], []⟩
def d_bits_of : He.DefD := ⟨("bits_of", none), "bits_of", "bits_of", defArgs s_bits_of, defBody s_bits_of, defScope s_bits_of, [], []⟩
def d_has_lead : He.DefD := ⟨("has_lead", none), "has_lead", "has_lead", defArgs s_has_lead, defBody s_has_lead, defScope s_has_lead, [], []⟩
def d_rest_by : He.DefD := ⟨("rest_by", none), "rest_by", "rest_by", defArgs s_rest_by, defBody s_rest_by, defScope s_rest_by, [], []⟩
def d_put_in : He.DefD := ⟨("put_in", none), "put_in", "put_in", defArgs s_put_in, defBody s_put_in, defScope s_put_in, [], []⟩
def d_reduced_numbers : He.DefD := ⟨("reduced_numbers", none), "reduced_numbers", "reduced_numbers", defArgs s_reduced_numbers, defBody s_reduced_numbers, defScope s_reduced_numbers, [], []⟩
def d_bit_rank : He.DefD := ⟨("bit_rank", none), "bit_rank", "bit_rank", defArgs s_bit_rank, defBody s_bit_rank, defScope s_bit_rank, [], []⟩
def d_kernel_bits : He.DefD := ⟨("kernel_bits", none), "kernel_bits", "kernel_bits", defArgs s_kernel_bits, defBody s_kernel_bits, defScope s_kernel_bits, [], []⟩
def d_is_size : He.DefD := ⟨("is_size", none), "is_size", "is_size", defArgs s_is_size, defBody s_is_size, defScope s_is_size, [], []⟩
def d_read_string : He.DefD := ⟨("read_string", none), "read_string", "read_string", defArgs s_read_string, defBody s_read_string, defScope s_read_string, [], []⟩
def d_Pauli_init : He.DefD := ⟨("Pauli", some "__init__"), "__init__", "Pauli.__init__", defArgs s_Pauli_init, defBody s_Pauli_init, defScope s_Pauli_init, [], []⟩
def d_Pauli_eq : He.DefD := ⟨("Pauli", some "__eq__"), "__eq__", "Pauli.__eq__", defArgs s_Pauli_eq, defBody s_Pauli_eq, defScope s_Pauli_eq, [], []⟩
def d_ones : He.DefD := ⟨("ones", none), "ones", "ones", defArgs s_ones, defBody s_ones, defScope s_ones, [], []⟩
def d_crossing : He.DefD := ⟨("crossing", none), "crossing", "crossing", defArgs s_crossing, defBody s_crossing, defScope s_crossing, [], []⟩
def d_row_product : He.DefD := ⟨("row_product", none), "row_product", "row_product", defArgs s_row_product, defBody s_row_product, defScope s_row_product, [], []⟩
def d_row_of : He.DefD := ⟨("row_of", none), "row_of", "row_of", defArgs s_row_of, defBody s_row_of, defScope s_row_of, [], []⟩
def d_letters_of : He.DefD := ⟨("letters_of", none), "letters_of", "letters_of", defArgs s_letters_of, defBody s_letters_of, defScope s_letters_of, [], []⟩
def d_column_of : He.DefD := ⟨("column_of", none), "column_of", "column_of", defArgs s_column_of, defBody s_column_of, defScope s_column_of, [], []⟩
def d_reduced_rows : He.DefD := ⟨("reduced_rows", none), "reduced_rows", "reduced_rows", defArgs s_reduced_rows, defBody s_reduced_rows, defScope s_reduced_rows, [], []⟩
def d_Region_init : He.DefD := ⟨("Region", some "__init__"), "__init__", "Region.__init__", defArgs s_Region_init, defBody s_Region_init, defScope s_Region_init, [], []⟩
def d_told_lot : He.DefD := ⟨("told_lot", none), "told_lot", "told_lot", defArgs s_told_lot, defBody s_told_lot, defScope s_told_lot, [], []⟩
def d_string_of : He.DefD := ⟨("string_of", none), "string_of", "string_of", defArgs s_string_of, defBody s_string_of, defScope s_string_of, [], []⟩
def d_group_rows : He.DefD := ⟨("group_rows", none), "group_rows", "group_rows", defArgs s_group_rows, defBody s_group_rows, defScope s_group_rows, [], []⟩
def d_empty_rows : He.DefD := ⟨("empty_rows", none), "empty_rows", "empty_rows", defArgs s_empty_rows, defBody s_empty_rows, defScope s_empty_rows, [], []⟩
def d_units_on : He.DefD := ⟨("units_on", none), "units_on", "units_on", defArgs s_units_on, defBody s_units_on, defScope s_units_on, [], []⟩
def d_bits_on : He.DefD := ⟨("bits_on", none), "bits_on", "bits_on", defArgs s_bits_on, defBody s_bits_on, defScope s_bits_on, [], []⟩
def d_region_of : He.DefD := ⟨("region_of", none), "region_of", "region_of", defArgs s_region_of, defBody s_region_of, defScope s_region_of, [], []⟩
def d_region : He.DefD := ⟨("region", none), "region", "region", defArgs s_region, defBody s_region, defScope s_region, [], []⟩
def d_told_string : He.DefD := ⟨("told_string", none), "told_string", "told_string", defArgs s_told_string, defBody s_told_string, defScope s_told_string, [], []⟩
def d_first_column : He.DefD := ⟨("first_column", none), "first_column", "first_column", defArgs s_first_column, defBody s_first_column, defScope s_first_column, [], []⟩
def d_need_commuting : He.DefD := ⟨("need_commuting", none), "need_commuting", "need_commuting", defArgs s_need_commuting, defBody s_need_commuting, defScope s_need_commuting, [], []⟩
def d_independent_rows : He.DefD := ⟨("independent_rows", none), "independent_rows", "independent_rows", defArgs s_independent_rows, defBody s_independent_rows, defScope s_independent_rows, [], []⟩
def d_Group_init : He.DefD := ⟨("Group", some "__init__"), "__init__", "Group.__init__", defArgs s_Group_init, defBody s_Group_init, defScope s_Group_init, [], []⟩
def d_number_of_codes : He.DefD := ⟨("number_of_codes", none), "number_of", "number_of", defArgs s_number_of_codes, defBody s_number_of_codes, defScope s_number_of_codes, [], []⟩
def d_rest_in : He.DefD := ⟨("rest_in", none), "rest_in", "rest_in", defArgs s_rest_in, defBody s_rest_in, defScope s_rest_in, [], []⟩
def d_basis_of : He.DefD := ⟨("basis_of", none), "basis_of", "basis_of", defArgs s_basis_of, defBody s_basis_of, defScope s_basis_of, [], []⟩
def d_added : He.DefD := ⟨("added", none), "added", "added", defArgs s_added, defBody s_added, defScope s_added, [], []⟩
def d_cleared : He.DefD := ⟨("cleared", none), "cleared", "cleared", defArgs s_cleared, defBody s_cleared, defScope s_cleared, [], []⟩
def d_paired : He.DefD := ⟨("paired", none), "paired", "paired", defArgs s_paired, defBody s_paired, defScope s_paired, [], []⟩
def d_check_size : He.DefD := ⟨("check_size", none), "check_size", "check_size", defArgs s_check_size, defBody s_check_size, defScope s_check_size, [], []⟩
def d_Code_init : He.DefD := ⟨("Code", some "__init__"), "__init__", "Code.__init__", defArgs s_Code_init, defBody s_Code_init, defScope s_Code_init, [.adr (He.dflAt ("Code", some "__init__") 0), .non], []⟩
def d_Code_told : He.DefD := ⟨("Code", some "told_pairs"), "told_pairs", "Code.told_pairs", defArgs s_Code_told, defBody s_Code_told, defScope s_Code_told, [], []⟩
def d_law_pen : He.DefD := ⟨("_law_pen", none), "_law_pen", "_law_pen", defArgs s_law_pen, defBody s_law_pen, defScope s_law_pen, [], []⟩
def d_law_draw : He.DefD := ⟨("_law_draw", none), "_law_draw", "_law_draw", defArgs s_law_draw, defBody s_law_draw, defScope s_law_draw, [], []⟩
def d_law_pick : He.DefD := ⟨("_law_pick", none), "_law_pick", "_law_pick", defArgs s_law_pick, defBody s_law_pick, defScope s_law_pick, [], []⟩
def d_law_shuffled : He.DefD := ⟨("_law_shuffled", none), "_law_shuffled", "_law_shuffled", defArgs s_law_shuffled, defBody s_law_shuffled, defScope s_law_shuffled, [], []⟩
def d_law_ones : He.DefD := ⟨("_law_ones", none), "_law_ones", "_law_ones", defArgs s_law_ones, defBody s_law_ones, defScope s_law_ones, [], []⟩
def d_law_crosses : He.DefD := ⟨("_law_crosses", none), "_law_crosses", "_law_crosses", defArgs s_law_crosses, defBody s_law_crosses, defScope s_law_crosses, [], []⟩
def d_law_times : He.DefD := ⟨("_law_times", none), "_law_times", "_law_times", defArgs s_law_times, defBody s_law_times, defScope s_law_times, [], []⟩
def d_law_product : He.DefD := ⟨("_law_product", none), "_law_product", "_law_product", defArgs s_law_product, defBody s_law_product, defScope s_law_product, [], []⟩
def d_law_letters : He.DefD := ⟨("_law_letters", none), "_law_letters", "_law_letters", defArgs s_law_letters, defBody s_law_letters, defScope s_law_letters, [], []⟩
def d_law_text : He.DefD := ⟨("_law_text", none), "_law_text", "_law_text", defArgs s_law_text, defBody s_law_text, defScope s_law_text, [], []⟩
def d_law_of_text : He.DefD := ⟨("_law_of_text", none), "_law_of_text", "_law_of_text", defArgs s_law_of_text, defBody s_law_of_text, defScope s_law_of_text, [], []⟩
def d_law_gate : He.DefD := ⟨("_law_gate", none), "_law_gate", "_law_gate", defArgs s_law_gate, defBody s_law_gate, defScope s_law_gate, [], []⟩
def d_law_drawn_code : He.DefD := ⟨("_law_drawn_code", none), "_law_drawn_code", "_law_drawn_code", defArgs s_law_drawn_code, defBody s_law_drawn_code, defScope s_law_drawn_code, [], []⟩
def d_law_pauli : He.DefD := ⟨("_law_pauli", none), "_law_pauli", "_law_pauli", defArgs s_law_pauli, defBody s_law_pauli, defScope s_law_pauli, [], []⟩
def d_law_code : He.DefD := ⟨("_law_code", none), "_law_code", "_law_code", defArgs s_law_code, defBody s_law_code, defScope s_law_code, [], []⟩
def d_law_some_code : He.DefD := ⟨("_law_some_code", none), "_law_some_code", "_law_some_code", defArgs s_law_some_code, defBody s_law_some_code, defScope s_law_some_code, [], []⟩
def d_law_with_more : He.DefD := ⟨("_law_with_more", none), "_law_with_more", "_law_with_more", defArgs s_law_with_more, defBody s_law_with_more, defScope s_law_with_more, [], []⟩
def d_law_spanned : He.DefD := ⟨("_law_spanned", none), "_law_spanned", "_law_spanned", defArgs s_law_spanned, defBody s_law_spanned, defScope s_law_spanned, [], []⟩
def d_law_kinds : He.DefD := ⟨("_law_kinds", none), "_law_kinds", "_law_kinds", defArgs s_law_kinds, defBody s_law_kinds, defScope s_law_kinds, [], []⟩
def d_law_halvings : He.DefD := ⟨("_law_halvings", none), "_law_halvings", "_law_halvings", defArgs s_law_halvings, defBody s_law_halvings, defScope s_law_halvings, [], []⟩
def d_law_lot_numbers : He.DefD := ⟨("_law_lot_numbers", none), "_law_lot_numbers", "_law_lot_numbers", defArgs s_law_lot_numbers, defBody s_law_lot_numbers, defScope s_law_lot_numbers, [], []⟩
def d_law_lots : He.DefD := ⟨("_law_lots", none), "_law_lots", "_law_lots", defArgs s_law_lots, defBody s_law_lots, defScope s_law_lots, [], []⟩
def d_law_told : He.DefD := ⟨("_law_told", none), "_law_told", "_law_told", defArgs s_law_told, defBody s_law_told, defScope s_law_told, [], []⟩
def d_law_is_within : He.DefD := ⟨("_law_is_within", none), "_law_is_within", "_law_is_within", defArgs s_law_is_within, defBody s_law_is_within, defScope s_law_is_within, [], []⟩
def d_law : He.DefD := ⟨("law", none), "law", "law", defArgs s_law, defBody s_law, defScope s_law, [], []⟩
def fn0 : List He.DefD := [d_number_of_bitrows, d_bits_of, d_has_lead, d_rest_by, d_put_in, d_reduced_numbers, d_bit_rank, d_kernel_bits, d_is_size, d_read_string, d_Pauli_init, d_Pauli_eq, d_ones, d_crossing, d_row_product, d_row_of, d_letters_of, d_column_of, d_reduced_rows, d_Region_init]
def fn1 : List He.DefD := [d_told_lot, d_string_of, d_group_rows, d_empty_rows, d_units_on, d_bits_on, d_region_of, d_region, d_told_string, d_first_column, d_need_commuting, d_independent_rows, d_Group_init, d_number_of_codes, d_rest_in, d_basis_of, d_added, d_cleared, d_paired, d_check_size]
def fn2 : List He.DefD := [d_Code_init, d_Code_told, d_law_pen, d_law_draw, d_law_pick, d_law_shuffled, d_law_ones, d_law_crosses, d_law_times, d_law_product, d_law_letters, d_law_text, d_law_of_text, d_law_gate, d_law_drawn_code, d_law_pauli, d_law_code, d_law_some_code, d_law_with_more, d_law_spanned]
def fn3 : List He.DefD := [d_law_kinds, d_law_halvings, d_law_lot_numbers, d_law_lots, d_law_told, d_law_is_within, d_law]
def fns : List He.DefD := fn0 ++ (fn1 ++ (fn2 ++ (fn3)))
def fa0 : List He.Fa := [.glo "number_of_bitrows", .glo "bits_of", .glo "has_lead", .glo "rest_by", .glo "put_in", .glo "reduced_numbers", .glo "bit_rank", .glo "kernel_bits", .glo "is_size", .glo "read_string", .glo "ones", .glo "crossing", .glo "row_product", .glo "row_of", .glo "letters_of", .glo "column_of", .glo "reduced_rows", .glo "told_lot", .glo "string_of", .glo "group_rows", .glo "empty_rows", .glo "units_on", .glo "bits_on", .glo "region_of", .glo "region", .glo "told_string", .glo "first_column", .glo "need_commuting", .glo "independent_rows", .glo "number_of_codes"]
def fa1 : List He.Fa := [.glo "rest_in", .glo "basis_of", .glo "added", .glo "cleared", .glo "paired", .glo "check_size", .glo "_law_pen", .glo "_law_draw", .glo "_law_pick", .glo "_law_shuffled", .glo "_law_ones", .glo "_law_crosses", .glo "_law_times", .glo "_law_product", .glo "_law_letters", .glo "_law_text", .glo "_law_of_text", .glo "_law_gate", .glo "_law_drawn_code", .glo "_law_pauli", .glo "_law_code", .glo "_law_some_code", .glo "_law_with_more", .glo "_law_spanned", .glo "_law_kinds", .glo "_law_halvings", .glo "_law_lot_numbers", .glo "_law_lots", .glo "_law_told", .glo "_law_is_within"]
def fa2 : List He.Fa := [.glo "law", .cls "Pauli", .mkr "Pauli", .glo "Pauli", .noat "Pauli" "letters", .noat "Pauli" "phase", .noat "Pauli" "size", .noat "Pauli" "weight", .cls "Region", .mkr "Region", .glo "Region", .noat "Region" "number", .noat "Region" "inside", .cls "Group", .mkr "Group", .glo "Group", .noat "Group" "size", .noat "Group" "rows", .noat "Group" "rank", .cls "Code", .mkr "Code", .glo "Code", .noat "Code" "size", .noat "Code" "group", .noat "Code" "gauge", .noat "Code" "heads", .noat "Code" "sides", .noat "Code" "inner", .noat "Code" "whole", .noat "Code" "gauged"]
def fa3 : List He.Fa := [.noat "Code" "kept", .noat "Code" "hidden", .meth "Code" "told_pairs", .meth "Pauli" "__eq__", .free "len", .free "range", .free "sorted", .free "isinstance", .free "tuple", .free "list", .free "zip", .free "enumerate", .free "any", .free "sum", .free "max", .free "min", .free "int", .free "str", .free "bool"]
def fas : List He.Fa := fa0 ++ (fa1 ++ (fa2 ++ (fa3)))
def ln0 : List PySem.Str := ["_wall", "number_of", "number_of_bitrows", "bits_of", "has_lead", "rest_by", "put_in", "reduced_numbers", "bit_rank", "kernel_bits", "KeptError", "BadText", "BadNumber", "BadLot", "Unlike", "Anticommute", "MinusOne", "BadGauge", "BadHidden", "HEADS", "ROUND", "is_size", "read_string", "Pauli", "need_equal_size", "letter_product", "ones", "crossing", "row_product", "row_of"]
def ln1 : List PySem.Str := ["letters_of", "column_of", "reduced_rows", "Region", "told_lot", "string_of", "group_rows", "empty_rows", "units_on", "bits_on", "region_of", "region", "told_string", "first_column", "need_commuting", "independent_rows", "Group", "number_of_codes", "rest_in", "basis_of", "added", "commuting_rows", "cleared", "paired", "check_size", "Code", "_law_pen", "_law_draw", "_law_pick", "_law_shuffled"]
def ln2 : List PySem.Str := ["_law_ones", "_law_crosses", "_law_times", "_law_product", "_law_letters", "_law_text", "_law_of_text", "_law_gate", "_law_drawn_code", "_law_pauli", "_law_code", "_law_some_code", "_law_with_more", "_law_spanned", "_law_kinds", "_law_halvings", "_law_lot_numbers", "_law_lots", "_law_told", "_law_is_within"]
def loose : List PySem.Str := ln0 ++ (ln1 ++ (ln2))
def lawAt : Nat := 89
/-- what isinstance asks of the classes -/
def clB (K : PySem.W.Frag) (x : Str) : Bool := He.eqO (PySem.W.findIn K (.ref (He.ga K x)) "__class__") (some (some (.builtin "object.__class__"))) && (He.eqO (PySem.W.specialIn K (.builtin "object.__class__") "__get__") (some (some (.builtin "getset_descriptor.__get__"))) &&
  (decide (PySem.W.takesIn K (.builtin "object.__class__") = some true) && decide (PySem.W.mroIn K (He.ga K x) (.type "object") = some true)))
def exB (K : PySem.W.Frag) : Bool := (["Pauli", "Region", "Group", "Code"] : List Str).all fun x => clB K x
theorem exB_ok {K : PySem.W.Frag} (h : exB K = true) {x : Str} (hx : x ∈ (["Pauli", "Region", "Group", "Code"] : List Str)) : IsC K (He.ga K x) := by
  have h1 := List.all_eq_true.mp h x hx
  unfold clB at h1
  obtain ⟨h2, h3⟩ := He.ba h1
  obtain ⟨h4, h5⟩ := He.ba h3
  obtain ⟨h6, h7⟩ := He.ba h5
  exact ⟨He.eqO_ok h2, He.eqO_ok h4, of_decide_eq_true h6, of_decide_eq_true h7⟩
abbrev Rw : PySem.W.OpenRow := PySem.W.OpenLaw.row PySem.Challenge.rw_keptqubits_k19_whole_regions
/-- what an object names of the program's own: a def's code and defaults, a class's dict, a dict's values -/
def refsK (o : Obj) : List Addr := match o.data with
  | .seq its _ => its.toList.flatMap He.refV
  | .dict es _ => es.toList.flatMap fun e => He.refV e.val
  | .func fd => He.refV fd.code ++ He.refV fd.defaults
  | .cls cd => [cd.ns]
  | _ => []
def kidsK (g : Addr → Option Obj) (as : List Addr) : List Addr := as.flatMap fun a => match g a with
  | some o => refsK o
  | none => []
def asK (g : Addr → Option Obj) : Nat → List Addr → List Addr
  | 0, as => as
  | n + 1, as => as ++ asK g n (kidsK g as)
def partK (g : Addr → Option Obj) : PySem.W.Frag := He.frG g (asK g 4 [mainGlobals])
abbrev AlK : Type := He.AlD × Bool
def obsK (g : Addr → Option Obj) : AlK := (He.obsD fas fns (partK g), exB (partK g))
def headHk : PySem.W.Hook where
  α := AlK
  obs := fun s => obsK s.heap.get?
  val := fun _ => (He.valD fns, true)
  says := fun _ h => ∃ K : PySem.W.Frag, K.In h ∧ He.SaysD fas fns K ∧ exB K = true
  of := fun _ _ e => ⟨_, He.frG_in, congrArg (fun z : AlK => z.1) e, congrArg (fun z : AlK => z.2) e⟩
  keeps := fun _ _ _ ⟨K, hK, c⟩ k => ⟨K, PySem.W.Frag.In.keeps hK k, c⟩
def headOb (s : PySem.W.SharedT) : AlK := obsK (HandSHeadRun.getT s)
theorem headOb_eq (s : PySem.W.SharedT) : headOb s = headHk.obs s.abs := by
  have e : HandSHeadRun.getT s = s.abs.heap.get? := funext (HandSHeadRun.getT_eq s)
  show obsK (HandSHeadRun.getT s) = obsK s.abs.heap.get?
  rw [e]
theorem headRun (w : World) : HandSHeadRun.RunEq Rw (PySem.W.view Rw.prog [lawAt]) headHk headOb 20000 loose w := by
  intro os
  kernel_rfl
end Kq
/-- all of the head; left is the law's walk -/
theorem Kq.headAll (hc : PySem.W.WalkO (PySem.W.view Kq.Rw.prog [Kq.lawAt]) Kq.loose (PySem.W.XL (PySem.W.view Kq.Rw.prog [Kq.lawAt]) []) Kq.headHk.says Kq.Rw.toRowW (HandSHeadRun.topDef Kq.Rw.prog Kq.lawAt) [] fun f vs => PySem.call f vs) :
    PySem.Challenge.rw_keptqubits_k19_whole_regions.Holds := by
  w_on; o_law
  refine HandSHeadRun.head_any (r := Kq.Rw) (q := PySem.W.view Kq.Rw.prog [Kq.lawAt]) (H := Kq.headHk) (ob := Kq.headOb) (M := 20000) (loose := Kq.loose) (d := HandSHeadRun.topDef Kq.Rw.prog Kq.lawAt) (kwd := []) Kq.headOb_eq
    (by kernel_rfl) (fun s => by kernel_rfl) Kq.headRun (by kernel_rfl) (by kernel_rfl) (by kernel_rfl) (by rfl) (by first | assumption | decide +kernel) (by decide +kernel) ⟨rfl, rfl, rfl, rfl, rfl, by decide +kernel⟩ ?hw hc
  case hw => w_witness2

set_option Elab.async false
set_option linter.all false
set_option maxRecDepth 100000
set_option maxHeartbeats 4000000
/-! steps over readings, representations -/
namespace Kq
open PySem PySem.Spec PyProof.Rows L2

section steps
variable {K : PySem.W.Frag} {σ : L2.St} {H : Hp} {Q : VK} {ta tb tc te : TE} {D : Ends}
theorem s_var {i : Nat} {v : V} (h : σ[i]? = some (some v)) (q : Q v H) : tVar i σ H Q := ⟨v, h, q⟩
theorem s_c {v : V} (q : Q v H) : tC v σ H Q := q
theorem s_op {r : R2} (h : ta σ H fun x H1 => tb σ H1 fun y H2 => r x y H2 Q) : tOp r ta tb σ H Q := h
theorem s_un {r : V → Hp → VK → Prop} (h : ta σ H fun x H1 => r x H1 Q) : tUn r ta σ H Q := h
theorem s_neg {i : Int} (q : Q (.int (-i)) H) : rU (fun i => V.int (-i)) (.int i) H Q := ⟨i, rfl, q⟩
theorem s_add {a b : Nat} (q : Q (nV (a + b)) H) : rAdd (nV a) (nV b) H Q := ⟨a, b, rfl, rfl, q⟩
theorem s_sub {a b : Nat} (c : b ≤ a) (q : Q (nV (a - b)) H) : rSub (nV a) (nV b) H Q := ⟨a, b, rfl, rfl, c, q⟩
theorem s_mul {a b : Nat} (c : a < 2 ^ 64 ∨ b < 2 ^ 64) (q : Q (nV (a * b)) H) : rMul (nV a) (nV b) H Q := ⟨a, b, rfl, rfl, c, q⟩
theorem s_mod {a b : Nat} (c : 0 < b) (q : Q (nV (a % b)) H) : rMod (nV a) (nV b) H Q := ⟨a, b, rfl, rfl, c, q⟩
theorem s_div {a b : Nat} (c : 0 < b ∧ b < 1073741824) (q : Q (nV (a / b)) H) : rDiv (nV a) (nV b) H Q := ⟨a, b, rfl, rfl, c, q⟩
theorem s_shl {a b : Nat} (c : a < 2 ^ 64 ∧ b ≤ 1000000) (q : Q (nV (a <<< b)) H) : rShl (nV a) (nV b) H Q := ⟨a, b, rfl, rfl, c, q⟩
theorem s_shr {a b : Nat} (q : Q (nV (a >>> b)) H) : rShr (nV a) (nV b) H Q := ⟨a, b, rfl, rfl, q⟩
theorem s_and {a b : Nat} (q : Q (nV (a &&& b)) H) : rAnd (nV a) (nV b) H Q := ⟨a, b, rfl, rfl, q⟩
theorem s_or {a b : Nat} (q : Q (nV (a ||| b)) H) : rOr (nV a) (nV b) H Q := ⟨a, b, rfl, rfl, q⟩
theorem s_xor {a b : Nat} (q : Q (nV (a ^^^ b)) H) : rXor (nV a) (nV b) H Q := ⟨a, b, rfl, rfl, q⟩
theorem s_lt {a b : Nat} (q : Q (.bl (decide (a < b))) H) : rLt (nV a) (nV b) H Q := ⟨a, b, rfl, rfl, q⟩
theorem s_le {a b : Nat} (q : Q (.bl (decide (a ≤ b))) H) : rLe (nV a) (nV b) H Q := ⟨a, b, rfl, rfl, q⟩
theorem s_gt {a b : Nat} (q : Q (.bl (decide (b < a))) H) : rGt (nV a) (nV b) H Q := ⟨a, b, rfl, rfl, q⟩
theorem s_ge {a b : Nat} (q : Q (.bl (decide (b ≤ a))) H) : rGe (nV a) (nV b) H Q := ⟨a, b, rfl, rfl, q⟩
theorem s_eqN {a b : Nat} (q : Q (.bl (decide (a = b))) H) : rEqN (nV a) (nV b) H Q := ⟨a, b, rfl, rfl, q⟩
theorem s_neN {a b : Nat} (q : Q (.bl (!decide (a = b))) H) : rNeN (nV a) (nV b) H Q := ⟨a, b, rfl, rfl, q⟩
theorem s_eqS {a b : Str} (q : Q (.bl (decide (a = b))) H) : rEqS (.str a) (.str b) H Q := ⟨a, b, rfl, rfl, q⟩
theorem s_neS {a b : Str} (q : Q (.bl (!decide (a = b))) H) : rNeS (.str a) (.str b) H Q := ⟨a, b, rfl, rfl, q⟩
theorem s_I0 {g : Int → Int → V} {i j : Int} (q : Q (g i j) H) : rI0 g (.int i) (.int j) H Q := ⟨i, j, rfl, rfl, q⟩
theorem s_I {C : Int → Int → Prop} {g : Int → Int → V} {i j : Int} (c : C i j) (q : Q (g i j) H) : rI C g (.int i) (.int j) H Q := ⟨i, j, rfl, rfl, c, q⟩
/- statements -/
theorem s_seq {t u : TS} (h : t { D with nx := u D } σ H) : tSeq t u D σ H := h
theorem s_next (h : D.nx σ H) : tNext D σ H := h
theorem s_asg {g : TG} (h : te σ H fun x H1 => g x σ H1 D.nx) : tAsg te g D σ H := h
theorem s_name {i : Nat} {v : V} {N : L2.St → Hp → Prop} (q : N (σ.set i (some v)) H) : gName i v σ H N := q
theorem s_ret (h : te σ H D.rt) : tRet te D σ H := h
theorem s_drop (h : te σ H fun _ H1 => D.nx σ H1) : tDrop te D σ H := h
theorem s_ifS {c : TT} {t u : TS} (h : c σ H fun b H1 => if b = true then t D σ H1 else u D σ H1) : tIfS c t u D σ H := h
theorem s_test {t : TE} {R : Bool → Hp → Prop} (h : t σ H fun x H' => ∃ k, x = .bl k ∧ R k H') : tTest t σ H R := h
theorem s_B {t : TE} {R : Bool → Hp → Prop} (h : t σ H fun x H' => ∃ k, x = .bl k ∧ R k H') : tB t σ H R := h
theorem s_bl {b : Bool} {R : Bool → Prop} (h : R b) : ∃ k, V.bl b = .bl k ∧ R k := ⟨b, rfl, h⟩
theorem s_not {t : TT} {R : Bool → Hp → Prop} (h : t σ H fun c H1 => R (!c) H1) : tNot t σ H R := h
theorem s_and2 {t u : TT} {R : Bool → Hp → Prop} (h : t σ H fun c H1 => if c = true then u σ H1 R else R false H1) : tAnd t u σ H R := h
theorem s_or2 {t u : TT} {R : Bool → Hp → Prop} (h : t σ H fun c H1 => if c = true then R true H1 else u σ H1 R) : tOr t u σ H R := h
theorem s_andV (h : ta σ H fun x H1 => ∃ c, x = .bl c ∧ if c = true then tb σ H1 Q else Q (.bl false) H1) : tAndV ta tb σ H Q := h
theorem s_orV (h : ta σ H fun x H1 => ∃ c, x = .bl c ∧ if c = true then Q (.bl true) H1 else tb σ H1 Q) : tOrV ta tb σ H Q := h
theorem s_notV (h : ta σ H fun x H1 => ∃ c, x = .bl c ∧ Q (.bl (!c)) H1) : tNotV ta σ H Q := h
theorem s_ifE {t : TT} (h : t σ H fun c H1 => if c = true then ta σ H1 Q else tb σ H1 Q) : tIf t ta tb σ H Q := h
theorem s_par {i j : Nat} {t : TA} (h : t σ H fun vs H1 => ∃ v w, vs = [v, w] ∧ D.nx ((σ.set i (some v)).set j (some w)) H1) : tPar i j t D σ H := h
theorem s_two {v w : V} {R : V → V → Prop} (h : R v w) : ∃ v' w', [v, w] = [v', w'] ∧ R v' w' := ⟨v, w, rfl, h⟩
theorem s_par3 {i j l : Nat} {t : TA} (h : t σ H fun vs H1 => ∃ u v w, vs = [u, v, w] ∧ D.nx (((σ.set i (some u)).set j (some v)).set l (some w)) H1) : tPar3 i j l t D σ H := h
theorem s_three {u v w : V} {R : V → V → V → Prop} (h : R u v w) : ∃ u' v' w', [u, v, w] = [u', v', w'] ∧ R u' v' w' := ⟨u, v, w, rfl, h⟩
/- arguments, calls -/
theorem s_nil {R : List V → Hp → Prop} (h : R [] H) : tNil σ H R := h
theorem s_cons {t : TA} {R : List V → Hp → Prop} (h : ta σ H fun x H1 => t σ H1 fun xs H2 => R (x :: xs) H2) : tCons ta t σ H R := h
theorem s_call {sp : Sp} {dvs : List V} {E : XK} {t : TA} (h : t σ H fun vs H1 => sp (vs ++ dvs) H1 Q E) : tCall sp dvs E t σ H Q := h
theorem s_CB {r : List V → Hp → VK → Prop} {t : TA} (h : t σ H fun vs H1 => r vs H1 Q) : tCB r t σ H Q := h
theorem s_lst {t : TA} (h : t σ H fun xs H1 => xs.length ≤ sizeLine ∧ ∀ p, H1 p = none → Q (.ref p) (upd H1 p (.lst xs))) : tLst t σ H Q := h
theorem s_tup {t : TA} (h : t σ H fun xs H1 => xs.length ≤ sizeLine ∧ ∀ p, H1 p = none → Q (.ref p) (upd H1 p (.tup xs))) : tTup t σ H Q := h
theorem s_size {n : Nat} {R : Prop} (h : n ≤ 100000) (r : R) : n ≤ sizeLine ∧ R := ⟨Nat.le_trans h (by decide), r⟩
theorem s_fld {C : Addr} {f : Str} (h : ta σ H fun x H1 => ∃ a dx fs v, x = .ref a ∧ H1 a = some (.ins C dx fs) ∧ fs.lookup f = some v ∧ Q v H1) : tFldC C f ta σ H Q := h
theorem s_at {C dx a : Addr} {fs : List (Str × V)} {f : Str} {v : V} {R : V → Prop} (e : H a = some (.ins C dx fs)) (l : fs.lookup f = some v) (q : R v) :
    ∃ a' dx' fs' v', V.ref a = .ref a' ∧ H a' = some (.ins C dx' fs') ∧ fs'.lookup f = some v' ∧ R v' := ⟨a, dx, fs, v, rfl, e, l, q⟩
theorem s_sfld {C : Addr} {f : Str} (h : tb σ H fun y H1 => ta σ H1 fun x H2 => ∃ a dx fs, x = .ref a ∧ H2 a = some (.ins C dx fs) ∧ fs.length < 1000 ∧ D.nx σ (upd H2 a (.ins C dx (putF f y fs)))) : sFldC C f ta tb D σ H := h
theorem s_gfld {C : Addr} {f : Str} {v : V} {N : L2.St → Hp → Prop} (h : ta σ H fun x H1 => ∃ a dx fs, x = .ref a ∧ H1 a = some (.ins C dx fs) ∧ fs.length < 1000 ∧ N σ (upd H1 a (.ins C dx (putF f v fs)))) : gFldC C f ta v σ H N := h
theorem s_put {C dx a : Addr} {fs : List (Str × V)} {R : Addr → Addr → List (Str × V) → Prop} (e : H a = some (.ins C dx fs)) (l : fs.length < 1000) (q : R a dx fs) :
    ∃ a' dx' fs', V.ref a = .ref a' ∧ H a' = some (.ins C dx' fs') ∧ fs'.length < 1000 ∧ R a' dx' fs' := ⟨a, dx, fs, rfl, e, l, q⟩
/- items -/
theorem s_ixT {p : Addr} {xs : List V} {j : Nat} {v : V} (h : H p = some (.tup xs)) (e : xs[j]? = some v) (q : Q v H) : rItT (.ref p) (nV j) H Q := ⟨p, xs, j, v, rfl, rfl, h, e, q⟩
theorem s_ixL {p : Addr} {xs : List V} {j : Nat} {v : V} (h : H p = some (.lst xs)) (e : xs[j]? = some v) (q : Q v H) : rItL (.ref p) (nV j) H Q := ⟨p, xs, j, v, rfl, rfl, h, e, q⟩
theorem s_ixS {z : Str} {j : Nat} {c : Nat} (h : z.length ≤ 100000) (e : z.cps[j]? = some c) (q : Q (.str ⟨#[c]⟩) H) : rItS (.str z) (nV j) H Q := ⟨z, j, c, rfl, rfl, h, e, q⟩
theorem s_len {p : Addr} {xs : List V} (h : H p = some (.lst xs)) (q : Q (nV xs.length) H) : rLenL [.ref p] H Q := ⟨p, xs, rfl, h, q⟩
theorem s_lenT {p : Addr} {xs : List V} (h : H p = some (.tup xs)) (q : Q (nV xs.length) H) : rLenT' [.ref p] H Q := ⟨p, xs, rfl, h, q⟩
theorem s_lenS {z : Str} (h : z.length ≤ 100000) (q : Q (nV z.length) H) : rLenS [.str z] H Q := ⟨z, rfl, h, q⟩
theorem s_tupL {p : Addr} {xs : List V} (h : H p = some (.lst xs)) (q : ∀ l, H l = none → Q (.ref l) (upd H l (.tup xs))) : rTupL [.ref p] H Q := ⟨p, xs, rfl, h, q⟩
theorem s_tupT {p : Addr} {xs : List V} (h : H p = some (.tup xs)) (q : Q (.ref p) H) : rTupT [.ref p] H Q := ⟨p, xs, rfl, h, q⟩
theorem s_lstL {p : Addr} {xs : List V} (h : H p = some (.lst xs)) (q : ∀ l, H l = none → Q (.ref l) (upd H l (.lst xs))) : rLstL [.ref p] H Q := ⟨p, xs, rfl, h, q⟩
theorem s_lstT {p : Addr} {xs : List V} (h : H p = some (.tup xs)) (q : ∀ l, H l = none → Q (.ref l) (upd H l (.lst xs))) : rLstT [.ref p] H Q := ⟨p, xs, rfl, h, q⟩
theorem s_cat {l b : Addr} {xs zs : List V} (h : H l = some (.lst xs)) (h2 : H b = some (.lst zs)) (c : xs.length + zs.length ≤ 100000) (q : ∀ p, H p = none → Q (.ref p) (upd H p (.lst (xs ++ zs)))) : rCat (.ref l) (.ref b) H Q := ⟨l, b, xs, zs, rfl, rfl, h, h2, Nat.le_trans c (by decide), q⟩
theorem s_sum {p : Addr} {ns : List Nat} (h : H p = some (.lst (ns.map nV))) (q : Q (nV ns.sum) H) : rSumN [.ref p] H Q := ⟨p, ns, rfl, h, q⟩
theorem s_max {p : Addr} {ns : List Nat} (h : H p = some (.lst (ns.map nV))) (l : 0 < ns.length) (q : ∀ m, m ∈ ns → (∀ y ∈ ns, y ≤ m) → Q (nV m) H) : rMaxN [.ref p] H Q := ⟨p, ns, rfl, h, l, q⟩
theorem s_anyB {p : Addr} {bs : List Bool} (h : H p = some (.lst (bs.map V.bl))) (q : Q (.bl (bs.any id)) H) : rAnyB [.ref p] H Q := ⟨p, bs, rfl, h, q⟩
theorem s_anyN {p : Addr} {ns : List Nat} (h : H p = some (.lst (ns.map nV))) (q : Q (.bl (ns.any fun n => decide (n ≠ 0))) H) : rAnyI [.ref p] H Q := ⟨p, ns, rfl, h, q⟩
theorem s_min {a b : Nat} (q : Q (nV (min a b)) H) : rMin2 [nV a, nV b] H Q := ⟨a, b, rfl, q⟩
theorem s_intN {n : Nat} (q : Q (nV n) H) : rIntN [nV n] H Q := ⟨n, rfl, q⟩
theorem s_intI {n : Int} (q : Q (.int n) H) : rIntI [.int n] H Q := ⟨n, rfl, q⟩
theorem s_intB {b : Bool} (q : Q (nV b.toNat) H) : rIntB [.bl b] H Q := ⟨b, rfl, q⟩
theorem s_sign {neg : Bool} {c : Nat} {z : Str} (q : Q (.bl (neg ^^ decide (c ∈ z.cps.toList))) H) : rSign neg (.str ⟨#[c]⟩) (.str z) H Q := ⟨c, z, rfl, rfl, q⟩
theorem s_tBL {r : V → List V → Hp → VK → Prop} {t : TA} (h : ta σ H fun x H1 => ∃ p xs, x = .ref p ∧ H1 p = some (.lst xs) ∧ t σ H1 fun vs H2 => r x vs H2 Q) : tBL r ta t σ H Q := h
theorem s_own {p : Addr} {xs : List V} {R : Prop} (h : H p = some (.lst xs)) (q : R) : ∃ p' xs', V.ref p = .ref p' ∧ H p' = some (.lst xs') ∧ R := ⟨p, xs, rfl, h, q⟩
theorem s_append {l : Addr} {xs : List V} {y : V} (h : H l = some (.lst xs)) (c : xs.length < 100000) (q : Q .non (upd H l (.lst (xs ++ [y])))) : rAppend (.ref l) [y] H Q := ⟨l, xs, y, rfl, rfl, h, Nat.lt_of_lt_of_le c (by decide), q⟩
theorem s_extend {l b : Addr} {xs zs : List V} (h : H l = some (.lst xs)) (h2 : H b = some (.lst zs)) (c : xs.length + zs.length ≤ 100000) (q : Q .non (upd H l (.lst (xs ++ zs)))) : rExtend (.ref l) [.ref b] H Q := ⟨l, b, xs, zs, rfl, rfl, h, h2, Nat.le_trans c (by decide), q⟩
theorem s_popAt {l : Addr} {xs : List V} {k : Nat} {y : V} (h : H l = some (.lst xs)) (e : xs[k]? = some y) (c : xs.length < 100000) (q : Q y (upd H l (.lst (xs.eraseIdx k)))) : rPopAt (.ref l) [nV k] H Q := by
  have hk := (List.getElem?_eq_some_iff.mp e).1
  exact ⟨l, xs, (k : Int), k, y, rfl, rfl, h, by omega, by omega, (ixN_seq (by unfold ixN; rw [if_pos (by omega), if_pos (by omega), Int.toNat_natCast])).1, e, q⟩
theorem s_bits (h : ta σ H fun x H1 => ∃ i, x = .int i ∧ Q (.int (Builtin.Int.intBits i : Nat)) H1) : tBits ta σ H Q := h
theorem s_bitsV {n : Nat} {R : Int → Prop} (q : R (n : Int)) : ∃ i, nV n = .int i ∧ R i := ⟨_, rfl, q⟩
theorem s_tTru {R : Bool → Hp → Prop} (h : ta σ H fun x H' => ∃ n : Nat, x = nV n ∧ R (decide (n ≠ 0)) H') : tTru ta σ H R := h
theorem s_tru {n : Nat} {R : Nat → Prop} (q : R n) : ∃ m : Nat, nV n = nV m ∧ R m := ⟨n, rfl, q⟩
theorem s_gtup {n : Nat} {t : TGs} {p : Addr} {xs : List V} {N : L2.St → Hp → Prop} (h : H p = some (.tup xs)) (l : xs.length = n) (q : t xs σ H N) : gTp n t (.ref p) σ H N := ⟨p, xs, rfl, h, l, q⟩
theorem s_glst {n : Nat} {t : TGs} {p : Addr} {xs : List V} {N : L2.St → Hp → Prop} (h : H p = some (.lst xs)) (l : xs.length = n) (q : t xs σ H N) : gLs n t (.ref p) σ H N := ⟨p, xs, rfl, h, l, q⟩
theorem s_gcons {t : TG} {u : TGs} {v : V} {r : List V} {N : L2.St → Hp → Prop} (q : t v σ H fun σ' H' => u r σ' H' N) : gCons t u (v :: r) σ H N := ⟨v, r, rfl, q⟩
theorem s_gnil {N : L2.St → Hp → Prop} (q : N σ H) : gNil [] σ H N := ⟨rfl, q⟩
theorem s_if {b : Bool} {A B : Prop} (h1 : b = true → A) (h2 : b = false → B) : if b = true then A else B := by
  cases b
  · rw [if_neg Bool.false_ne_true]; exact h2 rfl
  · rw [if_pos rfl]; exact h1 rfl
theorem s_ifT {b : Bool} {A B : Prop} (h : b = true) (a : A) : if b = true then A else B := by rw [if_pos h]; exact a
theorem s_ifF {b : Bool} {A B : Prop} (h : b = false) (a : B) : if b = true then A else B := by rw [h]; exact iteF a
end steps

/-! ### heaps -/
/-- an instance with its last field -/
def done (fs : List (Str × V)) : Bool := (List.lookup (Str.ofString "weight") fs).isSome || (List.lookup (Str.ofString "rank") fs).isSome || (List.lookup (Str.ofString "hidden") fs).isSome || (List.lookup (Str.ofString "inside") fs).isSome
/-- all but lists, dicts and instances that are not yet whole -/
def solid : HO → Prop
  | .tup _ => True
  | .ins _ _ fs => done fs = true
  | .own _ => True
  | _ => False
def Sol (H H' : Hp) : Prop := ∀ b o, H b = some o → solid o → H' b = some o
theorem Sol.of {H H' : Hp} (s : Same H H') : Sol H H' := fun b o h _ => s b o h
theorem Sol.refl (H : Hp) : Sol H H := fun _ _ h _ => h
theorem Sol.trans {H H1 H2 : Hp} (a : Sol H H1) (b : Sol H1 H2) : Sol H H2 := fun c o h s => b c o (a c o h s) s
theorem Sol.updL {H : Hp} {p : Addr} {xs : List V} {o : HO} (h : H p = some (.lst xs)) : Sol H (upd H p o) := fun b u e s => by
  have n : b ≠ p := fun z => by subst z; rw [h] at e; cases e; exact s
  rw [upd_ne n]; exact e
theorem same_new {H : Hp} {p : Addr} {o : HO} (h : H p = none) : Same H (upd H p o) := fun b u e => by
  rw [upd_ne (ne_of_none e h)]; exact e
/-- a list that came later may change -/
theorem same_mut {H H' : Hp} {p : Addr} {o : HO} (s : Same H H') (h : H p = none) : Same H (upd H' p o) := fun b u e => by
  rw [upd_ne (ne_of_none e h)]; exact s b u e

/-- an object, read through extensions -/
abbrev Rp (α : Type) := Hp → V → α → Prop
def MonoS {α : Type} (R : Rp α) : Prop := ∀ H H' v a, Sol H H' → R H v a → R H' v a
def isN : Rp Nat := fun _ v n => v = nV n
def isB : Rp Bool := fun _ v b => v = .bl b
def isS : Rp Str := fun _ v s => v = .str s
theorem monoN : MonoS isN := fun _ _ _ _ _ h => h
theorem monoB : MonoS isB := fun _ _ _ _ _ h => h
theorem monoS : MonoS isS := fun _ _ _ _ _ h => h
/-- a row: x bits, z bits, sign -/
structure Row where
  x : Nat
  z : Nat
  s : Nat
deriving DecidableEq
def Row.vs (r : Row) : List V := [nV r.x, nV r.z, nV r.s]
def isRow : Rp Row := fun H v r => ∃ p, v = .ref p ∧ H p = some (.tup r.vs)
theorem monoRow : MonoS isRow := fun _ _ _ _ s ⟨p, e, h⟩ => ⟨p, e, s p _ h trivial⟩
/-- a tuple of ints -/
def isBits : Rp (List Nat) := fun H v l => ∃ p, v = .ref p ∧ H p = some (.tup (l.map nV))
theorem monoBits : MonoS isBits := fun _ _ _ _ s ⟨p, e, h⟩ => ⟨p, e, s p _ h trivial⟩
/-- a pair of two things -/
def isPr {α β : Type} (A : Rp α) (B : Rp β) : Rp (α × β) := fun H v c => ∃ p a b, v = .ref p ∧ H p = some (.tup [a, b]) ∧ A H a c.1 ∧ B H b c.2
theorem monoPr {α β : Type} {A : Rp α} {B : Rp β} (ma : MonoS A) (mb : MonoS B) : MonoS (isPr A B) := fun _ _ _ _ s ⟨p, a, b, e, h, h1, h2⟩ => ⟨p, a, b, e, s p _ h trivial, ma _ _ _ _ s h1, mb _ _ _ _ s h2⟩
/-- the items of a list as they are told -/
abbrev Itm {α : Type} (R : Rp α) (H : Hp) (vs : List V) (l : List α) : Prop := Paired (R H) vs l
theorem Itm.mono {α : Type} {R : Rp α} (m : MonoS R) {H H' : Hp} (s : Sol H H') {vs : List V} {l : List α} (h : Itm R H vs l) : Itm R H' vs l := Paired.mapP h fun a b z => m _ _ _ _ s z
theorem Itm.get {α : Type} {R : Rp α} {H : Hp} : ∀ {vs : List V} {l : List α} {i : Nat} {v : V}, Itm R H vs l → vs[i]? = some v → ∃ a, l[i]? = some a ∧ R H v a
  | _, _, _, _, .nil, e => by simp at e
  | _, _, 0, _, .cons r _, e => by simp at e; subst e; exact ⟨_, rfl, r⟩
  | _, _, i + 1, v, .cons _ t, e => by
    obtain ⟨a, h1, h2⟩ := Itm.get (i := i) (v := v) t (by simpa using e)
    exact ⟨a, by simpa using h1, h2⟩
theorem Itm.get' {α : Type} {R : Rp α} {H : Hp} : ∀ {vs : List V} {l : List α} {i : Nat} {a : α}, Itm R H vs l → l[i]? = some a → ∃ v, vs[i]? = some v ∧ R H v a
  | _, _, _, _, .nil, e => by simp at e
  | _, _, 0, _, .cons r _, e => by simp at e; subst e; exact ⟨_, rfl, r⟩
  | _, _, i + 1, v, .cons _ t, e => by
    obtain ⟨a, h1, h2⟩ := Itm.get' (i := i) (a := v) t (by simpa using e)
    exact ⟨a, by simpa using h1, h2⟩
theorem Itm.len {α : Type} {R : Rp α} {H : Hp} {vs : List V} {l : List α} (h : Itm R H vs l) : vs.length = l.length := Paired.length h
theorem Itm.app {α : Type} {R : Rp α} {H : Hp} : ∀ {vs ws : List V} {l m : List α}, Itm R H vs l → Itm R H ws m → Itm R H (vs ++ ws) (l ++ m)
  | _, _, _, _, .nil, s => s
  | _, _, _, _, .cons r t, s => .cons r (Itm.app t s)
theorem Itm.one {α : Type} {R : Rp α} {H : Hp} {v : V} {a : α} (h : R H v a) : Itm R H [v] [a] := .cons h .nil
theorem its_nV {H : Hp} : ∀ l : List Nat, Itm isN H (l.map nV) l
  | [] => .nil
  | _ :: l => .cons rfl (its_nV l)
theorem Itm.eqN {H : Hp} : ∀ {vs : List V} {l : List Nat}, Itm isN H vs l → vs = l.map nV
  | _, _, .nil => rfl
  | _, _, .cons r t => by
    have e1 := Itm.eqN t
    have e2 : _ = nV _ := r
    rw [e1, e2, List.map_cons]
theorem its_bl {H : Hp} {vs : List V} {l : List Bool} (h : Itm isB H vs l) : vs = l.map V.bl := by
  induction h with
  | nil => rfl
  | cons r t ih =>
    have e2 : _ = V.bl _ := r
    rw [ih, e2, List.map_cons]
theorem its_str {H : Hp} {vs : List V} {l : List Str} (h : Itm isS H vs l) : vs = l.map V.str := by
  induction h with
  | nil => rfl
  | cons r t ih =>
    have e2 : _ = V.str _ := r
    rw [ih, e2, List.map_cons]
theorem Itm.take {α : Type} {R : Rp α} {H : Hp} : ∀ {vs : List V} {l : List α} (n : Nat), Itm R H vs l → Itm R H (vs.take n) (l.take n)
  | _, _, 0, _ => by simp; exact .nil
  | _, _, _ + 1, .nil => .nil
  | _, _, n + 1, .cons r t => .cons r (Itm.take n t)
theorem Itm.drop {α : Type} {R : Rp α} {H : Hp} : ∀ {vs : List V} {l : List α} (n : Nat), Itm R H vs l → Itm R H (vs.drop n) (l.drop n)
  | _, _, 0, h => h
  | _, _, _ + 1, .nil => .nil
  | _, _, n + 1, .cons _ t => Itm.drop n t
theorem Itm.set {α : Type} {R : Rp α} {H : Hp} {v : V} {a : α} (r : R H v a) : ∀ {vs : List V} {l : List α} (n : Nat), Itm R H vs l → Itm R H (vs.set n v) (l.set n a)
  | _, _, _, .nil => .nil
  | _, _, 0, .cons _ t => .cons r t
  | _, _, n + 1, .cons q t => .cons q (Itm.set r n t)
/-- a list, a tuple -/
def isL {α : Type} (R : Rp α) : Rp (List α) := fun H v l => ∃ p vs, v = .ref p ∧ H p = some (.lst vs) ∧ Itm R H vs l
def isT {α : Type} (R : Rp α) : Rp (List α) := fun H v l => ∃ p vs, v = .ref p ∧ H p = some (.tup vs) ∧ Itm R H vs l
theorem isL.same {α : Type} {R : Rp α} (m : MonoS R) {H H' : Hp} {v : V} {l : List α} (s : Same H H') (h : isL R H v l) : isL R H' v l :=
  let ⟨p, vs, e, h1, h2⟩ := h; ⟨p, vs, e, s _ _ h1, h2.mono m (Sol.of s)⟩
theorem monoT {α : Type} {R : Rp α} (m : MonoS R) : MonoS (isT R) := fun _ _ _ _ s ⟨p, vs, e, h1, h2⟩ => ⟨p, vs, e, s _ _ h1 trivial, h2.mono m s⟩
theorem isT.nat {H : Hp} {v : V} {l : List Nat} (h : isT isN H v l) : isBits H v l := by
  obtain ⟨p, vs, e, h1, h2⟩ := h
  exact ⟨p, e, by rw [h1, h2.eqN]⟩
theorem isBits.t {H : Hp} {v : V} {l : List Nat} (h : isBits H v l) : isT isN H v l := by
  obtain ⟨p, e, h1⟩ := h
  exact ⟨p, _, e, h1, its_nV l⟩

/-! ### comprehensions: the new list's items by a function of the source's -/
section lc
variable {δ β : Type}
theorem lcF {J : It} {n : Nat} {G : Hp → Prop} {Y : Nat → Hp → V → Hp → Prop} (w : L2.Walk J n G Y) {g : TG} {tt : TT} {te : TE} {ws : List Nat} {σ : L2.St} {H1 : Hp} {R : Addr → Hp → Prop} (ds : List δ) (f : δ → β) (p : δ → Bool) (rb : Rp β) (m : MonoS rb)
    (hn : ds.length = n) (hz : n ≤ 100000) (hG : ∀ H', Same H1 H' → G H') (hY : ∀ i H x H', Y i H x H' → Same H H')
    (hs : ∀ i d x H H', ds[i]? = some d → Same H1 H → Y i H x H' → ∀ (Qc : V → Hp → Prop) (Qn : Hp → Prop), (∀ y H4, p d = true → Same H' H4 → rb H4 y (f d) → Qc y H4) → (∀ H3, p d = false → Same H' H3 → Qn H3) →
      g x (wipe σ ws) H' fun σ2 H2 => wipe σ2 ws = wipe σ ws ∧ tt σ2 H2 fun b H3 => if b = true then te σ2 H3 fun y H4 => Qc y H4 else Qn H3)
    (hd : ∀ D vs H, H1 D = none → Same H1 H → H D = some (.lst vs) → Itm rb H vs ((ds.filter p).map f) → R D H) :
    ∀ D, H1 D = none → ∃ W : Nat → Nat → Hp → Prop, (∃ m, W 0 m (upd H1 D (.lst []))) ∧ ∀ i m H, W i m H →
      (J.stop i H ∧ R D H) ∨ (J.go i H ∧ ∃ Nx : Hp → Prop, (∀ H', Nx H' → ∃ m', m' < m ∧ W (i + 1) m' H') ∧ ∀ x H', J.yld i H x H' → g x (wipe σ ws) H' fun σ2 H2 => wipe σ2 ws = wipe σ ws ∧ tt σ2 H2 fun b H3 =>
        if b = true then te σ2 H3 fun y H4 => ∃ acc, H4 D = some (.lst acc) ∧ acc.length < sizeLine ∧ Nx (upd H4 D (.lst (acc ++ [y]))) else Nx H3) := by
  intro D hD
  refine lc_it w (Qd := fun H => R D H) (fun i H => Same H1 H ∧ ∃ acc, H D = some (.lst acc) ∧ Itm rb H acc (((ds.take i).filter p).map f))
    ⟨same_new hD, [], upd_same, by simp; exact .nil⟩ (fun i H _ h => hG H h.1) ?_ ?_
  · rintro i x H H' hi ⟨s, acc, hacc, ha⟩ y
    have sy := hY i H x H' y
    obtain ⟨d, ed⟩ : ∃ d, ds[i]? = some d := ⟨ds[i]'(by omega), by simp [hn ▸ hi]⟩
    have tk : ds.take (i + 1) = ds.take i ++ [d] := by
      rw [List.take_add_one, ed]; rfl
    refine hs i d x H H' ed s y _ _ ?_ ?_
    · intro z H4 hp s4 r4
      have hD4 : H4 D = some (.lst acc) := s4 _ _ (sy _ _ hacc)
      have hl := ha.len
      have hl2 : (((ds.take i).filter p).map f).length ≤ i := by
        rw [List.length_map]
        refine Nat.le_trans (List.length_filter_le ..) ?_
        rw [List.length_take]; omega
      refine ⟨acc, hD4, Nat.lt_of_lt_of_le (show acc.length < 100000 by omega) (by decide), same_mut (fun b o e => s4 _ _ (sy _ _ (s _ _ e))) hD, _, upd_same, ?_⟩
      have so : Sol H4 (upd H4 D (.lst (acc ++ [z]))) := Sol.updL hD4
      rw [tk, List.filter_append, List.map_append, List.filter_cons, List.filter_nil, if_pos hp]
      exact Itm.app (Itm.mono m ((Sol.of (Same.trans sy s4)).trans so) ha) (Itm.one (m _ _ _ _ so r4))
    · intro H3 hp s3
      refine ⟨fun b o e => s3 _ _ (sy _ _ (s _ _ e)), acc, s3 _ _ (sy _ _ hacc), ?_⟩
      rw [tk, List.filter_append, List.filter_cons, List.filter_nil, hp, if_neg Bool.false_ne_true, List.append_nil]
      exact Itm.mono m (Sol.of (Same.trans sy s3)) ha
  · rintro H ⟨s, acc, hacc, ha⟩
    rw [← hn, List.take_length] at ha
    exact hd D acc H hD s hacc ha
theorem filter_all {α : Type} (l : List α) : l.filter (fun _ => true) = l := List.filter_eq_self.mpr fun _ _ => rfl
theorem lcM {J : It} {n : Nat} {G : Hp → Prop} {Y : Nat → Hp → V → Hp → Prop} (w : L2.Walk J n G Y) {g : TG} {te : TE} {ws : List Nat} {σ : L2.St} {H1 : Hp} {R : Addr → Hp → Prop} (ds : List δ) (f : δ → β) (rb : Rp β) (m : MonoS rb)
    (hn : ds.length = n) (hz : n ≤ 100000) (hG : ∀ H', Same H1 H' → G H') (hY : ∀ i H x H', Y i H x H' → Same H H')
    (hs : ∀ i d x H H', ds[i]? = some d → Same H1 H → Y i H x H' → ∀ Qc : V → Hp → Prop, (∀ y H4, Same H' H4 → rb H4 y (f d) → Qc y H4) →
      g x (wipe σ ws) H' fun σ2 H2 => wipe σ2 ws = wipe σ ws ∧ te σ2 H2 fun y H4 => Qc y H4)
    (hd : ∀ D vs H, H1 D = none → Same H1 H → H D = some (.lst vs) → Itm rb H vs (ds.map f) → R D H) :
    ∀ D, H1 D = none → ∃ W : Nat → Nat → Hp → Prop, (∃ m, W 0 m (upd H1 D (.lst []))) ∧ ∀ i m H, W i m H →
      (J.stop i H ∧ R D H) ∨ (J.go i H ∧ ∃ Nx : Hp → Prop, (∀ H', Nx H' → ∃ m', m' < m ∧ W (i + 1) m' H') ∧ ∀ x H', J.yld i H x H' → g x (wipe σ ws) H' fun σ2 H2 => wipe σ2 ws = wipe σ ws ∧ tYes σ2 H2 fun b H3 =>
        if b = true then te σ2 H3 fun y H4 => ∃ acc, H4 D = some (.lst acc) ∧ acc.length < sizeLine ∧ Nx (upd H4 D (.lst (acc ++ [y]))) else Nx H3) := by
  refine lcF w (tt := tYes) ds f (fun _ => true) rb m hn hz hG hY (fun i d x H H' ed s y Qc Qn qc qn => ?_) (fun D vs H a b c d => hd D vs H a b c (by rw [filter_all] at d; exact d))
  exact hs i d x H H' ed s y Qc fun y H4 s4 r4 => qc y H4 rfl s4 r4
theorem yat_same {xs : List V} {i : Nat} {H : Hp} {x : V} {H' : Hp} (y : YAt xs i H x H') : Same H H' := by rw [y.1]; exact Same.refl H
theorem yfn_same {f : Nat → V} {i : Nat} {H : Hp} {x : V} {H' : Hp} (y : YFn f i H x H') : Same H H' := by rw [y.1]; exact Same.refl H
theorem ypair_same {f g : Nat → Option V} {i : Nat} {H : Hp} {x : V} {H' : Hp} (y : YPair f g i H x H') : Same H H' := by
  obtain ⟨T, a, b, _, h, e, _⟩ := y; rw [e]; exact same_new h
end lc

/-! ### for loops -/
section loops
variable {K : PySem.W.Frag} {σ : L2.St} {H : Hp} {D : Ends}
theorem s_for {wi : TI} {g : TG} {tb : TS} (h : wi σ H fun J H1 => ∃ W : Nat → Nat → L2.St → Hp → Prop, (∃ m, W 0 m σ H1) ∧ ∀ i m σ H, W i m σ H →
  (J.stop i H ∧ D.nx σ H) ∨ (J.go i H ∧ ∃ N : L2.St → Hp → Prop, (∀ σ' H', N σ' H' → ∃ m', m' < m ∧ W (i + 1) m' σ' H') ∧ ∀ x H', J.yld i H x H' → g x σ H' fun σ2 H2 => tb { D with nx := N, ct := N, bk := D.nx } σ2 H2)) : tFor wi g tb D σ H := h
theorem s_lc {wi : TI} {g : TG} {tt : TT} {te : TE} {ws : List Nat} {Q : VK} (h : wi σ H fun J H1 => ∀ D, H1 D = none → ∃ W : Nat → Nat → Hp → Prop, (∃ m, W 0 m (upd H1 D (.lst []))) ∧ ∀ i m H, W i m H →
  (J.stop i H ∧ Q (.ref D) H) ∨ (J.go i H ∧ ∃ Nx : Hp → Prop, (∀ H', Nx H' → ∃ m', m' < m ∧ W (i + 1) m' H') ∧ ∀ x H', J.yld i H x H' → g x (wipe σ ws) H' fun σ2 H2 => wipe σ2 ws = wipe σ ws ∧ tt σ2 H2 fun b H3 =>
    if b = true then te σ2 H3 fun y H4 => ∃ acc, H4 D = some (.lst acc) ∧ acc.length < sizeLine ∧ Nx (upd H4 D (.lst (acc ++ [y]))) else Nx H3)) : tLc wi g tt te ws σ H Q := h
theorem s_yes {R : Bool → Hp → Prop} (h : R true H) : tYes σ H R := h
theorem s_iTup {tl : TE} {R : It → Hp → Prop} (h : tl σ H fun x H1 => ∃ a, x = .ref a ∧ (∃ xs, SqT K H1 a xs) ∧ R (Itt K a) H1) : iTup K tl σ H R := h
theorem s_iList {tl : TE} {R : It → Hp → Prop} (h : tl σ H fun x H1 => ∃ a, x = .ref a ∧ (∃ xs, SqL K H1 a xs) ∧ R (Itl K a) H1) : iList K tl σ H R := h
theorem s_iStr {tl : TE} {R : It → Hp → Prop} (h : tl σ H fun v H1 => ∃ x, v = .str x ∧ R (L2.Its x) H1) : iStr tl σ H R := h
theorem s_iRng1 {ta : TA} {R : It → Hp → Prop} (h : ta σ H fun vs H1 => ∃ j : Int, vs = [.int j] ∧ -(2 ^ 62) ≤ j ∧ j < 2 ^ 62 ∧ R (Itr 0 j.toNat) H1) : iRng1 ta σ H R := h
theorem s_iRng2 {ta : TA} {R : It → Hp → Prop} (h : ta σ H fun vs H1 => ∃ i j : Int, vs = [.int i, .int j] ∧ (-(2 ^ 62) ≤ i ∧ i < 2 ^ 62 ∧ -(2 ^ 62) ≤ j ∧ j < 2 ^ 62) ∧ R (Itr i (j - i).toNat) H1) : iRng2 ta σ H R := h
theorem s_iEnum {ta : TA} {R : It → Hp → Prop} (h : ta σ H fun vs H1 => ∃ a xs, vs = [.ref a] ∧ SqL K H1 a xs ∧ R (Ite K a) H1) : iEnum K ta σ H R := h
theorem s_iEnumT {ta : TA} {R : It → Hp → Prop} (h : ta σ H fun vs H1 => ∃ a xs, vs = [.ref a] ∧ SqT K H1 a xs ∧ R (ItET K a) H1) : iEnumT K ta σ H R := h
theorem s_iEnumS {ta : TA} {R : It → Hp → Prop} (h : ta σ H fun vs H1 => ∃ x : Str, vs = [.str x] ∧ R (ItES x) H1) : iEnumS ta σ H R := h
theorem s_iZip {ta : TA} {R : It → Hp → Prop} (h : ta σ H fun vs H1 => ∃ a b xs ys, vs = [.ref a, .ref b] ∧ SqL K H1 a xs ∧ SqL K H1 b ys ∧ R (Itz K a b) H1) : iZip K ta σ H R := h
theorem s_iZipM {ta : TA} {R : It → Hp → Prop} (h : ta σ H fun vs H1 => ∃ a b xs ys, vs = [.ref a, .ref b] ∧ SqT K H1 a xs ∧ SqL K H1 b ys ∧ R (ItZ K a b) H1) : iZipM K ta σ H R := h
theorem s_srcT {a : Addr} {xs : List V} {R : Addr → Prop} (h : H a = some (.tup xs)) (q : R a) : ∃ a', V.ref a = .ref a' ∧ (∃ xs, SqT K H a' xs) ∧ R a' := ⟨a, rfl, ⟨xs, SqT.of h⟩, q⟩
theorem s_srcL {a : Addr} {xs : List V} {R : Addr → Prop} (h : H a = some (.lst xs)) (q : R a) : ∃ a', V.ref a = .ref a' ∧ (∃ xs, SqL K H a' xs) ∧ R a' := ⟨a, rfl, ⟨xs, SqL.of h⟩, q⟩
theorem s_srcS {x : Str} {R : Str → Prop} (q : R x) : ∃ x', V.str x = .str x' ∧ R x' := ⟨x, rfl, q⟩
theorem s_rng1 {n : Nat} {R : Int → Prop} (h : n ≤ 100000) (q : R (n : Int)) : ∃ j : Int, [nV n] = [.int j] ∧ -(2 ^ 62) ≤ j ∧ j < 2 ^ 62 ∧ R j := ⟨(n : Int), rfl, by omega, by omega, q⟩
theorem s_rng2 {a b : Nat} {R : Int → Int → Prop} (h : a ≤ 100000 ∧ b ≤ 100000) (q : R (a : Int) (b : Int)) : ∃ i j : Int, [nV a, nV b] = [.int i, .int j] ∧ (-(2 ^ 62) ≤ i ∧ i < 2 ^ 62 ∧ -(2 ^ 62) ≤ j ∧ j < 2 ^ 62) ∧ R i j :=
  ⟨(a : Int), (b : Int), rfl, by omega, q⟩
theorem s_srcE {a : Addr} {xs : List V} {R : Addr → List V → Prop} (h : H a = some (.lst xs)) (q : R a xs) : ∃ a' xs', [V.ref a] = [.ref a'] ∧ SqL K H a' xs' ∧ R a' xs' := ⟨a, xs, rfl, SqL.of h, q⟩
theorem s_srcET {a : Addr} {xs : List V} {R : Addr → List V → Prop} (h : H a = some (.tup xs)) (q : R a xs) : ∃ a' xs', [V.ref a] = [.ref a'] ∧ SqT K H a' xs' ∧ R a' xs' := ⟨a, xs, rfl, SqT.of h, q⟩
theorem s_srcES {x : Str} {R : Str → Prop} (q : R x) : ∃ x' : Str, [V.str x] = [.str x'] ∧ R x' := ⟨x, rfl, q⟩
theorem s_srcZ {a b : Addr} {xs ys : List V} {R : Addr → Addr → List V → List V → Prop} (h : H a = some (.lst xs)) (h2 : H b = some (.lst ys)) (q : R a b xs ys) : ∃ a' b' xs' ys', [V.ref a, V.ref b] = [.ref a', .ref b'] ∧ SqL K H a' xs' ∧ SqL K H b' ys' ∧ R a' b' xs' ys' := ⟨a, b, xs, ys, rfl, SqL.of h, SqL.of h2, q⟩
theorem s_srcZM {a b : Addr} {xs ys : List V} {R : Addr → Addr → List V → List V → Prop} (h : H a = some (.tup xs)) (h2 : H b = some (.lst ys)) (q : R a b xs ys) : ∃ a' b' xs' ys', [V.ref a, V.ref b] = [.ref a', .ref b'] ∧ SqT K H a' xs' ∧ SqL K H b' ys' ∧ R a' b' xs' ys' := ⟨a, b, xs, ys, rfl, SqT.of h, SqL.of h2, q⟩
theorem walk_rg0 {n : Nat} : L2.Walk (Itr 0 n) n (fun _ => True) (YFn fun i => nV i) := walk_range.mono (fun _ h => h) fun i H x H' _ _ y => ⟨y.1, by rw [y.2]; show V.int (0 + (i : Int)) = V.int (i : Int); rw [Int.zero_add]⟩
theorem walk_rgN {a b : Nat} : L2.Walk (Itr (a : Int) ((b : Int) - (a : Int)).toNat) (b - a) (fun _ => True) (YFn fun i => nV (a + i)) := by
  rw [show ((b : Int) - (a : Int)).toNat = b - a by omega]
  exact walk_range.mono (fun _ h => h) fun i H x H' _ _ y => ⟨y.1, by rw [y.2]; show V.int ((a : Int) + (i : Int)) = V.int ((a + i : Nat) : Int); rw [Int.natCast_add]⟩
/-- a loop as a fold over what its source tells -/
theorem forW {J : It} {n : Nat} {G : Hp → Prop} {Y : Nat → Hp → V → Hp → Prop} (w : L2.Walk J n G Y) {g : TG} {tb : TS} {δ S : Type} (ds : List δ) (hn : ds.length = n) (f : S → δ → S) (s0 : S) (I : S → L2.St → Hp → Prop)
    (h0 : I s0 σ H) (hG : ∀ s σ' H', I s σ' H' → G H')
    (hs : ∀ i d x s σ' H' H'', ds[i]? = some d → s = (ds.take i).foldl f s0 → I s σ' H' → Y i H' x H'' → g x σ' H'' fun σ2 H2 => tb { D with nx := I (f s d), ct := I (f s d), bk := D.nx } σ2 H2)
    (hd : ∀ σ' H', I (ds.foldl f s0) σ' H' → D.nx σ' H') :
    ∃ W : Nat → Nat → L2.St → Hp → Prop, (∃ m, W 0 m σ H) ∧ ∀ i m σ H, W i m σ H →
      (J.stop i H ∧ D.nx σ H) ∨ (J.go i H ∧ ∃ N : L2.St → Hp → Prop, (∀ σ' H', N σ' H' → ∃ m', m' < m ∧ W (i + 1) m' σ' H') ∧ ∀ x H', J.yld i H x H' → g x σ H' fun σ2 H2 => tb { D with nx := N, ct := N, bk := D.nx } σ2 H2) := by
  refine for_it w (fun i σ' H' => I ((ds.take i).foldl f s0) σ' H') h0 (fun i σ' H' _ h => hG _ _ _ h) (fun i x σ' H' H'' hi h y => ?_) (fun σ' H' h => ?_)
  · obtain ⟨d, ed⟩ : ∃ d, ds[i]? = some d := ⟨ds[i]'(by omega), by simp [hn ▸ hi]⟩
    have tk : (ds.take (i + 1)).foldl f s0 = f ((ds.take i).foldl f s0) d := by
      rw [List.take_add_one, ed, List.foldl_append]; rfl
    have z := hs i d x _ σ' H' H'' ed rfl h y
    rw [tk]
    exact z
  · rw [← hn, List.take_length] at h
    exact hd σ' H' h
end loops
end Kq

set_option linter.all false
set_option maxHeartbeats 4000000
/-! sums of vectors of bits -/
namespace Kq

/-- a group in which each thing is its own opposite -/
class XG (α : Type) where
  xo : α → α → α
  ze : α
  comm : ∀ a b, xo a b = xo b a
  assoc : ∀ a b c, xo (xo a b) c = xo a (xo b c)
  self : ∀ a, xo a a = ze
  zr : ∀ a, xo a ze = a
instance : XG Nat := ⟨(· ^^^ ·), 0, Nat.xor_comm, Nat.xor_assoc, Nat.xor_self, Nat.xor_zero⟩
instance {α β : Type} [XG α] [XG β] : XG (α × β) :=
  ⟨fun p q => (XG.xo p.1 q.1, XG.xo p.2 q.2), (XG.ze, XG.ze), fun p q => by rw [XG.comm p.1, XG.comm p.2], fun p q r => by simp only [XG.assoc], fun p => by simp only [XG.self], fun p => by simp only [XG.zr]⟩
open XG
section
variable {α β : Type} [XG α] [XG β]
theorem zl (a : α) : xo ze a = a := by rw [comm, zr]
theorem xo_cancel (a b : α) : xo (xo a b) b = a := by rw [assoc, self, zr]
theorem xo_cancel' (a b : α) : xo a (xo a b) = b := by rw [← assoc, self, zl]
theorem xo_inj {a b c : α} (h : xo a b = xo a c) : b = c := by rw [← xo_cancel' a b, h, xo_cancel']
theorem xo_eq {a b c : α} (h : xo a b = c) : a = xo c b := by rw [← h, xo_cancel]
theorem xo_ze {a b : α} (h : xo a b = ze) : a = b := by rw [xo_eq h, zl]
theorem xo_swap (a b c d : α) : xo (xo a b) (xo c d) = xo (xo a c) (xo b d) := by
  rw [assoc, assoc, ← assoc b c d, comm b c, assoc c b d]

/-- a sum of some of a list -/
inductive Sn (L : List α) : α → Prop
  | zero : Sn L ze
  | add {a b : α} : b ∈ L → Sn L a → Sn L (xo a b)
theorem Sn.mem {L : List α} {a : α} (h : a ∈ L) : Sn L a := by
  have := Sn.add h (Sn.zero (L := L))
  rw [zl] at this
  exact this
theorem Sn.xo {L : List α} {a b : α} (ha : Sn L a) (hb : Sn L b) : Sn L (XG.xo a b) := by
  induction hb with
  | zero => rw [zr]; exact ha
  | add hm _ ih => rw [← assoc]; exact Sn.add hm ih
theorem Sn.sub {L M : List α} (h : ∀ a ∈ L, Sn M a) {x : α} (hx : Sn L x) : Sn M x := by
  induction hx with
  | zero => exact .zero
  | add hm _ ih => exact ih.xo (h _ hm)
theorem Sn.mono {L M : List α} (h : ∀ a ∈ L, a ∈ M) {x : α} (hx : Sn L x) : Sn M x := hx.sub fun a ha => Sn.mem (h a ha)
theorem Sn.perm {L M : List α} (h : L.Perm M) {x : α} : Sn L x ↔ Sn M x := ⟨Sn.mono fun a ha => h.mem_iff.mp ha, Sn.mono fun a ha => h.mem_iff.mpr ha⟩
theorem Sn.nil {x : α} : Sn ([] : List α) x ↔ x = ze := ⟨fun h => by (cases h with | zero => rfl | add hm _ => cases hm), fun h => by rw [h]; exact .zero⟩
theorem Sn.cons {L : List α} {v x : α} : Sn (v :: L) x ↔ Sn L x ∨ Sn L (XG.xo x v) := by
  constructor
  · intro h
    induction h with
    | zero => exact .inl .zero
    | @add a b hm _ ih =>
      rcases List.mem_cons.mp hm with rfl | hm
      · rcases ih with ih | ih
        · right; rw [xo_cancel]; exact ih
        · left; exact ih
      · rcases ih with ih | ih
        · left; exact .add hm ih
        · right
          have := Sn.add hm ih
          rw [assoc, comm v b, ← assoc] at this
          exact this
  · rintro (h | h)
    · exact h.mono fun a ha => List.mem_cons_of_mem _ ha
    · have h1 : Sn (v :: L) (XG.xo x v) := h.mono fun a ha => List.mem_cons_of_mem _ ha
      have := h1.xo (Sn.mem List.mem_cons_self)
      rw [xo_cancel] at this
      exact this
theorem Sn.app {L M : List α} {x : α} : Sn (L ++ M) x ↔ ∃ a b, Sn L a ∧ Sn M b ∧ x = XG.xo a b := by
  constructor
  · intro h
    induction h with
    | zero => exact ⟨ze, ze, .zero, .zero, by rw [zr]⟩
    | @add a b hm _ ih =>
      obtain ⟨u, v, hu, hv, rfl⟩ := ih
      rcases List.mem_append.mp hm with hm | hm
      · exact ⟨XG.xo u b, v, .add hm hu, hv, by rw [assoc, assoc, comm v b]⟩
      · exact ⟨u, XG.xo v b, hu, .add hm hv, by rw [assoc]⟩
  · rintro ⟨a, b, ha, hb, rfl⟩
    exact (ha.mono fun c hc => List.mem_append_left _ hc).xo (hb.mono fun c hc => List.mem_append_right _ hc)
theorem Sn.app1 {L : List α} {v x : α} : Sn (L ++ [v]) x ↔ Sn L x ∨ Sn L (XG.xo x v) := by
  rw [← Sn.cons]
  exact Sn.perm (List.perm_append_comm (l₁ := L) (l₂ := [v]))
/-- what is told by a map that keeps sums -/
theorem Sn.map {f : α → β} (f0 : f ze = ze) (fx : ∀ a b, f (XG.xo a b) = XG.xo (f a) (f b)) {L : List α} {y : β} : Sn (L.map f) y ↔ ∃ a, Sn L a ∧ f a = y := by
  constructor
  · intro h
    induction h with
    | zero => exact ⟨ze, .zero, f0⟩
    | add hm _ ih =>
      obtain ⟨u, hu, rfl⟩ := ih
      obtain ⟨v, hv, rfl⟩ := List.mem_map.mp hm
      exact ⟨XG.xo u v, .add hv hu, fx u v⟩
  · rintro ⟨a, ha, rfl⟩
    induction ha with
    | zero => rw [f0]; exact .zero
    | add hm _ ih => rw [fx]; exact .add (List.mem_map_of_mem hm) ih
/-- a property that sums keep -/
theorem Sn.all {L : List α} {p : α → Prop} (h0 : p ze) (hx : ∀ a b, p a → p b → p (XG.xo a b)) (hL : ∀ a ∈ L, p a) {x : α} (h : Sn L x) : p x := by
  induction h with
  | zero => exact h0
  | add hm _ ih => exact hx _ _ ih (hL _ hm)

/-- none is a sum of those behind it -/
def Ind : List α → Prop
  | [] => True
  | v :: L => ¬ Sn L v ∧ Ind L
/-- all sums -/
def sums : List α → List α
  | [] => [ze]
  | v :: L => sums L ++ (sums L).map (XG.xo v)
theorem mem_sums {L : List α} : ∀ {x : α}, x ∈ sums L ↔ Sn L x := by
  induction L with
  | nil => intro x; rw [Sn.nil]; simp [sums]
  | cons v L ih =>
    intro x
    rw [sums, List.mem_append, List.mem_map, Sn.cons, ih]
    constructor
    · rintro (h | ⟨a, ha, rfl⟩)
      · exact .inl h
      · right; rw [comm v a, xo_cancel]; exact ih.mp ha
    · rintro (h | h)
      · exact .inl h
      · exact .inr ⟨XG.xo x v, ih.mpr h, by rw [comm, xo_cancel]⟩
theorem sums_length (L : List α) : (sums L).length = 2 ^ L.length := by
  induction L with
  | nil => rfl
  | cons v L ih => rw [sums, List.length_append, List.length_map, ih, List.length_cons, Nat.pow_succ]; omega
theorem nodup_map_inj {γ δ : Type} {f : γ → δ} (hf : ∀ a b, f a = f b → a = b) : ∀ {l : List γ}, l.Nodup → (l.map f).Nodup
  | [], _ => List.nodup_nil
  | a :: l, h => by
    rw [List.nodup_cons] at h
    rw [List.map_cons, List.nodup_cons]
    refine ⟨fun hm => ?_, nodup_map_inj hf h.2⟩
    obtain ⟨b, hb, e⟩ := List.mem_map.mp hm
    rw [hf _ _ e] at hb
    exact h.1 hb
theorem sums_nodup : ∀ {L : List α}, Ind L → (sums L).Nodup
  | [], _ => by simp [sums]
  | v :: L, h => by
    rw [sums, List.nodup_append]
    refine ⟨sums_nodup h.2, nodup_map_inj (fun a b e => xo_inj e) (sums_nodup h.2), fun a ha b hb e => ?_⟩
    subst e
    obtain ⟨c, hc, e⟩ := List.mem_map.mp hb
    have h1 := (mem_sums.mp ha).xo (mem_sums.mp hc)
    rw [← e, xo_cancel] at h1
    exact h.1 h1
theorem nodup_len {γ : Type} [DecidableEq γ] {l m : List γ} (hl : l.Nodup) (hm : m.Nodup) (h : ∀ a, a ∈ l ↔ a ∈ m) : l.length = m.length :=
  ((List.perm_ext_iff_of_nodup hl hm).mpr h).length_eq
theorem pow_inj {a b : Nat} (h : 2 ^ a = 2 ^ b) : a = b := (Nat.pow_right_inj (by decide)).mp h
theorem dim_eq [DecidableEq α] {L M : List α} (hL : Ind L) (hM : Ind M) (h : ∀ x, Sn L x ↔ Sn M x) : L.length = M.length := by
  have := nodup_len (sums_nodup hL) (sums_nodup hM) fun a => by rw [mem_sums, mem_sums, h]
  rw [sums_length, sums_length] at this
  exact pow_inj this
/-- one more -/
theorem ind_app1 : ∀ {L : List α} {v : α}, Ind L → ¬ Sn L v → Ind (L ++ [v])
  | [], v, _, h => ⟨h, trivial⟩
  | u :: L, v, hL, h => by
    refine ⟨fun hs => ?_, ind_app1 hL.2 fun hs => h (hs.mono fun a ha => List.mem_cons_of_mem _ ha)⟩
    rcases Sn.app1.mp hs with hs | hs
    · exact hL.1 hs
    · refine h (Sn.cons.mpr (.inr ?_))
      rw [comm]; exact hs
theorem ind_map {f : α → β} (f0 : f ze = ze) (fx : ∀ a b, f (XG.xo a b) = XG.xo (f a) (f b)) (S : α → Prop) (hS : ∀ a b, S a → S b → f a = f b → a = b) (h0 : S ze) (hx : ∀ a b, S a → S b → S (XG.xo a b)) :
    ∀ {L : List α}, (∀ a ∈ L, S a) → Ind L → Ind (L.map f)
  | [], _, _ => trivial
  | v :: L, hl, h => by
    have hl2 : ∀ a ∈ L, S a := fun a ha => hl a (List.mem_cons_of_mem _ ha)
    refine ⟨fun hs => ?_, ind_map f0 fx S hS h0 hx hl2 h.2⟩
    obtain ⟨a, ha, e⟩ := (Sn.map f0 fx).mp hs
    have e2 := hS a v (ha.all h0 hx hl2) (hl v List.mem_cons_self) e
    rw [e2] at ha
    exact h.1 ha
end
end Kq

set_option linter.all false
set_option maxHeartbeats 4000000
/-! reduced tables of numbers; parities -/
namespace Kq
open XG
theorem xoN (a b : Nat) : xo a b = a ^^^ b := rfl
theorem zeN : (ze : Nat) = 0 := rfl
theorem bit_top {h : Nat} (h0 : h ≠ 0) : h.testBit h.log2 = true := by
  have := Nat.testBit_log2 h0
  exact this
theorem lt_top (h : Nat) : h < 2 ^ (h.log2 + 1) := by
  by_cases h0 : h = 0
  · subst h0; decide
  · exact (Nat.log2_lt h0).mp (Nat.lt_succ_self _)
theorem top_eq {x k : Nat} (h1 : x.testBit k = true) (h2 : x < 2 ^ (k + 1)) : x.log2 = k := by
  have h0 : x ≠ 0 := fun z => by subst z; simp at h1
  have a : x.log2 < k + 1 := (Nat.log2_lt h0).mpr h2
  have b : ¬ x.log2 < k := fun c => by
    have d := (Nat.log2_lt h0).mp c
    rw [Nat.testBit_lt_two_pow d] at h1
    cases h1
  omega
theorem le_top {x k : Nat} (h : x.testBit k = true) : k ≤ x.log2 := by
  have h0 : x ≠ 0 := fun z => by subst z; simp at h
  have b : ¬ x.log2 < k := fun c => by
    have d := (Nat.log2_lt h0).mp c
    rw [Nat.testBit_lt_two_pow d] at h
    cases h
  omega

/-- what is left of a number behind a table -/
def restBy (t : List Nat) (n : Nat) : Nat := t.foldl (fun n h => if n.testBit h.log2 = true then n ^^^ h else n) n
def clr (r h : Nat) : Nat := if h.testBit r.log2 = true then h ^^^ r else h
def Apart (a b : Nat) : Prop := a.testBit b.log2 = false ∧ b.testBit a.log2 = false
/-- a reduced table -/
structure RT (t : List Nat) : Prop where
  nz : ∀ h ∈ t, h ≠ 0
  pw : t.Pairwise Apart
theorem RT.nil : RT [] := ⟨fun _ h => (nomatch h), List.Pairwise.nil⟩
theorem RT.perm {t u : List Nat} (h : t.Perm u) (r : RT t) : RT u :=
  ⟨fun a ha => r.nz a (h.mem_iff.mpr ha), (h.pairwise_iff (fun x => ⟨x.2, x.1⟩)).mp r.pw⟩
theorem RT.tail {h : Nat} {t : List Nat} (r : RT (h :: t)) : RT t := ⟨fun a ha => r.nz a (List.mem_cons_of_mem _ ha), (List.pairwise_cons.mp r.pw).2⟩
theorem RT.head {h : Nat} {t : List Nat} (r : RT (h :: t)) : ∀ a ∈ t, Apart h a := (List.pairwise_cons.mp r.pw).1
theorem Sn.nobit {t : List Nat} {k : Nat} (h : ∀ a ∈ t, a.testBit k = false) {x : Nat} (hx : Sn t x) : x.testBit k = false :=
  hx.all (p := fun x => x.testBit k = false) (by rw [zeN]; simp) (fun a b ha hb => by rw [xoN, Nat.testBit_xor, ha, hb]; rfl) h
theorem restBy_span : ∀ (t : List Nat) (n : Nat), ∃ s, Sn t s ∧ restBy t n = n ^^^ s
  | [], n => ⟨0, .zero, by simp [restBy]⟩
  | h :: t, n => by
    obtain ⟨s, hs, e⟩ := restBy_span t (if n.testBit h.log2 = true then n ^^^ h else n)
    have hs' : Sn (h :: t) s := hs.mono fun a ha => List.mem_cons_of_mem _ ha
    by_cases hb : n.testBit h.log2 = true
    · refine ⟨h ^^^ s, (Sn.mem (List.mem_cons_self)).xo hs', ?_⟩
      show restBy t _ = _
      rw [e, if_pos hb, Nat.xor_assoc]
    · refine ⟨s, hs', ?_⟩
      show restBy t _ = _
      rw [e, if_neg hb]
theorem restBy_bits : ∀ {t : List Nat} (n : Nat), RT t → ∀ h ∈ t, (restBy t n).testBit h.log2 = false
  | [], _, _, h, hh => by cases hh
  | g :: t, n, r, h, hh => by
    show (restBy t (if n.testBit g.log2 = true then n ^^^ g else n)).testBit h.log2 = false
    rcases List.mem_cons.mp hh with rfl | hh
    · obtain ⟨s, hs, e⟩ := restBy_span t (if n.testBit h.log2 = true then n ^^^ h else n)
      rw [e, Nat.testBit_xor, hs.nobit (k := h.log2) fun a ha => (r.head a ha).2]
      by_cases hb : n.testBit h.log2 = true
      · rw [if_pos hb, Nat.testBit_xor, hb, bit_top (r.nz h List.mem_cons_self)]; rfl
      · rw [if_neg hb]; simpa using hb
    · exact restBy_bits _ r.tail h hh
theorem RT.zero : ∀ {t : List Nat}, RT t → ∀ {x : Nat}, Sn t x → (∀ h ∈ t, x.testBit h.log2 = false) → x = 0
  | [], _, x, hx, _ => Sn.nil.mp hx
  | g :: t, r, x, hx, hb => by
    rcases Sn.cons.mp hx with hx | hx
    · exact RT.zero r.tail hx fun h hh => hb h (List.mem_cons_of_mem _ hh)
    · exfalso
      have h1 : (x ^^^ g).testBit g.log2 = false := hx.nobit fun a ha => (r.head a ha).2
      rw [Nat.testBit_xor, hb g List.mem_cons_self, bit_top (r.nz g List.mem_cons_self)] at h1
      cases h1
theorem restBy_zero {t : List Nat} (r : RT t) {n : Nat} : restBy t n = 0 ↔ Sn t n := by
  obtain ⟨s, hs, e⟩ := restBy_span t n
  constructor
  · intro h
    rw [e] at h
    rw [show n = s from xo_ze h]
    exact hs
  · intro h
    refine r.zero (x := restBy t n) ?_ (restBy_bits n r)
    rw [e]
    exact h.xo hs
theorem RT.ind : ∀ {t : List Nat}, RT t → Ind t
  | [], _ => trivial
  | g :: t, r => by
    refine ⟨fun h => ?_, RT.ind r.tail⟩
    have h1 := h.nobit (k := g.log2) fun a ha => (r.head a ha).2
    rw [bit_top (r.nz g List.mem_cons_self)] at h1
    cases h1
theorem clr_top {r h : Nat} (h0 : h ≠ 0) (hr : r.testBit h.log2 = false) : (clr r h).log2 = h.log2 ∧ clr r h ≠ 0 := by
  unfold clr
  by_cases hb : h.testBit r.log2 = true
  · rw [if_pos hb]
    have h1 : (h ^^^ r).testBit h.log2 = true := by rw [Nat.testBit_xor, bit_top h0, hr]; rfl
    have h2 : r.log2 ≤ h.log2 := le_top hb
    have h3 : r < 2 ^ (h.log2 + 1) := Nat.lt_of_lt_of_le (lt_top r) (Nat.pow_le_pow_right (by decide) (by omega))
    exact ⟨top_eq h1 (Nat.xor_lt_two_pow (lt_top h) h3), fun z => by rw [z] at h1; simp at h1⟩
  · rw [if_neg hb]; exact ⟨rfl, h0⟩
theorem clr_bit {r h k : Nat} (hr : r.testBit k = false) (hh : h.testBit k = false) : (clr r h).testBit k = false := by
  unfold clr
  split
  · rw [Nat.testBit_xor, hh, hr]; rfl
  · exact hh
theorem clr_own {r h : Nat} (r0 : r ≠ 0) : (clr r h).testBit r.log2 = false := by
  unfold clr
  split
  · rename_i hb
    rw [Nat.testBit_xor, hb, bit_top r0]; rfl
  · rename_i hb
    simpa using hb
theorem pairwise_map_mem {α β : Type} {R : α → α → Prop} {S : β → β → Prop} {f : α → β} : ∀ {l : List α}, (∀ a ∈ l, ∀ b ∈ l, R a b → S (f a) (f b)) → l.Pairwise R → (l.map f).Pairwise S
  | [], _, _ => List.Pairwise.nil
  | a :: l, h, p => by
    rw [List.pairwise_cons] at p
    rw [List.map_cons, List.pairwise_cons]
    refine ⟨fun b hb => ?_, pairwise_map_mem (fun x hx y hy => h x (List.mem_cons_of_mem _ hx) y (List.mem_cons_of_mem _ hy)) p.2⟩
    obtain ⟨c, hc, rfl⟩ := List.mem_map.mp hb
    exact h a List.mem_cons_self c (List.mem_cons_of_mem _ hc) (p.1 c hc)
theorem RT.put {t : List Nat} (rt : RT t) {n : Nat} (h0 : restBy t n ≠ 0) : RT (t.map (clr (restBy t n)) ++ [restBy t n]) ∧ ∀ x, Sn (t.map (clr (restBy t n)) ++ [restBy t n]) x ↔ Sn (t ++ [n]) x := by
  obtain ⟨s, hs, e⟩ := restBy_span t n
  have hb := restBy_bits n rt
  refine ⟨⟨fun h hh => ?_, ?_⟩, fun x => ⟨fun hx => hx.sub fun a ha => ?_, fun hx => hx.sub fun a ha => ?_⟩⟩
  · rcases List.mem_append.mp hh with hh | hh
    · obtain ⟨g, hg, rfl⟩ := List.mem_map.mp hh
      exact (clr_top (rt.nz g hg) (hb g hg)).2
    · rw [List.mem_singleton.mp hh]; exact h0
  · rw [List.pairwise_append]
    refine ⟨pairwise_map_mem (fun a ha b hb' hab => ?_) rt.pw, List.pairwise_singleton .., fun a ha b hb' => ?_⟩
    · refine ⟨?_, ?_⟩
      · rw [(clr_top (rt.nz b hb') (hb b hb')).1]; exact clr_bit (hb b hb') hab.1
      · rw [(clr_top (rt.nz a ha) (hb a ha)).1]; exact clr_bit (hb a ha) hab.2
    · rw [List.mem_singleton.mp hb']
      obtain ⟨g, hg, rfl⟩ := List.mem_map.mp ha
      exact ⟨clr_own h0, by rw [(clr_top (rt.nz g hg) (hb g hg)).1]; exact hb g hg⟩
  · have hr : Sn (t ++ [n]) (restBy t n) := by
      rw [e]
      exact (Sn.mem (List.mem_append_right _ (List.mem_singleton.mpr rfl))).xo (hs.mono fun a ha => List.mem_append_left _ ha)
    rcases List.mem_append.mp ha with ha | ha
    · obtain ⟨g, hg, rfl⟩ := List.mem_map.mp ha
      have hg' : Sn (t ++ [n]) g := Sn.mem (List.mem_append_left _ hg)
      unfold clr
      split
      · exact hg'.xo hr
      · exact hg'
    · rw [List.mem_singleton.mp ha]; exact hr
  · have hr : Sn (t.map (clr (restBy t n)) ++ [restBy t n]) (restBy t n) := Sn.mem (List.mem_append_right _ (List.mem_singleton.mpr rfl))
    have ht : ∀ g ∈ t, Sn (t.map (clr (restBy t n)) ++ [restBy t n]) g := fun g hg => by
      have h1 : Sn (t.map (clr (restBy t n)) ++ [restBy t n]) (clr (restBy t n) g) := Sn.mem (List.mem_append_left _ (List.mem_map_of_mem hg))
      unfold clr at h1 ⊢
      split at h1
      · have := h1.xo hr
        rw [xoN, Nat.xor_assoc, Nat.xor_self, Nat.xor_zero] at this
        exact this
      · exact h1
    rcases List.mem_append.mp ha with ha | ha
    · exact ht a ha
    · rw [List.mem_singleton.mp ha]
      have h2 : n = restBy t n ^^^ s := by rw [e, Nat.xor_assoc, Nat.xor_self, Nat.xor_zero]
      have h3 := hr.xo (hs.sub ht)
      rw [xoN, ← h2] at h3
      exact h3

/-! ### how many bits are 1 -/
def pc (n : Nat) : Nat := if n = 0 then 0 else n % 2 + pc (n / 2)
theorem pc_zero : pc 0 = 0 := by rw [pc, if_pos rfl]
theorem pc_eq (n : Nat) : pc n = n % 2 + pc (n / 2) := by
  by_cases h : n = 0
  · subst h; rw [pc_zero]
  · rw [pc, if_neg h]
theorem mod2 (n : Nat) : n % 2 = (n.testBit 0).toNat := by
  rw [Nat.testBit_zero]
  rcases Nat.mod_two_eq_zero_or_one n with h | h <;> simp [h]
theorem and_mod2 (a b : Nat) : (a &&& b) % 2 = (a % 2) * (b % 2) := by
  rw [mod2, mod2 a, mod2 b, Nat.testBit_and]; cases a.testBit 0 <;> cases b.testBit 0 <;> rfl
theorem xor_mod2 (a b : Nat) : (a ^^^ b) % 2 = (a % 2 + b % 2) % 2 := by
  rw [mod2, mod2 a, mod2 b, Nat.testBit_xor]; cases a.testBit 0 <;> cases b.testBit 0 <;> rfl
/-- the step of the counting loops -/
theorem pc_step (n : Nat) (h : n ≠ 0) : pc n = pc (n &&& (n - 1)) + 1 ∧ n &&& (n - 1) < n := by
  induction n using Nat.strongRecOn with
  | _ n ih =>
    rcases Nat.mod_two_eq_zero_or_one n with e | e
    · obtain ⟨h1, h2⟩ := ih (n / 2) (by omega) (by omega)
      have e1 : (n - 1) / 2 = n / 2 - 1 := by omega
      have e2 : (n &&& (n - 1)) / 2 = n / 2 &&& (n / 2 - 1) := by rw [Nat.and_div_two, e1]
      have e3 : (n &&& (n - 1)) % 2 = 0 := by rw [and_mod2, e]; simp
      rw [pc_eq n, pc_eq (n &&& (n - 1)), e2, e3, e]
      refine ⟨by omega, by omega⟩
    · have e1 : (n - 1) / 2 = n / 2 := by omega
      have e2 : (n &&& (n - 1)) / 2 = n / 2 := by rw [Nat.and_div_two, e1, Nat.and_self]
      have e3 : (n &&& (n - 1)) % 2 = 0 := by
        rw [and_mod2, show (n - 1) % 2 = 0 by omega]; simp
      rw [pc_eq n, pc_eq (n &&& (n - 1)), e2, e3, e]
      refine ⟨by omega, by omega⟩
theorem pc_xor (a b : Nat) : pc (a ^^^ b) + 2 * pc (a &&& b) = pc a + pc b := by
  induction a using Nat.strongRecOn generalizing b with
  | _ a ih =>
    by_cases h : a = 0
    · subst h; simp [pc_zero]
    · have := ih (a / 2) (by omega) (b / 2)
      rw [pc_eq (a ^^^ b), pc_eq (a &&& b), pc_eq a, pc_eq b, Nat.xor_div_two, Nat.and_div_two, and_mod2, xor_mod2]
      rcases Nat.mod_two_eq_zero_or_one a with h1 | h1 <;> rcases Nat.mod_two_eq_zero_or_one b with h2 | h2 <;> rw [h1, h2] <;> omega
/-- the parity of what two numbers have in common -/
def par (a b : Nat) : Nat := pc (a &&& b) % 2
theorem par_lt (a b : Nat) : par a b < 2 := Nat.mod_lt _ (by decide)
theorem par_comm (a b : Nat) : par a b = par b a := by unfold par; rw [Nat.and_comm]
theorem par_xor (a b c : Nat) : par (a ^^^ b) c = (par a c + par b c) % 2 := by
  unfold par
  rw [Nat.and_xor_distrib_right]
  have := pc_xor (a &&& c) (b &&& c)
  omega
theorem par_xor' (a b c : Nat) : par a (b ^^^ c) = (par a b + par a c) % 2 := by rw [par_comm, par_xor, par_comm b, par_comm c]
theorem par_zero (a : Nat) : par 0 a = 0 := by unfold par; simp [pc_zero]
theorem par_zero' (a : Nat) : par a 0 = 0 := by rw [par_comm, par_zero]
theorem pc_pow (k : Nat) : pc (2 ^ k) = 1 := by
  induction k with
  | zero => rw [pc_eq]; simp [pc_zero]
  | succ k ih =>
    rw [pc_eq, Nat.pow_succ, Nat.mul_mod_left, Nat.mul_div_cancel _ (by decide), ih]
theorem par_span {L : List Nat} {a : Nat} (h : ∀ b ∈ L, par a b = 0) {x : Nat} (hx : Sn L x) : par a x = 0 :=
  hx.all (p := fun x => par a x = 0) (par_zero' a) (fun u v hu hv => by rw [xoN, par_xor', hu, hv]) h
theorem par_span' {L : List Nat} {a : Nat} (h : ∀ b ∈ L, par b a = 0) {x : Nat} (hx : Sn L x) : par x a = 0 := by
  rw [par_comm]; exact par_span (fun b hb => by rw [par_comm]; exact h b hb) hx
theorem and_pow (x k : Nat) : x &&& 2 ^ k = if x.testBit k = true then 2 ^ k else 0 := by
  apply Nat.eq_of_testBit_eq
  intro i
  rw [Nat.testBit_and, Nat.testBit_two_pow]
  by_cases h : k = i
  · subst h
    cases e : x.testBit k <;> simp
  · have h2 : decide (k = i) = false := decide_eq_false h
    rw [h2, Bool.and_false]
    split
    · rw [Nat.testBit_two_pow, h2]
    · simp
theorem par_pow (x k : Nat) : par x (2 ^ k) = (x.testBit k).toNat := by
  unfold par
  rw [and_pow]
  cases x.testBit k
  · simp [pc_zero]
  · simp [pc_pow]
end Kq
namespace Kq
/-- 1 if a number has the highest bit of another one -/
def hl (n h : Nat) : Nat := (n >>> h.log2) &&& 1
theorem hl_ne {n h : Nat} : hl n h ≠ 0 ↔ n.testBit h.log2 = true := by
  unfold hl
  rw [Nat.testBit, bne_iff_ne, Nat.and_comm]
theorem restBy_hl (t : List Nat) (n : Nat) : t.foldl (fun n h => if decide (hl n h ≠ 0) = true then n ^^^ h else n) n = restBy t n := by
  unfold restBy
  congr 1
  funext n h
  by_cases c : n.testBit h.log2 = true
  · rw [if_pos c, if_pos (decide_eq_true (hl_ne.mpr c))]
  · rw [if_neg c, if_neg (fun z => c (hl_ne.mp (of_decide_eq_true z)))]
theorem clr_hl (r h : Nat) : clr r h = if decide (hl h r ≠ 0) = true then h ^^^ r else h := by
  unfold clr
  by_cases c : h.testBit r.log2 = true
  · rw [if_pos c, if_pos (decide_eq_true (hl_ne.mpr c))]
  · rw [if_neg c, if_neg (fun z => c (hl_ne.mp (of_decide_eq_true z)))]
/-- a table behind one number more -/
def PutIn (t : List Nat) (n : Nat) (u : List Nat) : Prop := (restBy t n = 0 ∧ u = t) ∨ (restBy t n ≠ 0 ∧ u.Perm (t.map (clr (restBy t n)) ++ [restBy t n]))
theorem PutIn.rt {t u : List Nat} {n : Nat} (p : PutIn t n u) (r : RT t) : RT u ∧ (∀ x, Sn u x ↔ Sn (t ++ [n]) x) ∧ u.length ≤ t.length + 1 := by
  rcases p with ⟨h, rfl⟩ | ⟨h, hp⟩
  · refine ⟨r, fun x => ?_, by omega⟩
    have hn : Sn u n := (restBy_zero r).mp h
    rw [Sn.app1]
    exact ⟨.inl, fun z => z.elim id fun z => by have := z.xo hn; rw [xo_cancel] at this; exact this⟩
  · obtain ⟨r', s'⟩ := r.put h
    refine ⟨r'.perm hp.symm, fun x => (Sn.perm hp).trans (s' x), ?_⟩
    rw [hp.length_eq]; simp
end Kq

set_option linter.all false
set_option maxHeartbeats 4000000
/-! the table's step as a function; the kernel -/
namespace Kq
open XG
theorem desc_unique : ∀ {l m : List Nat}, l.Perm m → l.Pairwise (· ≥ ·) → m.Pairwise (· ≥ ·) → l = m
  | [], m, p, _, _ => p.nil_eq
  | a :: l, [], p, _, _ => by have := p.length_eq; simp at this
  | a :: l, b :: m, p, h1, h2 => by
    rw [List.pairwise_cons] at h1 h2
    have hab : a = b := by
      have ha : a ∈ b :: m := p.mem_iff.mp List.mem_cons_self
      have hb : b ∈ a :: l := p.mem_iff.mpr List.mem_cons_self
      rcases List.mem_cons.mp ha with e | ha
      · exact e
      · rcases List.mem_cons.mp hb with e | hb
        · exact e.symm
        · have := h1.1 b hb
          have := h2.1 a ha
          omega
    subst hab
    rw [desc_unique ((List.perm_cons a).mp p) h1.2 h2.2]
def sortD (l : List Nat) : List Nat := l.mergeSort (fun a b => decide (b ≤ a))
theorem sortD_perm (l : List Nat) : (sortD l).Perm l := List.mergeSort_perm ..
theorem sortD_desc (l : List Nat) : (sortD l).Pairwise (· ≥ ·) := by
  have h : (sortD l).Pairwise (fun a b => decide (b ≤ a) = true) := List.pairwise_mergeSort (le := fun a b => decide (b ≤ a)) (by intro a b c; simp; omega) (by intro a b; simp; omega) l
  exact h.imp fun z => by simpa using z
theorem sortD_eq {l m : List Nat} (p : m.Perm l) (h : m.Pairwise (· ≥ ·)) : m = sortD l := desc_unique (p.trans (sortD_perm l).symm) h (sortD_desc l)
def putIn (t : List Nat) (n : Nat) : List Nat := if restBy t n = 0 then t else sortD (t.map (clr (restBy t n)) ++ [restBy t n])
theorem putIn_is (t : List Nat) (n : Nat) : PutIn t n (putIn t n) := by
  unfold putIn
  by_cases h : restBy t n = 0
  · rw [if_pos h]; exact .inl ⟨h, rfl⟩
  · rw [if_neg h]; exact .inr ⟨h, sortD_perm _⟩
/-- the reduced table of some numbers -/
def reduced (l : List Nat) : List Nat := l.foldl putIn []
theorem reduced_snoc (l : List Nat) (n : Nat) : reduced (l ++ [n]) = putIn (reduced l) n := by unfold reduced; rw [List.foldl_append]; rfl
theorem snoc_ind {α : Type} {p : List α → Prop} (h0 : p []) (h1 : ∀ l a, p l → p (l ++ [a])) (l : List α) : p l := by
  rw [← List.reverse_reverse l]
  induction l.reverse with
  | nil => exact h0
  | cons a l ih => rw [List.reverse_cons]; exact h1 _ _ ih
theorem reduced_ok (l : List Nat) : RT (reduced l) ∧ (∀ x, Sn (reduced l) x ↔ Sn l x) ∧ (reduced l).length ≤ l.length := by
  induction l using snoc_ind with
  | h0 => exact ⟨RT.nil, fun x => Iff.rfl, Nat.le_refl _⟩
  | h1 l n ih =>
    rw [reduced_snoc]
    obtain ⟨h1, h2, h3⟩ := (putIn_is (reduced l) n).rt ih.1
    refine ⟨h1, fun x => ?_, by rw [List.length_append, List.length_singleton]; omega⟩
    rw [h2, Sn.app1, Sn.app1, ih.2.1, ih.2.1]
/-- the kernel's vector of a free place -/
def kvec (t : List Nat) (q : Nat) : Nat := t.foldl (fun n h => if h.testBit q = true then n ||| 2 ^ h.log2 else n) (2 ^ q)
theorem testBit_foldor (t : List Nat) (q : Nat) : ∀ (a i : Nat), (t.foldl (fun n h => if h.testBit q = true then n ||| 2 ^ h.log2 else n) a).testBit i = (a.testBit i || t.any fun h => h.testBit q && decide (h.log2 = i)) := by
  induction t with
  | nil => intro a i; simp
  | cons h t ih =>
    intro a i
    rw [List.foldl_cons, ih, List.any_cons]
    cases h.testBit q
    · simp
    · simp [Nat.testBit_or, Nat.testBit_two_pow]
      cases a.testBit i <;> simp
def kvecX (t : List Nat) (q a : Nat) : Nat := t.foldl (fun n h => if h.testBit q = true then n ^^^ 2 ^ h.log2 else n) a
theorem or_pow {a k : Nat} (h : a.testBit k = false) : a ||| 2 ^ k = a ^^^ 2 ^ k := by
  apply Nat.eq_of_testBit_eq
  intro i
  rw [Nat.testBit_or, Nat.testBit_xor, Nat.testBit_two_pow]
  by_cases e : k = i
  · subst e; rw [h]; simp
  · rw [decide_eq_false e]; simp
theorem Apart.ne {g h : Nat} (g0 : g ≠ 0) (a : Apart g h) : g.log2 ≠ h.log2 := fun e => by
  have := a.1
  rw [← e, bit_top g0] at this
  cases this
theorem kvec_xor (q : Nat) : ∀ {t : List Nat} (a : Nat), RT t → (∀ h ∈ t, a.testBit h.log2 = false) → t.foldl (fun n h => if h.testBit q = true then n ||| 2 ^ h.log2 else n) a = kvecX t q a
  | [], _, _, _ => rfl
  | g :: t, a, r, ha => by
    unfold kvecX
    rw [List.foldl_cons, List.foldl_cons]
    have e : (if g.testBit q = true then a ||| 2 ^ g.log2 else a) = if g.testBit q = true then a ^^^ 2 ^ g.log2 else a := by
      split
      · exact or_pow (ha g List.mem_cons_self)
      · rfl
    rw [e]
    refine kvec_xor q _ r.tail fun h hh => ?_
    split
    · rw [Nat.testBit_xor, ha h (List.mem_cons_of_mem _ hh), Nat.testBit_two_pow, decide_eq_false ((r.head h hh).ne (r.nz g List.mem_cons_self))]; rfl
    · exact ha h (List.mem_cons_of_mem _ hh)
theorem kvec_parA (q g : Nat) : ∀ {t : List Nat} (a : Nat), (∀ h ∈ t, g.testBit h.log2 = false) → par (kvecX t q a) g = par a g
  | [], _, _ => rfl
  | h :: t, a, hg => by
    unfold kvecX
    rw [List.foldl_cons]
    refine (kvec_parA q g (t := t) _ fun k hk => hg k (List.mem_cons_of_mem _ hk)).trans ?_
    split
    · rw [par_xor, par_comm (2 ^ h.log2), par_pow, hg h List.mem_cons_self]; have := par_lt a g; simp; omega
    · rfl
theorem kvec_parB (q : Nat) : ∀ {t : List Nat} (a g : Nat), RT t → g ∈ t → par (kvecX t q a) g = (par a g + (g.testBit q).toNat) % 2
  | [], _, _, _, h => by cases h
  | h :: t, a, g, r, hg => by
    unfold kvecX
    rw [List.foldl_cons]
    rcases List.mem_cons.mp hg with rfl | hg
    · refine (kvec_parA q g (t := t) _ fun k hk => (r.head k hk).1).trans ?_
      have := par_lt a g
      cases e : g.testBit q
      · simp; omega
      · rw [if_pos rfl, par_xor, par_comm (2 ^ g.log2), par_pow, bit_top (r.nz g List.mem_cons_self)]
    · refine (kvec_parB q (t := t) _ g r.tail hg).trans ?_
      split
      · rw [par_xor, par_comm (2 ^ h.log2), par_pow, (r.head g hg).2]; simp [Nat.add_mod]
      · rfl
theorem pw_mem {α : Type} {R : α → α → Prop} (sy : ∀ a b, R a b → R b a) : ∀ {l : List α}, l.Pairwise R → ∀ a ∈ l, ∀ b ∈ l, a ≠ b → R a b
  | [], _, a, ha, _, _, _ => by cases ha
  | c :: l, p, a, ha, b, hb, ne => by
    rw [List.pairwise_cons] at p
    rcases List.mem_cons.mp ha with e | ha' <;> rcases List.mem_cons.mp hb with e2 | hb'
    · exact absurd (e.trans e2.symm) ne
    · exact e ▸ p.1 b hb'
    · exact e2 ▸ sy _ _ (p.1 a ha')
    · exact pw_mem sy p.2 a ha' b hb' ne
def Lead (t : List Nat) (i : Nat) : Prop := ∃ h ∈ t, h.log2 = i
theorem kvec_ker {t : List Nat} (r : RT t) {q : Nat} (hq : ¬ Lead t q) : ∀ g ∈ t, par (kvec t q) g = 0 := fun g hg => by
  have e : kvec t q = kvecX t q (2 ^ q) := kvec_xor q _ r fun h hh => by rw [Nat.testBit_two_pow, decide_eq_false fun e => hq ⟨h, hh, e.symm⟩]
  rw [e, kvec_parB q _ g r hg, par_comm, par_pow]
  omega
theorem kvec_bits {t : List Nat} {q i : Nat} (h : (kvec t q).testBit i = true) : i = q ∨ Lead t i := by
  unfold kvec at h
  rw [testBit_foldor, Nat.testBit_two_pow, Bool.or_eq_true, List.any_eq_true] at h
  rcases h with h | ⟨k, hk, e⟩
  · exact .inl (of_decide_eq_true h).symm
  · rw [Bool.and_eq_true] at e
    exact .inr ⟨k, hk, of_decide_eq_true e.2⟩
theorem kvec_own {t : List Nat} {q : Nat} : (kvec t q).testBit q = true := by
  unfold kvec
  rw [testBit_foldor, Nat.testBit_two_pow, decide_eq_true rfl, Bool.true_or]
theorem ker_of {t : List Nat} (r : RT t) : ∀ (qs : List Nat) (x : Nat), (∀ q ∈ qs, ¬ Lead t q) → (∀ g ∈ t, par x g = 0) → (∀ i, x.testBit i = true → i ∈ qs ∨ Lead t i) → Sn (qs.map (kvec t)) x
  | [], x, _, hk, hb => by
    have h0 : x = 0 := by
      apply Nat.eq_of_testBit_eq
      intro i
      rw [Nat.zero_testBit]
      by_cases e : x.testBit i = true
      · exfalso
        rcases hb i e with h | ⟨h, hh, rfl⟩
        · cases h
        have ea : x &&& h = 2 ^ h.log2 := by
          apply Nat.eq_of_testBit_eq
          intro j
          rw [Nat.testBit_and, Nat.testBit_two_pow]
          by_cases ej : h.log2 = j
          · subst ej; rw [e, bit_top (r.nz h hh)]; simp
          · rw [decide_eq_false ej]
            cases ex : x.testBit j
            · rfl
            · rcases hb j ex with c | ⟨g, hg, rfl⟩
              · cases c
              · have hne : h ≠ g := fun z => ej (by rw [z])
                have : h.testBit g.log2 = false := by
                  have := pw_mem (fun _ _ z => ⟨z.2, z.1⟩) r.pw h hh g hg hne
                  exact this.1
                rw [this]; rfl
        have := hk h hh
        unfold par at this
        rw [ea, pc_pow] at this
        cases this
      · simpa using e
    rw [h0]; exact .zero
  | q :: qs, x, hq, hk, hb => by
    rw [List.map_cons, Sn.cons]
    by_cases e : x.testBit q = true
    · right
      refine ker_of r qs _ (fun p hp => hq p (List.mem_cons_of_mem _ hp)) (fun g hg => ?_) (fun i hi => ?_)
      · rw [xoN, par_xor, hk g hg, kvec_ker r (hq q List.mem_cons_self) g hg]
      · by_cases ei : i = q
        · exfalso
          subst ei
          rw [xoN, Nat.testBit_xor, e, kvec_own] at hi
          cases hi
        · rw [xoN, Nat.testBit_xor] at hi
          cases ex : x.testBit i
          · rw [ex] at hi
            rcases kvec_bits (by simpa using hi) with h | h
            · exact absurd h ei
            · exact .inr h
          · rcases hb i ex with h | h
            · rcases List.mem_cons.mp h with h | h
              · exact absurd h ei
              · exact .inl h
            · exact .inr h
    · left
      refine ker_of r qs x (fun p hp => hq p (List.mem_cons_of_mem _ hp)) hk (fun i hi => ?_)
      rcases hb i hi with h | h
      · rcases List.mem_cons.mp h with h | h
        · subst h; exact absurd hi e
        · exact .inl h
      · exact .inr h
def pivs (t : List Nat) (w : Nat) : List Nat := t.map fun h => w - (h.log2 + 1)
def kfound (t : List Nat) (w : Nat) : List Nat := ((List.range w).filter fun p => decide (p ∉ pivs t w)).map fun p => kvec t (w - 1 - p)
theorem lt_of_bits {x w : Nat} (h : ∀ i, x.testBit i = true → i < w) : x < 2 ^ w := by
  apply Nat.lt_pow_two_of_testBit
  intro i hi
  cases e : x.testBit i
  · rfl
  · have := h i e; omega
theorem bit_lt {x w i : Nat} (h : x < 2 ^ w) (hb : x.testBit i = true) : i < w := by
  apply Classical.byContradiction
  intro c
  rw [Nat.testBit_lt_two_pow (Nat.lt_of_lt_of_le h (Nat.pow_le_pow_right (by decide) (by omega)))] at hb
  cases hb
theorem kfound_ok {t : List Nat} {w : Nat} (r : RT t) (hw : ∀ h ∈ t, h < 2 ^ w) (x : Nat) : Sn (kfound t w) x ↔ x < 2 ^ w ∧ ∀ g ∈ t, par x g = 0 := by
  have hl : ∀ h ∈ t, h.log2 < w := fun h hh => bit_lt (hw h hh) (bit_top (r.nz h hh))
  have hfree : ∀ p, p < w → p ∉ pivs t w → ¬ Lead t (w - 1 - p) := fun p hp hn ⟨h, hh, e⟩ => hn (List.mem_map.mpr ⟨h, hh, by have := hl h hh; omega⟩)
  constructor
  · intro h
    refine ⟨?_, fun g hg => ?_⟩
    · refine h.all (p := fun x => x < 2 ^ w) (Nat.two_pow_pos w) (fun a b ha hb => Nat.xor_lt_two_pow ha hb) (fun a ha => ?_)
      obtain ⟨p, hp, rfl⟩ := List.mem_map.mp ha
      obtain ⟨hp1, hp2⟩ := List.mem_filter.mp hp
      have hp1 := List.mem_range.mp hp1
      refine lt_of_bits fun i hi => ?_
      rcases kvec_bits hi with e | ⟨h, hh, e⟩
      · omega
      · have := hl h hh; omega
    · refine par_span' (fun a ha => ?_) h
      obtain ⟨p, hp, rfl⟩ := List.mem_map.mp ha
      obtain ⟨hp1, hp2⟩ := List.mem_filter.mp hp
      exact kvec_ker r (hfree p (List.mem_range.mp hp1) (of_decide_eq_true hp2)) g hg
  · rintro ⟨hx, hk⟩
    have := ker_of r (((List.range w).filter fun p => decide (p ∉ pivs t w)).map fun p => w - 1 - p) x (fun q hq => ?_) hk (fun i hi => ?_)
    · rw [List.map_map] at this
      exact this
    · obtain ⟨p, hp, rfl⟩ := List.mem_map.mp hq
      obtain ⟨hp1, hp2⟩ := List.mem_filter.mp hp
      exact hfree p (List.mem_range.mp hp1) (of_decide_eq_true hp2)
    · have hi2 := bit_lt hx hi
      by_cases hL : Lead t i
      · exact .inr hL
      · left
        refine List.mem_map.mpr ⟨w - 1 - i, List.mem_filter.mpr ⟨List.mem_range.mpr (by omega), decide_eq_true fun hm => hL ?_⟩, by omega⟩
        obtain ⟨h, hh, e⟩ := List.mem_map.mp hm
        have := hl h hh
        exact ⟨h, hh, by omega⟩
def kerOf (ns : List Nat) (w : Nat) : List Nat := reduced (kfound (reduced ns) w)
theorem kfound_len (t : List Nat) (w : Nat) : (kfound t w).length ≤ w := by
  unfold kfound
  rw [List.length_map]
  exact Nat.le_trans (List.length_filter_le ..) (by simp)
theorem span_lt {L : List Nat} {w : Nat} (h : ∀ a ∈ L, a < 2 ^ w) {x : Nat} (hx : Sn L x) : x < 2 ^ w := hx.all (p := fun x => x < 2 ^ w) (Nat.two_pow_pos w) (fun a b ha hb => Nat.xor_lt_two_pow ha hb) h
theorem reduced_lt {l : List Nat} {w : Nat} (h : ∀ a ∈ l, a < 2 ^ w) : ∀ a ∈ reduced l, a < 2 ^ w := fun a ha => span_lt h (((reduced_ok l).2.1 a).mp (Sn.mem ha))
theorem kerOf_ok {ns : List Nat} {w : Nat} (h : ∀ a ∈ ns, a < 2 ^ w) : RT (kerOf ns w) ∧ (∀ x, Sn (kerOf ns w) x ↔ x < 2 ^ w ∧ ∀ g ∈ ns, par x g = 0) := by
  obtain ⟨h1, h2, h3⟩ := reduced_ok ns
  obtain ⟨k1, k2, k3⟩ := reduced_ok (kfound (reduced ns) w)
  refine ⟨k1, fun x => (k2 x).trans ((kfound_ok h1 (reduced_lt h) x).trans ?_)⟩
  refine and_congr Iff.rfl ⟨fun hx g hg => ?_, fun hx g hg => ?_⟩
  · exact par_span hx ((h2 g).mpr (Sn.mem hg))
  · exact par_span hx ((h2 g).mp (Sn.mem hg))
end Kq

set_option Elab.async false
set_option linter.all false
set_option maxRecDepth 100000
set_option maxHeartbeats 4000000
/-! more steps -/
namespace Kq
open PySem PySem.Spec PyProof.Rows L2
section
variable {K : PySem.W.Frag} {σ : L2.St} {H : Hp} {Q : VK} {ta tb tc te : TE} {D : Ends}
theorem s_ckw {r : List V → List V → Hp → VK → Prop} {t tk : TA} (h : t σ H fun vs H1 => tk σ H1 fun zs H2 => r vs zs H2 Q) : tCKw r t tk σ H Q := h
theorem ints_nats : ∀ {l : List Int} {m : List Nat}, l.Perm (m.map fun n : Nat => (n : Int)) → ∃ k : List Nat, l = k.map fun n : Nat => (n : Int) := by
  intro l m p
  refine ⟨l.map Int.toNat, ?_⟩
  rw [List.map_map]
  have h : ∀ x ∈ l, ((fun n : Nat => (n : Int)) ∘ Int.toNat) x = x := fun x hx => by
    obtain ⟨n, _, rfl⟩ := List.mem_map.mp (p.mem_iff.mp hx)
    show ((Int.toNat (n : Int) : Nat) : Int) = (n : Int)
    rw [Int.toNat_natCast]
  exact ((List.map_congr_left h).trans (List.map_id' l)).symm
theorem map_nV (l : List Nat) : l.map nV = (l.map fun n : Nat => (n : Int)).map V.int := by rw [List.map_map]; rfl
theorem s_sorted {p : Addr} {ns : List Nat} (h : H p = some (.lst (ns.map nV))) (q : ∀ l, H l = none → Q (.ref l) (upd H l (.lst ((sortD ns).map nV)))) : rSortedKw K true [.bl true] [.ref p] [.bl true] H Q := by
  refine ⟨p, ns.map fun n : Nat => (n : Int), rfl, rfl, SqL.of (by rw [← map_nV]; exact h), fun ns' l hp ho hl => ?_⟩
  obtain ⟨k, rfl⟩ := ints_nats hp
  have hp2 : k.Perm ns := by
    have := hp.map Int.toNat
    rw [List.map_map, List.map_map] at this
    have e : ∀ l : List Nat, l.map (Int.toNat ∘ fun n : Nat => (n : Int)) = l := fun l => by
      rw [show (Int.toNat ∘ fun n : Nat => (n : Int)) = id from funext fun n => Int.toNat_natCast n, List.map_id]
    rw [e, e] at this
    exact this
  have ho2 : k.Pairwise (· ≥ ·) := by
    have : (k.map fun n : Nat => (n : Int)).Pairwise (· ≥ ·) := ho
    rw [List.pairwise_map] at this
    exact this.imp fun z => by omega
  rw [← map_nV, sortD_eq hp2 ho2]
  exact q l hl
theorem inV_nat (n : Nat) : ∀ ns : List Nat, inV (nV n) (ns.map nV) = decide (n ∈ ns)
  | [] => by simp [inV]
  | m :: ns => by
    have ih := inV_nat n ns
    unfold inV at ih ⊢
    rw [List.map_cons, List.any_cons, ih]
    rw [show eqV (nV m) (nV n) = decide (n = m) from by
      rw [show eqV (nV m) (nV n) = decide ((m : Int) = (n : Int)) from by unfold eqV; first | rfl | simp]
      exact dec_iff (by omega)]
    rw [Bool.eq_iff_iff]; simp
theorem flat_nats (ns : List Nat) : (ns.map nV).all flatV = true := by
  rw [List.all_map, List.all_eq_true]; intro n _; rfl
theorem s_inN {p : Addr} {ns : List Nat} {n : Nat} (h : H p = some (.lst (ns.map nV))) (q : Q (.bl (decide (n ∈ ns))) H) : rInL false (nV n) (.ref p) H Q := ⟨p, _, rfl, h, rfl, flat_nats ns, by rw [inV_nat]; exact q⟩
theorem s_ninN {p : Addr} {ns : List Nat} {n : Nat} (h : H p = some (.lst (ns.map nV))) (q : Q (.bl (decide (n ∉ ns))) H) : rInL true (nV n) (.ref p) H Q := ⟨p, _, rfl, h, rfl, flat_nats ns, by rw [inV_nat, if_pos rfl]; simpa using q⟩
theorem s_inTN {p : Addr} {ns : List Nat} {n : Nat} (h : H p = some (.tup (ns.map nV))) (q : Q (.bl (decide (n ∈ ns))) H) : rInT false (nV n) (.ref p) H Q := ⟨p, _, rfl, h, rfl, flat_nats ns, by rw [inV_nat]; exact q⟩
theorem s_ninTN {p : Addr} {ns : List Nat} {n : Nat} (h : H p = some (.tup (ns.map nV))) (q : Q (.bl (decide (n ∉ ns))) H) : rInT true (nV n) (.ref p) H Q := ⟨p, _, rfl, h, rfl, flat_nats ns, by rw [inV_nat, if_pos rfl]; simpa using q⟩
end
theorem Itm.at {α : Type} {R : Rp α} {H : Hp} {vs : List V} {l : List α} {i : Nat} {v : V} {d : α} (h : Itm R H vs l) (e : vs[i]? = some v) (ed : l[i]? = some d) : R H v d := by
  obtain ⟨a, ha, r⟩ := h.get e
  rw [ed] at ha
  cases ha
  exact r
theorem Same.nw {H H1 : Hp} {p : Addr} {o : HO} (s : Same H H1) (h : H1 p = none) : Same H (upd H1 p o) := s.trans (same_new h)
theorem fold_filter {α β : Type} (c : α → Bool) (g : α → β) : ∀ (l : List α) (a : List β), l.foldl (fun s p => if c p = true then s ++ [g p] else s) a = a ++ (l.filter c).map g
  | [], a => by simp
  | x :: l, a => by
    rw [List.foldl_cons, fold_filter c g l, List.filter_cons]
    cases c x <;> simp
theorem fold_map {α β : Type} (g : α → β) : ∀ (l : List α) (a : List β), l.foldl (fun s p => s ++ [g p]) a = a ++ l.map g
  | [], a => by simp
  | x :: l, a => by rw [List.foldl_cons, fold_map g l]; simp
theorem getN {l : List Nat} {i : Nat} {v : V} (h : (l.map nV)[i]? = some v) : ∃ n, l[i]? = some n ∧ v = nV n := by
  rw [List.getElem?_map] at h
  cases e : l[i]? with
  | none => rw [e] at h; cases h
  | some n => rw [e] at h; exact ⟨n, rfl, (Option.some.inj h).symm⟩
end Kq

set_option Elab.async false
set_option linter.all false
set_option maxRecDepth 100000
set_option maxHeartbeats 4000000
/-! texts, isinstance, strings of letters -/
namespace Kq
open PySem PySem.Spec PyProof.Rows L2
/-! ### texts -/
def sOf (l : List Nat) : Str := ⟨l.toArray⟩
theorem sOf_len (l : List Nat) : (sOf l).length = l.length := by show l.toArray.size = _; simp
theorem sOf_list (l : List Nat) : (sOf l).cps.toList = l := rfl
theorem sOf_add (a b : List Nat) : sOf a ++ sOf b = sOf (a ++ b) := by
  show (⟨a.toArray ++ b.toArray⟩ : Str) = _
  unfold sOf; simp
theorem sOf_inj {a b : List Nat} : sOf a = sOf b ↔ a = b := ⟨fun h => by have := congrArg (fun s : Str => s.cps.toList) h; exact this, fun h => by rw [h]⟩
theorem take_min {α : Type} (l : List α) (k : Nat) : l.take (min k l.length) = l.take k := by
  by_cases h : k ≤ l.length
  · rw [Nat.min_eq_left h]
  · rw [Nat.min_eq_right (by omega), List.take_length, List.take_of_length_le (by omega)]
theorem cut_take (l : List Nat) (k : Nat) : cutS (sOf l) none (some (k : Int)) = sOf (l.take k) := by
  unfold cutS
  rw [HT.sIx_none, HT.sIx_nat, sOf_list, sOf_len, List.drop_zero, Nat.sub_zero]
  unfold sOf
  rw [take_min]
theorem cut_drop (l : List Nat) (k : Nat) : cutS (sOf l) (some (k : Int)) none = sOf (l.drop k) := by
  unfold cutS
  rw [HT.sIx_none, HT.sIx_nat, sOf_list, sOf_len]
  unfold sOf
  by_cases h : k ≤ l.length
  · rw [Nat.min_eq_left h, List.take_of_length_le (by simp)]
  · rw [Nat.min_eq_right (by omega), List.drop_of_length_le (by omega), List.drop_of_length_le (by omega)]; simp
theorem cut_one (l : List Nat) (k : Nat) : cutS (sOf l) (some (k : Int)) (some ((k + 1 : Nat) : Int)) = sOf ((l.drop k).take 1) := by
  unfold cutS
  rw [HT.sIx_nat, HT.sIx_nat, sOf_list, sOf_len]
  unfold sOf
  by_cases h : k < l.length
  · rw [Nat.min_eq_left (by omega), Nat.min_eq_left (by omega), Nat.add_sub_cancel_left]
  · rw [Nat.min_eq_right (by omega), Nat.min_eq_right (by omega), List.drop_of_length_le (by omega), List.drop_of_length_le (l := l) (i := k) (by omega)]; simp
theorem join_sOf : ∀ ls : List (List Nat), Txt.join Str.empty (ls.map sOf) = sOf ls.flatten := by
  intro ls
  rw [show Txt.join Str.empty (ls.map sOf) = Str.join Str.empty (ls.map sOf) from PySem.StrLaws.glued_eq_join _ _]
  induction ls with
  | nil => rfl
  | cons a l ih =>
    cases l with
    | nil => show sOf a = _; simp
    | cons b l =>
      show sOf a ++ Str.empty ++ Str.join Str.empty (sOf b :: l.map sOf) = _
      rw [show Str.join Str.empty (sOf b :: l.map sOf) = sOf (b :: l).flatten from ih, show Str.empty = sOf [] from rfl, sOf_add, sOf_add]
      simp
/-- the letter at a place -/
def chr4 (a b : Bool) : Nat := if a then (if b then 89 else 88) else if b then 90 else 73
def letL (n x z : Nat) : List Nat := (List.range n).map fun k => chr4 (x.testBit k) (z.testBit k)
theorem letL_len (n x z : Nat) : (letL n x z).length = n := by simp [letL]
theorem letL_at {n x z k : Nat} (h : k < n) : (letL n x z)[k]? = some (chr4 (x.testBit k) (z.testBit k)) := by
  unfold letL
  rw [List.getElem?_map, List.getElem?_range h]; rfl
theorem chr4_mem (a b : Bool) : chr4 a b ∈ [73, 88, 89, 90] := by cases a <;> cases b <;> decide
theorem chr4_x (a b : Bool) : decide (chr4 a b ∈ [88, 89]) = a := by cases a <;> cases b <;> decide
theorem chr4_z (a b : Bool) : decide (chr4 a b ∈ [90, 89]) = b := by cases a <;> cases b <;> decide
theorem letL_inj {n x z x' z' : Nat} (hx : x < 2 ^ n) (hz : z < 2 ^ n) (hx' : x' < 2 ^ n) (hz' : z' < 2 ^ n) (h : letL n x z = letL n x' z') : x = x' ∧ z = z' := by
  have hk : ∀ k, k < n → x.testBit k = x'.testBit k ∧ z.testBit k = z'.testBit k := fun k hk => by
    have h1 := letL_at (x := x) (z := z) hk
    rw [h, letL_at hk] at h1
    have h2 := Option.some.inj h1
    generalize x.testBit k = a at h2 ⊢
    generalize z.testBit k = b at h2 ⊢
    generalize x'.testBit k = c at h2 ⊢
    generalize z'.testBit k = d at h2 ⊢
    revert h2; cases a <;> cases b <;> cases c <;> cases d <;> decide
  have hb : ∀ y, y < 2 ^ n → ∀ k, ¬ k < n → y.testBit k = false := fun y hy k hk => by
    cases e : y.testBit k
    · rfl
    · exact absurd (bit_lt hy e) hk
  constructor <;> apply Nat.eq_of_testBit_eq <;> intro k <;> by_cases h : k < n
  · exact (hk k h).1
  · rw [hb x hx k h, hb x' hx' k h]
  · exact (hk k h).2
  · rw [hb z hz k h, hb z' hz' k h]
theorem bit_and (x k : Nat) : x >>> k &&& 1 = (x.testBit k).toNat := by
  rw [Nat.testBit, Nat.and_comm]
  have : 1 &&& x >>> k < 2 := Nat.lt_of_le_of_lt Nat.and_le_left (by decide)
  generalize 1 &&& x >>> k = y at this ⊢
  match y, this with
  | 0, _ => rfl
  | 1, _ => rfl
theorem bit_mod (x k : Nat) : (x >>> k) % 2 = (x.testBit k).toNat := by
  rw [← bit_and, Nat.and_one_is_mod]
theorem sum_bits (x : Nat) : ∀ n, (((List.range n).filter x.testBit).map fun k => 2 ^ k).sum = x % 2 ^ n
  | 0 => by simp [Nat.mod_one]
  | n + 1 => by
    rw [List.range_succ, List.filter_append, List.map_append, List.sum_append, sum_bits x n, Nat.mod_pow_succ, List.filter_cons, List.filter_nil]
    have e : x / 2 ^ n % 2 = (x.testBit n).toNat := by
      rw [← bit_mod, Nat.shiftRight_eq_div_pow]
    rw [e]
    cases x.testBit n <;> simp
theorem four_at (a b : Bool) : (Str.ofString "IXZY").cps[a.toNat + 2 * b.toNat]? = some (chr4 a b) := by
  cases a <;> cases b <;> decide +kernel
section
variable {K : PySem.W.Frag} {σ : L2.St} {H : Hp} {Q : VK} {ta tb tc te : TE} {D : Ends}
theorem s_addS {a b : List Nat} (h : a.length + b.length ≤ 100000) (q : Q (.str (sOf (a ++ b))) H) : ∃ i j, V.str (sOf a) = .str i ∧ V.str (sOf b) = .str j ∧ i.length + j.length ≤ sizeLine ∧ Q (.str (i ++ j)) H :=
  ⟨_, _, rfl, rfl, by rw [sOf_len, sOf_len]; exact Nat.le_trans h (by decide), by rw [sOf_add]; exact q⟩
theorem s_sl {r : V → Option Int → Option Int → Hp → VK → Prop} {tl th : TO} (h : te σ H fun x H1 => tl σ H1 fun l H2 => th σ H2 fun u H3 => r x l u H3 Q) : tSl r te tl th σ H Q := h
theorem s_part {R : Option Int → Hp → Prop} (h : te σ H fun x H1 => ∃ i, x = .int i ∧ R (some i) H1) : tPart te σ H R := h
theorem s_partV {n : Nat} {R : Int → Prop} (q : R (n : Int)) : ∃ i, nV n = .int i ∧ R i := ⟨_, rfl, q⟩
theorem s_nopart {R : Option Int → Hp → Prop} (h : R none H) : tNoPart σ H R := h
theorem s_take {l : List Nat} {k : Nat} (h : l.length ≤ 100000) (q : Q (.str (sOf (l.take k))) H) : rSlS (.str (sOf l)) none (some (k : Int)) H Q := ⟨_, rfl, by rw [sOf_len]; exact Nat.le_trans h (by decide), by rw [cut_take]; exact q⟩
theorem s_dropS {l : List Nat} {k : Nat} (h : l.length ≤ 100000) (q : Q (.str (sOf (l.drop k))) H) : rSlS (.str (sOf l)) (some (k : Int)) none H Q := ⟨_, rfl, by rw [sOf_len]; exact Nat.le_trans h (by decide), by rw [cut_drop]; exact q⟩
theorem s_oneS {l : List Nat} {k : Nat} (h : l.length ≤ 100000) (q : Q (.str (sOf ((l.drop k).take 1))) H) : rSlS (.str (sOf l)) (some (k : Int)) (some ((k + 1 : Nat) : Int)) H Q := ⟨_, rfl, by rw [sOf_len]; exact Nat.le_trans h (by decide), by rw [cut_one]; exact q⟩
/-- slices of lists -/
theorem cutV_take (xs : List V) (k : Nat) : cutV xs none (some (k : Int)) = xs.take k := by
  unfold cutV
  rw [HT.sIx_none, HT.sIx_nat, List.drop_zero, Nat.sub_zero, take_min]
theorem cutV_drop (xs : List V) (k : Nat) : cutV xs (some (k : Int)) none = xs.drop k := by
  unfold cutV
  rw [HT.sIx_none, HT.sIx_nat]
  by_cases h : k ≤ xs.length
  · rw [Nat.min_eq_left h, List.take_of_length_le (by simp)]
  · rw [Nat.min_eq_right (by omega), List.drop_of_length_le (by omega), List.drop_of_length_le (by omega)]; simp
theorem s_cutTake {p : Addr} {xs : List V} {k : Nat} (h : H p = some (.lst xs)) (q : ∀ l, H l = none → Q (.ref l) (upd H l (.lst (xs.take k)))) : rCut (.ref p) none (some (k : Int)) H Q := ⟨p, xs, rfl, h, by rw [cutV_take]; exact q⟩
theorem s_cutDrop {p : Addr} {xs : List V} {k : Nat} (h : H p = some (.lst xs)) (q : ∀ l, H l = none → Q (.ref l) (upd H l (.lst (xs.drop k)))) : rCut (.ref p) (some (k : Int)) none H Q := ⟨p, xs, rfl, h, by rw [cutV_drop]; exact q⟩
/-! ### isinstance -/
theorem s_isi {x c : V} {t u : Value} {b : Bool} (ty : TyX K H x t) (k : ClsV c u) (e : PySem.W.kitOne K t u = some b) (q : Q (.bl b) H) : rIsi K [x, c] H Q := ⟨x, c, t, u, b, rfl, k, ty, e, q⟩
theorem s_isiII {n : Int} (q : Q (.bl true) H) : rIsi K [.int n, .ty "int"] H Q := s_isi (.base (.int n)) (.ty _) (by rfl) q
theorem s_isiIB {n : Int} (q : Q (.bl false) H) : rIsi K [.int n, .ty "bool"] H Q := s_isi (.base (.int n)) (.ty _) (by rfl) q
theorem s_isiSS {z : Str} (q : Q (.bl true) H) : rIsi K [.str z, .ty "str"] H Q := s_isi (.base (.str z)) (.ty _) (by rfl) q
theorem s_isiTT {p : Addr} {xs : List V} (h : H p = some (.tup xs)) (q : Q (.bl true) H) : rIsi K [.ref p, .ty "tuple"] H Q := s_isi (.base (.tup h)) (.ty _) (by rfl) q
end
section
variable {K : PySem.W.Frag} {σ : L2.St} {H : Hp} {Q : VK}
theorem s_isiC {C a dx : Addr} {fs : List (Str × V)} (c : Cls K C) (i : IsC K C) (h : H a = some (.ins C dx fs)) (q : Q (.bl true) H) : rIsi K [.ref a, .ref C] H Q :=
  s_isi (.base (.ins h c i.ha i.hn i.htk i.hm)) (.own C) (by unfold PySem.W.kitOne; rw [if_pos (by simp)]) q
end
/-! ### strings of letters -/
def Row.ok (n : Nat) (r : Row) : Prop := r.x < 2 ^ n ∧ r.z < 2 ^ n ∧ r.s < 2
def sgnL (s : Nat) : List Nat := if s = 1 then [45] else []
def isP (K : PySem.W.Frag) (n : Nat) : Rp Row := fun H v r => ∃ a dx fs, v = .ref a ∧ H a = some (.ins (He.ga K "Pauli") dx fs) ∧ List.lookup (Str.ofString "letters") fs = some (.str (sOf (letL n r.x r.z))) ∧ List.lookup (Str.ofString "phase") fs = some (nV (2 * r.s)) ∧
  List.lookup (Str.ofString "size") fs = some (nV n) ∧ r.ok n ∧ done fs = true
theorem monoP {K : PySem.W.Frag} {n : Nat} : MonoS (isP K n) := fun _ _ _ _ s ⟨a, dx, fs, e, h, r⟩ => ⟨a, dx, fs, e, s a _ h r.2.2.2.2, r⟩
end Kq

set_option Elab.async false
set_option linter.all false
set_option maxHeartbeats 4000000
/-! rows: their vectors, crossing, product, columns -/
namespace Kq
open XG
abbrev V2 : Type := Nat × Nat
def Row.xz (r : Row) : V2 := (r.x, r.z)
theorem xo2 (a b : V2) : xo a b = (a.1 ^^^ b.1, a.2 ^^^ b.2) := rfl
theorem ze2 : (ze : V2) = (0, 0) := rfl
/-- 1 if they do not commute -/
def cr2 (a b : V2) : Nat := (par a.1 b.2 + par a.2 b.1) % 2
def cr (a b : Row) : Nat := cr2 a.xz b.xz
theorem cr2_lt (a b : V2) : cr2 a b < 2 := Nat.mod_lt _ (by decide)
theorem cr2_comm (a b : V2) : cr2 a b = cr2 b a := by unfold cr2; rw [par_comm a.1, par_comm a.2, Nat.add_comm]
theorem cr2_xo (a b c : V2) : cr2 (xo a b) c = (cr2 a c + cr2 b c) % 2 := by
  unfold cr2
  rw [xo2]
  show (par (a.1 ^^^ b.1) c.2 + par (a.2 ^^^ b.2) c.1) % 2 = _
  rw [par_xor, par_xor]; omega
theorem cr2_xo' (a b c : V2) : cr2 a (xo b c) = (cr2 a b + cr2 a c) % 2 := by rw [cr2_comm, cr2_xo, cr2_comm b, cr2_comm c]
theorem cr2_ze (a : V2) : cr2 ze a = 0 := by unfold cr2; rw [ze2]; show (par 0 a.2 + par 0 a.1) % 2 = 0; rw [par_zero, par_zero]
theorem cr2_ze' (a : V2) : cr2 a ze = 0 := by rw [cr2_comm, cr2_ze]
theorem cr2_self (a : V2) : cr2 a a = 0 := by unfold cr2; rw [par_comm a.2]; omega
theorem cr2_span {L : List V2} {a : V2} (h : ∀ b ∈ L, cr2 a b = 0) {x : V2} (hx : Sn L x) : cr2 a x = 0 :=
  hx.all (p := fun x => cr2 a x = 0) (cr2_ze' a) (fun u v hu hv => by rw [cr2_xo', hu, hv]) h
theorem cr2_span' {L : List V2} {a : V2} (h : ∀ b ∈ L, cr2 b a = 0) {x : V2} (hx : Sn L x) : cr2 x a = 0 := by
  rw [cr2_comm]; exact cr2_span (fun b hb => by rw [cr2_comm]; exact h b hb) hx
theorem cr_is (a b : Row) : (pc (a.x &&& b.z) + pc (a.z &&& b.x)) &&& 1 = cr a b := by
  rw [Nat.and_one_is_mod]
  unfold cr cr2 par
  show _ = (pc (a.x &&& b.z) % 2 + pc (a.z &&& b.x) % 2) % 2
  omega
/-- the product's sign -/
def rpI (a b : Row) : Int := (((pc (a.x &&& a.z) + pc (b.x &&& b.z) : Nat) : Int) - ((pc ((a.x ^^^ b.x) &&& (a.z ^^^ b.z)) : Nat) : Int)) + ((2 * (pc (a.z &&& b.x) + a.s + b.s) : Nat) : Int)
def rp (a b : Row) : Row := ⟨a.x ^^^ b.x, a.z ^^^ b.z, (rpI a b / 2 % 2).toNat⟩
theorem rp_xz (a b : Row) : (rp a b).xz = xo a.xz b.xz := rfl
theorem rp_ok {n : Nat} {a b : Row} (ha : a.ok n) (hb : b.ok n) : (rp a b).ok n :=
  ⟨Nat.xor_lt_two_pow ha.1 hb.1, Nat.xor_lt_two_pow ha.2.1 hb.2.1, by show (rpI a b / 2 % 2).toNat < 2; omega⟩
theorem rp_s (a b : Row) : (rpI a b / 2 % 2) = ((rp a b).s : Int) := by
  show _ = ((rpI a b / 2 % 2).toNat : Int)
  rw [Int.toNat_of_nonneg (Int.emod_nonneg _ (by decide))]
/-- a column's bit -/
def colOf (n : Nat) (r : Row) (c : Nat) : Nat := if c < n then (r.x.testBit c).toNat else (r.z.testBit (c - n)).toNat
theorem colOf_lt (n : Nat) (r : Row) (c : Nat) : colOf n r c < 2 := by
  unfold colOf; split
  · exact Bool.toNat_lt _
  · exact Bool.toNat_lt _
theorem colOf_rp (n : Nat) (a b : Row) (c : Nat) : colOf n (rp a b) c = (colOf n a c + colOf n b c) % 2 := by
  unfold colOf
  split
  · show ((a.x ^^^ b.x).testBit c).toNat = _
    rw [Nat.testBit_xor]; cases a.x.testBit c <;> cases b.x.testBit c <;> rfl
  · show ((a.z ^^^ b.z).testBit (c - n)).toNat = _
    rw [Nat.testBit_xor]; cases a.z.testBit (c - n) <;> cases b.z.testBit (c - n) <;> rfl
theorem colOf_zero {n : Nat} {r : Row} (h : r.ok n) (hc : ∀ c, c < 2 * n → colOf n r c = 0) : r.xz = ze := by
  have hx : r.x = 0 := by
    apply Nat.eq_of_testBit_eq
    intro i
    rw [Nat.zero_testBit]
    cases e : r.x.testBit i
    · rfl
    · have hi := bit_lt h.1 e
      have := hc i (by omega)
      unfold colOf at this
      rw [if_pos hi, e] at this
      cases this
  have hz : r.z = 0 := by
    apply Nat.eq_of_testBit_eq
    intro i
    rw [Nat.zero_testBit]
    cases e : r.z.testBit i
    · rfl
    · have hi := bit_lt h.2.1 e
      have := hc (n + i) (by omega)
      unfold colOf at this
      rw [if_neg (by omega), Nat.add_sub_cancel_left, e] at this
      cases this
  show (r.x, r.z) = (0, 0)
  rw [hx, hz]
section
variable {α : Type} [XG α]
theorem mem_idx {β : Type} {L : List β} {i : Nat} {a : β} (h : L[i]? = some a) : a ∈ L := List.mem_of_getElem? h
/-- a row by its sum with another one -/
theorem Sn.setx {L : List α} {k p : Nat} {a h : α} (ek : L[k]? = some a) (ep : L[p]? = some h) (ne : k ≠ p) (x : α) : Sn (L.set k (XG.xo a h)) x ↔ Sn L x := by
  constructor
  · refine Sn.sub fun b hb => ?_
    rcases List.mem_or_eq_of_mem_set hb with hb | rfl
    · exact Sn.mem hb
    · exact (Sn.mem (mem_idx ek)).xo (Sn.mem (mem_idx ep))
  · have hlt : k < L.length := (List.getElem?_eq_some_iff.mp ek).1
    have hp : Sn (L.set k (XG.xo a h)) h := Sn.mem (mem_idx (i := p) (by rw [List.getElem?_set_ne ne]; exact ep))
    have hk : Sn (L.set k (XG.xo a h)) a := by
      have h1 : Sn (L.set k (XG.xo a h)) (XG.xo a h) := Sn.mem (mem_idx (i := k) (by rw [List.getElem?_set_self hlt]))
      have := h1.xo hp
      rw [xo_cancel] at this
      exact this
    refine Sn.sub fun b hb => ?_
    obtain ⟨i, hi⟩ := List.getElem?_of_mem hb
    by_cases e : i = k
    · subst e; rw [ek] at hi; cases hi; exact hk
    · exact Sn.mem (mem_idx (i := i) (by rw [List.getElem?_set_ne (fun z => e z.symm)]; exact hi))
theorem mem_swap {β : Type} {L : List β} {k p : Nat} {a b : β} (ek : L[k]? = some b) (ep : L[p]? = some a) (x : β) : x ∈ (L.set p b).set k a ↔ x ∈ L := by
  have hk : k < L.length := (List.getElem?_eq_some_iff.mp ek).1
  have hp : p < L.length := (List.getElem?_eq_some_iff.mp ep).1
  constructor
  · intro h
    rcases List.mem_or_eq_of_mem_set h with h | rfl
    · rcases List.mem_or_eq_of_mem_set h with h | rfl
      · exact h
      · exact mem_idx ek
    · exact mem_idx ep
  · intro h
    obtain ⟨i, hi⟩ := List.getElem?_of_mem h
    by_cases e : i = p
    · subst e; rw [ep] at hi; cases hi
      exact mem_idx (i := k) (by rw [List.getElem?_set_self (by simpa using hk)])
    · by_cases e2 : i = k
      · subst e2; rw [ek] at hi; cases hi
        refine mem_idx (i := p) ?_
        rw [List.getElem?_set_ne e, List.getElem?_set_self hp]
      · refine mem_idx (i := i) ?_
        rw [List.getElem?_set_ne (fun z => e2 z.symm), List.getElem?_set_ne (fun z => e z.symm)]; exact hi
theorem Sn.mems {L M : List α} (h : ∀ a, a ∈ L ↔ a ∈ M) (x : α) : Sn L x ↔ Sn M x := ⟨Sn.mono fun a ha => (h a).mp ha, Sn.mono fun a ha => (h a).mpr ha⟩
theorem Sn.nils {L M : List α} (h : ∀ a ∈ M, a = ze) (x : α) : Sn (L ++ M) x ↔ Sn L x := by
  constructor
  · refine Sn.sub fun a ha => ?_
    rcases List.mem_append.mp ha with ha | ha
    · exact Sn.mem ha
    · rw [h a ha]; exact .zero
  · exact Sn.mono fun a ha => List.mem_append_left _ ha
end
end Kq

set_option Elab.async false
set_option linter.all false
set_option maxRecDepth 100000
set_option maxHeartbeats 4000000
/-! more steps -/
namespace Kq
open PySem PySem.Spec PyProof.Rows L2
section
variable {K : PySem.W.Frag} {σ : L2.St} {H : Hp} {Q : VK} {ta tb tc te : TE} {D : Ends}
theorem s_aug {i : Nat} {ti : TIp} {x : V} (h : σ[i]? = some (some x)) (q : te σ H fun y H1 => ti x y H1 fun z H2 => D.nx (σ.set i (some z)) H2) : tAug i te ti D σ H := ⟨x, h, q⟩
theorem s_ipN {a b : Nat} {R : V → Hp → Prop} (q : R (nV (a + b)) H) : ipI (fun i j => i + j) (nV a) (nV b) H R := ⟨_, _, rfl, rfl, by show R (V.int ((a : Int) + (b : Int))) H; rw [← Int.natCast_add]; exact q⟩
theorem s_ip {a b : Int} {R : V → Hp → Prop} (q : R (.int (a + b)) H) : ipI (fun i j => i + j) (.int a) (.int b) H R := ⟨_, _, rfl, rfl, q⟩
theorem s_gsub {to ti : TE} {t : TSet} {v : V} {N : L2.St → Hp → Prop} (h : to σ H fun o H1 => ti σ H1 fun i H2 => t o i v H2 fun H3 => N σ H3) : gSub to ti t v σ H N := h
theorem s_setL {p : Addr} {xs : List V} {j : Nat} {v : V} {R : Hp → Prop} (h : H p = some (.lst xs)) (hj : j < xs.length) (q : R (upd H p (.lst (xs.set j v)))) : rSetL (.ref p) (nV j) v H R :=
  ⟨p, xs, (j : Int), j, rfl, rfl, h, by unfold ixN; rw [if_pos (by omega), if_pos (by omega), Int.toNat_natCast], q⟩
theorem s_wh {c : TT} {tb : TS} (h : ∃ W : Nat → L2.St → Hp → Prop, (∃ m, W m σ H) ∧ ∀ m σ H, W m σ H →
  c σ H fun b H1 => if b = true then ∃ N : L2.St → Hp → Prop, (∀ σ' H', N σ' H' → ∃ m', m' < m ∧ W m' σ' H') ∧ tb { D with nx := N, ct := N, bk := D.nx } σ H1 else D.nx σ H1) : tWhile c tb D σ H := h
theorem Itm.emp {α : Type} {R : Rp α} {vs : List V} {l : List α} (h : Itm R H vs l) : vs.isEmpty = l.isEmpty := by cases h <;> rfl
theorem s_neNilN {p q : Addr} {ns : List Nat} (h : H p = some (.lst (ns.map nV))) (h2 : H q = some (.lst [])) (k : Q (.bl (!ns.isEmpty)) H) : rNilE true (.ref p) (.ref q) H Q :=
  ⟨p, q, _, rfl, rfl, h, h2, fun v hv => by obtain ⟨n, _, rfl⟩ := List.mem_map.mp hv; exact .inl ⟨n, rfl⟩, by rw [List.isEmpty_map, Bool.true_xor]; exact k⟩
theorem s_eqNilN {p q : Addr} {ns : List Nat} (h : H p = some (.lst (ns.map nV))) (h2 : H q = some (.lst [])) (k : Q (.bl ns.isEmpty) H) : rNilE false (.ref p) (.ref q) H Q :=
  ⟨p, q, _, rfl, rfl, h, h2, fun v hv => by obtain ⟨n, _, rfl⟩ := List.mem_map.mp hv; exact .inl ⟨n, rfl⟩, by rw [List.isEmpty_map, Bool.false_xor]; exact k⟩
theorem row_items {xs : List V} {rows : List Row} (h : Itm isRow H xs rows) : ∀ v ∈ xs, (∃ n : Nat, v = nV n) ∨ ∃ (t : Addr) (ns : List Nat), v = .ref t ∧ H t = some (.tup (ns.map nV)) := fun v hv => by
  obtain ⟨i, hi⟩ := List.getElem?_of_mem hv
  obtain ⟨r, _, p, rfl, hp⟩ := h.get hi
  exact .inr ⟨p, [r.x, r.z, r.s], rfl, hp⟩
theorem s_neNilR {p q : Addr} {xs : List V} {rows : List Row} (h : H p = some (.lst xs)) (hi : Itm isRow H xs rows) (h2 : H q = some (.lst [])) (k : Q (.bl (!rows.isEmpty)) H) : rNilE true (.ref p) (.ref q) H Q :=
  ⟨p, q, _, rfl, rfl, h, h2, row_items hi, by rw [Bool.true_xor, hi.emp]; exact k⟩
theorem s_eqNilR {p q : Addr} {xs : List V} {rows : List Row} (h : H p = some (.lst xs)) (hi : Itm isRow H xs rows) (h2 : H q = some (.lst [])) (k : Q (.bl rows.isEmpty) H) : rNilE false (.ref p) (.ref q) H Q :=
  ⟨p, q, _, rfl, rfl, h, h2, row_items hi, by rw [Bool.false_xor, hi.emp]; exact k⟩
theorem s_join {r : V → List V → Hp → VK → Prop} {to : TE} (h : to σ H fun x H1 => (∃ a, x = .str a) ∧ te σ H1 fun y H2 => r x [y] H2 Q) : tM1 r to te σ H Q := h
theorem s_addS2 {a b : List Nat} {R : Str → Str → Prop} (h : a.length + b.length ≤ 100000) (q : R (sOf a) (sOf b)) : ∃ i j, V.str (sOf a) = .str i ∧ V.str (sOf b) = .str j ∧ i.length + j.length ≤ sizeLine ∧ R i j :=
  ⟨_, _, rfl, rfl, by rw [sOf_len, sOf_len]; exact Nat.le_trans h (by decide), q⟩
theorem s_dgetK {td ty : TE} (h : td σ H fun x H1 => ty σ H1 fun y H2 => ∃ a v, x = .ref a ∧ DGet H2 a y (some v) ∧ Q v H2) : tDGet td ty σ H Q := h
theorem s_dput {td ty tv : TE} (h : tv σ H fun v H1 => td σ H1 fun x H2 => ty σ H2 fun y H3 => ∃ a H4, x = .ref a ∧ DPut H3 a y v H4 ∧ D.nx σ H4) : sDPut td ty tv D σ H := h
theorem s_lc2 {wi : TI} {g : TG} {tt : TT} {wi1 : TI} {g1 : TG} {tt1 : TT} {te : TE} {vs vs1 : List Nat} (h : wi σ H fun J H1 => ∀ D, H1 D = none → ∃ W : Nat → Nat → Hp → Prop, (∃ m, W 0 m (upd H1 D (.lst []))) ∧ ∀ i m H, W i m H →
  (J.stop i H ∧ Q (.ref D) H) ∨ (J.go i H ∧ ∃ Nx : Hp → Prop, (∀ H', Nx H' → ∃ m', m' < m ∧ W (i + 1) m' H') ∧ ∀ x H', J.yld i H x H' → g x (wipe σ vs) H' fun σ2 H2 => wipe σ2 vs = wipe σ vs ∧ tt σ2 H2 fun b H3 =>
    if b = true then wi1 σ2 H3 fun J1 H4 => ∃ W1 : Nat → Nat → Hp → Prop, (∃ m, W1 0 m H4) ∧ ∀ j k H, W1 j k H →
      (J1.stop j H ∧ Nx H) ∨ (J1.go j H ∧ ∃ Nx1 : Hp → Prop, (∀ H', Nx1 H' → ∃ k', k' < k ∧ W1 (j + 1) k' H') ∧ ∀ x H', J1.yld j H x H' → g1 x (wipe σ2 vs1) H' fun σ3 H5 => wipe σ3 vs1 = wipe σ2 vs1 ∧ tt1 σ3 H5 fun b H6 =>
        if b = true then te σ3 H6 fun y H7 => ∃ acc, H7 D = some (.lst acc) ∧ acc.length < sizeLine ∧ Nx1 (upd H7 D (.lst (acc ++ [y]))) else Nx1 H6)
    else Nx H3)) : tLc2 wi g tt wi1 g1 tt1 te vs vs1 σ H Q := h
theorem s_make {C : Addr} {sp : Sp} {dvs : List V} {E : XK} {t : TA} (h : t σ H fun vs H1 => ∀ x dx, H1 x = none → H1 dx = none → dx ≠ x →
  sp (.ref x :: (vs ++ dvs)) (upd (upd H1 dx (.own x)) x (.ins C dx [])) (fun v H2 => v = .non ∧ Q (.ref x) H2) E) : tMake C sp dvs E t σ H Q := h
theorem s_din {td ty : TE} {R : Bool → Hp → Prop} (h : ty σ H fun y H1 => td σ H1 fun x H2 => (∃ a o, x = .ref a ∧ DGet H2 a y o ∧ R o.isSome H2) ∨ ∃ a kvs, x = .ref a ∧ y = .non ∧ Rd H2 a (.dK kvs) ∧ R false H2) :
  tDInN ty td σ H (fun v H' => ∃ k, v = .bl k ∧ R k H') := by
  have : (fun y H1 => td σ H1 fun x H2 => (∃ a o, x = .ref a ∧ DGet H2 a y o ∧ R o.isSome H2) ∨ ∃ a kvs, x = .ref a ∧ y = .non ∧ Rd H2 a (.dK kvs) ∧ R false H2) = (fun y H1 => td σ H1 fun x H2 => (∃ a o, x = V.ref a ∧ DGet H2 a y o ∧ ∃ k, V.bl o.isSome = .bl k ∧ R k H2) ∨ ∃ a kvs, x = .ref a ∧ y = .non ∧ Rd H2 a (.dK kvs) ∧ ∃ k, V.bl false = .bl k ∧ R k H2) := by
    funext y H1
    congr 1
    funext x H2
    simp
  rw [this] at h
  exact h
theorem Sol.upd' {H : Hp} {p : Addr} {o o' : HO} (h : H p = some o') (n : ¬ solid o') : Sol H (upd H p o) := fun b u e s => by
  have ne : b ≠ p := fun z => by subst z; rw [h] at e; cases e; exact n s
  rw [upd_ne ne]; exact e
theorem Sol.ins {H : Hp} {a C dx : Addr} {fs : List (Str × V)} {o : HO} (h : H a = some (.ins C dx fs)) (d : done fs = false) : Sol H (upd H a o) := Sol.upd' h fun z => by
  rw [show solid (.ins C dx fs) = (done fs = true) from rfl, d] at z; cases z
theorem lk_same {f : Str} {v : V} {fs : List (Str × V)} : List.lookup f (putF f v fs) = some v := by rw [lookup_putF, if_pos rfl]
theorem lk_keep {f g : Str} {v : V} {fs : List (Str × V)} {r : Option V} (h : g ≠ f) (l : List.lookup g fs = r) : List.lookup g (putF f v fs) = r := by rw [lookup_putF, if_neg h]; exact l
theorem done_put {f : Str} {v : V} {fs : List (Str × V)} (h : (Str.ofString "weight" ≠ f ∧ Str.ofString "rank" ≠ f) ∧ Str.ofString "hidden" ≠ f ∧ Str.ofString "inside" ≠ f) : done (putF f v fs) = done fs := by
  unfold done
  rw [lookup_putF, lookup_putF, lookup_putF, lookup_putF, if_neg h.1.1, if_neg h.1.2, if_neg h.2.1, if_neg h.2.2]
theorem len_put {f : Str} {v : V} : ∀ {fs : List (Str × V)}, (putF f v fs).length ≤ fs.length + 1
  | [] => by simp [putF]
  | (g, x) :: r => by
    unfold putF
    split
    · simp
    · have := len_put (f := f) (v := v) (fs := r)
      rw [List.length_cons, List.length_cons]; omega
end
end Kq

set_option Elab.async false
set_option linter.all false
set_option maxHeartbeats 4000000
/-! reduced rows -/
namespace Kq
open XG
structure Red (n m : Nat) (rows ls : List Row) (i pl : Nat) : Prop where
  len : ls.length = m
  le : pl ≤ m
  ok : ∀ r ∈ ls, r.ok n
  span : ∀ x, Sn (ls.map Row.xz) x ↔ Sn (rows.map Row.xz) x
  low : ∀ k r, pl ≤ k → ls[k]? = some r → ∀ c, c < i → colOf n r c = 0
structure Red2 (n m : Nat) (rows ls : List Row) (i pl j : Nat) (hd : Row) : Prop extends Red n m rows ls i pl where
  lt : pl < m
  at_ : ls[pl]? = some hd
  one : colOf n hd i ≠ 0
  done : ∀ k r, pl < k → k < j → ls[k]? = some r → colOf n r i = 0
theorem Red.init {n : Nat} {rows : List Row} (h : ∀ r ∈ rows, r.ok n) : Red n rows.length rows rows 0 0 := ⟨rfl, Nat.zero_le _, h, fun _ => Iff.rfl, fun _ _ _ _ c hc => by omega⟩
theorem Red.none {n m : Nat} {rows ls : List Row} {i pl : Nat} (h : Red n m rows ls i pl) (hc : ∀ k r, pl ≤ k → ls[k]? = some r → colOf n r i = 0) : Red n m rows ls (i + 1) pl :=
  ⟨h.len, h.le, h.ok, h.span, fun k r hk e c hlt => by
    by_cases e2 : c = i
    · subst e2; exact hc k r hk e
    · exact h.low k r hk e c (by omega)⟩
theorem Red.swap {n m : Nat} {rows ls : List Row} {i pl f : Nat} {a b : Row} (h : Red n m rows ls i pl) (ea : ls[pl]? = some a) (eb : ls[f]? = some b) (hf : pl ≤ f) (hb : colOf n b i ≠ 0) : Red2 n m rows ((ls.set pl b).set f a) i pl 0 b := by
  have hp : pl < ls.length := (List.getElem?_eq_some_iff.mp ea).1
  have hfl : f < ls.length := (List.getElem?_eq_some_iff.mp eb).1
  have hmem : ∀ x, x ∈ (ls.set pl b).set f a ↔ x ∈ ls := fun x => mem_swap eb ea x
  refine ⟨⟨by simp [h.len], h.le, fun r hr => h.ok r ((hmem r).mp hr), fun x => ?_, fun k r hk e => ?_⟩, by rw [← h.len]; exact hp, ?_, hb, fun k r _ hk => by omega⟩
  · rw [← h.span]
    exact Sn.mems (fun c => by
      rw [List.mem_map, List.mem_map]
      exact ⟨fun ⟨r, hr, e⟩ => ⟨r, (hmem r).mp hr, e⟩, fun ⟨r, hr, e⟩ => ⟨r, (hmem r).mpr hr, e⟩⟩) x
  · by_cases e1 : k = f
    · subst e1
      rw [List.getElem?_set_self (by simpa using hfl)] at e
      cases e
      exact h.low pl _ (Nat.le_refl _) ea
    · rw [List.getElem?_set_ne (fun z => e1 z.symm)] at e
      by_cases e2 : k = pl
      · subst e2
        rw [List.getElem?_set_self hp] at e
        cases e
        exact h.low f _ hf eb
      · rw [List.getElem?_set_ne (fun z => e2 z.symm)] at e
        exact h.low k r hk e
  · by_cases e1 : f = pl
    · subst e1
      rw [ea] at eb; cases eb
      rw [List.getElem?_set_self (by simpa using hp)]
    · rw [List.getElem?_set_ne e1, List.getElem?_set_self hp]
theorem Red2.skip {n m : Nat} {rows ls : List Row} {i pl j : Nat} {hd : Row} (h : Red2 n m rows ls i pl j hd) (hj : j = pl ∨ ∀ r, ls[j]? = some r → colOf n r i = 0) : Red2 n m rows ls i pl (j + 1) hd :=
  ⟨h.toRed, h.lt, h.at_, h.one, fun k r hk hlt e => by
    by_cases e2 : k = j
    · subst e2
      rcases hj with hj | hj
      · omega
      · exact hj r e
    · exact h.done k r hk (by omega) e⟩
theorem Red2.put {n m : Nat} {rows ls : List Row} {i pl j : Nat} {hd r : Row} (h : Red2 n m rows ls i pl j hd) (hj : j ≠ pl) (er : ls[j]? = some r) (hr : colOf n r i ≠ 0) : Red2 n m rows (ls.set j (rp r hd)) i pl (j + 1) hd := by
  have hjl : j < ls.length := (List.getElem?_eq_some_iff.mp er).1
  refine ⟨⟨by simp [h.len], h.le, fun q hq => ?_, fun x => ?_, fun k q hk e c hc => ?_⟩, h.lt, by rw [List.getElem?_set_ne hj]; exact h.at_, h.one, fun k q hk hlt e => ?_⟩
  · rcases List.mem_or_eq_of_mem_set hq with hq | rfl
    · exact h.ok q hq
    · exact rp_ok (h.ok r (mem_idx er)) (h.ok hd (mem_idx h.at_))
  · rw [← h.span, List.map_set, rp_xz]
    exact Sn.setx (k := j) (p := pl) (by rw [List.getElem?_map, er]; rfl) (by rw [List.getElem?_map, h.at_]; rfl) hj x
  · by_cases e2 : k = j
    · subst e2
      rw [List.getElem?_set_self hjl] at e
      cases e
      rw [colOf_rp, h.low k r hk er c hc, h.low pl hd (Nat.le_refl _) h.at_ c hc]
    · rw [List.getElem?_set_ne (fun z => e2 z.symm)] at e
      exact h.low k q hk e c hc
  · by_cases e2 : k = j
    · subst e2
      rw [List.getElem?_set_self hjl] at e
      cases e
      have h1 := colOf_lt n r i
      have h2 := colOf_lt n hd i
      have h3 := h.one
      rw [colOf_rp, show colOf n r i = 1 by omega, show colOf n hd i = 1 by omega]
    · rw [List.getElem?_set_ne (fun z => e2 z.symm)] at e
      exact h.done k q hk (by omega) e
theorem Red2.fin {n m : Nat} {rows ls : List Row} {i pl : Nat} {hd : Row} (h : Red2 n m rows ls i pl m hd) : Red n m rows ls (i + 1) (pl + 1) :=
  ⟨h.len, h.lt, h.ok, h.span, fun k r hk e c hc => by
    by_cases e2 : c = i
    · subst e2
      exact h.done k r (by omega) (by rw [← h.len]; exact (List.getElem?_eq_some_iff.mp e).1) e
    · exact h.low k r (by omega) e c (by omega)⟩
theorem Red.fin {n m : Nat} {rows ls : List Row} {pl : Nat} (h : Red n m rows ls (2 * n) pl) (x : V2) : Sn ((ls.take pl).map Row.xz) x ↔ Sn (rows.map Row.xz) x := by
  rw [← h.span]
  have e : ls.map Row.xz = (ls.take pl).map Row.xz ++ (ls.drop pl).map Row.xz := by rw [← List.map_append, List.take_append_drop]
  rw [e, Sn.nils fun a ha => ?_]
  obtain ⟨r, hr, rfl⟩ := List.mem_map.mp ha
  obtain ⟨k, hk⟩ := List.getElem?_of_mem hr
  rw [List.getElem?_drop] at hk
  exact colOf_zero (h.ok r (mem_idx hk)) (h.low _ r (Nat.le_add_right _ _) hk)
end Kq
namespace Kq
open XG
def firstCol (n : Nat) (r : Row) : Option Nat := (List.range (2 * n)).find? fun c => decide (colOf n r c ≠ 0)
theorem range_find_some {p : Nat → Bool} : ∀ {m c : Nat}, (List.range m).find? p = some c ↔ c < m ∧ p c = true ∧ ∀ d, d < c → p d = false
  | 0, c => by simp
  | m + 1, c => by
    rw [List.range_succ, List.find?_append]
    cases e : (List.range m).find? p with
    | some d =>
      have h := range_find_some.mp e
      simp only [Option.some_or, Option.some.injEq]
      constructor
      · rintro rfl; exact ⟨by omega, h.2⟩
      · rintro ⟨h1, h2, h3⟩
        have a : ¬ c < d := fun z => by rw [h.2.2 c z] at h2; cases h2
        have b : ¬ d < c := fun z => by have := h3 d z; rw [h.2.1] at this; cases this
        omega
    | none =>
      have h := List.find?_eq_none.mp e
      simp only [Option.none_or]
      constructor
      · intro hc
        have := List.find?_some hc
        have hm := List.mem_of_find?_eq_some hc
        rw [List.mem_singleton] at hm
        subst hm
        exact ⟨by omega, this, fun d hd => by have := h d (List.mem_range.mpr hd); simpa using this⟩
      · rintro ⟨h1, h2, h3⟩
        have : c = m := by
          apply Classical.byContradiction
          intro z
          exact h c (List.mem_range.mpr (by omega)) h2
        subst this
        rw [List.find?_cons, h2]
theorem firstCol_some {n c : Nat} {r : Row} : firstCol n r = some c ↔ c < 2 * n ∧ colOf n r c ≠ 0 ∧ ∀ d, d < c → colOf n r d = 0 := by
  unfold firstCol
  rw [range_find_some]
  simp
theorem firstCol_none {n : Nat} {r : Row} : firstCol n r = none ↔ ∀ c, c < 2 * n → colOf n r c = 0 := by
  unfold firstCol
  rw [List.find?_eq_none]
  simp
theorem firstCol_rp {n c : Nat} {a b : Row} (ha : firstCol n a = some c) (hb : firstCol n b = some c) : ∀ d, firstCol n (rp a b) = some d → c < d := fun d hd => by
  obtain ⟨a1, a2, a3⟩ := firstCol_some.mp ha
  obtain ⟨b1, b2, b3⟩ := firstCol_some.mp hb
  obtain ⟨d1, d2, d3⟩ := firstCol_some.mp hd
  rw [colOf_rp] at d2
  apply Classical.byContradiction
  intro h
  rcases Nat.lt_or_ge d c with h1 | h1
  · rw [a3 d h1, b3 d h1] at d2; exact d2 rfl
  · obtain rfl : d = c := by omega
    have e1 := colOf_lt n a d
    have e2 := colOf_lt n b d
    rw [show colOf n a d = 1 by omega, show colOf n b d = 1 by omega] at d2
    exact d2 rfl
end Kq

set_option Elab.async false
set_option linter.all false
set_option maxHeartbeats 4000000
/-! bases in order; numbers of vectors; pairing -/
namespace Kq
open XG
structure Ech (t : List Nat) : Prop where
  nz : ∀ h ∈ t, h ≠ 0
  pw : t.Pairwise fun a b => b.testBit a.log2 = false
theorem Ech.nil : Ech [] := ⟨fun _ h => (nomatch h), List.Pairwise.nil⟩
theorem Ech.tail {h : Nat} {t : List Nat} (r : Ech (h :: t)) : Ech t := ⟨fun a ha => r.nz a (List.mem_cons_of_mem _ ha), (List.pairwise_cons.mp r.pw).2⟩
theorem Ech.head {h : Nat} {t : List Nat} (r : Ech (h :: t)) : ∀ a ∈ t, a.testBit h.log2 = false := (List.pairwise_cons.mp r.pw).1
theorem ech_bits : ∀ {t : List Nat} (n : Nat), Ech t → ∀ h ∈ t, (restBy t n).testBit h.log2 = false
  | [], _, _, h, hh => by cases hh
  | g :: t, n, r, h, hh => by
    show (restBy t (if n.testBit g.log2 = true then n ^^^ g else n)).testBit h.log2 = false
    rcases List.mem_cons.mp hh with rfl | hh
    · obtain ⟨s, hs, e⟩ := restBy_span t (if n.testBit h.log2 = true then n ^^^ h else n)
      rw [e, Nat.testBit_xor, hs.nobit (k := h.log2) fun a ha => r.head a ha]
      by_cases hb : n.testBit h.log2 = true
      · rw [if_pos hb, Nat.testBit_xor, hb, bit_top (r.nz h List.mem_cons_self)]; rfl
      · rw [if_neg hb]; simpa using hb
    · exact ech_bits _ r.tail h hh
theorem Ech.zero : ∀ {t : List Nat}, Ech t → ∀ {x : Nat}, Sn t x → (∀ h ∈ t, x.testBit h.log2 = false) → x = 0
  | [], _, x, hx, _ => Sn.nil.mp hx
  | g :: t, r, x, hx, hb => by
    rcases Sn.cons.mp hx with hx | hx
    · exact Ech.zero r.tail hx fun h hh => hb h (List.mem_cons_of_mem _ hh)
    · exfalso
      have h1 : (x ^^^ g).testBit g.log2 = false := hx.nobit fun a ha => r.head a ha
      rw [Nat.testBit_xor, hb g List.mem_cons_self, bit_top (r.nz g List.mem_cons_self)] at h1
      cases h1
theorem ech_rest {t : List Nat} (r : Ech t) {n : Nat} : restBy t n = 0 ↔ Sn t n := by
  obtain ⟨s, hs, e⟩ := restBy_span t n
  constructor
  · intro h
    rw [e] at h
    rw [show n = s from xo_ze h]
    exact hs
  · intro h
    refine r.zero (x := restBy t n) ?_ (ech_bits n r)
    rw [e]
    exact h.xo hs
theorem Ech.ind : ∀ {t : List Nat}, Ech t → Ind t
  | [], _ => trivial
  | g :: t, r => by
    refine ⟨fun h => ?_, Ech.ind r.tail⟩
    have h1 := h.nobit (k := g.log2) fun a ha => r.head a ha
    rw [bit_top (r.nz g List.mem_cons_self)] at h1
    cases h1
def baseStep (b : List Nat) (n : Nat) : List Nat := if restBy b n ≠ 0 then b ++ [restBy b n] else b
def basisOf (ns b : List Nat) : List Nat := ns.foldl baseStep b
theorem baseStep_ok {b : List Nat} (h : Ech b) (n : Nat) : Ech (baseStep b n) ∧ (∀ x, Sn (baseStep b n) x ↔ Sn (b ++ [n]) x) ∧ (baseStep b n).length ≤ b.length + 1 := by
  obtain ⟨s, hs, e⟩ := restBy_span b n
  unfold baseStep
  by_cases h0 : restBy b n ≠ 0
  · rw [if_pos h0]
    refine ⟨⟨fun a ha => ?_, ?_⟩, fun x => ⟨fun hx => hx.sub fun a ha => ?_, fun hx => hx.sub fun a ha => ?_⟩, by simp⟩
    · rcases List.mem_append.mp ha with ha | ha
      · exact h.nz a ha
      · rw [List.mem_singleton.mp ha]; exact h0
    · rw [List.pairwise_append]
      refine ⟨h.pw, List.pairwise_singleton .., fun a ha b' hb' => ?_⟩
      rw [List.mem_singleton.mp hb']
      exact ech_bits n h a ha
    · rcases List.mem_append.mp ha with ha | ha
      · exact Sn.mem (List.mem_append_left _ ha)
      · rw [List.mem_singleton.mp ha, e]
        exact (Sn.mem (List.mem_append_right _ (List.mem_singleton.mpr rfl))).xo (hs.mono fun c hc => List.mem_append_left _ hc)
    · rcases List.mem_append.mp ha with ha | ha
      · exact Sn.mem (List.mem_append_left _ ha)
      · rw [List.mem_singleton.mp ha]
        have h1 : Sn (b ++ [restBy b n]) (restBy b n) := Sn.mem (List.mem_append_right _ (List.mem_singleton.mpr rfl))
        have h2 := h1.xo (hs.mono fun c hc => List.mem_append_left _ hc)
        rw [e, xoN, Nat.xor_assoc, Nat.xor_self, Nat.xor_zero] at h2
        rw [e]
        exact h2
  · rw [if_neg h0]
    have hn : Sn b n := (ech_rest h).mp (by simpa using h0)
    refine ⟨h, fun x => ?_, by omega⟩
    rw [Sn.app1]
    exact ⟨.inl, fun z => z.elim id fun z => by have := z.xo hn; rw [xo_cancel] at this; exact this⟩
theorem basis_ok {b : List Nat} (h : Ech b) (ns : List Nat) : Ech (basisOf ns b) ∧ (∀ x, Sn (basisOf ns b) x ↔ Sn (b ++ ns) x) ∧ (basisOf ns b).length ≤ b.length + ns.length := by
  induction ns using snoc_ind with
  | h0 => exact ⟨h, fun x => by rw [List.append_nil]; exact Iff.rfl, by simp [basisOf]⟩
  | h1 ns n ih =>
    have e : basisOf (ns ++ [n]) b = baseStep (basisOf ns b) n := by unfold basisOf; rw [List.foldl_append]; rfl
    rw [e]
    obtain ⟨h1, h2, h3⟩ := baseStep_ok ih.1 n
    refine ⟨h1, fun x => ?_, by rw [List.length_append, List.length_singleton]; omega⟩
    rw [h2, Sn.app1, ← List.append_assoc, Sn.app1, ih.2.1, ih.2.1]
theorem lt_tb : ∀ (i : Nat) {n m : Nat}, n.testBit i = false → m.testBit i = true → (∀ j, i < j → n.testBit j = m.testBit j) → n < m
  | 0, n, m, h1, h2, h3 => by
    have e : n / 2 = m / 2 := by
      apply Nat.eq_of_testBit_eq
      intro j
      rw [← Nat.testBit_add_one, ← Nat.testBit_add_one]
      exact h3 (j + 1) (by omega)
    have a := mod2 n
    have b := mod2 m
    rw [h1] at a
    rw [h2] at b
    simp at a b
    omega
  | i + 1, n, m, h1, h2, h3 => by
    have : n / 2 < m / 2 := lt_tb i (by rw [← Nat.testBit_add_one]; exact h1) (by rw [← Nat.testBit_add_one]; exact h2) fun j hj => by
      rw [← Nat.testBit_add_one, ← Nat.testBit_add_one]
      exact h3 (j + 1) (by omega)
    omega
theorem xor_lt_iff {n h : Nat} (h0 : h ≠ 0) : n ^^^ h < n ↔ n.testBit h.log2 = true := by
  have hi : ∀ j, h.log2 < j → h.testBit j = false := fun j hj => Nat.testBit_lt_two_pow (Nat.lt_of_lt_of_le (lt_top h) (Nat.pow_le_pow_right (by decide) hj))
  cases e : n.testBit h.log2
  · constructor
    · intro hlt
      have : n < n ^^^ h := lt_tb h.log2 e (by rw [Nat.testBit_xor, e, bit_top h0]; rfl) fun j hj => by rw [Nat.testBit_xor, hi j hj, Bool.xor_false]
      omega
    · intro z; cases z
  · refine ⟨fun _ => rfl, fun _ => lt_tb h.log2 (by rw [Nat.testBit_xor, e, bit_top h0]; rfl) e fun j hj => by rw [Nat.testBit_xor, hi j hj, Bool.xor_false]⟩
theorem min_rest {n h : Nat} (h0 : h ≠ 0) : min n (n ^^^ h) = if n.testBit h.log2 = true then n ^^^ h else n := by
  have := xor_lt_iff (n := n) h0
  by_cases e : n.testBit h.log2 = true
  · rw [if_pos e, Nat.min_eq_right (Nat.le_of_lt (this.mpr e))]
  · rw [if_neg e, Nat.min_eq_left (Nat.le_of_not_lt fun z => e (this.mp z))]
/-! numbers of vectors -/
def enc (n : Nat) (v : V2) : Nat := v.1 ^^^ (v.2 <<< n)
theorem enc_ze (n : Nat) : enc n ze = 0 := by show 0 ^^^ (0 <<< n) = 0; simp
theorem shl_xor (a b n : Nat) : (a ^^^ b) <<< n = a <<< n ^^^ b <<< n := by
  apply Nat.eq_of_testBit_eq
  intro i
  rw [Nat.testBit_xor, Nat.testBit_shiftLeft, Nat.testBit_shiftLeft, Nat.testBit_shiftLeft, Nat.testBit_xor]
  cases decide (i ≥ n) <;> simp
theorem enc_xo (n : Nat) (a b : V2) : enc n (xo a b) = xo (enc n a) (enc n b) := by
  show (a.1 ^^^ b.1) ^^^ ((a.2 ^^^ b.2) <<< n) = (a.1 ^^^ (a.2 <<< n)) ^^^ (b.1 ^^^ (b.2 <<< n))
  rw [shl_xor]
  exact xo_swap (α := Nat) _ _ _ _
theorem enc_inj {n : Nat} {a b : V2} (ha : a.1 < 2 ^ n) (hb : b.1 < 2 ^ n) (h : enc n a = enc n b) : a = b := by
  have hk : ∀ x, x < 2 ^ n → ∀ k, n ≤ k → x.testBit k = false := fun x hx k hk => by
    cases e : x.testBit k
    · rfl
    · have := bit_lt hx e; omega
  have hbit : ∀ i, (a.1 ^^^ (a.2 <<< n)).testBit i = (b.1 ^^^ (b.2 <<< n)).testBit i := fun i => by
    have : a.1 ^^^ (a.2 <<< n) = b.1 ^^^ (b.2 <<< n) := h
    rw [this]
  refine Prod.ext (Nat.eq_of_testBit_eq fun i => ?_) (Nat.eq_of_testBit_eq fun i => ?_)
  · by_cases hi : i < n
    · have := hbit i
      rw [Nat.testBit_xor, Nat.testBit_xor, Nat.testBit_shiftLeft, Nat.testBit_shiftLeft, decide_eq_false (by omega)] at this
      simpa using this
    · rw [hk _ ha i (by omega), hk _ hb i (by omega)]
  · have := hbit (n + i)
    rw [Nat.testBit_xor, Nat.testBit_xor, Nat.testBit_shiftLeft, Nat.testBit_shiftLeft, decide_eq_true (by omega), hk _ ha _ (by omega), hk _ hb _ (by omega), Nat.add_sub_cancel_left] at this
    simpa using this
theorem enc_or {n : Nat} {x z : Nat} (h : x < 2 ^ n) : x ||| z <<< n = enc n (x, z) := by
  show _ = x ^^^ (z <<< n)
  apply Nat.eq_of_testBit_eq
  intro i
  rw [Nat.testBit_or, Nat.testBit_xor, Nat.testBit_shiftLeft]
  by_cases hi : i < n
  · rw [decide_eq_false (by omega)]; simp
  · have : x.testBit i = false := by
      cases e : x.testBit i
      · rfl
      · exact absurd (bit_lt h e) hi
    rw [this]; simp
/-! pairing -/
def addR (a b : Row) : Row := ⟨a.x ^^^ b.x, a.z ^^^ b.z, 0⟩
theorem addR_xz (a b : Row) : (addR a b).xz = xo a.xz b.xz := rfl
def clearedR (r one two : Row) : Row := if cr r one ≠ 0 then addR (if cr r two ≠ 0 then addR r one else r) two else if cr r two ≠ 0 then addR r one else r
theorem clearedR_cr {r one two : Row} (h : cr one two ≠ 0) (q : V2) : cr2 (clearedR r one two).xz q = (cr2 r.xz q + cr r two * cr2 one.xz q + cr r one * cr2 two.xz q) % 2 := by
  unfold clearedR
  have h1 : cr r one < 2 := cr2_lt _ _
  have h2 : cr r two < 2 := cr2_lt _ _
  have h3 := cr2_lt r.xz q
  rcases (by omega : cr r one = 0 ∨ cr r one = 1) with e1 | e1 <;> rcases (by omega : cr r two = 0 ∨ cr r two = 1) with e2 | e2 <;> rw [e1, e2] <;> simp only [ne_eq, not_true_eq_false, not_false_eq_true, if_true, if_false, Nat.zero_ne_one, Nat.one_ne_zero, addR_xz, cr2_xo] <;> omega
theorem clearedR_mem {L : List V2} {r one two : Row} (h : Sn L r.xz) (h1 : Sn L one.xz) (h2 : Sn L two.xz) : Sn L (clearedR r one two).xz := by
  unfold clearedR
  split <;> split
  · rw [addR_xz, addR_xz]; exact (h.xo h1).xo h2
  · rw [addR_xz]; exact h.xo h2
  · rw [addR_xz]; exact h.xo h1
  · exact h
theorem clearedR_back {L : List V2} {r one two : Row} (h : Sn L (clearedR r one two).xz) (h1 : Sn L one.xz) (h2 : Sn L two.xz) : Sn L r.xz := by
  unfold clearedR at h
  split at h <;> split at h
  · rw [addR_xz, addR_xz] at h
    have := (h.xo h2).xo h1
    rw [xo_cancel, xo_cancel] at this; exact this
  · rw [addR_xz] at h
    have := h.xo h2
    rw [xo_cancel] at this; exact this
  · rw [addR_xz] at h
    have := h.xo h1
    rw [xo_cancel] at this; exact this
  · exact h
theorem clearedR_ok {n : Nat} {r one two : Row} (h : r.ok n) (h1 : one.ok n) (h2 : two.ok n) : (clearedR r one two).ok n := by
  have ad : ∀ a b : Row, a.ok n → b.ok n → (addR a b).ok n := fun a b ha hb => ⟨Nat.xor_lt_two_pow ha.1 hb.1, Nat.xor_lt_two_pow ha.2.1 hb.2.1, by show 0 < 2; decide⟩
  unfold clearedR
  split <;> split
  · exact ad _ _ (ad _ _ h h1) h2
  · exact ad _ _ h h2
  · exact ad _ _ h h1
  · exact h
structure Prd (n : Nat) (sides left pl rest : List Row) : Prop where
  ok : ∀ r ∈ left ++ pl ++ rest, r.ok n
  to : ∀ r ∈ sides, Sn ((left ++ pl ++ rest).map Row.xz) r.xz
  of : ∀ r ∈ left ++ pl ++ rest, Sn (sides.map Row.xz) r.xz
  rest0 : ∀ r ∈ rest, ∀ q ∈ left ++ pl ++ rest, cr r q = 0
  pl0 : ∀ r ∈ pl, ∀ q ∈ left, cr r q = 0
theorem Prd.init {n : Nat} {sides : List Row} (h : ∀ r ∈ sides, r.ok n) : Prd n sides sides [] [] :=
  ⟨by simpa using h, fun r hr => by rw [List.append_nil, List.append_nil]; exact Sn.mem (List.mem_map_of_mem hr), fun r hr => by rw [List.append_nil, List.append_nil] at hr; exact Sn.mem (List.mem_map_of_mem hr), fun r hr => (by cases hr), fun r hr => (by cases hr)⟩
theorem cr_comm (a b : Row) : cr a b = cr b a := cr2_comm _ _
theorem Prd.none {n : Nat} {sides left pl rest : List Row} {one : Row} (h : Prd n sides (one :: left) pl rest) (h0 : ∀ q ∈ left, cr one q = 0) : Prd n sides left pl (rest ++ [one]) := by
  have hm : ∀ x, x ∈ left ++ pl ++ (rest ++ [one]) ↔ x ∈ one :: left ++ pl ++ rest := fun x => by
    simp only [List.mem_append, List.mem_cons, List.mem_singleton, List.not_mem_nil, or_false]
    constructor
    · rintro ((h | h) | (h | h))
      · exact .inl (.inl (.inr h))
      · exact .inl (.inr h)
      · exact .inr h
      · exact .inl (.inl (.inl h))
    · rintro (((h | h) | h) | h)
      · exact .inr (.inr h)
      · exact .inl (.inl h)
      · exact .inl (.inr h)
      · exact .inr (.inl h)
  refine ⟨fun r hr => h.ok r ((hm r).mp hr), fun r hr => (h.to r hr).mono fun a ha => ?_, fun r hr => h.of r ((hm r).mp hr), fun r hr q hq => ?_, fun r hr q hq => h.pl0 r hr q (List.mem_cons_of_mem _ hq)⟩
  · obtain ⟨x, hx, rfl⟩ := List.mem_map.mp ha
    exact List.mem_map_of_mem ((hm x).mpr hx)
  · have hq := (hm q).mp hq
    rcases List.mem_append.mp hr with hr | hr
    · exact h.rest0 r hr q hq
    · rw [List.mem_singleton.mp hr]
      rcases List.mem_append.mp hq with hq | hq
      · rcases List.mem_append.mp hq with hq | hq
        · rcases List.mem_cons.mp hq with rfl | hq
          · exact cr2_self _
          · exact h0 q hq
        · rw [cr_comm]; exact h.pl0 q hq one List.mem_cons_self
      · rw [cr_comm]
        exact h.rest0 q hq one (List.mem_append_left _ (List.mem_append_left _ List.mem_cons_self))
theorem Prd.two {n : Nat} {sides left pl rest : List Row} {one two : Row} {f : Nat} (h : Prd n sides (one :: left) pl rest) (hf : left[f]? = some two) (h1 : cr one two ≠ 0) :
    Prd n sides ((left.eraseIdx f).map fun o => clearedR o one two) (pl ++ [one, two]) rest := by
  have h11 : cr one two = 1 := by have : cr one two < 2 := cr2_lt _ _; omega
  have htwo : two ∈ left := mem_idx hf
  have her : ∀ x, x ∈ left.eraseIdx f → x ∈ left := fun x hx => List.mem_of_mem_eraseIdx hx
  have hcase : ∀ x ∈ left, x = two ∨ x ∈ left.eraseIdx f := fun x hx => by
    obtain ⟨i, hi⟩ := List.getElem?_of_mem hx
    by_cases e : i = f
    · subst e; rw [hf] at hi; exact .inl (Option.some.inj hi).symm
    · right
      rcases Nat.lt_or_ge i f with hlt | hge
      · exact mem_idx (i := i) (by rw [List.getElem?_eraseIdx, if_pos hlt]; exact hi)
      · exact mem_idx (i := i - 1) (by rw [List.getElem?_eraseIdx, if_neg (by omega), show i - 1 + 1 = i by omega]; exact hi)
  have m1 : one ∈ one :: left ++ pl ++ rest := List.mem_append_left _ (List.mem_append_left _ List.mem_cons_self)
  have m2 : two ∈ one :: left ++ pl ++ rest := List.mem_append_left _ (List.mem_append_left _ (List.mem_cons_of_mem _ htwo))
  have ml : ∀ x ∈ left, x ∈ one :: left ++ pl ++ rest := fun x hx => List.mem_append_left _ (List.mem_append_left _ (List.mem_cons_of_mem _ hx))
  have mp : ∀ x ∈ pl, x ∈ one :: left ++ pl ++ rest := fun x hx => List.mem_append_left _ (List.mem_append_right _ hx)
  have mr : ∀ x ∈ rest, x ∈ one :: left ++ pl ++ rest := fun x hx => List.mem_append_right _ hx
  have cases' : ∀ (p : Row → Prop), (∀ x ∈ left.eraseIdx f, p (clearedR x one two)) → (∀ x ∈ pl, p x) → p one → p two → (∀ x ∈ rest, p x) → ∀ x ∈ ((left.eraseIdx f).map fun o => clearedR o one two) ++ (pl ++ [one, two]) ++ rest, p x := fun p a b c d e x hx => by
    rcases List.mem_append.mp hx with hx | hx
    · rcases List.mem_append.mp hx with hx | hx
      · obtain ⟨y, hy, rfl⟩ := List.mem_map.mp hx
        exact a y hy
      · rcases List.mem_append.mp hx with hx | hx
        · exact b x hx
        · rcases List.mem_cons.mp hx with rfl | hx
          · exact c
          · rw [List.mem_singleton.mp hx]; exact d
    · exact e x hx
  refine ⟨cases' _ (fun x hx => clearedR_ok (h.ok x (ml x (her x hx))) (h.ok one m1) (h.ok two m2)) (fun x hx => h.ok x (mp x hx)) (h.ok one m1) (h.ok two m2) (fun x hx => h.ok x (mr x hx)), fun r hr => (h.to r hr).sub fun a ha => ?_,
    cases' _ (fun x hx => clearedR_mem (h.of x (ml x (her x hx))) (h.of one m1) (h.of two m2)) (fun x hx => h.of x (mp x hx)) (h.of one m1) (h.of two m2) (fun x hx => h.of x (mr x hx)), fun r hr => ?_, fun r hr q hq => ?_⟩
  · obtain ⟨x, hx, rfl⟩ := List.mem_map.mp ha
    have S1 : Sn ((((left.eraseIdx f).map fun o => clearedR o one two) ++ (pl ++ [one, two]) ++ rest).map Row.xz) one.xz := Sn.mem (List.mem_map_of_mem (by simp))
    have S2 : Sn ((((left.eraseIdx f).map fun o => clearedR o one two) ++ (pl ++ [one, two]) ++ rest).map Row.xz) two.xz := Sn.mem (List.mem_map_of_mem (by simp))
    rcases List.mem_append.mp hx with hx | hx
    · rcases List.mem_append.mp hx with hx | hx
      · rcases List.mem_cons.mp hx with rfl | hx
        · exact S1
        · rcases hcase x hx with rfl | hx
          · exact S2
          · refine clearedR_back (one := one) (two := two) (Sn.mem (List.mem_map_of_mem ?_)) S1 S2
            exact List.mem_append_left _ (List.mem_append_left _ (List.mem_map_of_mem (f := fun o => clearedR o one two) hx))
      · exact Sn.mem (List.mem_map_of_mem (List.mem_append_left _ (List.mem_append_right _ (List.mem_append_left _ hx))))
    · exact Sn.mem (List.mem_map_of_mem (List.mem_append_right _ hx))
  · refine cases' (fun q => cr r q = 0) (fun x hx => ?_) (fun x hx => h.rest0 r hr x (mp x hx)) (h.rest0 r hr one m1) (h.rest0 r hr two m2) (fun x hx => h.rest0 r hr x (mr x hx))
    show cr r (clearedR x one two) = 0
    rw [cr_comm]
    show cr2 (clearedR x one two).xz r.xz = 0
    rw [clearedR_cr h1]
    have a1 : cr2 x.xz r.xz = 0 := by rw [cr2_comm]; exact h.rest0 r hr x (ml x (her x hx))
    have a2 : cr2 one.xz r.xz = 0 := by rw [cr2_comm]; exact h.rest0 r hr one m1
    have a3 : cr2 two.xz r.xz = 0 := by rw [cr2_comm]; exact h.rest0 r hr two m2
    rw [a1, a2, a3]; rfl
  · obtain ⟨x, hx, rfl⟩ := List.mem_map.mp hq
    show cr r (clearedR x one two) = 0
    rw [cr_comm]
    show cr2 (clearedR x one two).xz r.xz = 0
    rw [clearedR_cr h1]
    rcases List.mem_append.mp hr with hr | hr
    · have a1 : cr2 x.xz r.xz = 0 := by rw [cr2_comm]; exact h.pl0 r hr x (List.mem_cons_of_mem _ (her x hx))
      have a2 : cr2 one.xz r.xz = 0 := by rw [cr2_comm]; exact h.pl0 r hr one List.mem_cons_self
      have a3 : cr2 two.xz r.xz = 0 := by rw [cr2_comm]; exact h.pl0 r hr two (List.mem_cons_of_mem _ htwo)
      rw [a1, a2, a3]; rfl
    · have hx1 : cr x one < 2 := cr2_lt _ _
      have hx2 : cr x two < 2 := cr2_lt _ _
      rcases List.mem_cons.mp hr with rfl | hr
      · have b1 : cr2 r.xz r.xz = 0 := cr2_self _
        have b2 : cr2 two.xz r.xz = 1 := by rw [cr2_comm]; exact h11
        rw [b1, b2]
        show (cr x r + _ + _) % 2 = 0
        omega
      · rw [List.mem_singleton] at hr
        subst hr
        have b1 : cr2 r.xz r.xz = 0 := cr2_self _
        have b2 : cr2 one.xz r.xz = 1 := h11
        rw [b1, b2]
        show (cr x r + _ + _) % 2 = 0
        omega
theorem Prd.fin {n : Nat} {sides pl rest : List Row} (h : Prd n sides [] pl rest) : ∀ r ∈ rest, r.ok n ∧ Sn (sides.map Row.xz) r.xz ∧ ∀ q ∈ sides, cr r q = 0 := fun r hr =>
  have m : r ∈ [] ++ pl ++ rest := List.mem_append_right _ hr
  ⟨h.ok r m, h.of r m, fun q hq => cr2_span (fun b hb => by
    obtain ⟨x, hx, rfl⟩ := List.mem_map.mp hb
    exact h.rest0 r hr x hx) (h.to q hq)⟩
end Kq

set_option Elab.async false
set_option linter.all false
set_option maxRecDepth 100000
set_option maxHeartbeats 4000000
/-! rows of bits -/
namespace Kq
open PySem PySem.Spec PyProof.Rows L2
local macro_rules | `(tactic| walk_at "st") => `(tactic| first
  | with_reducible refine s_seq ?_
  | ((with_reducible refine' s_var ?h1 ?h2); (case h1 => rfl))
  | with_reducible refine s_c ?_
  | with_reducible refine s_op ?_
  | with_reducible refine s_asg ?_
  | with_reducible refine s_name ?_
  | with_reducible refine s_cons ?_
  | with_reducible refine s_nil ?_
  | with_reducible refine s_call ?_
  | with_reducible refine s_CB ?_
  | with_reducible refine s_add ?_
  | ((with_reducible refine' s_sub ?h1 ?h2); (case h1 => omega))
  | ((with_reducible refine' s_mul ?h1 ?h2); (case h1 => omega))
  | ((with_reducible refine' s_mod ?h1 ?h2); (case h1 => omega))
  | ((with_reducible refine' s_div ?h1 ?h2); (case h1 => omega))
  | ((with_reducible refine' s_shl ?h1 ?h2); (case h1 => omega))
  | with_reducible refine s_shr ?_
  | with_reducible refine s_and ?_
  | with_reducible refine s_or ?_
  | with_reducible refine s_xor ?_
  | with_reducible refine s_lt ?_
  | with_reducible refine s_le ?_
  | with_reducible refine s_gt ?_
  | with_reducible refine s_ge ?_
  | with_reducible refine s_eqN ?_
  | with_reducible refine s_neN ?_
  | with_reducible refine s_eqS ?_
  | with_reducible refine s_neS ?_
  | with_reducible refine s_I0 ?_
  | with_reducible refine s_un ?_
  | with_reducible refine s_neg ?_
  | with_reducible refine s_test ?_
  | with_reducible refine s_B ?_
  | with_reducible refine s_bl ?_
  | with_reducible refine s_ifS ?_
  | with_reducible refine s_ifE ?_
  | with_reducible refine s_not ?_
  | with_reducible refine s_and2 ?_
  | with_reducible refine s_or2 ?_
  | with_reducible refine s_andV ?_
  | with_reducible refine s_orV ?_
  | with_reducible refine s_notV ?_
  | with_reducible refine s_tru ?_
  | with_reducible refine s_par ?_
  | with_reducible refine s_two ?_
  | with_reducible refine s_par3 ?_
  | with_reducible refine s_three ?_
  | with_reducible refine s_lst ?_
  | with_reducible refine s_tup ?_
  | ((with_reducible refine' s_size ?h1 ?h2); (case h1 => exact Nat.le_of_ble_eq_true rfl))
  | with_reducible refine s_fld ?_
  | with_reducible refine s_gcons ?_
  | with_reducible refine s_gnil ?_
  | with_reducible refine s_intN ?_
  | with_reducible refine s_intI ?_
  | with_reducible refine s_tTru ?_
  | with_reducible refine s_tBL ?_
  | with_reducible refine s_sign ?_
  | with_reducible refine s_min ?_
  | with_reducible refine s_sfld ?_
  | with_reducible refine s_gfld ?_
  | with_reducible refine s_intB ?_
  | with_reducible refine s_next ?_
  | with_reducible refine s_ret ?_
  | with_reducible refine s_drop ?_
  | with_reducible refine s_for ?_
  | with_reducible refine s_lc ?_
  | with_reducible refine s_yes ?_
  | with_reducible refine s_bits ?_
  | with_reducible refine s_bitsV ?_
  | ((with_reducible refine' s_own ?h1 ?h2); (case h1 => assumption))
  | ((with_reducible refine' s_len ?h1 ?h2); (case h1 => assumption))
  | ((with_reducible refine' s_lenT ?h1 ?h2); (case h1 => assumption))
  | with_reducible refine s_iTup ?_
  | with_reducible refine s_iList ?_
  | with_reducible refine s_iStr ?_
  | with_reducible refine s_iRng1 ?_
  | with_reducible refine s_iRng2 ?_
  | with_reducible refine s_iEnum ?_
  | with_reducible refine s_iEnumT ?_
  | with_reducible refine s_iEnumS ?_
  | with_reducible refine s_iZip ?_
  | with_reducible refine s_iZipM ?_
  | with_reducible refine s_srcS ?_
  | with_reducible refine s_srcES ?_
  | ((with_reducible refine' s_srcT ?h1 ?h2); (case h1 => assumption))
  | ((with_reducible refine' s_srcL ?h1 ?h2); (case h1 => assumption))
  | ((with_reducible refine' s_srcE ?h1 ?h2); (case h1 => assumption))
  | ((with_reducible refine' s_srcET ?h1 ?h2); (case h1 => assumption))
  | ((with_reducible refine' s_rng1 ?h1 ?h2); (case h1 => omega))
  | ((with_reducible refine' s_rng2 ?h1 ?h2); (case h1 => omega))
  | with_reducible refine s_ckw ?_
  | ((with_reducible refine' s_sorted ?h1 ?h2); (case h1 => assumption))
  | ((with_reducible refine' s_inN ?h1 ?h2); (case h1 => assumption))
  | ((with_reducible refine' s_ninN ?h1 ?h2); (case h1 => assumption))
  | ((with_reducible refine' s_tupL ?h1 ?h2); (case h1 => assumption))
  | ((with_reducible refine' s_tupT ?h1 ?h2); (case h1 => assumption))
  | ((with_reducible refine' s_lstL ?h1 ?h2); (case h1 => assumption))
  | ((with_reducible refine' s_lstT ?h1 ?h2); (case h1 => assumption))
  | ((with_reducible refine' s_addS2 ?h1 ?h2); (case h1 => (simp only [List.length_append, letL_len]; omega)); (rw [sOf_add]))
  | with_reducible refine s_sl ?_
  | with_reducible refine s_part ?_
  | with_reducible refine s_partV ?_
  | with_reducible refine s_nopart ?_
  | ((with_reducible refine' s_cutTake ?h1 ?h2); (case h1 => assumption))
  | ((with_reducible refine' s_cutDrop ?h1 ?h2); (case h1 => assumption))
  | with_reducible refine s_isiII ?_
  | with_reducible refine s_isiIB ?_
  | with_reducible refine s_isiSS ?_
  | ((with_reducible refine' s_isiTT ?h1 ?h2); (case h1 => assumption))
  | ((with_reducible refine' s_aug ?h1 ?h2); (case h1 => rfl))
  | with_reducible refine s_ipN ?_
  | with_reducible refine s_ip ?_
  | with_reducible refine s_gsub ?_
  | with_reducible refine s_wh ?_
  | with_reducible refine s_join ?_
  | ((with_reducible refine' s_ixT ?h1 ?h2 ?h3); (case h1 => assumption); (case h2 => rfl))
  | ((with_reducible refine' s_at ?h1 ?h2 ?h3); (case h1 => assumption); (case h2 => assumption))
  | with_reducible refine s_make ?_
  | with_reducible refine s_dgetK ?_
  | with_reducible refine s_dput ?_)

section
variable {P : Program} {w : World} {K : PySem.W.Frag} {mg : Str → Option Value} {base : Heap}
theorem okD {x qual : Str} {st : Stmt} {dvs : List V} {kws : List (Str × V)} {f : Addr} {fd : FuncData} {N ps : List Str} {k : Nat} {sp : Sp} (F : FunD K x qual (defArgs st) (defBody st) (defScope st) dvs kws f fd) (S : FnScope N ps (defScope st))
    (len : ∀ vs H Q E, sp vs H Q E → vs.length = ps.length)
    (hb : ∀ (cdv : Value) (A : Around) (outer : List Env) (s : Shared) (H : Hp) (vs : List V) (Q : VK) (E : XK), Room k (A.deeper (envOfC qual (defScope st) s.heap.objs.size f cdv)) → sp vs H Q E →
      ∃ t, PSs (cxOf CX0 P w K mg base N qual (defScope st) f cdv A outer s H E).nox (defBody st) t ∧ t { nx := fun _ H' => Q .non H', rt := Q } (start N vs) H) : FnOk P w K mg base CX0 (k + 1) f fd ps sp :=
  F.ok S len fun cdv A outer s H vs Q E hr h => let ⟨t, a, b⟩ := hb cdv A outer s H vs Q E hr h; ⟨t, PSs.nox a, b⟩

/-- the number of bits, the first one highest -/
def numOf (l : List Nat) : Nat := l.foldl (fun n b => 2 * n + b) 0
def sp_number_of_bitrows : Sp := fun vs H Q _ => ∃ v l, vs = [v] ∧ isBits H v l ∧ Q (nV (numOf l)) H
theorem ok_number_of_bitrows (T : Tx K mg) : FnOk P w K mg base CX0 1 (He.fAd K ("number_of_bitrows", none)) T.fd_number_of_bitrows ["row"] (sp_number_of_bitrows) := by
  refine okD T.F_number_of_bitrows sc_number_of_bitrows (fun vs H Q E h => by obtain ⟨v, l, rfl, _⟩ := h; rfl) (fun cdv A outer s H vs Q E hr h => ?_)
  obtain ⟨v, l, rfl, ⟨p, rfl, hp⟩, k⟩ := h
  refine ⟨_, (pss_cons (ps_set (i := 1) sc_number_of_bitrows.nd rfl (.inl rfl) (pe_nat 0))
  (pss_cons (ps_for PassesOwn.never rfl (pi_tup (pv 0)) (pg_name (i := 2) sc_number_of_bitrows.nd rfl (.inl rfl))
  (pss_one (ps_set (i := 1) sc_number_of_bitrows.nd rfl (.inl rfl) (pe_op on_add (pe_op on_mul (pe_nat 2) (pv 1)) (pv 2)))))
  (pss_one (ps_ret (pv 1))))), ?_⟩
  repeat walk_at "st"
  refine forW (walk_tup (K := K) (xs := l.map nV)) l (by simp) (fun n b => 2 * n + b) 0 (fun n σ' H' => H' = H ∧ ∃ o, σ' = [some (.ref p), some (nV n), o]) ⟨rfl, _, rfl⟩ (fun n σ' H' h => by rw [h.1]; exact SqT.of hp) ?_ ?_
  · rintro i d x n σ' H' H'' hd _ ⟨rfl, o, rfl⟩ ⟨rfl, y⟩
    obtain rfl : x = nV d := by rw [List.getElem?_map, hd] at y; exact (Option.some.inj y).symm
    repeat walk_at "st"
    exact ⟨rfl, _, rfl⟩
  · rintro σ' H' ⟨rfl, o, rfl⟩
    repeat walk_at "st"
    exact k

/-- the row of bits of a number -/
def bitsOf (n w : Nat) : List Nat := (List.range w).map fun i => (n >>> (w - 1 - i)) &&& 1
def sp_bits_of : Sp := fun vs H Q _ => ∃ n w, vs = [nV n, nV w] ∧ w ≤ 1000 ∧ ∀ v H', Same H H' → isBits H' v (bitsOf n w) → Q v H'
theorem ok_bits_of (T : Tx K mg) : FnOk P w K mg base CX0 1 (He.fAd K ("bits_of", none)) T.fd_bits_of ["number", "width"] (sp_bits_of) := by
  refine okD T.F_bits_of sc_bits_of (fun vs H Q E h => by obtain ⟨n, w, rfl, _⟩ := h; rfl) (fun cdv A outer s H vs Q E hr h => ?_)
  obtain ⟨n, wd, rfl, hw, k⟩ := h
  refine ⟨_, (pss_one (ps_ret (pe_callTy xc_tupL (by rfl) T.n_tuple (by decide +kernel) (pa_cons (pe_lc (own := [("place", 2)]) rfl sc_bits_of.nd (pi_range1 rfl T.n_range (pa_cons (pv 1) pa_nil)) (blkOk_by (N := ["number", "width", "place"]) (sc := defScope s_bits_of) (by decide +kernel)) (fun _ _ _ _ _ => (pg_name (i := 2) sc_bits_of.nd rfl (.inl rfl))) (fun _ _ _ _ _ => pts_nil) (fun _ _ _ _ _ => (pe_op on_and (pe_op on_shr (pv 0) (pe_op on_sub (pe_op on_sub (pv 1) (pe_nat 1)) (pv 2))) (pe_nat 1)))) pa_nil)))), ?_⟩
  repeat walk_at "st"
  refine lcM (n := wd) walk_rg0 (List.range wd) (fun i => (n >>> (wd - 1 - i)) &&& 1) isN monoN (by simp) (by omega) (fun _ _ => trivial) (fun _ _ _ _ y => yfn_same y) ?_ ?_
  · rintro i d x H1 H2 hd s1 ⟨rfl, rfl⟩ Qc qc
    obtain ⟨hi, rfl⟩ := List.getElem?_eq_some_iff.mp hd
    rw [List.length_range] at hi
    rw [List.getElem_range] at qc
    walk_at "st"
    refine ⟨rfl, ?_⟩
    repeat walk_at "st"
    exact qc _ _ (Same.refl _) rfl
  · intro D vs H1 hD s1 h1 hi
    repeat walk_at "st"
    intro l hl
    refine k _ _ (same_mut s1 (s1.free hl)) ⟨l, rfl, ?_⟩
    rw [upd_same, hi.eqN]
    rfl

theorem bitsN {h : Nat} (h0 : h ≠ 0) : Builtin.Int.intBits (h : Int) = h.log2 + 1 := by
  unfold Builtin.Int.intBits
  rw [if_neg (by simpa using h0), Int.natAbs_natCast]
def sp_has_lead : Sp := fun vs H Q _ => ∃ n h, vs = [nV n, nV h] ∧ h ≠ 0 ∧ Q (nV (hl n h)) H
theorem ok_has_lead (T : Tx K mg) : FnOk P w K mg base CX0 1 (He.fAd K ("has_lead", none)) T.fd_has_lead ["number", "other"] (sp_has_lead) := by
  refine okD T.F_has_lead sc_has_lead (fun vs H Q E h => by obtain ⟨n, h, rfl, _⟩ := h; rfl) (fun cdv A outer s H vs Q E hr h => ?_)
  obtain ⟨n, h, rfl, h0, k⟩ := h
  refine ⟨_, (pss_one (ps_ret (pe_op on_and (pe_op on_shr (pv 0) (pe_op on_sub (pe_bits (pv 1)) (pe_nat 1))) (pe_nat 1)))), ?_⟩
  have e := bitsN h0
  repeat walk_at "st"
  rw [e]
  exact k

def sp_rest_by : Sp := fun vs H Q _ => ∃ v t n, vs = [v, nV n] ∧ isL isN H v t ∧ (∀ h ∈ t, h ≠ 0) ∧ Q (nV (restBy t n)) H
theorem ok_rest_by (T : Tx K mg) : FnOk P w K mg base CX0 2 (He.fAd K ("rest_by", none)) T.fd_rest_by ["table", "number"] (sp_rest_by) := by
  have G_has_lead := ok_has_lead (P := P) (w := w) (base := base) T
  refine okD T.F_rest_by sc_rest_by (fun vs H Q E h => by obtain ⟨v, t, n, rfl, _⟩ := h; rfl) (fun cdv A outer s H vs Q E hr h => ?_)
  obtain ⟨v, t, n, rfl, ⟨p, vs, rfl, hp, hi⟩, h0, k⟩ := h
  refine ⟨_, (pss_cons (ps_for PassesOwn.never rfl (pi_list (pv 0)) (pg_name (i := 2) sc_rest_by.nd rfl (.inl rfl))
  (pss_one (ps_if (xt_tru (pe_call G_has_lead (hr.mono (by decide)) (by rfl) T.m_has_lead T.F_has_lead.kp T.b_has_lead .nil pass0 (pa_cons (pv 1) (pa_cons (pv 2) pa_nil)))) (pss_one (ps_set (i := 1) sc_rest_by.nd rfl (.inl rfl) (pe_op on_xor (pv 1) (pv 2)))) pss_nil)))
  (pss_one (ps_ret (pv 1)))), ?_⟩
  repeat walk_at "st"
  refine forW (walk_list (K := K) (xs := vs)) t hi.len.symm (fun n h => if decide (hl n h ≠ 0) = true then n ^^^ h else n) n (fun n σ' H' => H' = H ∧ ∃ o, σ' = [some (.ref p), some (nV n), o]) ⟨rfl, _, rfl⟩ (fun n σ' H' h => by rw [h.1]; exact SqL.of hp) ?_ ?_
  · rintro i d x n σ' H' H'' hd _ ⟨rfl, o, rfl⟩ ⟨rfl, y⟩
    obtain ⟨d', hd', hx⟩ := hi.get y
    rw [hd] at hd'
    cases hd'
    cases hx
    repeat walk_at "st"
    refine ⟨_, _, rfl, h0 _ (List.mem_of_getElem? hd), ?_⟩
    repeat walk_at "st"
    refine s_if (fun e => ?_) (fun e => ?_)
    · repeat walk_at "st"
      exact ⟨rfl, _, by rw [if_pos e]; rfl⟩
    · repeat walk_at "st"
      exact ⟨rfl, _, by rw [e]; rfl⟩
  · rintro σ' H' ⟨rfl, o, rfl⟩
    repeat walk_at "st"
    rw [restBy_hl]
    exact k

def sp_put_in : Sp := fun vs H Q _ => ∃ v t n, vs = [v, nV n] ∧ isL isN H v t ∧ (∀ h ∈ t, h ≠ 0) ∧ t.length ≤ 1000 ∧ ∀ v' H', Same H H' → isL isN H' v' (putIn t n) → Q v' H'
theorem ok_put_in (T : Tx K mg) : FnOk P w K mg base CX0 3 (He.fAd K ("put_in", none)) T.fd_put_in ["table", "number"] (sp_put_in) := by
  have G_has_lead := ok_has_lead (P := P) (w := w) (base := base) T
  have G_rest_by := ok_rest_by (P := P) (w := w) (base := base) T
  refine okD T.F_put_in sc_put_in (fun vs H Q E h => by obtain ⟨v, t, n, rfl, _⟩ := h; rfl) (fun cdv A outer s H vs Q E hr h => ?_)
  obtain ⟨v, t, n, rfl, hv, h0, hz, k⟩ := h
  obtain ⟨p, vs, rfl, hp, hi⟩ := id hv
  refine ⟨_, (pss_cons (ps_set (i := 1) sc_put_in.nd rfl (.inr rfl) (pe_call G_rest_by (hr.mono (by decide)) (by rfl) T.m_rest_by T.F_rest_by.kp T.b_rest_by .nil pass0 (pa_cons (pv 0) (pa_cons (pv 1) pa_nil))))
  (pss_cons (ps_if (pt_cmpR on_eq (pv 1) (pe_nat 0) (nomark _)) (pss_one (ps_ret (pv 0))) pss_nil)
  (pss_cons (ps_setLc (own := [("head", 3)]) (i := 2) rfl sc_put_in.nd rfl rfl (sw_true rfl rfl rfl (by decide +kernel)) (pi_list (pv 0)) (blkOk_by (N := ["table", "number", "cleared", "head"]) (sc := defScope s_put_in) (by decide +kernel)) (fun _ _ _ _ _ => (pg_name (i := 3) sc_put_in.nd rfl (.inl rfl))) (fun _ _ _ _ _ => pts_nil) (fun _ _ _ _ _ => (pe_ifExp (xt_tru (pe_call G_has_lead (hr.mono (by decide)) (by rfl) T.m_has_lead T.F_has_lead.kp T.b_has_lead .nil pass0 (pa_cons (pv 3) (pa_cons (pv 1) pa_nil)))) (pe_op on_xor (pv 3) (pv 1)) (pv 3))))
  (pss_one (ps_ret (pe_callBK (cr_sortedRev (b := true)) (by rfl) T.n_sorted (by decide +kernel) (pa_cons (pe_op op_cat (pv 2) (pe_lst (pa_cons (pv 1) pa_nil))) pa_nil) (pk_cons pe_bl pk_nil))))))), ?_⟩
  repeat walk_at "st"
  refine ⟨_, t, n, rfl, hv, h0, ?_⟩
  repeat walk_at "st"
  refine s_if (fun e => ?_) (fun e => ?_)
  · repeat walk_at "st"
    have e' := of_decide_eq_true e
    unfold putIn at k
    rw [if_pos e'] at k
    exact k _ _ (Same.refl _) hv
  · have hr0 := of_decide_eq_false e
    unfold putIn at k
    rw [if_neg hr0] at k
    repeat walk_at "st"
    refine lcM (walk_list (K := K) (xs := vs)) t (clr (restBy t n)) isN monoN hi.len.symm (by have := hi.len; omega) (fun _ s => SqL.of (s _ _ hp)) (fun _ _ _ _ y => yat_same y) ?_ ?_
    · rintro i d x H1 H2 hd s1 ⟨rfl, y⟩ Qc qc
      obtain ⟨d', hd', hx⟩ := hi.get y
      rw [hd] at hd'
      cases hd'
      cases hx
      walk_at "st"
      refine ⟨rfl, ?_⟩
      repeat walk_at "st"
      refine ⟨_, _, rfl, hr0, ?_⟩
      repeat walk_at "st"
      refine s_if (fun e => ?_) (fun e => ?_)
      · repeat walk_at "st"
        exact qc _ _ (Same.refl _) (by rw [clr_hl, if_pos e]; rfl)
      · repeat walk_at "st"
        exact qc _ _ (Same.refl _) (by rw [clr_hl, e]; rfl)
    · intro D vs1 H1 hD s1 h1 hi1
      obtain rfl := hi1.eqN
      repeat walk_at "st"
      intro l hl
      repeat walk_at "st"
      refine s_cat (same_new hl _ _ h1) upd_same (by simp; omega) fun l2 hl2 => ?_
      repeat walk_at "st"
      rw [show (t.map (clr (restBy t n))).map nV ++ [nV (restBy t n)] = (t.map (clr (restBy t n)) ++ [restBy t n]).map nV from by simp]
      refine s_sorted upd_same fun l3 hl3 => ?_
      exact k _ _ (((s1.trans (same_new hl)).trans (same_new hl2)).trans (same_new hl3)) ⟨l3, _, rfl, upd_same, its_nV _⟩

def sp_reduced_numbers : Sp := fun vs H Q _ => ∃ v l, vs = [v] ∧ isL isN H v l ∧ l.length ≤ 1000 ∧ ∀ v' H', Same H H' → isL isN H' v' (reduced l) → Q v' H'
theorem ok_reduced_numbers (T : Tx K mg) : FnOk P w K mg base CX0 4 (He.fAd K ("reduced_numbers", none)) T.fd_reduced_numbers ["numbers"] (sp_reduced_numbers) := by
  have G_put_in := ok_put_in (P := P) (w := w) (base := base) T
  refine okD T.F_reduced_numbers sc_reduced_numbers (fun vs H Q E h => by obtain ⟨v, l, rfl, _⟩ := h; rfl) (fun cdv A outer s H vs Q E hr h => ?_)
  obtain ⟨v, l, rfl, ⟨p, vs, rfl, hp, hi⟩, hz, k⟩ := h
  refine ⟨_, (pss_cons (ps_set (i := 1) sc_reduced_numbers.nd rfl (.inl rfl) (pe_lst pa_nil))
  (pss_cons (ps_for PassesOwn.never rfl (pi_list (pv 0)) (pg_name (i := 2) sc_reduced_numbers.nd rfl (.inl rfl))
  (pss_one (ps_set (i := 1) sc_reduced_numbers.nd rfl (.inl rfl) (pe_call G_put_in (hr.mono (by decide)) (by rfl) T.m_put_in T.F_put_in.kp T.b_put_in .nil pass0 (pa_cons (pv 1) (pa_cons (pv 2) pa_nil))))))
  (pss_one (ps_ret (pv 1))))), ?_⟩
  repeat walk_at "st"
  intro q hq
  repeat walk_at "st"
  have hp2 := same_new (o := .lst []) hq _ _ hp
  repeat walk_at "st"
  refine forW (walk_list (K := K) (xs := vs)) l hi.len.symm putIn [] (fun t σ' H' => ∃ v o, σ' = [some (.ref p), some v, o] ∧ Same H H' ∧ isL isN H' v t) ⟨_, _, rfl, same_new hq, q, [], rfl, upd_same, .nil⟩ (fun n σ' H' h => by obtain ⟨_, _, _, s, _⟩ := h; exact SqL.of (s _ _ hp)) ?_ ?_
  · rintro i d x t σ' H' H'' hd et ⟨v, o, rfl, s1, ht⟩ ⟨rfl, y⟩
    obtain ⟨d', hd', hx⟩ := hi.get y
    rw [hd] at hd'
    cases hd'
    cases hx
    have ok := reduced_ok (l.take i)
    have et : t = reduced (l.take i) := et
    repeat walk_at "st"
    refine ⟨_, _, _, rfl, ht, by rw [et]; exact ok.1.nz, ?_, fun v' H' s2 hv' => ?_⟩
    · rw [et]
      have := ok.2.2
      rw [List.length_take] at this
      omega
    repeat walk_at "st"
    exact ⟨_, _, rfl, s1.trans s2, hv'⟩
  · rintro σ' H' ⟨v, o, rfl, s1, ht⟩
    repeat walk_at "st"
    exact k _ _ s1 ht

def rankOf (rows : List (List Nat)) : Nat := (reduced (rows.map numOf)).length
def sp_bit_rank : Sp := fun vs H Q _ => ∃ v l, vs = [v] ∧ isL isBits H v l ∧ l.length ≤ 1000 ∧ ∀ H', Same H H' → Q (nV (rankOf l)) H'
theorem ok_bit_rank (T : Tx K mg) : FnOk P w K mg base CX0 5 (He.fAd K ("bit_rank", none)) T.fd_bit_rank ["rows"] (sp_bit_rank) := by
  have G_number_of_bitrows := ok_number_of_bitrows (P := P) (w := w) (base := base) T
  have G_reduced_numbers := ok_reduced_numbers (P := P) (w := w) (base := base) T
  refine okD T.F_bit_rank sc_bit_rank (fun vs H Q E h => by obtain ⟨v, l, rfl, _⟩ := h; rfl) (fun cdv A outer s H vs Q E hr h => ?_)
  obtain ⟨v, l, rfl, ⟨p, vs, rfl, hp, hi⟩, hz, k⟩ := h
  refine ⟨_, (pss_one (ps_ret (pe_callB xc_lenL (by rfl) T.n_len (by decide +kernel) (pa_cons (pe_call G_reduced_numbers (hr.mono (by decide)) (by rfl) T.m_reduced_numbers T.F_reduced_numbers.kp T.b_reduced_numbers .nil pass0 (pa_cons (pe_lc (own := [("row", 1)]) rfl sc_bit_rank.nd (pi_list (pv 0)) (blkOk_by (N := ["rows", "row"]) (sc := defScope s_bit_rank) (by decide +kernel)) (fun _ _ _ _ _ => (pg_name (i := 1) sc_bit_rank.nd rfl (.inl rfl))) (fun _ _ _ _ _ => pts_nil) (fun _ _ _ _ _ => (pe_call G_number_of_bitrows (hr.mono (by decide)) (by rfl) T.m_number_of_bitrows T.F_number_of_bitrows.kp T.b_number_of_bitrows .nil pass0 (pa_cons (pv 1) pa_nil)))) pa_nil)) pa_nil)))), ?_⟩
  repeat walk_at "st"
  refine lcM (walk_list (K := K) (xs := vs)) l numOf isN monoN hi.len.symm (by have := hi.len; omega) (fun _ s => SqL.of (s _ _ hp)) (fun _ _ _ _ y => yat_same y) ?_ ?_
  · rintro i d x H1 H2 hd s1 ⟨rfl, y⟩ Qc qc
    obtain ⟨d', hd', hx⟩ := hi.get y
    rw [hd] at hd'
    cases hd'
    walk_at "st"
    refine ⟨rfl, ?_⟩
    repeat walk_at "st"
    exact ⟨_, _, rfl, monoBits _ _ _ _ (Sol.of s1) hx, qc _ _ (Same.refl _) rfl⟩
  · intro D vs1 H1 hD s1 h1 hi1
    repeat walk_at "st"
    refine ⟨_, _, rfl, ⟨D, _, rfl, h1, hi1⟩, by simp; omega, fun v' H' s2 hv' => ?_⟩
    obtain ⟨a, ws, rfl, ha, hw⟩ := hv'
    repeat walk_at "st"
    rw [hw.len]
    exact k _ (s1.trans s2)

def sp_kernel_bits : Sp := fun vs H Q _ => ∃ v l wd, vs = [v, nV wd] ∧ isL isBits H v l ∧ l.length ≤ 1000 ∧ wd ≤ 100 ∧ (∀ r ∈ l, numOf r < 2 ^ wd) ∧ ∀ v' H', Same H H' → isT isBits H' v' ((kerOf (l.map numOf) wd).map fun k => bitsOf k wd) → Q v' H'
theorem ok_kernel_bits (T : Tx K mg) : FnOk P w K mg base CX0 5 (He.fAd K ("kernel_bits", none)) T.fd_kernel_bits ["rows", "width"] (sp_kernel_bits) := by
  have G_number_of_bitrows := ok_number_of_bitrows (P := P) (w := w) (base := base) T
  have G_reduced_numbers := ok_reduced_numbers (P := P) (w := w) (base := base) T
  have G_bits_of := ok_bits_of (P := P) (w := w) (base := base) T
  refine okD T.F_kernel_bits sc_kernel_bits (fun vs H Q E h => by obtain ⟨v, l, n, rfl, _⟩ := h; rfl) (fun cdv A outer s H vs Q E hr h => ?_)
  obtain ⟨v, l, wd, rfl, ⟨p, vs, rfl, hp, hi⟩, hz, hwd, hlt, k⟩ := h
  refine ⟨_, (pss_cons (ps_set (i := 2) sc_kernel_bits.nd rfl (.inl rfl) (pe_call G_reduced_numbers (hr.mono (by decide)) (by rfl) T.m_reduced_numbers T.F_reduced_numbers.kp T.b_reduced_numbers .nil pass0 (pa_cons (pe_lc (own := [("row", 9)]) rfl sc_kernel_bits.nd (pi_list (pv 0)) (blkOk_by (N := ["rows", "width", "table", "pivots", "found", "place", "number", "head", "pivot", "row"]) (sc := defScope s_kernel_bits) (by decide +kernel)) (fun _ _ _ _ _ => (pg_name (i := 9) sc_kernel_bits.nd rfl (.inl rfl))) (fun _ _ _ _ _ => pts_nil) (fun _ _ _ _ _ => (pe_call G_number_of_bitrows (hr.mono (by decide)) (by rfl) T.m_number_of_bitrows T.F_number_of_bitrows.kp T.b_number_of_bitrows .nil pass0 (pa_cons (pv 9) pa_nil)))) pa_nil)))
  (pss_cons (ps_setLc (own := [("head", 7)]) (i := 3) rfl sc_kernel_bits.nd rfl rfl (sw_true rfl rfl rfl (by decide +kernel)) (pi_list (pv 2)) (blkOk_by (N := ["rows", "width", "table", "pivots", "found", "place", "number", "head", "pivot", "row"]) (sc := defScope s_kernel_bits) (by decide +kernel)) (fun _ _ _ _ _ => (pg_name (i := 7) sc_kernel_bits.nd rfl (.inl rfl))) (fun _ _ _ _ _ => pts_nil) (fun _ _ _ _ _ => (pe_op on_sub (pv 1) (pe_bits (pv 7)))))
  (pss_cons (ps_set (i := 4) sc_kernel_bits.nd rfl (.inl rfl) (pe_lst pa_nil))
  (pss_cons (ps_for PassesOwn.never rfl (pi_range1 rfl T.n_range (pa_cons (pv 1) pa_nil)) (pg_name (i := 5) sc_kernel_bits.nd rfl (.inl rfl))
  (pss_one (ps_if (pt_cmpR xo_ninL (pv 5) (pv 3) (by rfl)) (pss_cons (ps_set (i := 6) sc_kernel_bits.nd rfl (.inl rfl) (pe_op on_shl (pe_nat 1) (pe_op on_sub (pe_op on_sub (pv 1) (pe_nat 1)) (pv 5))))
  (pss_cons (ps_for PassesOwn.never rfl (pi_zip (by rfl) T.n_zip (pa_cons (pv 2) (pa_cons (pv 3) pa_nil))) (xg_tup (n := 2) rfl (pgs_cons (pg_name (i := 7) sc_kernel_bits.nd rfl (.inl rfl)) (pgs_cons (pg_name (i := 8) sc_kernel_bits.nd rfl (.inl rfl)) pgs_nil)))
  (pss_one (ps_if (xt_tru (pe_op on_and (pe_op on_shr (pv 7) (pe_op on_sub (pe_op on_sub (pv 1) (pe_nat 1)) (pv 5))) (pe_nat 1))) (pss_one (ps_set (i := 6) sc_kernel_bits.nd rfl (.inl rfl) (pe_op on_or (pv 6) (pe_op on_shl (pe_nat 1) (pe_op on_sub (pe_op on_sub (pv 1) (pe_nat 1)) (pv 8)))))) pss_nil)))
  (pss_one (ps_expr (xe_bl PySem.F.slot_list_append PySem.F.type_list_append mt_append (pv 4) (pa_cons (pv 6) pa_nil)))))) pss_nil)))
  (pss_one (ps_ret (pe_callTy xc_tupL (by rfl) T.n_tuple (by decide +kernel) (pa_cons (pe_lc (own := [("number", 6)]) rfl sc_kernel_bits.nd (pi_list (pe_call G_reduced_numbers (hr.mono (by decide)) (by rfl) T.m_reduced_numbers T.F_reduced_numbers.kp T.b_reduced_numbers .nil pass0 (pa_cons (pv 4) pa_nil))) (blkOk_by (N := ["rows", "width", "table", "pivots", "found", "place", "number", "head", "pivot", "row"]) (sc := defScope s_kernel_bits) (by decide +kernel)) (fun _ _ _ _ _ => (pg_name (i := 6) sc_kernel_bits.nd rfl (.inl rfl))) (fun _ _ _ _ _ => pts_nil) (fun _ _ _ _ _ => (pe_call G_bits_of (hr.mono (by decide)) (by rfl) T.m_bits_of T.F_bits_of.kp T.b_bits_of .nil pass0 (pa_cons (pv 6) (pa_cons (pv 1) pa_nil))))) pa_nil)))))))), ?_⟩
  repeat walk_at "st"
  refine lcM (walk_list (K := K) (xs := vs)) l numOf isN monoN hi.len.symm (by have := hi.len; omega) (fun _ s => SqL.of (s _ _ hp)) (fun _ _ _ _ y => yat_same y) ?_ ?_
  · rintro i d x H1 H2 hd s1 ⟨rfl, y⟩ Qc qc
    have hx := hi.at y hd
    walk_at "st"
    refine ⟨rfl, ?_⟩
    repeat walk_at "st"
    exact ⟨_, _, rfl, monoBits _ _ _ _ (Sol.of s1) hx, qc _ _ (Same.refl _) rfl⟩
  intro D vs1 H1 hD s1 h1 hi1
  repeat walk_at "st"
  refine ⟨_, _, rfl, ⟨D, _, rfl, h1, hi1⟩, by simp; omega, fun v' H2 s2 hv' => ?_⟩
  have ok := reduced_ok (l.map numOf)
  have hlt2 : ∀ h ∈ reduced (l.map numOf), h < 2 ^ wd := reduced_lt fun a ha => by
    obtain ⟨r, hr, rfl⟩ := List.mem_map.mp ha
    exact hlt r hr
  have hlen : (reduced (l.map numOf)).length ≤ 1000 := by
    have := ok.2.2
    rw [List.length_map] at this
    omega
  unfold kerOf kfound at k
  generalize reduced (l.map numOf) = t at hv' ok k hlt2 hlen
  have hl : ∀ h ∈ t, h.log2 < wd := fun h hh => bit_lt (hlt2 h hh) (bit_top (ok.1.nz h hh))
  obtain ⟨tp, ts, rfl, htp, hts⟩ := hv'
  obtain rfl := hts.eqN
  have s12 := s1.trans s2
  repeat walk_at "st"
  refine lcM (walk_list (K := K) (xs := t.map nV)) t (fun h => wd - (h.log2 + 1)) isN monoN (by simp) (by simp; omega) (fun _ s => SqL.of (s _ _ htp)) (fun _ _ _ _ y => yat_same y) ?_ ?_
  · rintro i d x H3 H4 hd s3 ⟨rfl, y⟩ Qc qc
    obtain ⟨n, hn, rfl⟩ := getN y
    rw [hd] at hn
    cases hn
    have hdm := List.mem_of_getElem? hd
    have e := bitsN (ok.1.nz d hdm)
    have hd2 := hl d hdm
    walk_at "st"
    refine ⟨rfl, ?_⟩
    repeat walk_at "st"
    rw [e]
    repeat walk_at "st"
    exact qc _ _ (Same.refl _) rfl
  intro D2 vs2 H3 hD2 s3 h3 hi3
  obtain rfl := hi3.eqN
  have htp3 := s3 _ _ htp
  repeat walk_at "st"
  intro fp hfp
  repeat walk_at "st"
  refine forW (n := wd) walk_rg0 (List.range wd) (by simp) (fun s p => if decide (p ∉ pivs t wd) = true then s ++ [kvec t (wd - 1 - p)] else s) [] (fun f σ' H' => ∃ o1 o2 o3 o4 o5, σ' = [some (.ref p), some (nV wd), some (.ref tp), some (.ref D2), some (.ref fp), o1, o2, o3, o4, o5] ∧ Same H3 H' ∧ H' fp = some (.lst (f.map nV))) ?_ (fun _ _ _ _ => trivial) ?_ ?_
  · exact ⟨_, _, _, _, _, rfl, same_new hfp, upd_same⟩
  · rintro i d x f σ' H' H'' hd ef ⟨o1, o2, o3, o4, o6, rfl, s4, hf⟩ ⟨rfl, rfl⟩
    obtain ⟨hi, rfl⟩ := List.getElem?_eq_some_iff.mp hd
    rw [List.length_range] at hi
    rw [List.getElem_range]
    have hD3 := s4 _ _ h3
    have htp4 := s4 _ _ htp3
    have ef2 : f = ((List.range i).filter fun p => decide (p ∉ pivs t wd)).map fun p => kvec t (wd - 1 - p) := by
      rw [ef, fold_filter, List.take_range, Nat.min_eq_left (by omega)]; rfl
    have fl : f.length ≤ i := by
      rw [ef2, List.length_map]
      exact Nat.le_trans (List.length_filter_le ..) (by simp)
    repeat walk_at "st"
    refine s_if (fun e => ?_) (fun e => ?_)
    · repeat walk_at "st"
      refine s_srcZ htp4 hD3 ?_
      refine forW (walk_zip (K := K) (xs := t.map nV) (ys := (t.map fun h => wd - (h.log2 + 1)).map nV) (n := t.length) (by simp)) t rfl (fun n h => if h.testBit (wd - 1 - i) = true then n ||| 2 ^ h.log2 else n) (2 ^ (wd - 1 - i)) (fun n σ' H5 => ∃ o4 o5, σ' = [some (.ref p), some (nV wd), some (.ref tp), some (.ref D2), some (.ref fp), some (nV i), some (nV n), o4, o5, o6] ∧ Same H'' H5) ?_ ?_ ?_ ?_
      · rw [show 2 ^ (wd - 1 - i) = 1 <<< (wd - 1 - i) from by rw [Nat.shiftLeft_eq, Nat.one_mul]]
        exact ⟨_, _, rfl, Same.refl _⟩
      · rintro n σ' H5 ⟨_, _, _, s5⟩
        exact ⟨SqL.of (s5 _ _ htp4), SqL.of (s5 _ _ hD3)⟩
      · rintro j h x n σ' H5 H6 hj _ ⟨o4, o5, rfl, s5⟩ ⟨T1, a, b, rfl, hT, rfl, ea, eb⟩
        obtain ⟨n1, hn1, rfl⟩ := getN ea
        rw [hj] at hn1
        cases hn1
        have eb : ((t.map fun h => wd - (h.log2 + 1)).map nV)[j]? = some b := eb
        rw [List.map_map, List.getElem?_map, hj] at eb
        obtain rfl : b = nV (wd - (h.log2 + 1)) := (Option.some.inj eb).symm
        have hh := hl h (List.mem_of_getElem? hj)
        refine s_gtup upd_same rfl ?_
        repeat walk_at "st"
        refine s_if (fun e => ?_) (fun e => ?_)
        · repeat walk_at "st"
          have e2 : h.testBit (wd - 1 - i) = true := by
            rw [Nat.testBit, bne_iff_ne, Nat.and_comm]; exact of_decide_eq_true e
          rw [if_pos e2, show 2 ^ h.log2 = 1 <<< (wd - 1 - (wd - (h.log2 + 1))) from by rw [Nat.shiftLeft_eq, Nat.one_mul, show wd - 1 - (wd - (h.log2 + 1)) = h.log2 by omega]]
          exact ⟨_, _, rfl, Same.nw s5 hT⟩
        · repeat walk_at "st"
          have e2 : ¬ h.testBit (wd - 1 - i) = true := by
            rw [Nat.testBit, bne_iff_ne, Nat.and_comm]; exact of_decide_eq_false e
          rw [if_neg e2]
          exact ⟨_, _, rfl, Same.nw s5 hT⟩
      · rintro σ' H5 ⟨o4, o5, rfl, s5⟩
        have hf5 := s5 _ _ hf
        repeat walk_at "st"
        refine s_append hf5 (by simp; omega) ?_
        repeat walk_at "st"
        have e' : decide (i ∉ pivs t wd) = true := e
        rw [if_pos e']
        refine ⟨_, _, _, _, _, rfl, same_mut (s4.trans s5) hfp, ?_⟩
        rw [upd_same, List.map_append]
        rfl
    · repeat walk_at "st"
      have e' : decide (i ∉ pivs t wd) = false := e
      rw [e', if_neg Bool.false_ne_true]
      exact ⟨_, _, _, _, _, rfl, s4, hf⟩
  · rintro σ' H' ⟨o1, o2, o3, o4, o5, rfl, s4, hf⟩
    rw [fold_filter, List.nil_append] at hf
    repeat walk_at "st"
    refine ⟨_, _, rfl, ⟨fp, _, rfl, hf, its_nV _⟩, ?_, fun v' H5 s5 hv' => ?_⟩
    · rw [List.length_map]
      have := List.length_filter_le (fun p => decide (p ∉ pivs t wd)) (List.range wd)
      rw [List.length_range] at this
      omega
    obtain ⟨rp, rs, rfl, hrp, hrs⟩ := hv'
    repeat walk_at "st"
    have rl : (reduced (((List.range wd).filter fun p => decide (p ∉ pivs t wd)).map fun p => kvec t (wd - 1 - p))).length ≤ 1000 := by
      refine Nat.le_trans (reduced_ok _).2.2 ?_
      rw [List.length_map]
      have := List.length_filter_le (fun p => decide (p ∉ pivs t wd)) (List.range wd)
      rw [List.length_range] at this
      omega
    refine lcM (walk_list (K := K) (xs := rs)) _ (fun k => bitsOf k wd) isBits monoBits hrs.len.symm (by have := hrs.len; omega) (fun _ s => SqL.of (s _ _ hrp)) (fun _ _ _ _ y => yat_same y) ?_ ?_
    · rintro j d x H6 H7 hd s6 ⟨rfl, y⟩ Qc qc
      have hx := hrs.at y hd
      cases hx
      walk_at "st"
      refine ⟨rfl, ?_⟩
      repeat walk_at "st"
      exact ⟨_, _, rfl, by omega, fun v' H8 s8 h8 => qc _ _ s8 h8⟩
    · intro D3 vs3 H6 hD3 s6 h6 hi6
      repeat walk_at "st"
      intro l2 hl2
      refine k _ _ (Same.nw (((s12.trans (s3.trans s4)).trans s5).trans s6) hl2) ⟨l2, _, rfl, upd_same, hi6.mono monoBits (Sol.of (same_new hl2))⟩
end
end Kq

set_option Elab.async false
set_option linter.all false
set_option maxRecDepth 100000
set_option maxHeartbeats 4000000
/-! strings of letters -/
namespace Kq
open PySem PySem.Spec PyProof.Rows L2
local macro_rules | `(tactic| walk_at "st") => `(tactic| first
  | with_reducible refine s_seq ?_
  | ((with_reducible refine' s_var ?h1 ?h2); (case h1 => rfl))
  | with_reducible refine s_c ?_
  | with_reducible refine s_op ?_
  | with_reducible refine s_asg ?_
  | with_reducible refine s_name ?_
  | with_reducible refine s_cons ?_
  | with_reducible refine s_nil ?_
  | with_reducible refine s_call ?_
  | with_reducible refine s_CB ?_
  | with_reducible refine s_add ?_
  | ((with_reducible refine' s_sub ?h1 ?h2); (case h1 => omega))
  | ((with_reducible refine' s_mul ?h1 ?h2); (case h1 => omega))
  | ((with_reducible refine' s_mod ?h1 ?h2); (case h1 => omega))
  | ((with_reducible refine' s_div ?h1 ?h2); (case h1 => omega))
  | ((with_reducible refine' s_shl ?h1 ?h2); (case h1 => omega))
  | with_reducible refine s_shr ?_
  | with_reducible refine s_and ?_
  | with_reducible refine s_or ?_
  | with_reducible refine s_xor ?_
  | with_reducible refine s_lt ?_
  | with_reducible refine s_le ?_
  | with_reducible refine s_gt ?_
  | with_reducible refine s_ge ?_
  | with_reducible refine s_eqN ?_
  | with_reducible refine s_neN ?_
  | with_reducible refine s_eqS ?_
  | with_reducible refine s_neS ?_
  | with_reducible refine s_I0 ?_
  | with_reducible refine s_un ?_
  | with_reducible refine s_neg ?_
  | with_reducible refine s_test ?_
  | with_reducible refine s_B ?_
  | with_reducible refine s_bl ?_
  | with_reducible refine s_ifS ?_
  | with_reducible refine s_ifE ?_
  | with_reducible refine s_not ?_
  | with_reducible refine s_and2 ?_
  | with_reducible refine s_or2 ?_
  | with_reducible refine s_andV ?_
  | with_reducible refine s_orV ?_
  | with_reducible refine s_notV ?_
  | with_reducible refine s_tru ?_
  | with_reducible refine s_par ?_
  | with_reducible refine s_two ?_
  | with_reducible refine s_par3 ?_
  | with_reducible refine s_three ?_
  | with_reducible refine s_lst ?_
  | with_reducible refine s_tup ?_
  | ((with_reducible refine' s_size ?h1 ?h2); (case h1 => exact Nat.le_of_ble_eq_true rfl))
  | with_reducible refine s_fld ?_
  | with_reducible refine s_gcons ?_
  | with_reducible refine s_gnil ?_
  | with_reducible refine s_intN ?_
  | with_reducible refine s_intI ?_
  | with_reducible refine s_tTru ?_
  | with_reducible refine s_tBL ?_
  | with_reducible refine s_sign ?_
  | with_reducible refine s_min ?_
  | with_reducible refine s_sfld ?_
  | with_reducible refine s_gfld ?_
  | with_reducible refine s_intB ?_
  | with_reducible refine s_next ?_
  | with_reducible refine s_ret ?_
  | with_reducible refine s_drop ?_
  | with_reducible refine s_for ?_
  | with_reducible refine s_lc ?_
  | with_reducible refine s_yes ?_
  | with_reducible refine s_bits ?_
  | with_reducible refine s_bitsV ?_
  | ((with_reducible refine' s_own ?h1 ?h2); (case h1 => assumption))
  | ((with_reducible refine' s_len ?h1 ?h2); (case h1 => assumption))
  | ((with_reducible refine' s_lenT ?h1 ?h2); (case h1 => assumption))
  | with_reducible refine s_iTup ?_
  | with_reducible refine s_iList ?_
  | with_reducible refine s_iStr ?_
  | with_reducible refine s_iRng1 ?_
  | with_reducible refine s_iRng2 ?_
  | with_reducible refine s_iEnum ?_
  | with_reducible refine s_iEnumT ?_
  | with_reducible refine s_iEnumS ?_
  | with_reducible refine s_iZip ?_
  | with_reducible refine s_iZipM ?_
  | with_reducible refine s_srcS ?_
  | with_reducible refine s_srcES ?_
  | ((with_reducible refine' s_srcT ?h1 ?h2); (case h1 => assumption))
  | ((with_reducible refine' s_srcL ?h1 ?h2); (case h1 => assumption))
  | ((with_reducible refine' s_srcE ?h1 ?h2); (case h1 => assumption))
  | ((with_reducible refine' s_srcET ?h1 ?h2); (case h1 => assumption))
  | ((with_reducible refine' s_rng1 ?h1 ?h2); (case h1 => omega))
  | ((with_reducible refine' s_rng2 ?h1 ?h2); (case h1 => omega))
  | with_reducible refine s_ckw ?_
  | ((with_reducible refine' s_sorted ?h1 ?h2); (case h1 => assumption))
  | ((with_reducible refine' s_inN ?h1 ?h2); (case h1 => assumption))
  | ((with_reducible refine' s_ninN ?h1 ?h2); (case h1 => assumption))
  | ((with_reducible refine' s_tupL ?h1 ?h2); (case h1 => assumption))
  | ((with_reducible refine' s_tupT ?h1 ?h2); (case h1 => assumption))
  | ((with_reducible refine' s_lstL ?h1 ?h2); (case h1 => assumption))
  | ((with_reducible refine' s_lstT ?h1 ?h2); (case h1 => assumption))
  | ((with_reducible refine' s_addS2 ?h1 ?h2); (case h1 => (simp only [List.length_append, letL_len]; omega)); (rw [sOf_add]))
  | with_reducible refine s_sl ?_
  | with_reducible refine s_part ?_
  | with_reducible refine s_partV ?_
  | with_reducible refine s_nopart ?_
  | ((with_reducible refine' s_cutTake ?h1 ?h2); (case h1 => assumption))
  | ((with_reducible refine' s_cutDrop ?h1 ?h2); (case h1 => assumption))
  | with_reducible refine s_isiII ?_
  | with_reducible refine s_isiIB ?_
  | with_reducible refine s_isiSS ?_
  | ((with_reducible refine' s_isiTT ?h1 ?h2); (case h1 => assumption))
  | ((with_reducible refine' s_aug ?h1 ?h2); (case h1 => rfl))
  | with_reducible refine s_ipN ?_
  | with_reducible refine s_ip ?_
  | with_reducible refine s_gsub ?_
  | with_reducible refine s_wh ?_
  | with_reducible refine s_join ?_
  | ((with_reducible refine' s_ixT ?h1 ?h2 ?h3); (case h1 => assumption); (case h2 => rfl))
  | ((with_reducible refine' s_at ?h1 ?h2 ?h3); (case h1 => assumption); (case h2 => assumption))
  | with_reducible refine s_make ?_
  | with_reducible refine s_dgetK ?_
  | with_reducible refine s_dput ?_)

section
variable {P : Program} {w : World} {K : PySem.W.Frag} {mg : Str → Option Value} {base : Heap}
def sp_is_size : Sp := fun vs H Q _ => ∃ n m, vs = [nV n, nV m] ∧ Q (.bl (decide (m ≤ n))) H
theorem ok_is_size (T : Tx K mg) : FnOk P w K mg base CX0 1 (He.fAd K ("is_size", none)) T.fd_is_size ["value", "least"] (sp_is_size) := by
  refine okD T.F_is_size sc_is_size (fun vs H Q E h => by obtain ⟨v, l, rfl, _⟩ := h; rfl) (fun cdv A outer s H vs Q E hr h => ?_)
  obtain ⟨n, m, rfl, k⟩ := h
  refine ⟨_, (pss_one (ps_ret (pe_and (pe_callB call_isi (by rfl) T.n_isinstance (by decide +kernel) (pa_cons (pv 0) (pa_cons (pe_bltn (v := .ty "int") (by rfl) T.n_int (by decide +kernel) rfl) pa_nil))) (pe_and (pe_not (pe_callB call_isi (by rfl) T.n_isinstance (by decide +kernel) (pa_cons (pv 0) (pa_cons (pe_bltn (v := .ty "bool") (by rfl) T.n_bool (by decide +kernel) rfl) pa_nil)))) (pe_one (pe_cmpR on_ge (pv 0) (pv 1) (nomark _))))))), ?_⟩
  repeat walk_at "st"
  refine s_ifT rfl ?_
  repeat walk_at "st"
  refine s_ifT rfl ?_
  repeat walk_at "st"
  exact k

theorem s_ifC {σ : L2.St} {H : Hp} {Q : VK} {b : Bool} {f : Nat → Nat} {s : Nat} (hs : s < 2) (hb : b = decide (s = 1)) (q : Q (nV (f s)) H) : if b = true then tC (nV (f 1)) σ H Q else tC (nV (f 0)) σ H Q := by
  match s, hs with
  | 0, _ => rw [hb]; exact q
  | 1, _ => rw [hb]; exact q
theorem s_ifI {σ : L2.St} {H : Hp} {Q : VK} {b : Bool} {s : Nat} (hs : s < 2) (hb : b = decide (s = 1)) (q : Q (nV s) H) : if b = true then tC (nV 1) σ H Q else tC (nV 0) σ H Q := s_ifC (f := id) hs hb q
theorem sgn_take {s : Nat} {ls : List Nat} (hs : s < 2) (h0 : ls ≠ []) (hc : ∀ c ∈ ls, c ∈ [73, 88, 89, 90]) : ∃ c, (sgnL s ++ ls).take 1 = [c] ∧ (c = 45 ↔ s = 1) ∧ c ∈ [45, 73, 88, 89, 90] := by
  match s, hs, ls, h0 with
  | 1, _, ls, _ => exact ⟨45, rfl, by simp, by simp⟩
  | 0, _, c :: ls, _ =>
    have := hc c List.mem_cons_self
    refine ⟨c, rfl, ⟨fun e => ?_, fun e => by cases e⟩, List.mem_cons_of_mem _ this⟩
    subst e
    exact absurd this (by decide)
theorem sgn_drop {s : Nat} (ls : List Nat) (hs : s < 2) : (sgnL s ++ ls).drop s = ls := by
  match s, hs with
  | 0, _ => rfl
  | 1, _ => rfl
theorem sgn_len {s : Nat} (ls : List Nat) (hs : s < 2) : (sgnL s ++ ls).length = s + ls.length := by
  match s, hs with
  | 0, _ => simp [sgnL]
  | 1, _ => simp [sgnL]; omega
def sp_read_string : Sp := fun vs H Q _ => ∃ s ls, vs = [.str (sOf (sgnL s ++ ls))] ∧ s < 2 ∧ ls ≠ [] ∧ (∀ c ∈ ls, c ∈ [73, 88, 89, 90]) ∧ ls.length ≤ 1000 ∧ ∀ p H', Same H H' → H' p = some (.tup [.str (sOf ls), nV (2 * s)]) → Q (.ref p) H'
theorem ok_read_string (T : Tx K mg) : FnOk P w K mg base CX0 1 (He.fAd K ("read_string", none)) T.fd_read_string ["text"] (sp_read_string) := by
  refine okD T.F_read_string sc_read_string (fun vs H Q E h => by obtain ⟨v, l, rfl, _⟩ := h; rfl) (fun cdv A outer s H vs Q E hr h => ?_)
  obtain ⟨sg, ls, rfl, hs, h0, hc, hz, k⟩ := h
  refine ⟨_, (pss_cons (ps_if (pt_not (pt_val (pe_callB call_isi (by rfl) T.n_isinstance (by decide +kernel) (pa_cons (pv 0) (pa_cons (pe_bltn (v := .ty "str") (by rfl) T.n_str (by decide +kernel) rfl) pa_nil))))) (pss_one ps_never) pss_nil)
  (pss_cons (ps_set (i := 1) sc_read_string.nd rfl (.inl rfl) (pe_ifExp (pt_cmpR xo_inT (pe_slice sl_str (pv 0) po_none (po_some (pe_nat 1))) (pe_tup (pa_cons pe_str (pa_cons pe_str pa_nil))) (by rfl)) (pe_nat 1) (pe_nat 0)))
  (pss_cons (ps_set (i := 2) sc_read_string.nd rfl (.inl rfl) (pe_ifExp (pt_cmpR on_eqS (pe_slice sl_str (pv 0) po_none (po_some (pe_nat 1))) pe_str (nomark _)) (pe_nat 2) (pe_nat 0)))
  (pss_cons (ps_if (pt_cmpR on_eqS (pe_slice sl_str (pv 0) (po_some (pv 1)) (po_some (pe_op on_add (pv 1) (pe_nat 1)))) pe_str (nomark _)) (pss_one (ps_par (by rfl) sc_read_string.nd (i := 1) (j := 2) rfl rfl (by decide) rfl rfl (pa_cons (pe_op on_add (pv 1) (pe_nat 1)) (pa_cons (pe_op on_add (pv 2) (pe_nat 1)) pa_nil)) (by rfl))) pss_nil)
  (pss_cons (ps_for PassesOwn.never rfl (pi_range2 rfl T.n_range (pa_cons (pv 1) (pa_cons (pe_callB xc_lenS (by rfl) T.n_len (by decide +kernel) (pa_cons (pv 0) pa_nil)) pa_nil))) (pg_name (i := 3) sc_read_string.nd rfl (.inl rfl))
  (pss_one (ps_if (pt_cmpR xo_ninS (pe_ix xi_str (pv 0) (pv 3) (fun _ _ => rfl)) pe_str (by rfl)) (pss_one ps_never) pss_nil)))
  (pss_cons (ps_if (pt_cmpR on_eq (pv 1) (pe_callB xc_lenS (by rfl) T.n_len (by decide +kernel) (pa_cons (pv 0) pa_nil)) (nomark _)) (pss_one ps_never) pss_nil)
  (pss_one (ps_ret (pe_tup (pa_cons (pe_slice sl_str (pv 0) (po_some (pv 1)) po_none) (pa_cons (pv 2) pa_nil))))))))))), ?_⟩
  obtain ⟨c, ec, hc1, hc2⟩ := sgn_take hs h0 hc
  have hlen := sgn_len ls hs
  repeat walk_at "st"
  refine s_ifF rfl ?_
  repeat walk_at "st"
  refine s_take (by omega) ?_
  rw [ec]
  repeat walk_at "st"
  intro p0 hp0
  refine ⟨p0, _, rfl, upd_same, rfl, rfl, ?_⟩
  repeat walk_at "st"
  refine s_ifI hs ?_ ?_
  · have e1 : decide (sg = 1) = decide (c = 45) := dec_iff hc1.symm
    rw [e1]
    simp only [List.mem_cons, List.not_mem_nil, or_false] at hc2
    rcases hc2 with rfl | rfl | rfl | rfl | rfl <;> decide +kernel
  repeat walk_at "st"
  refine s_take (by omega) ?_
  rw [ec]
  repeat walk_at "st"
  refine s_ifC (f := fun s => 2 * s) hs ?_ ?_
  · rw [dec_iff hc1.symm]
    exact dec_iff (show sOf [c] = sOf [45] ↔ c = 45 from ⟨fun e => by have := sOf_inj.mp e; simpa using this, fun e => by rw [e]⟩)
  repeat walk_at "st"
  refine s_oneS (by omega) ?_
  rw [sgn_drop ls hs]
  have e3 : decide (sOf (ls.take 1) = Str.ofString "i") = false := decide_eq_false fun e => by
    match ls, h0 with
    | d :: ls, _ =>
      have e2 : sOf [d] = sOf [105] := e.trans (by decide +kernel)
      have e2 := sOf_inj.mp e2
      simp at e2
      subst e2
      exact absurd (hc 105 List.mem_cons_self) (by decide)
  repeat walk_at "st"
  refine s_ifF e3 ?_
  repeat walk_at "st"
  refine s_lenS (by rw [sOf_len]; omega) ?_
  rw [sOf_len]
  repeat walk_at "st"
  refine forW (walk_rgN (a := sg) (b := (sgnL sg ++ ls).length)) ls (by rw [hlen]; simp) (fun s _ => s) () (fun _ σ' H' => ∃ o, σ' = [some (.str (sOf (sgnL sg ++ ls))), some (nV sg), some (nV (2 * sg)), o] ∧ Same H H') ⟨_, rfl, same_new hp0⟩ (fun _ _ _ _ => trivial) ?_ ?_
  · rintro i d x _ σ' H' H'' hd _ ⟨o, rfl, s1⟩ ⟨rfl, rfl⟩
    repeat walk_at "st"
    refine s_ixS (c := d) (by rw [sOf_len]; omega) ?_ ?_
    · have e4 : (sgnL sg ++ ls)[sg + i]? = some d := by
        rw [← List.getElem?_drop, sgn_drop ls hs, hd]
      have e5 : (sgnL sg ++ ls).toArray[sg + i]? = some d := by simpa using e4
      exact e5
    repeat walk_at "st"
    refine s_ifF ?_ ?_
    · have := hc d (List.mem_of_getElem? hd)
      simp only [List.mem_cons, List.not_mem_nil, or_false] at this
      rcases this with rfl | rfl | rfl | rfl <;> decide +kernel
    · repeat walk_at "st"
      exact ⟨_, rfl, s1⟩
  · rintro σ' H' ⟨o, rfl, s1⟩
    repeat walk_at "st"
    refine s_lenS (by rw [sOf_len]; omega) ?_
    repeat walk_at "st"
    refine s_ifF (decide_eq_false ?_) ?_
    · rw [sOf_len, hlen]
      have : ls.length ≠ 0 := fun e => h0 (List.length_eq_zero_iff.mp e)
      omega
    repeat walk_at "st"
    refine s_dropS (by omega) ?_
    rw [sgn_drop ls hs]
    repeat walk_at "st"
    intro p hp
    exact k p _ (Same.nw s1 hp) upd_same

def sp_Pauli_init (K : PySem.W.Frag) : Sp := fun vs H Q _ => ∃ a dx H0 n r, vs = [.ref a, .str (sOf (sgnL r.s ++ letL n r.x r.z))] ∧ H0 a = none ∧ H = upd H0 a (.ins (He.ga K "Pauli") dx []) ∧ 1 ≤ n ∧ n ≤ 100 ∧ r.ok n ∧ ∀ H', Same H0 H' → isP K n H' (.ref a) r → Q .non H'
theorem ok_Pauli_init (T : Tx K mg) : FnOk P w K mg base CX0 2 (He.fAd K ("Pauli", some "__init__")) T.fd_Pauli_init ["self", "text"] (sp_Pauli_init K) := by
  have G_read_string := ok_read_string (P := P) (w := w) (base := base) T
  refine okD T.F_Pauli_init sc_Pauli_init (fun vs H Q E h => by obtain ⟨a, dx, H0, n, r, rfl, _⟩ := h; rfl) (fun cdv A outer s H vs Q E hr h => ?_)
  obtain ⟨a, dx, H0, n, r, rfl, ha0, rfl, h1, hn, rok, k⟩ := h
  refine ⟨_, (pss_cons (ps_asg (pe_call G_read_string (hr.mono (by decide)) (by rfl) T.m_read_string T.F_read_string.kp T.b_read_string .nil pass0 (pa_cons (pv 1) pa_nil)) (xg_tup (n := 2) rfl (pgs_cons (xg_fld T.c_Pauli T.a_Pauli_letters (pv 0)) (pgs_cons (xg_fld T.c_Pauli T.a_Pauli_phase (pv 0)) pgs_nil))))
  (pss_cons (xs_fld T.c_Pauli T.a_Pauli_size (pv 0) (pe_callB xc_lenS (by rfl) T.n_len (by decide +kernel) (pa_cons (xe_fld T.c_Pauli T.a_Pauli_letters (pv 0)) pa_nil)))
  (pss_one (xs_fld T.c_Pauli T.a_Pauli_weight (pv 0) (pe_callB xc_lenL (by rfl) T.n_len (by decide +kernel) (pa_cons (pe_lc (own := [("letter", 2)]) rfl sc_Pauli_init.nd (pi_str (xe_fld T.c_Pauli T.a_Pauli_letters (pv 0))) (blkOk_by (N := ["self", "text", "letter"]) (sc := defScope s_Pauli_init) (by decide +kernel)) (fun _ _ _ _ _ => (pg_name (i := 2) sc_Pauli_init.nd rfl (.inl rfl))) (fun _ _ _ _ _ => (pts_one (pt_cmpR on_neS (pv 2) pe_str (nomark _)))) (fun _ _ _ _ _ => (pv 2))) pa_nil)))))), ?_⟩
  have ll := letL_len n r.x r.z
  have s0 : Same H0 (upd H0 a (.ins (He.ga K "Pauli") dx [])) := same_new ha0
  repeat walk_at "st"
  refine ⟨r.s, _, rfl, rok.2.2, (fun e => by rw [e] at ll; simp at ll; omega), (fun c hc => ?_), by omega, fun p H1 s1 h1 => ?_⟩
  · unfold letL at hc
    obtain ⟨k, _, rfl⟩ := List.mem_map.mp hc
    exact chr4_mem _ _
  have ha1 := s1 a _ upd_same
  refine s_gtup h1 rfl ?_
  repeat walk_at "st"
  refine s_put ha1 (Nat.le_of_ble_eq_true rfl) ?_
  repeat walk_at "st"
  refine s_put upd_same (Nat.le_of_ble_eq_true rfl) ?_
  repeat walk_at "st"
  refine s_at upd_same rfl ?_
  repeat walk_at "st"
  refine s_lenS (by rw [sOf_len]; omega) ?_
  repeat walk_at "st"
  refine s_put upd_same (Nat.le_of_ble_eq_true rfl) ?_
  repeat walk_at "st"
  refine s_at upd_same rfl ?_
  repeat walk_at "st"
  refine lcF (walk_str (z := sOf (letL n r.x r.z))) (letL n r.x r.z) (fun c => sOf [c]) (fun c => !decide (sOf [c] = Str.ofString "I")) isS monoS (by show _ = (letL n r.x r.z).toArray.size; simp) (by show (letL n r.x r.z).toArray.size ≤ _; simp; omega) (fun _ _ => trivial) (fun i H x H' y => by rw [y.1]; exact Same.refl H) ?_ ?_
  · rintro i d x H3 H4 hd s3 ⟨rfl, c, ec, rfl⟩ Qc Qn qc qn
    have ec2 : (letL n r.x r.z)[i]? = some c := by have : (letL n r.x r.z).toArray[i]? = some c := ec; simpa using this
    rw [hd] at ec2
    cases ec2
    walk_at "st"
    refine ⟨rfl, ?_⟩
    repeat walk_at "st"
    refine s_if (fun e => ?_) (fun e => ?_)
    · repeat walk_at "st"
      exact qc _ _ e (Same.refl _) rfl
    · exact qn _ e (Same.refl _)
  · intro D vs3 H3 hD s3 h3 hi3
    repeat walk_at "st"
    refine s_put (s3 _ _ upd_same) (Nat.le_of_ble_eq_true rfl) ?_
    repeat walk_at "st"
    show Q .non _
    refine k _ (same_mut (Same.trans (same_mut (same_mut (same_mut (s0.trans s1) ha0) ha0) ha0) s3) ha0) ⟨a, dx, _, rfl, upd_same, rfl, rfl, ?_, rok, rfl⟩
    rw [sOf_len, ll]
    rfl

def sp_ones : Sp := fun vs H Q _ => ∃ n, vs = [nV n] ∧ Q (nV (pc n)) H
theorem ok_ones (T : Tx K mg) : FnOk P w K mg base CX0 1 (He.fAd K ("ones", none)) T.fd_ones ["number"] (sp_ones) := by
  refine okD T.F_ones sc_ones (fun vs H Q E h => by obtain ⟨n, rfl, _⟩ := h; rfl) (fun cdv A outer s H vs Q E hr h => ?_)
  obtain ⟨n, rfl, k⟩ := h
  refine ⟨_, (pss_cons (ps_set (i := 1) sc_ones.nd rfl (.inl rfl) (pe_nat 0))
  (pss_cons (ps_while PassesOwn.never (xt_tru (pv 0)) (pss_one (ps_par (by rfl) sc_ones.nd (i := 0) (j := 1) rfl rfl (by decide) rfl rfl (pa_cons (pe_op on_and (pv 0) (pe_op on_sub (pv 0) (pe_nat 1))) (pa_cons (pe_op on_add (pv 1) (pe_nat 1)) pa_nil)) (by rfl))))
  (pss_one (ps_ret (pv 1))))), ?_⟩
  repeat walk_at "st"
  refine ⟨fun m σ' H' => H' = H ∧ ∃ c, σ' = [some (nV m), some (nV c)] ∧ c + pc m = pc n, ⟨n, rfl, 0, rfl, by omega⟩, ?_⟩
  rintro m σ' H' ⟨rfl, c, rfl, ec⟩
  repeat walk_at "st"
  refine s_if (fun e => ?_) (fun e => ?_)
  · have h0 : m ≠ 0 := of_decide_eq_true e
    obtain ⟨p1, p2⟩ := pc_step m h0
    refine ⟨fun σ' H'' => ∃ m', m' < m ∧ (H'' = H' ∧ ∃ c, σ' = [some (nV m'), some (nV c)] ∧ c + pc m' = pc n), fun _ _ h => h, ?_⟩
    repeat walk_at "st"
    exact ⟨_, p2, rfl, _, rfl, by omega⟩
  · have h0 : m = 0 := by simpa using of_decide_eq_false e
    subst h0
    rw [pc_zero, Nat.add_zero] at ec
    repeat walk_at "st"
    rw [ec]
    exact k

def sp_crossing : Sp := fun vs H Q _ => ∃ v u a b, vs = [v, u] ∧ isRow H v a ∧ isRow H u b ∧ Q (nV (cr a b)) H
theorem ok_crossing (T : Tx K mg) : FnOk P w K mg base CX0 2 (He.fAd K ("crossing", none)) T.fd_crossing ["one", "two"] (sp_crossing) := by
  have G_ones := ok_ones (P := P) (w := w) (base := base) T
  refine okD T.F_crossing sc_crossing (fun vs H Q E h => by obtain ⟨v, u, a, b, rfl, _⟩ := h; rfl) (fun cdv A outer s H vs Q E hr h => ?_)
  obtain ⟨v, u, a, b, rfl, ⟨p, rfl, hp⟩, ⟨q, rfl, hq⟩, k⟩ := h
  refine ⟨_, (pss_one (ps_ret (pe_op on_and (pe_op on_add (pe_call G_ones (hr.mono (by decide)) (by rfl) T.m_ones T.F_ones.kp T.b_ones .nil pass0 (pa_cons (pe_op on_and (pe_ix xi_tup (pv 0) (pe_nat 0) (fun _ _ => rfl)) (pe_ix xi_tup (pv 1) (pe_nat 1) (fun _ _ => rfl))) pa_nil)) (pe_call G_ones (hr.mono (by decide)) (by rfl) T.m_ones T.F_ones.kp T.b_ones .nil pass0 (pa_cons (pe_op on_and (pe_ix xi_tup (pv 0) (pe_nat 1) (fun _ _ => rfl)) (pe_ix xi_tup (pv 1) (pe_nat 0) (fun _ _ => rfl))) pa_nil))) (pe_nat 1)))), ?_⟩
  repeat walk_at "st"
  refine ⟨_, rfl, ?_⟩
  repeat walk_at "st"
  refine ⟨_, rfl, ?_⟩
  repeat walk_at "st"
  rw [cr_is]
  exact k

def sp_row_product : Sp := fun vs H Q _ => ∃ v u a b, vs = [v, u] ∧ isRow H v a ∧ isRow H u b ∧ ∀ v' H', Same H H' → isRow H' v' (rp a b) → Q v' H'
theorem ok_row_product (T : Tx K mg) : FnOk P w K mg base CX0 2 (He.fAd K ("row_product", none)) T.fd_row_product ["one", "two"] (sp_row_product) := by
  have G_ones := ok_ones (P := P) (w := w) (base := base) T
  refine okD T.F_row_product sc_row_product (fun vs H Q E h => by obtain ⟨v, u, a, b, rfl, _⟩ := h; rfl) (fun cdv A outer s H vs Q E hr h => ?_)
  obtain ⟨v, u, a, b, rfl, ⟨p, rfl, hp⟩, ⟨q, rfl, hq⟩, k⟩ := h
  refine ⟨_, (pss_cons (ps_par (by rfl) sc_row_product.nd (i := 2) (j := 3) rfl rfl (by decide) rfl rfl (pa_cons (pe_op on_xor (pe_ix xi_tup (pv 0) (pe_nat 0) (fun _ _ => rfl)) (pe_ix xi_tup (pv 1) (pe_nat 0) (fun _ _ => rfl))) (pa_cons (pe_op on_xor (pe_ix xi_tup (pv 0) (pe_nat 1) (fun _ _ => rfl)) (pe_ix xi_tup (pv 1) (pe_nat 1) (fun _ _ => rfl))) pa_nil)) (by rfl))
  (pss_cons (ps_set (i := 4) sc_row_product.nd rfl (.inl rfl) (pe_op op_sub (pe_op on_add (pe_call G_ones (hr.mono (by decide)) (by rfl) T.m_ones T.F_ones.kp T.b_ones .nil pass0 (pa_cons (pe_op on_and (pe_ix xi_tup (pv 0) (pe_nat 0) (fun _ _ => rfl)) (pe_ix xi_tup (pv 0) (pe_nat 1) (fun _ _ => rfl))) pa_nil)) (pe_call G_ones (hr.mono (by decide)) (by rfl) T.m_ones T.F_ones.kp T.b_ones .nil pass0 (pa_cons (pe_op on_and (pe_ix xi_tup (pv 1) (pe_nat 0) (fun _ _ => rfl)) (pe_ix xi_tup (pv 1) (pe_nat 1) (fun _ _ => rfl))) pa_nil))) (pe_call G_ones (hr.mono (by decide)) (by rfl) T.m_ones T.F_ones.kp T.b_ones .nil pass0 (pa_cons (pe_op on_and (pv 2) (pv 3)) pa_nil))))
  (pss_cons (ps_aug (i := 4) sc_row_product.nd rfl (.inl rfl) (pe_op on_mul (pe_nat 2) (pe_op on_add (pe_op on_add (pe_call G_ones (hr.mono (by decide)) (by rfl) T.m_ones T.F_ones.kp T.b_ones .nil pass0 (pa_cons (pe_op on_and (pe_ix xi_tup (pv 0) (pe_nat 1) (fun _ _ => rfl)) (pe_ix xi_tup (pv 1) (pe_nat 0) (fun _ _ => rfl))) pa_nil)) (pe_ix xi_tup (pv 0) (pe_nat 2) (fun _ _ => rfl))) (pe_ix xi_tup (pv 1) (pe_nat 2) (fun _ _ => rfl)))) ip_add)
  (pss_one (ps_ret (pe_tup (pa_cons (pv 2) (pa_cons (pv 3) (pa_cons (pe_op op_and (pe_op op_shr (pv 4) (pe_nat 1)) (pe_nat 1)) pa_nil))))))))), ?_⟩
  repeat walk_at "st"
  refine ⟨_, rfl, ?_⟩
  repeat walk_at "st"
  refine ⟨_, rfl, ?_⟩
  repeat walk_at "st"
  refine ⟨_, rfl, ?_⟩
  repeat walk_at "st"
  refine ⟨_, rfl, ?_⟩
  repeat walk_at "st"
  refine s_I (by decide) ?_
  repeat walk_at "st"
  intro p2 hp2
  refine k _ _ (same_new hp2) ⟨p2, rfl, ?_⟩
  rw [upd_same]
  have e : Builtin.bitAnd (rpI a b / 2 ^ ((1 : Nat) : Int).toNat) ((1 : Nat) : Int) = ((rp a b).s : Int) := by
    rw [← rp_s]; exact bitAnd_m1 _
  exact congrArg (fun i => some (HO.tup [nV (a.x ^^^ b.x), nV (a.z ^^^ b.z), V.int i])) e

theorem single_flat {α β : Type} (f : α → β) : ∀ l : List α, (l.map fun i => [f i]).flatten = l.map f
  | [] => rfl
  | a :: l => by rw [List.map_cons, List.flatten_cons, single_flat f l]; rfl
theorem one_sum {α : Type} (f : α → Nat) : ∀ l : List α, (((l.map fun i => [f i]).map sOf).map fun s : Str => s.length).sum = l.length
  | [] => rfl
  | a :: l => by rw [List.map_cons, List.map_cons, List.map_cons, List.sum_cons, one_sum f l, sOf_len]; simp; omega
def sp_letters_of : Sp := fun vs H Q _ => ∃ v r n, vs = [v, nV n] ∧ isRow H v r ∧ n ≤ 100 ∧ ∀ H', Same H H' → Q (.str (sOf (letL n r.x r.z))) H'
theorem ok_letters_of (T : Tx K mg) : FnOk P w K mg base CX0 1 (He.fAd K ("letters_of", none)) T.fd_letters_of ["row", "size"] (sp_letters_of) := by
  refine okD T.F_letters_of sc_letters_of (fun vs H Q E h => by obtain ⟨v, u, a, rfl, _⟩ := h; rfl) (fun cdv A outer s H vs Q E hr h => ?_)
  obtain ⟨v, r, n, rfl, ⟨p, rfl, hp⟩, hn, k⟩ := h
  refine ⟨_, (pss_one (ps_ret (pe_join pe_str (pe_lc (own := [("k", 2)]) rfl sc_letters_of.nd (pi_range1 rfl T.n_range (pa_cons (pv 1) pa_nil)) (blkOk_by (N := ["row", "size", "k"]) (sc := defScope s_letters_of) (by decide +kernel)) (fun _ _ _ _ _ => (pg_name (i := 2) sc_letters_of.nd rfl (.inl rfl))) (fun _ _ _ _ _ => pts_nil) (fun _ _ _ _ _ => (pe_ix xi_str pe_str (pe_op on_add (pe_op on_and (pe_op on_shr (pe_ix xi_tup (pv 0) (pe_nat 0) (fun _ _ => rfl)) (pv 2)) (pe_nat 1)) (pe_op on_mul (pe_nat 2) (pe_op on_and (pe_op on_shr (pe_ix xi_tup (pv 0) (pe_nat 1) (fun _ _ => rfl)) (pv 2)) (pe_nat 1)))) (fun _ _ => rfl))))))), ?_⟩
  repeat walk_at "st"
  refine ⟨⟨_, rfl⟩, ?_⟩
  repeat walk_at "st"
  refine lcM (n := n) walk_rg0 (List.range n) (fun i => sOf [chr4 (r.x.testBit i) (r.z.testBit i)]) isS monoS (by simp) (by omega) (fun _ _ => trivial) (fun _ _ _ _ y => yfn_same y) ?_ ?_
  · rintro i d x H1 H2 hd s1 ⟨rfl, rfl⟩ Qc qc
    obtain ⟨hi, rfl⟩ := List.getElem?_eq_some_iff.mp hd
    rw [List.length_range] at hi
    rw [List.getElem_range] at qc
    have hp1 := s1 _ _ hp
    walk_at "st"
    refine ⟨rfl, ?_⟩
    repeat walk_at "st"
    rw [bit_and, bit_and]
    refine s_ixS (c := chr4 (r.x.testBit i) (r.z.testBit i)) (by decide +kernel) (four_at _ _) ?_
    exact qc _ _ (Same.refl _) rfl
  · intro D vs1 H1 hD s1 h1 hi1
    obtain rfl := its_str hi1
    refine ⟨_, D, ((List.range n).map fun i => [chr4 (r.x.testBit i) (r.z.testBit i)]).map sOf, rfl, rfl, .inl (SqL.of (by rw [h1, List.map_map, List.map_map, List.map_map]; rfl)), ?_, ?_⟩
    · rw [one_sum, show Str.ofString "" = sOf [] from by decide +kernel, sOf_len]
      simp; omega
    · rw [show Str.ofString "" = Str.empty from by decide +kernel, join_sOf, show ((List.range n).map fun i => [chr4 (r.x.testBit i) (r.z.testBit i)]).flatten = letL n r.x r.z from by exact single_flat _ _]
      exact k _ s1

def sp_column_of : Sp := fun vs H Q _ => ∃ v r n c, vs = [v, nV n, nV c] ∧ isRow H v r ∧ Q (nV (colOf n r c)) H
theorem ok_column_of (T : Tx K mg) : FnOk P w K mg base CX0 1 (He.fAd K ("column_of", none)) T.fd_column_of ["row", "size", "column"] (sp_column_of) := by
  refine okD T.F_column_of sc_column_of (fun vs H Q E h => by obtain ⟨v, u, a, b, rfl, _⟩ := h; rfl) (fun cdv A outer s H vs Q E hr h => ?_)
  obtain ⟨v, r, n, c, rfl, ⟨p, rfl, hp⟩, k⟩ := h
  refine ⟨_, (pss_one (ps_ret (pe_ifExp (pt_cmpR on_lt (pv 2) (pv 1) (nomark _)) (pe_op on_and (pe_op on_shr (pe_ix xi_tup (pv 0) (pe_nat 0) (fun _ _ => rfl)) (pv 2)) (pe_nat 1)) (pe_op on_and (pe_op on_shr (pe_ix xi_tup (pv 0) (pe_nat 1) (fun _ _ => rfl)) (pe_op on_sub (pv 2) (pv 1))) (pe_nat 1))))), ?_⟩
  repeat walk_at "st"
  unfold colOf at k
  refine s_if (fun e => ?_) (fun e => ?_)
  · repeat walk_at "st"
    rw [if_pos (of_decide_eq_true e)] at k
    rw [bit_and]
    exact k
  · have e := of_decide_eq_false e
    rw [if_neg e] at k
    repeat walk_at "st"
    rw [bit_and]
    exact k


theorem row_sum {n : Nat} (f : Nat → Bool) (x : Nat) (hx : x < 2 ^ n) (hf : ∀ k, k < n → f k = x.testBit k) : (((List.range n).filter f).map fun k => 1 <<< k).sum = x := by
  rw [List.filter_congr (q := x.testBit) fun k hk => hf k (List.mem_range.mp hk), show (fun k : Nat => 1 <<< k) = fun k => 2 ^ k from funext fun k => by rw [Nat.shiftLeft_eq, Nat.one_mul], sum_bits, Nat.mod_eq_of_lt hx]
def sp_row_of (K : PySem.W.Frag) : Sp := fun vs H Q _ => ∃ v n r, vs = [v] ∧ isP K n H v r ∧ n ≤ 100 ∧ ∀ v' H', Same H H' → isRow H' v' r → Q v' H'
theorem ok_row_of (T : Tx K mg) : FnOk P w K mg base CX0 1 (He.fAd K ("row_of", none)) T.fd_row_of ["string"] (sp_row_of K) := by
  refine okD T.F_row_of sc_row_of (fun vs H Q E h => by obtain ⟨v, n, r, rfl, _⟩ := h; rfl) (fun cdv A outer s H vs Q E hr h => ?_)
  obtain ⟨v, n, r, rfl, ⟨a, dx, fs, rfl, ha, hl, hph, hsz, rok, _⟩, hn, k⟩ := h
  refine ⟨_, (pss_cons (ps_set (i := 1) sc_row_of.nd rfl (.inl rfl) (pe_callB (xc_sum rfl) (by rfl) T.n_sum (by decide +kernel) (pa_cons (pe_lc (own := [("k", 3), ("letter", 4)]) rfl sc_row_of.nd (pi_enumS (by rfl) T.n_enumerate (pa_cons (xe_fld T.c_Pauli T.a_Pauli_letters (pv 0)) pa_nil)) (blkOk_by (N := ["string", "x", "z", "k", "letter"]) (sc := defScope s_row_of) (by decide +kernel)) (fun _ _ _ _ _ => (xg_tup (n := 2) rfl (pgs_cons (pg_name (i := 3) sc_row_of.nd rfl (.inl rfl)) (pgs_cons (pg_name (i := 4) sc_row_of.nd rfl (.inl rfl)) pgs_nil)))) (fun _ _ _ _ _ => (pts_one (pt_cmpR xo_inS (pv 4) pe_str (by rfl)))) (fun _ _ _ _ _ => (pe_op on_shl (pe_nat 1) (pv 3)))) pa_nil)))
  (pss_cons (ps_set (i := 2) sc_row_of.nd rfl (.inl rfl) (pe_callB (xc_sum rfl) (by rfl) T.n_sum (by decide +kernel) (pa_cons (pe_lc (own := [("k", 3), ("letter", 4)]) rfl sc_row_of.nd (pi_enumS (by rfl) T.n_enumerate (pa_cons (xe_fld T.c_Pauli T.a_Pauli_letters (pv 0)) pa_nil)) (blkOk_by (N := ["string", "x", "z", "k", "letter"]) (sc := defScope s_row_of) (by decide +kernel)) (fun _ _ _ _ _ => (xg_tup (n := 2) rfl (pgs_cons (pg_name (i := 3) sc_row_of.nd rfl (.inl rfl)) (pgs_cons (pg_name (i := 4) sc_row_of.nd rfl (.inl rfl)) pgs_nil)))) (fun _ _ _ _ _ => (pts_one (pt_cmpR xo_inS (pv 4) pe_str (by rfl)))) (fun _ _ _ _ _ => (pe_op on_shl (pe_nat 1) (pv 3)))) pa_nil)))
  (pss_one (ps_ret (pe_tup (pa_cons (pv 1) (pa_cons (pv 2) (pa_cons (pe_op on_shr (xe_fld T.c_Pauli T.a_Pauli_phase (pv 0)) (pe_nat 1)) pa_nil)))))))), ?_⟩
  have lc : ∀ i c : Nat, (sOf (letL n r.x r.z)).cps[i]? = some c → (letL n r.x r.z)[i]? = some c := fun i c e => by have : (letL n r.x r.z).toArray[i]? = some c := e; simpa using this
  have sz : (sOf (letL n r.x r.z)).cps.size = n := by show (letL n r.x r.z).toArray.size = n; simp [letL_len]
  repeat walk_at "st"
  refine lcF (walk_enumS (x := sOf (letL n r.x r.z))) (List.range n) (fun k => 1 <<< k) (fun k => decide (chr4 (r.x.testBit k) (r.z.testBit k) ∈ (Str.ofString "XY").cps.toList)) isN monoN (by rw [sz]; simp) (by rw [sz]; omega) (fun _ _ => trivial) (fun i H x H' y => by obtain ⟨T, c, _, hT, rfl, _⟩ := y; exact same_new hT) ?_ ?_
  · rintro i d x H3 H4 hd s3 ⟨T1, c, rfl, hT, rfl, ec⟩ Qc Qn qc qn
    obtain ⟨hi, rfl⟩ := List.getElem?_eq_some_iff.mp hd
    rw [List.length_range] at hi
    rw [List.getElem_range] at qc qn
    have ec2 := lc _ _ ec
    rw [letL_at hi] at ec2
    cases ec2
    refine s_gtup upd_same rfl ?_
    repeat walk_at "st"
    refine ⟨rfl, ?_⟩
    repeat walk_at "st"
    refine s_if (fun e => ?_) (fun e => ?_)
    · repeat walk_at "st"
      exact qc _ _ (by simpa using e) (Same.refl _) rfl
    · exact qn _ (by simpa using e) (Same.refl _)
  intro D vs3 H3 hD s3 h3 hi3
  obtain rfl := hi3.eqN
  have ha3 := s3 _ _ ha
  repeat walk_at "st"
  refine s_sum h3 ?_
  rw [row_sum _ r.x rok.1 (fun k hk => by rw [show (Str.ofString "XY").cps.toList = [88, 89] from by decide +kernel, chr4_x])]
  repeat walk_at "st"
  refine lcF (walk_enumS (x := sOf (letL n r.x r.z))) (List.range n) (fun k => 1 <<< k) (fun k => decide (chr4 (r.x.testBit k) (r.z.testBit k) ∈ (Str.ofString "ZY").cps.toList)) isN monoN (by rw [sz]; simp) (by rw [sz]; omega) (fun _ _ => trivial) (fun i H x H' y => by obtain ⟨T, c, _, hT, rfl, _⟩ := y; exact same_new hT) ?_ ?_
  · rintro i d x H4 H5 hd s4 ⟨T1, c, rfl, hT, rfl, ec⟩ Qc Qn qc qn
    obtain ⟨hi, rfl⟩ := List.getElem?_eq_some_iff.mp hd
    rw [List.length_range] at hi
    rw [List.getElem_range] at qc qn
    have ec2 := lc _ _ ec
    rw [letL_at hi] at ec2
    cases ec2
    refine s_gtup upd_same rfl ?_
    repeat walk_at "st"
    refine ⟨rfl, ?_⟩
    repeat walk_at "st"
    refine s_if (fun e => ?_) (fun e => ?_)
    · repeat walk_at "st"
      exact qc _ _ (by simpa using e) (Same.refl _) rfl
    · exact qn _ (by simpa using e) (Same.refl _)
  intro D2 vs4 H4 hD2 s4 h4 hi4
  obtain rfl := hi4.eqN
  have ha4 := s4 _ _ ha3
  repeat walk_at "st"
  refine s_sum h4 ?_
  rw [row_sum _ r.z rok.2.1 (fun k hk => by rw [show (Str.ofString "ZY").cps.toList = [90, 89] from by decide +kernel, chr4_z])]
  repeat walk_at "st"
  intro p hp
  refine k _ _ (Same.nw (s3.trans s4) hp) ⟨p, rfl, ?_⟩
  rw [upd_same]
  have e : (2 * r.s) >>> 1 = r.s := by rw [Nat.shiftRight_eq_div_pow]; omega
  rw [e]
  rfl
end
end Kq

set_option Elab.async false
set_option linter.all false
set_option maxRecDepth 100000
set_option maxHeartbeats 4000000
/-! reduced rows walked -/
namespace Kq
open PySem PySem.Spec PyProof.Rows L2
local macro_rules | `(tactic| walk_at "st") => `(tactic| first
  | with_reducible refine s_seq ?_
  | ((with_reducible refine' s_var ?h1 ?h2); (case h1 => rfl))
  | with_reducible refine s_c ?_
  | with_reducible refine s_op ?_
  | with_reducible refine s_asg ?_
  | with_reducible refine s_name ?_
  | with_reducible refine s_cons ?_
  | with_reducible refine s_nil ?_
  | with_reducible refine s_call ?_
  | with_reducible refine s_CB ?_
  | with_reducible refine s_add ?_
  | ((with_reducible refine' s_sub ?h1 ?h2); (case h1 => omega))
  | ((with_reducible refine' s_mul ?h1 ?h2); (case h1 => omega))
  | ((with_reducible refine' s_mod ?h1 ?h2); (case h1 => omega))
  | ((with_reducible refine' s_div ?h1 ?h2); (case h1 => omega))
  | ((with_reducible refine' s_shl ?h1 ?h2); (case h1 => omega))
  | with_reducible refine s_shr ?_
  | with_reducible refine s_and ?_
  | with_reducible refine s_or ?_
  | with_reducible refine s_xor ?_
  | with_reducible refine s_lt ?_
  | with_reducible refine s_le ?_
  | with_reducible refine s_gt ?_
  | with_reducible refine s_ge ?_
  | with_reducible refine s_eqN ?_
  | with_reducible refine s_neN ?_
  | with_reducible refine s_eqS ?_
  | with_reducible refine s_neS ?_
  | with_reducible refine s_I0 ?_
  | with_reducible refine s_un ?_
  | with_reducible refine s_neg ?_
  | with_reducible refine s_test ?_
  | with_reducible refine s_B ?_
  | with_reducible refine s_bl ?_
  | with_reducible refine s_ifS ?_
  | with_reducible refine s_ifE ?_
  | with_reducible refine s_not ?_
  | with_reducible refine s_and2 ?_
  | with_reducible refine s_or2 ?_
  | with_reducible refine s_andV ?_
  | with_reducible refine s_orV ?_
  | with_reducible refine s_notV ?_
  | with_reducible refine s_tru ?_
  | with_reducible refine s_par ?_
  | with_reducible refine s_two ?_
  | with_reducible refine s_par3 ?_
  | with_reducible refine s_three ?_
  | with_reducible refine s_lst ?_
  | with_reducible refine s_tup ?_
  | ((with_reducible refine' s_size ?h1 ?h2); (case h1 => exact Nat.le_of_ble_eq_true rfl))
  | with_reducible refine s_fld ?_
  | with_reducible refine s_gcons ?_
  | with_reducible refine s_gnil ?_
  | with_reducible refine s_intN ?_
  | with_reducible refine s_intI ?_
  | with_reducible refine s_tTru ?_
  | with_reducible refine s_tBL ?_
  | with_reducible refine s_sign ?_
  | with_reducible refine s_min ?_
  | with_reducible refine s_sfld ?_
  | with_reducible refine s_gfld ?_
  | with_reducible refine s_intB ?_
  | with_reducible refine s_next ?_
  | with_reducible refine s_ret ?_
  | with_reducible refine s_drop ?_
  | with_reducible refine s_for ?_
  | with_reducible refine s_lc ?_
  | with_reducible refine s_yes ?_
  | with_reducible refine s_bits ?_
  | with_reducible refine s_bitsV ?_
  | ((with_reducible refine' s_own ?h1 ?h2); (case h1 => assumption))
  | ((with_reducible refine' s_len ?h1 ?h2); (case h1 => assumption))
  | ((with_reducible refine' s_lenT ?h1 ?h2); (case h1 => assumption))
  | with_reducible refine s_iTup ?_
  | with_reducible refine s_iList ?_
  | with_reducible refine s_iStr ?_
  | with_reducible refine s_iRng1 ?_
  | with_reducible refine s_iRng2 ?_
  | with_reducible refine s_iEnum ?_
  | with_reducible refine s_iEnumT ?_
  | with_reducible refine s_iEnumS ?_
  | with_reducible refine s_iZip ?_
  | with_reducible refine s_iZipM ?_
  | with_reducible refine s_srcS ?_
  | with_reducible refine s_srcES ?_
  | ((with_reducible refine' s_srcT ?h1 ?h2); (case h1 => assumption))
  | ((with_reducible refine' s_srcL ?h1 ?h2); (case h1 => assumption))
  | ((with_reducible refine' s_srcE ?h1 ?h2); (case h1 => assumption))
  | ((with_reducible refine' s_srcET ?h1 ?h2); (case h1 => assumption))
  | ((with_reducible refine' s_rng1 ?h1 ?h2); (case h1 => omega))
  | ((with_reducible refine' s_rng2 ?h1 ?h2); (case h1 => omega))
  | with_reducible refine s_ckw ?_
  | ((with_reducible refine' s_sorted ?h1 ?h2); (case h1 => assumption))
  | ((with_reducible refine' s_inN ?h1 ?h2); (case h1 => assumption))
  | ((with_reducible refine' s_ninN ?h1 ?h2); (case h1 => assumption))
  | ((with_reducible refine' s_tupL ?h1 ?h2); (case h1 => assumption))
  | ((with_reducible refine' s_tupT ?h1 ?h2); (case h1 => assumption))
  | ((with_reducible refine' s_lstL ?h1 ?h2); (case h1 => assumption))
  | ((with_reducible refine' s_lstT ?h1 ?h2); (case h1 => assumption))
  | ((with_reducible refine' s_addS2 ?h1 ?h2); (case h1 => (simp only [List.length_append, letL_len]; omega)); (rw [sOf_add]))
  | with_reducible refine s_sl ?_
  | with_reducible refine s_part ?_
  | with_reducible refine s_partV ?_
  | with_reducible refine s_nopart ?_
  | ((with_reducible refine' s_cutTake ?h1 ?h2); (case h1 => assumption))
  | ((with_reducible refine' s_cutDrop ?h1 ?h2); (case h1 => assumption))
  | with_reducible refine s_isiII ?_
  | with_reducible refine s_isiIB ?_
  | with_reducible refine s_isiSS ?_
  | ((with_reducible refine' s_isiTT ?h1 ?h2); (case h1 => assumption))
  | ((with_reducible refine' s_aug ?h1 ?h2); (case h1 => rfl))
  | with_reducible refine s_ipN ?_
  | with_reducible refine s_ip ?_
  | with_reducible refine s_gsub ?_
  | with_reducible refine s_wh ?_
  | with_reducible refine s_join ?_
  | ((with_reducible refine' s_ixT ?h1 ?h2 ?h3); (case h1 => assumption); (case h2 => rfl))
  | ((with_reducible refine' s_at ?h1 ?h2 ?h3); (case h1 => assumption); (case h2 => assumption))
  | with_reducible refine s_make ?_
  | with_reducible refine s_dgetK ?_
  | with_reducible refine s_dput ?_)

section
variable {P : Program} {w : World} {K : PySem.W.Frag} {mg : Str → Option Value} {base : Heap}
theorem Itm.getR {α : Type} {R : Rp α} {H : Hp} {vs : List V} {l : List α} {i : Nat} {a : α} (h : Itm R H vs l) (e : l[i]? = some a) : ∃ v, vs[i]? = some v ∧ R H v a := h.get' e
def sp_reduced_rows : Sp := fun vs H Q _ => ∃ v n rows, vs = [v, nV n] ∧ isL isRow H v rows ∧ rows.length ≤ 1000 ∧ n ≤ 100 ∧ (∀ r ∈ rows, r.ok n) ∧
  ∀ v' H' out, Same H H' → isL isRow H' v' out → (∀ r ∈ out, r.ok n) → out.length ≤ rows.length → (∀ x, Sn (out.map Row.xz) x ↔ Sn (rows.map Row.xz) x) → Q v' H'
theorem ok_reduced_rows (T : Tx K mg) : FnOk P w K mg base CX0 3 (He.fAd K ("reduced_rows", none)) T.fd_reduced_rows ["rows", "size"] (sp_reduced_rows) := by
  have G_row_product := ok_row_product (P := P) (w := w) (base := base) T
  have G_column_of := ok_column_of (P := P) (w := w) (base := base) T
  refine okD T.F_reduced_rows sc_reduced_rows (fun vs H Q E h => by obtain ⟨v, n, r, rfl, _⟩ := h; rfl) (fun cdv A outer s H vs Q E hr h => ?_)
  have hu64 := hr.units
  obtain ⟨v, n, rows, rfl, ⟨p, vs, rfl, hp, hi⟩, hz, hn, hok, k⟩ := h
  refine ⟨_, (pss_cons (ps_asg (pe_tup (pa_cons (pe_callTy xc_lstL (by rfl) T.n_list (by decide +kernel) (pa_cons (pv 0) pa_nil)) (pa_cons (pe_nat 0) pa_nil))) (xg_tup (n := 2) rfl (pgs_cons (pg_name (i := 2) sc_reduced_rows.nd rfl (.inr rfl)) (pgs_cons (pg_name (i := 3) sc_reduced_rows.nd rfl (.inl rfl)) pgs_nil))))
  (pss_cons (ps_for PassesOwn.never rfl (pi_range1 rfl T.n_range (pa_cons (pe_op on_mul (pe_nat 2) (pv 1)) pa_nil)) (pg_name (i := 4) sc_reduced_rows.nd rfl (.inr rfl))
  (pss_cons (ps_setLc (own := [("k", 7)]) (i := 5) rfl sc_reduced_rows.nd rfl rfl (sw_true rfl rfl rfl (by decide +kernel)) (pi_range2 rfl T.n_range (pa_cons (pv 3) (pa_cons (pe_callB xc_lenL (by rfl) T.n_len (by decide +kernel) (pa_cons (pv 2) pa_nil)) pa_nil))) (blkOk_by (N := ["rows", "size", "left", "place", "column", "found", "head", "k"]) (sc := defScope s_reduced_rows) (by decide +kernel)) (fun _ _ _ _ _ => (pg_name (i := 7) sc_reduced_rows.nd rfl (.inl rfl))) (fun _ _ _ _ _ => (pts_one (xt_tru (pe_call G_column_of (hr.mono (by decide)) (by rfl) T.m_column_of T.F_column_of.kp T.b_column_of .nil pass0 (pa_cons (pe_ix xi_list (pv 2) (pv 7) (fun _ _ => rfl)) (pa_cons (pv 1) (pa_cons (pv 4) pa_nil))))))) (fun _ _ _ _ _ => (pv 7)))
  (pss_one (ps_if (pt_cmpR (xo_neNil hu64) (pv 5) (pe_lst pa_nil) (nomark _)) (pss_cons (ps_asg (pe_tup (pa_cons (pe_ix xi_list (pv 2) (pe_ix xi_list (pv 5) (pe_nat 0) (fun _ _ => rfl)) (fun _ _ => rfl)) (pa_cons (pe_ix xi_list (pv 2) (pv 3) (fun _ _ => rfl)) pa_nil))) (xg_tup (n := 2) rfl (pgs_cons (pg_sub (pv 2) (pv 3) set_list) (pgs_cons (pg_sub (pv 2) (pe_ix xi_list (pv 5) (pe_nat 0) (fun _ _ => rfl)) set_list) pgs_nil))))
  (pss_cons (ps_set (i := 6) sc_reduced_rows.nd rfl (.inl rfl) (pe_ix xi_list (pv 2) (pv 3) (fun _ _ => rfl)))
  (pss_cons (ps_for PassesOwn.never rfl (pi_range1 rfl T.n_range (pa_cons (pe_callB xc_lenL (by rfl) T.n_len (by decide +kernel) (pa_cons (pv 2) pa_nil)) pa_nil)) (pg_name (i := 7) sc_reduced_rows.nd rfl (.inl rfl))
  (pss_one (ps_if (PW.pt (pw_and (pt_cmpR on_ne (pv 7) (pv 3) (nomark _)) (pw_and1 (xt_tru (pe_call G_column_of (hr.mono (by decide)) (by rfl) T.m_column_of T.F_column_of.kp T.b_column_of .nil pass0 (pa_cons (pe_ix xi_list (pv 2) (pv 7) (fun _ _ => rfl)) (pa_cons (pv 1) (pa_cons (pv 4) pa_nil)))))))) (pss_one (ps_asg (pe_call G_row_product (hr.mono (by decide)) (by rfl) T.m_row_product T.F_row_product.kp T.b_row_product .nil pass0 (pa_cons (pe_ix xi_list (pv 2) (pv 7) (fun _ _ => rfl)) (pa_cons (pv 6) pa_nil))) (pg_sub (pv 2) (pv 7) set_list))) pss_nil)))
  (pss_one (ps_aug (i := 3) sc_reduced_rows.nd rfl (.inl rfl) (pe_nat 1) ip_add))))) pss_nil))))
  (pss_one (ps_ret (pe_slice xl_list (pv 2) po_none (po_some (pv 3))))))), ?_⟩
  repeat walk_at "st"
  intro lp hlp
  repeat walk_at "st"
  intro tp htp
  refine s_gtup upd_same rfl ?_
  have hlp0 : H lp = none := hlp
  have hH : Same H (upd (upd H lp (.lst vs)) tp (.tup [.ref lp, nV 0])) := Same.nw (same_new hlp) htp
  repeat walk_at "st"
  refine for_it (n := 2 * n) walk_rg0 (fun i σ' H' => ∃ xs ls pl o4 o5 o6 o7, σ' = [some (.ref p), some (nV n), some (.ref lp), some (nV pl), o4, o5, o6, o7] ∧ Same H H' ∧ H' lp = some (.lst xs) ∧ Itm isRow H' xs ls ∧ Red n rows.length rows ls i pl) ?_ (fun _ _ _ _ _ => trivial) ?_ ?_
  · refine ⟨vs, rows, 0, _, _, _, _, rfl, hH, same_new htp _ _ upd_same, hi.mono monoRow (Sol.of hH), Red.init hok⟩
  · rintro i x σ' H1 H1' hin ⟨xs, ls, pl, o4, o5, o6, o7, rfl, s1, h1, hi1, red⟩ ⟨rfl, rfl⟩
    repeat walk_at "st"
    have hl1 := hi1.len
    have hlen := red.len
    have hple := red.le
    refine s_rng2 (by omega) ?_
    refine lcF (walk_rgN (a := pl) (b := xs.length)) (List.range (xs.length - pl)) (fun i => pl + i) (fun j => decide (colOf n (ls.getD (pl + j) ⟨0, 0, 0⟩) i ≠ 0)) isN monoN (by simp) (by omega) (fun _ _ => trivial) (fun _ _ _ _ y => yfn_same y) ?_ ?_
    · rintro j d y H3 H4 hd s3 ⟨rfl, rfl⟩ Qc Qn qc qn
      obtain ⟨hj, rfl⟩ := List.getElem?_eq_some_iff.mp hd
      rw [List.length_range] at hj
      rw [List.getElem_range] at qc qn
      obtain ⟨r, er⟩ : ∃ r, ls[pl + j]? = some r := ⟨ls[pl + j]'(by omega), by simp [show pl + j < ls.length by omega]⟩
      obtain ⟨rv, erv, hrv⟩ := hi1.get' er
      have eg : ls.getD (pl + j) ⟨0, 0, 0⟩ = r := by rw [List.getD_eq_getElem?_getD, er]; rfl
      rw [eg] at qc qn
      have h3 := s3 _ _ h1
      walk_at "st"
      refine ⟨rfl, ?_⟩
      repeat walk_at "st"
      refine s_ixL h3 erv ?_
      repeat walk_at "st"
      refine ⟨_, _, _, _, rfl, monoRow _ _ _ _ (Sol.of s3) hrv, ?_⟩
      repeat walk_at "st"
      refine s_if (fun e => ?_) (fun e => ?_)
      · repeat walk_at "st"
        exact qc _ _ e (Same.refl _) rfl
      · exact qn _ e (Same.refl _)
    · intro fp ws H2 hfp s2 h2 hi2
      obtain rfl := hi2.eqN
      generalize efl : ((List.range (xs.length - pl)).filter fun j => decide (colOf n (ls.getD (pl + j) ⟨0, 0, 0⟩) i ≠ 0)).map (fun i => pl + i) = fl at h2 hi2
      have hmem : ∀ f, f ∈ fl ↔ pl ≤ f ∧ ∃ r, ls[f]? = some r ∧ colOf n r i ≠ 0 := fun f => by
        rw [← efl, List.mem_map]
        constructor
        · rintro ⟨j, hj, rfl⟩
          obtain ⟨hj1, hj2⟩ := List.mem_filter.mp hj
          have hj1 := List.mem_range.mp hj1
          have er : ls[pl + j]? = some (ls[pl + j]'(by omega)) := by simp [show pl + j < ls.length by omega]
          have hj3 := of_decide_eq_true hj2
          rw [List.getD_eq_getElem?_getD, er] at hj3
          exact ⟨Nat.le_add_right _ _, _, er, hj3⟩
        · rintro ⟨h1, r, er, hr⟩
          have := (List.getElem?_eq_some_iff.mp er).1
          refine ⟨f - pl, List.mem_filter.mpr ⟨List.mem_range.mpr (by omega), ?_⟩, by omega⟩
          rw [show pl + (f - pl) = f by omega, List.getD_eq_getElem?_getD, er]
          exact decide_eq_true hr
      clear efl
      have s12 := s1.trans s2
      have h12 := s2 _ _ h1
      have hi12 := hi1.mono monoRow (Sol.of s2)
      repeat walk_at "st"
      intro ep hep
      refine s_neNilN (same_new hep _ _ h2) upd_same ?_
      refine s_bl ?_
      have s13 : Same H (upd H2 ep (.lst [])) := Same.nw s12 hep
      have h13 := same_new (o := .lst []) hep _ _ h12
      have hf13 := same_new (o := .lst []) hep _ _ h2
      have hi13 := hi12.mono monoRow (Sol.of (same_new (o := .lst []) hep))
      generalize upd H2 ep (.lst []) = H3 at s13 h13 hf13 hi13
      refine s_if (fun e => ?_) (fun e => ?_)
      · obtain ⟨f, fs, rfl⟩ : ∃ f fs, fl = f :: fs := by
          cases fl with
          | nil => cases e
          | cons f fs => exact ⟨f, fs, rfl⟩
        obtain ⟨hf1, b, eb, hb⟩ := (hmem f).mp List.mem_cons_self
        have hfl := (List.getElem?_eq_some_iff.mp eb).1
        obtain ⟨a, ea⟩ : ∃ a, ls[pl]? = some a := ⟨ls[pl]'(by omega), by simp [show pl < ls.length by omega]⟩
        obtain ⟨bv, ebv, hbv⟩ := hi13.get' eb
        obtain ⟨av, eav, hav⟩ := hi13.get' ea
        repeat walk_at "st"
        refine s_ixL hf13 (v := nV f) rfl ?_
        refine s_ixL h13 ebv ?_
        repeat walk_at "st"
        refine s_ixL h13 eav ?_
        repeat walk_at "st"
        intro t2 ht2
        refine s_gtup upd_same rfl ?_
        repeat walk_at "st"
        refine s_setL (same_new ht2 _ _ h13) (by omega) ?_
        repeat walk_at "st"
        have hne : fp ≠ lp := fun z => by rw [z, h1] at hfp; cases hfp
        refine s_ixL (xs := (f :: fs).map nV) (v := nV f) (by rw [upd_ne hne]; exact same_new ht2 _ _ hf13) rfl ?_
        refine s_setL upd_same (by simp; omega) ?_
        repeat walk_at "st"
        have red2 := red.swap ea eb hf1 hb
        have so4 : Sol H3 (upd (upd (upd H3 t2 (.tup [bv, av])) lp (.lst (xs.set pl bv))) lp (.lst ((xs.set pl bv).set f av))) :=
          (Sol.of (same_new ht2)).trans ((Sol.updL (same_new ht2 _ _ h13)).trans (Sol.updL upd_same))
        have s14 : Same H (upd (upd (upd H3 t2 (.tup [bv, av])) lp (.lst (xs.set pl bv))) lp (.lst ((xs.set pl bv).set f av))) := same_mut (same_mut (Same.nw s13 ht2) hlp0) hlp0
        have h14 : upd (upd (upd H3 t2 (.tup [bv, av])) lp (.lst (xs.set pl bv))) lp (.lst ((xs.set pl bv).set f av)) lp = some (.lst ((xs.set pl bv).set f av)) := upd_same
        have hi14 := (((hi13.set hbv pl).set hav f).mono monoRow so4)
        generalize upd (upd (upd H3 t2 (.tup [bv, av])) lp (.lst (xs.set pl bv))) lp (.lst ((xs.set pl bv).set f av)) = H4 at so4 s14 h14 hi14
        obtain ⟨hv, ehv, hhv⟩ := hi14.get' red2.at_
        have hl14 := hi14.len
        have hlen2 := red2.len
        refine s_ixL h14 ehv ?_
        repeat walk_at "st"
        refine for_it (n := rows.length) (by rw [show ((xs.set pl bv).set f av).length = rows.length by omega]; exact walk_rg0) (fun j σ' H' => ∃ xs ls o, σ' = [some (.ref p), some (nV n), some (.ref lp), some (nV pl), some (nV i), some (.ref fp), some hv, o] ∧ Same H H' ∧ H' lp = some (.lst xs) ∧ Itm isRow H' xs ls ∧ isRow H' hv b ∧ Red2 n rows.length rows ls i pl j b) ?_ (fun _ _ _ _ _ => trivial) ?_ ?_
        · exact ⟨_, _, _, rfl, s14, h14, hi14, hhv, red2⟩
        · rintro j y σ' H5 H5' hj ⟨xs, ls, o, rfl, s5, h5, hi5, hh5, red5⟩ ⟨rfl, rfl⟩
          have hl5 := hi5.len
          have hlen5 := red5.len
          obtain ⟨r, er⟩ : ∃ r, ls[j]? = some r := ⟨ls[j]'(by omega), by simp [show j < ls.length by omega]⟩
          obtain ⟨rv, erv, hrv⟩ := hi5.get' er
          repeat walk_at "st"
          refine s_if (fun e => ?_) (fun e => ?_)
          · have hjp : j ≠ pl := by simpa using e
            repeat walk_at "st"
            refine s_ixL h5 erv ?_
            repeat walk_at "st"
            refine ⟨_, _, _, _, rfl, hrv, ?_⟩
            repeat walk_at "st"
            refine s_if (fun e => ?_) (fun e => ?_)
            · have hc : colOf n r i ≠ 0 := by simpa using e
              repeat walk_at "st"
              refine s_ixL h5 erv ?_
              repeat walk_at "st"
              refine ⟨_, _, _, _, rfl, hrv, hh5, fun v' H6 s6 hv6 => ?_⟩
              repeat walk_at "st"
              have h6 := s6 _ _ h5
              have so := Sol.updL (o := .lst (xs.set j v')) h6
              refine s_setL h6 (by omega) ?_
              refine ⟨_, _, _, rfl, same_mut (s5.trans s6) hlp0, upd_same, (((hi5.mono monoRow (Sol.of s6)).set hv6 j).mono monoRow so), monoRow _ _ _ _ ((Sol.of s6).trans so) hh5, red5.put hjp er hc⟩
            · have hc : colOf n r i = 0 := by simpa using e
              repeat walk_at "st"
              exact ⟨_, _, _, rfl, s5, h5, hi5, hh5, red5.skip (.inr fun q eq => by rw [er] at eq; cases eq; exact hc)⟩
          · have hjp : j = pl := by simpa using e
            repeat walk_at "st"
            refine s_ifF rfl ?_
            repeat walk_at "st"
            exact ⟨_, _, _, rfl, s5, h5, hi5, hh5, red5.skip (.inl hjp)⟩
        · rintro σ' H5 ⟨xs, ls, o, rfl, s5, h5, hi5, hh5, red5⟩
          repeat walk_at "st"
          exact ⟨_, _, _, _, _, _, _, rfl, s5, h5, hi5, red5.fin⟩
      · obtain rfl : fl = [] := by
          cases fl with
          | nil => rfl
          | cons f fs => cases e
        repeat walk_at "st"
        refine ⟨xs, ls, pl, _, _, _, _, rfl, s13, h13, hi13, red.none fun k r hk er => ?_⟩
        apply Classical.byContradiction
        intro c
        exact absurd ((hmem k).mpr ⟨hk, r, er, c⟩) (by simp)
  · rintro σ' H1 ⟨xs, ls, pl, o4, o5, o6, o7, rfl, s1, h1, hi1, red⟩
    repeat walk_at "st"
    intro l hl
    refine k _ _ (ls.take pl) (Same.nw s1 hl) ⟨l, _, rfl, upd_same, (hi1.mono monoRow (Sol.of (same_new hl))).take pl⟩ (fun r hr => red.ok r (List.mem_of_mem_take hr)) ?_ red.fin
    rw [List.length_take, red.len]; omega
end
end Kq

set_option Elab.async false
set_option linter.all false
set_option maxRecDepth 100000
set_option maxHeartbeats 4000000
/-! groups walked -/
namespace Kq
open PySem PySem.Spec PyProof.Rows L2 XG
local macro_rules | `(tactic| walk_at "st") => `(tactic| first
  | with_reducible refine s_seq ?_
  | ((with_reducible refine' s_var ?h1 ?h2); (case h1 => rfl))
  | with_reducible refine s_c ?_
  | with_reducible refine s_op ?_
  | with_reducible refine s_asg ?_
  | with_reducible refine s_name ?_
  | with_reducible refine s_cons ?_
  | with_reducible refine s_nil ?_
  | with_reducible refine s_call ?_
  | with_reducible refine s_CB ?_
  | with_reducible refine s_add ?_
  | ((with_reducible refine' s_sub ?h1 ?h2); (case h1 => omega))
  | ((with_reducible refine' s_mul ?h1 ?h2); (case h1 => omega))
  | ((with_reducible refine' s_mod ?h1 ?h2); (case h1 => omega))
  | ((with_reducible refine' s_div ?h1 ?h2); (case h1 => omega))
  | ((with_reducible refine' s_shl ?h1 ?h2); (case h1 => omega))
  | with_reducible refine s_shr ?_
  | with_reducible refine s_and ?_
  | with_reducible refine s_or ?_
  | with_reducible refine s_xor ?_
  | with_reducible refine s_lt ?_
  | with_reducible refine s_le ?_
  | with_reducible refine s_gt ?_
  | with_reducible refine s_ge ?_
  | with_reducible refine s_eqN ?_
  | with_reducible refine s_neN ?_
  | with_reducible refine s_eqS ?_
  | with_reducible refine s_neS ?_
  | with_reducible refine s_I0 ?_
  | with_reducible refine s_un ?_
  | with_reducible refine s_neg ?_
  | with_reducible refine s_test ?_
  | with_reducible refine s_B ?_
  | with_reducible refine s_bl ?_
  | with_reducible refine s_ifS ?_
  | with_reducible refine s_ifE ?_
  | with_reducible refine s_not ?_
  | with_reducible refine s_and2 ?_
  | with_reducible refine s_or2 ?_
  | with_reducible refine s_andV ?_
  | with_reducible refine s_orV ?_
  | with_reducible refine s_notV ?_
  | with_reducible refine s_tru ?_
  | with_reducible refine s_par ?_
  | with_reducible refine s_two ?_
  | with_reducible refine s_par3 ?_
  | with_reducible refine s_three ?_
  | with_reducible refine s_lst ?_
  | with_reducible refine s_tup ?_
  | ((with_reducible refine' s_size ?h1 ?h2); (case h1 => exact Nat.le_of_ble_eq_true rfl))
  | with_reducible refine s_fld ?_
  | with_reducible refine s_gcons ?_
  | with_reducible refine s_gnil ?_
  | with_reducible refine s_intN ?_
  | with_reducible refine s_intI ?_
  | with_reducible refine s_tTru ?_
  | with_reducible refine s_tBL ?_
  | with_reducible refine s_sign ?_
  | with_reducible refine s_min ?_
  | with_reducible refine s_sfld ?_
  | with_reducible refine s_gfld ?_
  | with_reducible refine s_intB ?_
  | with_reducible refine s_next ?_
  | with_reducible refine s_ret ?_
  | with_reducible refine s_drop ?_
  | with_reducible refine s_for ?_
  | with_reducible refine s_lc ?_
  | with_reducible refine s_yes ?_
  | with_reducible refine s_bits ?_
  | with_reducible refine s_bitsV ?_
  | ((with_reducible refine' s_own ?h1 ?h2); (case h1 => assumption))
  | ((with_reducible refine' s_len ?h1 ?h2); (case h1 => assumption))
  | ((with_reducible refine' s_lenT ?h1 ?h2); (case h1 => assumption))
  | with_reducible refine s_iTup ?_
  | with_reducible refine s_iList ?_
  | with_reducible refine s_iStr ?_
  | with_reducible refine s_iRng1 ?_
  | with_reducible refine s_iRng2 ?_
  | with_reducible refine s_iEnum ?_
  | with_reducible refine s_iEnumT ?_
  | with_reducible refine s_iEnumS ?_
  | with_reducible refine s_iZip ?_
  | with_reducible refine s_iZipM ?_
  | with_reducible refine s_srcS ?_
  | with_reducible refine s_srcES ?_
  | ((with_reducible refine' s_srcT ?h1 ?h2); (case h1 => assumption))
  | ((with_reducible refine' s_srcL ?h1 ?h2); (case h1 => assumption))
  | ((with_reducible refine' s_srcE ?h1 ?h2); (case h1 => assumption))
  | ((with_reducible refine' s_srcET ?h1 ?h2); (case h1 => assumption))
  | ((with_reducible refine' s_rng1 ?h1 ?h2); (case h1 => omega))
  | ((with_reducible refine' s_rng2 ?h1 ?h2); (case h1 => omega))
  | with_reducible refine s_ckw ?_
  | ((with_reducible refine' s_sorted ?h1 ?h2); (case h1 => assumption))
  | ((with_reducible refine' s_inN ?h1 ?h2); (case h1 => assumption))
  | ((with_reducible refine' s_ninN ?h1 ?h2); (case h1 => assumption))
  | ((with_reducible refine' s_tupL ?h1 ?h2); (case h1 => assumption))
  | ((with_reducible refine' s_tupT ?h1 ?h2); (case h1 => assumption))
  | ((with_reducible refine' s_lstL ?h1 ?h2); (case h1 => assumption))
  | ((with_reducible refine' s_lstT ?h1 ?h2); (case h1 => assumption))
  | ((with_reducible refine' s_addS2 ?h1 ?h2); (case h1 => (simp only [List.length_append, letL_len]; omega)); (rw [sOf_add]))
  | with_reducible refine s_sl ?_
  | with_reducible refine s_part ?_
  | with_reducible refine s_partV ?_
  | with_reducible refine s_nopart ?_
  | ((with_reducible refine' s_cutTake ?h1 ?h2); (case h1 => assumption))
  | ((with_reducible refine' s_cutDrop ?h1 ?h2); (case h1 => assumption))
  | with_reducible refine s_isiII ?_
  | with_reducible refine s_isiIB ?_
  | with_reducible refine s_isiSS ?_
  | ((with_reducible refine' s_isiTT ?h1 ?h2); (case h1 => assumption))
  | ((with_reducible refine' s_aug ?h1 ?h2); (case h1 => rfl))
  | with_reducible refine s_ipN ?_
  | with_reducible refine s_ip ?_
  | with_reducible refine s_gsub ?_
  | with_reducible refine s_wh ?_
  | with_reducible refine s_join ?_
  | ((with_reducible refine' s_ixT ?h1 ?h2 ?h3); (case h1 => assumption); (case h2 => rfl))
  | ((with_reducible refine' s_at ?h1 ?h2 ?h3); (case h1 => assumption); (case h2 => assumption))
  | with_reducible refine s_make ?_
  | with_reducible refine s_dgetK ?_
  | with_reducible refine s_dput ?_)

section
variable {P : Program} {w : World} {K : PySem.W.Frag} {mg : Str → Option Value} {base : Heap}
def sp_told_string (K : PySem.W.Frag) : Sp := fun vs H Q _ => ∃ v n r, vs = [v, nV n] ∧ isRow H v r ∧ 1 ≤ n ∧ n ≤ 100 ∧ r.ok n ∧ ∀ v' H', Same H H' → isP K n H' v' r → Q v' H'
theorem ok_told_string (T : Tx K mg) : FnOk P w K mg base CX0 4 (He.fAd K ("told_string", none)) T.fd_told_string ["row", "size"] (sp_told_string K) := by
  have G_letters_of := ok_letters_of (P := P) (w := w) (base := base) T
  have G_Pauli_init := ok_Pauli_init (P := P) (w := w) (base := base) T
  refine okD T.F_told_string sc_told_string (fun vs H Q E h => by obtain ⟨v, n, r, rfl, _⟩ := h; rfl) (fun cdv A outer s H vs Q E hr h => ?_)
  obtain ⟨v, n, r, rfl, ⟨p, rfl, hp⟩, hn1, hn, rok, k⟩ := h
  refine ⟨_, (pss_one (ps_ret (pe_make T.k_Pauli G_Pauli_init (hr.mono (by decide)) (by rfl) T.m_Pauli T.b_Pauli_init .nil pass0 (pa_cons (pe_op op_add_str (pe_ifExp (pt_cmpR on_eq (pe_ix xi_tup (pv 0) (pe_nat 2) (fun _ _ => rfl)) (pe_nat 1) (nomark _)) pe_str pe_str) (pe_call G_letters_of (hr.mono (by decide)) (by rfl) T.m_letters_of T.F_letters_of.kp T.b_letters_of .nil pass0 (pa_cons (pv 0) (pa_cons (pv 1) pa_nil)))) pa_nil)))), ?_⟩
  have e : ∀ {σ : L2.St} {H : Hp} {Q : VK}, Q (.str (sOf (sgnL r.s))) H → if decide (r.s = 1) = true then tC (.str (Str.ofString "-")) σ H Q else tC (.str (Str.ofString "")) σ H Q := fun {σ H Q} q => by
    refine s_if (fun e => ?_) (fun e => ?_)
    · refine s_c ?_
      rw [show sgnL r.s = [45] from by unfold sgnL; rw [if_pos (of_decide_eq_true e)]] at q
      rw [show Str.ofString "-" = sOf [45] from by decide +kernel]
      exact q
    · refine s_c ?_
      rw [show sgnL r.s = [] from by unfold sgnL; rw [if_neg (of_decide_eq_false e)]] at q
      rw [show Str.ofString "" = sOf [] from by decide +kernel]
      exact q
  repeat walk_at "st"
  refine e ?_
  repeat walk_at "st"
  refine ⟨_, r, n, rfl, ⟨p, rfl, hp⟩, hn, fun H1 s1 => ?_⟩
  have sl : (sgnL r.s).length ≤ 1 := by unfold sgnL; split <;> simp
  repeat walk_at "st"
  intro x dx hx hdx hne
  refine ⟨x, dx, upd H1 dx (.own x), n, r, rfl, by rw [upd_ne (Ne.symm hne)]; exact hx, rfl, hn1, hn, rok, fun H' s2 hP => ⟨rfl, ?_⟩⟩
  exact k _ _ (Same.trans (Same.nw s1 hdx) s2) hP
def sp_string_of (K : PySem.W.Frag) : Sp := sp_told_string K
theorem ok_string_of (T : Tx K mg) : FnOk P w K mg base CX0 4 (He.fAd K ("string_of", none)) T.fd_string_of ["row", "size"] (sp_string_of K) := by
  have G_letters_of := ok_letters_of (P := P) (w := w) (base := base) T
  have G_Pauli_init := ok_Pauli_init (P := P) (w := w) (base := base) T
  refine okD T.F_string_of sc_string_of (fun vs H Q E h => by obtain ⟨v, n, r, rfl, _⟩ := h; rfl) (fun cdv A outer s H vs Q E hr h => ?_)
  obtain ⟨v, n, r, rfl, ⟨p, rfl, hp⟩, hn1, hn, rok, k⟩ := h
  refine ⟨_, (pss_one (ps_ret (pe_make T.k_Pauli G_Pauli_init (hr.mono (by decide)) (by rfl) T.m_Pauli T.b_Pauli_init .nil pass0 (pa_cons (pe_op op_add_str (pe_ifExp (xt_tru (pe_ix xi_tup (pv 0) (pe_nat 2) (fun _ _ => rfl))) pe_str pe_str) (pe_call G_letters_of (hr.mono (by decide)) (by rfl) T.m_letters_of T.F_letters_of.kp T.b_letters_of .nil pass0 (pa_cons (pv 0) (pa_cons (pv 1) pa_nil)))) pa_nil)))), ?_⟩
  have e : ∀ {σ : L2.St} {H : Hp} {Q : VK}, Q (.str (sOf (sgnL r.s))) H → if decide (r.s ≠ 0) = true then tC (.str (Str.ofString "-")) σ H Q else tC (.str (Str.ofString "")) σ H Q := fun {σ H Q} q => by
    have h2 := rok.2.2
    refine s_if (fun e => ?_) (fun e => ?_)
    · have e := of_decide_eq_true e
      refine s_c ?_
      rw [show sgnL r.s = [45] from by unfold sgnL; rw [if_pos (by omega)]] at q
      rw [show Str.ofString "-" = sOf [45] from by decide +kernel]
      exact q
    · have e := of_decide_eq_false e
      refine s_c ?_
      rw [show sgnL r.s = [] from by unfold sgnL; rw [if_neg (by omega)]] at q
      rw [show Str.ofString "" = sOf [] from by decide +kernel]
      exact q
  repeat walk_at "st"
  refine e ?_
  repeat walk_at "st"
  refine ⟨_, r, n, rfl, ⟨p, rfl, hp⟩, hn, fun H1 s1 => ?_⟩
  have sl : (sgnL r.s).length ≤ 1 := by unfold sgnL; split <;> simp
  repeat walk_at "st"
  intro x dx hx hdx hne
  refine ⟨x, dx, upd H1 dx (.own x), n, r, rfl, by rw [upd_ne (Ne.symm hne)]; exact hx, rfl, hn1, hn, rok, fun H' s2 hP => ⟨rfl, ?_⟩⟩
  exact k _ _ (Same.trans (Same.nw s1 hdx) s2) hP

def oV : Option Nat → V
  | none => .non
  | some c => nV c
def sp_first_column : Sp := fun vs H Q _ => ∃ v n r, vs = [v, nV n] ∧ isRow H v r ∧ n ≤ 100 ∧ Q (oV (firstCol n r)) H
theorem ok_first_column (T : Tx K mg) : FnOk P w K mg base CX0 2 (He.fAd K ("first_column", none)) T.fd_first_column ["row", "size"] (sp_first_column) := by
  have G_column_of := ok_column_of (P := P) (w := w) (base := base) T
  refine okD T.F_first_column sc_first_column (fun vs H Q E h => by obtain ⟨v, n, r, rfl, _⟩ := h; rfl) (fun cdv A outer s H vs Q E hr h => ?_)
  obtain ⟨v, n, r, rfl, hrow, hn, k⟩ := h
  obtain ⟨p, rfl, hp⟩ := id hrow
  refine ⟨_, (pss_cons (ps_for PassesOwn.never rfl (pi_range1 rfl T.n_range (pa_cons (pe_op on_mul (pe_nat 2) (pv 1)) pa_nil)) (pg_name (i := 2) sc_first_column.nd rfl (.inl rfl))
  (pss_one (ps_if (xt_tru (pe_call G_column_of (hr.mono (by decide)) (by rfl) T.m_column_of T.F_column_of.kp T.b_column_of .nil pass0 (pa_cons (pv 0) (pa_cons (pv 1) (pa_cons (pv 2) pa_nil))))) (pss_one (ps_ret (pv 2))) pss_nil)))
  (pss_one (ps_ret pe_non))), ?_⟩
  repeat walk_at "st"
  refine for_it (n := 2 * n) walk_rg0 (fun i σ' H' => H' = H ∧ (∃ o, σ' = [some (.ref p), some (nV n), o]) ∧ ∀ c, c < i → colOf n r c = 0) ⟨rfl, ⟨_, rfl⟩, fun c hc => by omega⟩ (fun _ _ _ _ _ => trivial) ?_ ?_
  · rintro i x σ' H1 H1' hin ⟨rfl, ⟨o, rfl⟩, hc⟩ ⟨rfl, rfl⟩
    repeat walk_at "st"
    refine ⟨_, _, _, _, rfl, hrow, ?_⟩
    repeat walk_at "st"
    refine s_if (fun e => ?_) (fun e => ?_)
    · repeat walk_at "st"
      rw [firstCol_some.mpr ⟨hin, of_decide_eq_true e, hc⟩] at k
      exact k
    · repeat walk_at "st"
      refine ⟨rfl, ⟨_, rfl⟩, fun c hc2 => ?_⟩
      by_cases e2 : c = i
      · subst e2; simpa using of_decide_eq_false e
      · exact hc c (by omega)
  · rintro σ' H1 ⟨rfl, ⟨o, rfl⟩, hc⟩
    repeat walk_at "st"
    rw [firstCol_none.mpr hc] at k
    exact k

def sp_need_commuting : Sp := fun vs H Q _ => ∃ v rows, vs = [v] ∧ isL isRow H v rows ∧ rows.length ≤ 1000 ∧ (∀ a ∈ rows, ∀ b ∈ rows, cr a b = 0) ∧ ∀ H', Same H H' → Q .non H'
theorem ok_need_commuting (T : Tx K mg) : FnOk P w K mg base CX0 3 (He.fAd K ("need_commuting", none)) T.fd_need_commuting ["rows"] (sp_need_commuting) := by
  have G_crossing := ok_crossing (P := P) (w := w) (base := base) T
  refine okD T.F_need_commuting sc_need_commuting (fun vs H Q E h => by obtain ⟨v, r, rfl, _⟩ := h; rfl) (fun cdv A outer s H vs Q E hr h => ?_)
  obtain ⟨v, rows, rfl, ⟨p, xs, rfl, hp, hi⟩, hz, hc, k⟩ := h
  refine ⟨_, (pss_one (ps_for PassesOwn.never rfl (pi_enum (by rfl) T.n_enumerate (pa_cons (pv 0) pa_nil)) (xg_tup (n := 2) rfl (pgs_cons (pg_name (i := 1) sc_need_commuting.nd rfl (.inl rfl)) (pgs_cons (pg_name (i := 2) sc_need_commuting.nd rfl (.inl rfl)) pgs_nil)))
  (pss_one (ps_for PassesOwn.never rfl (pi_range1 rfl T.n_range (pa_cons (pv 1) pa_nil)) (pg_name (i := 3) sc_need_commuting.nd rfl (.inl rfl))
  (pss_one (ps_if (xt_tru (pe_call G_crossing (hr.mono (by decide)) (by rfl) T.m_crossing T.F_crossing.kp T.b_crossing .nil pass0 (pa_cons (pe_ix xi_list (pv 0) (pv 3) (fun _ _ => rfl)) (pa_cons (pv 2) pa_nil)))) (pss_one ps_never) pss_nil)))))), ?_⟩
  repeat walk_at "st"
  have hl := hi.len
  refine for_it (n := xs.length) (walk_enum (K := K) (xs := xs)) (fun i σ' H' => Same H H' ∧ ∃ o1 o2 o3, σ' = [some (.ref p), o1, o2, o3]) ⟨Same.refl _, _, _, _, rfl⟩ (fun _ _ _ _ h => SqL.of (h.1 _ _ hp)) ?_ ?_
  · rintro i x σ' H1 H1' hin ⟨s1, o1, o2, o3, rfl⟩ ⟨T1, a, b, rfl, hT, rfl, ea, eb⟩
    cases ea
    obtain ⟨r, er, hrr⟩ := hi.get eb
    refine s_gtup upd_same rfl ?_
    have hrr1 := monoRow _ _ _ _ (Sol.of (Same.nw (o := .tup [nV i, b]) s1 hT)) hrr
    have s2 := Same.nw (o := .tup [nV i, b]) s1 hT
    generalize upd H1 T1 (.tup [V.int (i : Nat), b]) = H2 at hrr1 s2
    repeat walk_at "st"
    refine for_it (n := i) walk_rg0 (fun j σ' H' => H' = H2 ∧ ∃ o3, σ' = [some (.ref p), some (nV i), some b, o3]) ⟨rfl, _, rfl⟩ (fun _ _ _ _ _ => trivial) ?_ ?_
    · rintro j y σ' H3 H3' hj ⟨rfl, o, rfl⟩ ⟨rfl, rfl⟩
      obtain ⟨q, eq⟩ : ∃ q, rows[j]? = some q := ⟨rows[j]'(by omega), by simp [show j < rows.length by omega]⟩
      obtain ⟨qv, eqv, hq⟩ := hi.get' eq
      repeat walk_at "st"
      refine s_ixL (s2 _ _ hp) eqv ?_
      repeat walk_at "st"
      refine ⟨_, _, _, _, rfl, monoRow _ _ _ _ (Sol.of s2) hq, hrr1, ?_⟩
      repeat walk_at "st"
      rw [hc q (mem_idx eq) r (mem_idx er)]
      refine s_ifF rfl ?_
      repeat walk_at "st"
      exact ⟨rfl, _, rfl⟩
    · rintro σ' H3 ⟨rfl, o, rfl⟩
      exact ⟨s2, _, _, _, rfl⟩
  · rintro σ' H1 ⟨s1, o1, o2, o3, rfl⟩
    exact k _ s1
end
end Kq

set_option Elab.async false
set_option linter.all false
set_option maxRecDepth 100000
set_option maxHeartbeats 4000000
/-! independent rows walked -/
namespace Kq
open PySem PySem.Spec PyProof.Rows L2 XG
local macro_rules | `(tactic| walk_at "st") => `(tactic| first
  | with_reducible refine s_seq ?_
  | ((with_reducible refine' s_var ?h1 ?h2); (case h1 => rfl))
  | with_reducible refine s_c ?_
  | with_reducible refine s_op ?_
  | with_reducible refine s_asg ?_
  | with_reducible refine s_name ?_
  | with_reducible refine s_cons ?_
  | with_reducible refine s_nil ?_
  | with_reducible refine s_call ?_
  | with_reducible refine s_CB ?_
  | with_reducible refine s_add ?_
  | ((with_reducible refine' s_sub ?h1 ?h2); (case h1 => omega))
  | ((with_reducible refine' s_mul ?h1 ?h2); (case h1 => omega))
  | ((with_reducible refine' s_mod ?h1 ?h2); (case h1 => omega))
  | ((with_reducible refine' s_div ?h1 ?h2); (case h1 => omega))
  | ((with_reducible refine' s_shl ?h1 ?h2); (case h1 => omega))
  | with_reducible refine s_shr ?_
  | with_reducible refine s_and ?_
  | with_reducible refine s_or ?_
  | with_reducible refine s_xor ?_
  | with_reducible refine s_lt ?_
  | with_reducible refine s_le ?_
  | with_reducible refine s_gt ?_
  | with_reducible refine s_ge ?_
  | with_reducible refine s_eqN ?_
  | with_reducible refine s_neN ?_
  | with_reducible refine s_eqS ?_
  | with_reducible refine s_neS ?_
  | with_reducible refine s_I0 ?_
  | with_reducible refine s_un ?_
  | with_reducible refine s_neg ?_
  | with_reducible refine s_test ?_
  | with_reducible refine s_B ?_
  | with_reducible refine s_bl ?_
  | with_reducible refine s_ifS ?_
  | with_reducible refine s_ifE ?_
  | with_reducible refine s_not ?_
  | with_reducible refine s_and2 ?_
  | with_reducible refine s_or2 ?_
  | with_reducible refine s_andV ?_
  | with_reducible refine s_orV ?_
  | with_reducible refine s_notV ?_
  | with_reducible refine s_tru ?_
  | with_reducible refine s_par ?_
  | with_reducible refine s_two ?_
  | with_reducible refine s_par3 ?_
  | with_reducible refine s_three ?_
  | with_reducible refine s_lst ?_
  | with_reducible refine s_tup ?_
  | ((with_reducible refine' s_size ?h1 ?h2); (case h1 => exact Nat.le_of_ble_eq_true rfl))
  | with_reducible refine s_fld ?_
  | with_reducible refine s_gcons ?_
  | with_reducible refine s_gnil ?_
  | with_reducible refine s_intN ?_
  | with_reducible refine s_intI ?_
  | with_reducible refine s_tTru ?_
  | with_reducible refine s_tBL ?_
  | with_reducible refine s_sign ?_
  | with_reducible refine s_min ?_
  | with_reducible refine s_sfld ?_
  | with_reducible refine s_gfld ?_
  | with_reducible refine s_intB ?_
  | with_reducible refine s_next ?_
  | with_reducible refine s_ret ?_
  | with_reducible refine s_drop ?_
  | with_reducible refine s_for ?_
  | with_reducible refine s_lc ?_
  | with_reducible refine s_yes ?_
  | with_reducible refine s_bits ?_
  | with_reducible refine s_bitsV ?_
  | ((with_reducible refine' s_own ?h1 ?h2); (case h1 => assumption))
  | ((with_reducible refine' s_len ?h1 ?h2); (case h1 => assumption))
  | ((with_reducible refine' s_lenT ?h1 ?h2); (case h1 => assumption))
  | with_reducible refine s_iTup ?_
  | with_reducible refine s_iList ?_
  | with_reducible refine s_iStr ?_
  | with_reducible refine s_iRng1 ?_
  | with_reducible refine s_iRng2 ?_
  | with_reducible refine s_iEnum ?_
  | with_reducible refine s_iEnumT ?_
  | with_reducible refine s_iEnumS ?_
  | with_reducible refine s_iZip ?_
  | with_reducible refine s_iZipM ?_
  | with_reducible refine s_srcS ?_
  | with_reducible refine s_srcES ?_
  | ((with_reducible refine' s_srcT ?h1 ?h2); (case h1 => assumption))
  | ((with_reducible refine' s_srcL ?h1 ?h2); (case h1 => assumption))
  | ((with_reducible refine' s_srcE ?h1 ?h2); (case h1 => assumption))
  | ((with_reducible refine' s_srcET ?h1 ?h2); (case h1 => assumption))
  | ((with_reducible refine' s_rng1 ?h1 ?h2); (case h1 => omega))
  | ((with_reducible refine' s_rng2 ?h1 ?h2); (case h1 => omega))
  | with_reducible refine s_ckw ?_
  | ((with_reducible refine' s_sorted ?h1 ?h2); (case h1 => assumption))
  | ((with_reducible refine' s_inN ?h1 ?h2); (case h1 => assumption))
  | ((with_reducible refine' s_ninN ?h1 ?h2); (case h1 => assumption))
  | ((with_reducible refine' s_tupL ?h1 ?h2); (case h1 => assumption))
  | ((with_reducible refine' s_tupT ?h1 ?h2); (case h1 => assumption))
  | ((with_reducible refine' s_lstL ?h1 ?h2); (case h1 => assumption))
  | ((with_reducible refine' s_lstT ?h1 ?h2); (case h1 => assumption))
  | ((with_reducible refine' s_addS2 ?h1 ?h2); (case h1 => (simp only [List.length_append, letL_len]; omega)); (rw [sOf_add]))
  | with_reducible refine s_sl ?_
  | with_reducible refine s_part ?_
  | with_reducible refine s_partV ?_
  | with_reducible refine s_nopart ?_
  | ((with_reducible refine' s_cutTake ?h1 ?h2); (case h1 => assumption))
  | ((with_reducible refine' s_cutDrop ?h1 ?h2); (case h1 => assumption))
  | with_reducible refine s_isiII ?_
  | with_reducible refine s_isiIB ?_
  | with_reducible refine s_isiSS ?_
  | ((with_reducible refine' s_isiTT ?h1 ?h2); (case h1 => assumption))
  | ((with_reducible refine' s_aug ?h1 ?h2); (case h1 => rfl))
  | with_reducible refine s_ipN ?_
  | with_reducible refine s_ip ?_
  | with_reducible refine s_gsub ?_
  | with_reducible refine s_wh ?_
  | with_reducible refine s_join ?_
  | ((with_reducible refine' s_ixT ?h1 ?h2 ?h3); (case h1 => assumption); (case h2 => rfl))
  | ((with_reducible refine' s_at ?h1 ?h2 ?h3); (case h1 => assumption); (case h2 => assumption))
  | with_reducible refine s_make ?_
  | with_reducible refine s_dgetK ?_
  | with_reducible refine s_dput ?_)

/-- a closed set of signed rows in which only the plain one has no letters -/
structure SgnSet (S : Row → Prop) : Prop where
  mul : ∀ a b, S a → S b → S (rp a b)
  one : ∀ r, S r → r.xz = ze → r.s = 0
def isHd : Rp (Row × Nat) := isPr isRow isN
theorem monoHd : MonoS isHd := monoPr monoRow monoN
def HdOk (S : Row → Prop) (n : Nat) (H : Hp) (kvs : List (Key × V)) (kept : List Row) : Prop :=
  ∀ c v, valV kvs (.inl c) = some v → ∃ cN r m, c = ((cN : Nat) : Int) ∧ isHd H v (r, m) ∧ r.ok n ∧ S r ∧ Sn (kept.map Row.xz) r.xz ∧ firstCol n r = some cN
theorem HdOk.mono {S : Row → Prop} {n : Nat} {H H' : Hp} {kvs : List (Key × V)} {kept kept' : List Row} (h : HdOk S n H kvs kept) (s : Sol H H') (hk : ∀ r ∈ kept, r ∈ kept') : HdOk S n H' kvs kept' := fun c v e => by
  obtain ⟨cN, r, m, a, b, c1, d, f, g⟩ := h c v e
  exact ⟨cN, r, m, a, monoHd _ _ _ _ s b, c1, d, f.mono fun x hx => by
    obtain ⟨r, hr, rfl⟩ := List.mem_map.mp hx
    exact List.mem_map.mpr ⟨r, hk r hr, rfl⟩, g⟩
section
variable {P : Program} {w : World} {K : PySem.W.Frag} {mg : Str → Option Value} {base : Heap}
def sp_independent_rows : Sp := fun vs H Q _ => ∃ v n rows S, vs = [v, nV n] ∧ isL isRow H v rows ∧ rows.length ≤ 1000 ∧ n ≤ 100 ∧ (∀ r ∈ rows, r.ok n) ∧ SgnSet S ∧ (∀ r ∈ rows, S r) ∧
  ∀ v' H' kept, Same H H' → isL isRow H' v' kept → (∀ r ∈ kept, r ∈ rows) → kept.length ≤ rows.length → (∀ x, Sn (kept.map Row.xz) x ↔ Sn (rows.map Row.xz) x) → Q v' H'
theorem ok_independent_rows (T : Tx K mg) : FnOk P w K mg base CX0 3 (He.fAd K ("independent_rows", none)) T.fd_independent_rows ["rows", "size"] (sp_independent_rows) := by
  have G_first_column := ok_first_column (P := P) (w := w) (base := base) T
  have G_row_product := ok_row_product (P := P) (w := w) (base := base) T
  refine okD T.F_independent_rows sc_independent_rows (fun vs H Q E h => by obtain ⟨v, n, r, S, rfl, _⟩ := h; rfl) (fun cdv A outer s H vs Q E hr h => ?_)
  have hu0 := hr.units
  have hu : (A.deeper (envOfC "independent_rows" (defScope s_independent_rows) s.heap.objs.size (He.fAd K ("independent_rows", none)) cdv)).units + 1 < cLine := by omega
  obtain ⟨v, n, rows, S, rfl, ⟨p, ws, rfl, hp, hi⟩, hz, hn, hok, hS, hrS, k⟩ := h
  refine ⟨_, (pss_cons (ps_par (by rfl) sc_independent_rows.nd (i := 2) (j := 3) rfl rfl (by decide) rfl rfl (pa_cons (pe_lst pa_nil) (pa_cons pe_dnewK pa_nil)) (by rfl))
  (pss_cons (ps_for PassesOwn.never rfl (pi_enum (by rfl) T.n_enumerate (pa_cons (pv 0) pa_nil)) (xg_tup (n := 2) rfl (pgs_cons (pg_name (i := 4) sc_independent_rows.nd rfl (.inl rfl)) (pgs_cons (pg_name (i := 5) sc_independent_rows.nd rfl (.inl rfl)) pgs_nil)))
  (pss_cons (ps_asg (pe_tup (pa_cons (pv 5) (pa_cons (pe_nat 0) (pa_cons (pe_call G_first_column (hr.mono (by decide)) (by rfl) T.m_first_column T.F_first_column.kp T.b_first_column .nil pass0 (pa_cons (pv 5) (pa_cons (pv 1) pa_nil))) pa_nil)))) (xg_tup (n := 3) rfl (pgs_cons (pg_name (i := 6) sc_independent_rows.nd rfl (.inl rfl)) (pgs_cons (pg_name (i := 7) sc_independent_rows.nd rfl (.inr rfl)) (pgs_cons (pg_name (i := 8) sc_independent_rows.nd rfl (.inl rfl)) pgs_nil)))))
  (pss_cons (ps_while PassesOwn.never (pt_cmp (pc_dinN hu (pv 8) (pv 3))) (pss_cons (ps_asg (pe_dget hu (pv 3) (pv 8) (fun _ _ => rfl)) (xg_tup (n := 2) rfl (pgs_cons (pg_name (i := 9) sc_independent_rows.nd rfl (.inl rfl)) (pgs_cons (pg_name (i := 10) sc_independent_rows.nd rfl (.inl rfl)) pgs_nil))))
  (pss_cons (ps_asg (pe_tup (pa_cons (pe_call G_row_product (hr.mono (by decide)) (by rfl) T.m_row_product T.F_row_product.kp T.b_row_product .nil pass0 (pa_cons (pv 6) (pa_cons (pv 9) pa_nil))) (pa_cons (pe_op on_xor (pv 7) (pv 10)) pa_nil))) (xg_tup (n := 2) rfl (pgs_cons (pg_name (i := 6) sc_independent_rows.nd rfl (.inl rfl)) (pgs_cons (pg_name (i := 7) sc_independent_rows.nd rfl (.inr rfl)) pgs_nil))))
  (pss_one (ps_set (i := 8) sc_independent_rows.nd rfl (.inl rfl) (pe_call G_first_column (hr.mono (by decide)) (by rfl) T.m_first_column T.F_first_column.kp T.b_first_column .nil pass0 (pa_cons (pv 6) (pa_cons (pv 1) pa_nil))))))))
  (pss_one (ps_if (pt_cmpR op_notN (pv 8) pe_non (nomark _)) (pss_cons (ps_dput hu (pv 3) (pv 8) (pe_tup (pa_cons (pv 6) (pa_cons (pe_op on_xor (pv 7) (pe_op on_shl (pe_nat 1) (pv 4))) pa_nil))) rfl)
  (pss_one (ps_expr (xe_bl PySem.F.slot_list_append PySem.F.type_list_append mt_append (pv 2) (pa_cons (pv 5) pa_nil))))) (pss_one (ps_if (pt_cmpR on_eq (pe_ix xi_tup (pv 6) (pe_nat 2) (fun _ _ => rfl)) (pe_nat 1) (nomark _)) (pss_one ps_never) pss_nil)))))))
  (pss_one (ps_ret (pv 2))))), ?_⟩
  repeat walk_at "st"
  intro kp hkp
  repeat walk_at "st"
  intro hp' hhp
  repeat walk_at "st"
  have hkp0 : H kp = none := hkp
  have hne : hp' ≠ kp := fun z => by rw [z, upd_same] at hhp; cases hhp
  have hhp0 : H hp' = none := by rw [upd_ne hne] at hhp; exact hhp
  have s0 : Same H (upd (upd H kp (.lst [])) hp' (.dK [])) := Same.nw (same_new hkp) hhp
  have hps := s0 _ _ hp
  repeat walk_at "st"
  have hl := hi.len
  refine for_it (n := ws.length) (walk_enum (K := K) (xs := ws)) (fun i σ' H' => ∃ xs kvs kept o4 o5 o6 o7 o8 o9 o10 o11, σ' = [some (.ref p), some (nV n), some (.ref kp), some (.ref hp'), o4, o5, o6, o7, o8, o9, o10, o11] ∧ Same H H' ∧ H' kp = some (.lst xs) ∧ Itm isRow H' xs kept ∧
    H' hp' = some (.dK kvs) ∧ kvs.length ≤ i ∧ kept.length ≤ i ∧ HdOk S n H' kvs kept ∧ (∀ r ∈ kept, r ∈ rows) ∧ ∀ j r, j < i → rows[j]? = some r → Sn (kept.map Row.xz) r.xz) ?_ (fun _ _ _ _ h => by obtain ⟨_, _, _, _, _, _, _, _, _, _, _, _, s, _⟩ := h; exact SqL.of (s _ _ hp)) ?_ ?_
  · exact ⟨[], [], [], _, _, _, _, _, _, _, _, rfl, s0, same_new hhp _ _ upd_same, .nil, upd_same, Nat.le_refl _, Nat.le_refl _, (fun c v e => by cases e), (fun r hr => by cases hr), fun j r hj => by omega⟩
  · rintro i x σ' H1 H1' hin ⟨xs, kvs, kept, o4, o5, o6, o7, o8, o9, o10, o11, rfl, s1, h1, hi1, hd1, hkl, hkl2, hok1, hsub, hspan⟩ ⟨T1, a, b, rfl, hT, rfl, ea, eb⟩
    cases ea
    obtain ⟨r, er, hrr⟩ := hi.get eb
    have hr_in := mem_idx er
    refine s_gtup upd_same rfl ?_
    have s2 := Same.nw (o := .tup [nV i, b]) s1 hT
    have so2 := Sol.of (same_new (o := .tup [nV i, b]) hT)
    have hrr1 := monoRow _ _ _ _ (Sol.of s2) hrr
    have h2 := same_new (o := .tup [nV i, b]) hT _ _ h1
    have hd2 := same_new (o := .tup [nV i, b]) hT _ _ hd1
    have hi2 := hi1.mono monoRow so2
    have hok2 := hok1.mono so2 (fun _ h => h)
    clear h1 hd1 hi1 hok1 s1
    generalize upd H1 T1 (.tup [V.int (i : Nat), b]) = H2 at hrr1 s2 h2 hd2 hi2 hok2
    repeat walk_at "st"
    refine ⟨_, _, r, rfl, hrr1, hn, ?_⟩
    repeat walk_at "st"
    intro T2 hT2
    refine s_gtup upd_same rfl ?_
    repeat walk_at "st"
    have s3 := Same.nw (o := .tup [b, nV 0, oV (firstCol n r)]) s2 hT2
    have so3 := Sol.of (same_new (o := .tup [b, nV 0, oV (firstCol n r)]) hT2)
    refine ⟨fun m σ' H' => ∃ lv left made o9 o10, σ' = [some (.ref p), some (nV n), some (.ref kp), some (.ref hp'), some (nV i), some b, some lv, some (nV made), some (oV (firstCol n left)), o9, o10, o11] ∧ Same H H' ∧ H' kp = some (.lst xs) ∧ Itm isRow H' xs kept ∧ H' hp' = some (.dK kvs) ∧ HdOk S n H' kvs kept ∧ isRow H' b r ∧ isRow H' lv left ∧ left.ok n ∧ S left ∧ Sn (kept.map Row.xz) (XG.xo left.xz r.xz) ∧
      m = (match firstCol n left with | none => 0 | some c => 2 * n - c), ⟨_, b, r, 0, _, _, rfl, s3, same_new hT2 _ _ h2, hi2.mono monoRow so3, same_new hT2 _ _ hd2, hok2.mono so3 (fun _ h => h), monoRow _ _ _ _ so3 hrr1, monoRow _ _ _ _ so3 hrr1, hok r hr_in, hrS r hr_in, by rw [XG.self]; exact .zero, rfl⟩, ?_⟩
    rintro m σ' H3 ⟨lv, left, made, o9, o10, rfl, s4, h4, hi4, hd4, hok4, hb4, hlv, lok, lS, lspan, rfl⟩
    refine s_din ?_
    repeat walk_at "st"
    cases efc : firstCol n left with
    | none =>
      refine .inr ⟨hp', kvs, rfl, rfl, .inl hd4, ?_⟩
      refine s_ifF rfl ?_
      have lz : left.xz = ze := colOf_zero lok (firstCol_none.mp efc)
      have ls := hS.one left lS lz
      repeat walk_at "st"
      refine ⟨rfl, ?_⟩
      refine s_bl ?_
      refine s_ifF (by simp [oV]) ?_
      obtain ⟨lp, rfl, hlp⟩ := hlv
      repeat walk_at "st"
      refine s_ifF (by rw [ls]; rfl) ?_
      repeat walk_at "st"
      refine ⟨xs, kvs, kept, _, _, _, _, _, _, _, _, rfl, s4, h4, hi4, hd4, by omega, by omega, hok4, hsub, fun j q hj eq => ?_⟩
      by_cases ej : j = i
      · subst ej
        rw [er] at eq; cases eq
        rw [lz, zl] at lspan
        exact lspan
      · exact hspan j q (by omega) eq
    | some c =>
      refine .inl ⟨hp', valV kvs (.inl (c : Int)), rfl, DGet.k (k := .inl (c : Int)) hd4, ?_⟩
      refine s_if (fun e => ?_) (fun e => ?_)
      · obtain ⟨hv, ehv⟩ := Option.isSome_iff_exists.mp e
        obtain ⟨cN, q, mq, ec, hhd, qok, qS, qspan, qfc⟩ := hok4 _ _ ehv
        obtain rfl : c = cN := Int.ofNat.inj ec
        obtain ⟨tp, qa, qb, rfl, htp, hqa, hqb⟩ := hhd
        cases hqb
        refine ⟨_, fun _ _ h => h, ?_⟩
        repeat walk_at "st"
        refine ⟨hp', .ref tp, rfl, by rw [← ehv]; exact DGet.k (k := .inl (c : Int)) hd4, ?_⟩
        refine s_gtup htp rfl ?_
        repeat walk_at "st"
        refine ⟨_, _, left, q, rfl, hlv, hqa, fun nv H5 s5 hnv => ?_⟩
        repeat walk_at "st"
        intro T3 hT3
        refine s_gtup upd_same rfl ?_
        repeat walk_at "st"
        have s6 := Same.nw (o := .tup [nv, nV (made ^^^ mq)]) s5 hT3
        have so6 := Sol.of s6
        refine ⟨_, n, rp left q, rfl, monoRow _ _ _ _ (Sol.of (same_new hT3)) hnv, hn, ?_⟩
        refine ⟨_, ?_, nv, rp left q, _, _, _, rfl, s4.trans s6, s6 _ _ h4, hi4.mono monoRow so6, s6 _ _ hd4, hok4.mono so6 (fun _ h => h), monoRow _ _ _ _ so6 hb4, monoRow _ _ _ _ (Sol.of (same_new hT3)) hnv, rp_ok lok qok, hS.mul _ _ lS qS, ?_, rfl⟩
        · have c1 := (firstCol_some.mp efc).1
          cases ef : firstCol n (rp left q) with
          | none => show 0 < 2 * n - c; omega
          | some d =>
            have := firstCol_rp efc qfc d ef
            show 2 * n - d < 2 * n - c
            omega
        · rw [rp_xz, XG.assoc, XG.comm q.xz, ← XG.assoc]
          exact lspan.xo qspan
      · have hnone : valV kvs (.inl (c : Int)) = none := by simpa using e
        repeat walk_at "st"
        refine ⟨rfl, ?_⟩
        refine s_bl ?_
        refine s_ifT (by simp [oV]) ?_
        repeat walk_at "st"
        intro T3 hT3
        have s5 := Same.nw (o := .tup [lv, nV (made ^^^ 1 <<< i)]) s4 hT3
        have h5 := same_new (o := .tup [lv, nV (made ^^^ 1 <<< i)]) hT3
        repeat walk_at "st"
        refine ⟨hp', _, rfl, DPut.k (k := .inl (c : Int)) (h5 _ _ hd4) (Nat.lt_of_lt_of_le (show kvs.length < 100000 by omega) (by decide)), ?_⟩
        have hk6 : upd (upd H3 T3 (.tup [lv, nV (made ^^^ 1 <<< i)])) hp' (.dK (putK kvs (.inl (c : Int)) (.ref T3))) kp = some (.lst xs) := by
          rw [upd_ne (Ne.symm hne)]; exact h5 _ _ h4
        repeat walk_at "st"
        refine s_append hk6 (by have := hi4.len; omega) ?_
        have so : Sol H3 (upd (upd (upd H3 T3 (.tup [lv, nV (made ^^^ 1 <<< i)])) hp' (.dK (putK kvs (.inl (c : Int)) (.ref T3)))) kp (.lst (xs ++ [b]))) :=
          (Sol.of h5).trans ((Sol.upd' (h5 _ _ hd4) (fun z => z)).trans (Sol.updL hk6))
        have hks : ∀ q ∈ kept, q ∈ kept ++ [r] := fun q hq => List.mem_append_left _ hq
        refine ⟨xs ++ [b], putK kvs (.inl (c : Int)) (.ref T3), kept ++ [r], _, _, _, _, _, _, _, _, rfl, same_mut (same_mut s5 hhp0) hkp0, upd_same, (hi4.mono monoRow so).app (Itm.one (monoRow _ _ _ _ so hb4)), by rw [upd_ne hne]; exact upd_same, ?_, by simp; omega, ?_, ?_, ?_⟩
        · unfold putK
          split
          · rw [List.length_map]; omega
          · rw [List.length_append, List.length_singleton]; omega
        · intro c' v' ev'
          rw [valV_put] at ev'
          by_cases ec : (Sum.inl c' : Key) = .inl (c : Int)
          · rw [if_pos ec] at ev'
            cases ev'
            cases ec
            refine ⟨c, left, made ^^^ 1 <<< i, rfl, ⟨T3, lv, _, rfl, ?_, monoRow _ _ _ _ so hlv, rfl⟩, lok, lS, ?_, efc⟩
            · have ne1 : T3 ≠ hp' := fun z => by rw [z, hd4] at hT3; cases hT3
              have ne2 : T3 ≠ kp := fun z => by rw [z, h4] at hT3; cases hT3
              rw [upd_ne ne2, upd_ne ne1, upd_same]
            · rw [List.map_append]
              refine Sn.app1.mpr (.inr lspan)
          · rw [if_neg ec] at ev'
            exact (hok4.mono so hks) c' v' ev'
        · intro q hq
          rcases List.mem_append.mp hq with hq | hq
          · exact hsub q hq
          · rw [List.mem_singleton.mp hq]; exact hr_in
        · intro j q hj eq
          rw [List.map_append]
          by_cases ej : j = i
          · subst ej
            rw [er] at eq; cases eq
            exact Sn.mem (List.mem_append_right _ (List.mem_singleton.mpr rfl))
          · exact (hspan j q (by omega) eq).mono fun a ha => List.mem_append_left _ ha
  · rintro σ' H1 ⟨xs, kvs, kept, o4, o5, o6, o7, o8, o9, o10, o11, rfl, s1, h1, hi1, hd1, hkl, hkl2, hok1, hsub, hspan⟩
    repeat walk_at "st"
    refine k _ _ kept s1 ⟨kp, xs, rfl, h1, hi1⟩ hsub (by omega) fun x => ⟨Sn.mono fun a ha => ?_, Sn.sub fun a ha => ?_⟩
    · obtain ⟨r, hr, rfl⟩ := List.mem_map.mp ha
      exact List.mem_map.mpr ⟨r, hsub r hr, rfl⟩
    · obtain ⟨r, hr, rfl⟩ := List.mem_map.mp ha
      obtain ⟨j, hj⟩ := List.getElem?_of_mem hr
      exact hspan j r (by have := (List.getElem?_eq_some_iff.mp hj).1; omega) hj
end
end Kq

set_option Elab.async false
set_option linter.all false
set_option maxRecDepth 100000
set_option maxHeartbeats 4000000
/-! Group.__init__ walked -/
namespace Kq
open PySem PySem.Spec PyProof.Rows L2 XG
local macro_rules | `(tactic| walk_at "st") => `(tactic| first
  | with_reducible refine s_seq ?_
  | ((with_reducible refine' s_var ?h1 ?h2); (case h1 => rfl))
  | with_reducible refine s_c ?_
  | with_reducible refine s_op ?_
  | with_reducible refine s_asg ?_
  | with_reducible refine s_name ?_
  | with_reducible refine s_cons ?_
  | with_reducible refine s_nil ?_
  | with_reducible refine s_call ?_
  | with_reducible refine s_CB ?_
  | with_reducible refine s_add ?_
  | ((with_reducible refine' s_sub ?h1 ?h2); (case h1 => omega))
  | ((with_reducible refine' s_mul ?h1 ?h2); (case h1 => omega))
  | ((with_reducible refine' s_mod ?h1 ?h2); (case h1 => omega))
  | ((with_reducible refine' s_div ?h1 ?h2); (case h1 => omega))
  | ((with_reducible refine' s_shl ?h1 ?h2); (case h1 => omega))
  | with_reducible refine s_shr ?_
  | with_reducible refine s_and ?_
  | with_reducible refine s_or ?_
  | with_reducible refine s_xor ?_
  | with_reducible refine s_lt ?_
  | with_reducible refine s_le ?_
  | with_reducible refine s_gt ?_
  | with_reducible refine s_ge ?_
  | with_reducible refine s_eqN ?_
  | with_reducible refine s_neN ?_
  | with_reducible refine s_eqS ?_
  | with_reducible refine s_neS ?_
  | with_reducible refine s_I0 ?_
  | with_reducible refine s_un ?_
  | with_reducible refine s_neg ?_
  | with_reducible refine s_test ?_
  | with_reducible refine s_B ?_
  | with_reducible refine s_bl ?_
  | with_reducible refine s_ifS ?_
  | with_reducible refine s_ifE ?_
  | with_reducible refine s_not ?_
  | with_reducible refine s_and2 ?_
  | with_reducible refine s_or2 ?_
  | with_reducible refine s_andV ?_
  | with_reducible refine s_orV ?_
  | with_reducible refine s_notV ?_
  | with_reducible refine s_tru ?_
  | with_reducible refine s_par ?_
  | with_reducible refine s_two ?_
  | with_reducible refine s_par3 ?_
  | with_reducible refine s_three ?_
  | with_reducible refine s_lst ?_
  | with_reducible refine s_tup ?_
  | ((with_reducible refine' s_size ?h1 ?h2); (case h1 => exact Nat.le_of_ble_eq_true rfl))
  | with_reducible refine s_fld ?_
  | with_reducible refine s_gcons ?_
  | with_reducible refine s_gnil ?_
  | with_reducible refine s_intN ?_
  | with_reducible refine s_intI ?_
  | with_reducible refine s_tTru ?_
  | with_reducible refine s_tBL ?_
  | with_reducible refine s_sign ?_
  | with_reducible refine s_min ?_
  | with_reducible refine s_sfld ?_
  | with_reducible refine s_gfld ?_
  | with_reducible refine s_intB ?_
  | with_reducible refine s_next ?_
  | with_reducible refine s_ret ?_
  | with_reducible refine s_drop ?_
  | with_reducible refine s_for ?_
  | with_reducible refine s_lc ?_
  | with_reducible refine s_yes ?_
  | with_reducible refine s_bits ?_
  | with_reducible refine s_bitsV ?_
  | ((with_reducible refine' s_own ?h1 ?h2); (case h1 => assumption))
  | ((with_reducible refine' s_len ?h1 ?h2); (case h1 => assumption))
  | ((with_reducible refine' s_lenT ?h1 ?h2); (case h1 => assumption))
  | with_reducible refine s_iTup ?_
  | with_reducible refine s_iList ?_
  | with_reducible refine s_iStr ?_
  | with_reducible refine s_iRng1 ?_
  | with_reducible refine s_iRng2 ?_
  | with_reducible refine s_iEnum ?_
  | with_reducible refine s_iEnumT ?_
  | with_reducible refine s_iEnumS ?_
  | with_reducible refine s_iZip ?_
  | with_reducible refine s_iZipM ?_
  | with_reducible refine s_srcS ?_
  | with_reducible refine s_srcES ?_
  | ((with_reducible refine' s_srcT ?h1 ?h2); (case h1 => assumption))
  | ((with_reducible refine' s_srcL ?h1 ?h2); (case h1 => assumption))
  | ((with_reducible refine' s_srcE ?h1 ?h2); (case h1 => assumption))
  | ((with_reducible refine' s_srcET ?h1 ?h2); (case h1 => assumption))
  | ((with_reducible refine' s_rng1 ?h1 ?h2); (case h1 => omega))
  | ((with_reducible refine' s_rng2 ?h1 ?h2); (case h1 => omega))
  | with_reducible refine s_ckw ?_
  | ((with_reducible refine' s_sorted ?h1 ?h2); (case h1 => assumption))
  | ((with_reducible refine' s_inN ?h1 ?h2); (case h1 => assumption))
  | ((with_reducible refine' s_ninN ?h1 ?h2); (case h1 => assumption))
  | ((with_reducible refine' s_tupL ?h1 ?h2); (case h1 => assumption))
  | ((with_reducible refine' s_tupT ?h1 ?h2); (case h1 => assumption))
  | ((with_reducible refine' s_lstL ?h1 ?h2); (case h1 => assumption))
  | ((with_reducible refine' s_lstT ?h1 ?h2); (case h1 => assumption))
  | ((with_reducible refine' s_addS2 ?h1 ?h2); (case h1 => (simp only [List.length_append, letL_len]; omega)); (rw [sOf_add]))
  | with_reducible refine s_sl ?_
  | with_reducible refine s_part ?_
  | with_reducible refine s_partV ?_
  | with_reducible refine s_nopart ?_
  | ((with_reducible refine' s_cutTake ?h1 ?h2); (case h1 => assumption))
  | ((with_reducible refine' s_cutDrop ?h1 ?h2); (case h1 => assumption))
  | with_reducible refine s_isiII ?_
  | with_reducible refine s_isiIB ?_
  | with_reducible refine s_isiSS ?_
  | ((with_reducible refine' s_isiTT ?h1 ?h2); (case h1 => assumption))
  | ((with_reducible refine' s_aug ?h1 ?h2); (case h1 => rfl))
  | with_reducible refine s_ipN ?_
  | with_reducible refine s_ip ?_
  | with_reducible refine s_gsub ?_
  | with_reducible refine s_wh ?_
  | with_reducible refine s_join ?_
  | ((with_reducible refine' s_ixT ?h1 ?h2 ?h3); (case h1 => assumption); (case h2 => rfl))
  | ((with_reducible refine' s_at ?h1 ?h2 ?h3); (case h1 => assumption); (case h2 => assumption))
  | with_reducible refine s_make ?_
  | with_reducible refine s_dgetK ?_
  | with_reducible refine s_dput ?_)

/-- a group's object -/
def isG (K : PySem.W.Frag) (n : Nat) : Rp (List Row) := fun H v g => ∃ a dx fs rv, v = .ref a ∧ H a = some (.ins (He.ga K "Group") dx fs) ∧ List.lookup (Str.ofString "rows") fs = some rv ∧ isT (isP K n) H rv g ∧ done fs = true
theorem monoG {K : PySem.W.Frag} {n : Nat} : MonoS (isG K n) := fun _ _ _ _ s ⟨a, dx, fs, rv, e, h, l, t, d⟩ => ⟨a, dx, fs, rv, e, s a _ h d, l, monoT monoP _ _ _ _ s t, d⟩
section
variable {P : Program} {w : World} {K : PySem.W.Frag} {mg : Str → Option Value} {base : Heap}
def sp_Group_init (K : PySem.W.Frag) : Sp := fun vs H Q _ => ∃ a dx H0 n v rows S, vs = [.ref a, nV n, v] ∧ H0 a = none ∧ H = upd H0 a (.ins (He.ga K "Group") dx []) ∧ isL (isP K n) H0 v rows ∧ 1 ≤ n ∧ n ≤ 100 ∧ rows.length ≤ 1000 ∧ SgnSet S ∧ (∀ r ∈ rows, S r) ∧
  (∀ a ∈ rows, ∀ b ∈ rows, cr a b = 0) ∧ ∀ H' g, Same H0 H' → isG K n H' (.ref a) g → (∀ x, Sn (g.map Row.xz) x ↔ Sn (rows.map Row.xz) x) → g.length ≤ rows.length → Q .non H'
theorem ok_Group_init (T : Tx K mg) : FnOk P w K mg base CX0 5 (He.fAd K ("Group", some "__init__")) T.fd_Group_init ["self", "size", "strings"] (sp_Group_init K) := by
  have G_is_size := ok_is_size (P := P) (w := w) (base := base) T
  have G_row_of := ok_row_of (P := P) (w := w) (base := base) T
  have G_need_commuting := ok_need_commuting (P := P) (w := w) (base := base) T
  have G_independent_rows := ok_independent_rows (P := P) (w := w) (base := base) T
  have G_reduced_rows := ok_reduced_rows (P := P) (w := w) (base := base) T
  have G_told_string := ok_told_string (P := P) (w := w) (base := base) T
  refine okD T.F_Group_init sc_Group_init (fun vs H Q E h => by obtain ⟨a, dx, H0, n, r, _, S, rfl, _⟩ := h; rfl) (fun cdv A outer s H vs Q E hr h => ?_)
  obtain ⟨a, dx, H0, n, v, rows, S, rfl, ha0, rfl, ⟨p, xs, rfl, hp, hi⟩, h1, hn, hz, hS, hrS, hcr, k⟩ := h
  refine ⟨_, (pss_cons (ps_if (pt_not (pt_val (pe_call G_is_size (hr.mono (by decide)) (by rfl) T.m_is_size T.F_is_size.kp T.b_is_size .nil pass0 (pa_cons (pv 1) (pa_cons (pe_nat 1) pa_nil))))) (pss_one ps_never) pss_nil)
  (pss_cons (ps_if (pt_val (pe_callB (xc_anyB rfl) (by rfl) T.n_any (by decide +kernel) (pa_cons (pe_lc (own := [("string", 3)]) rfl sc_Group_init.nd (pi_list (pv 2)) (blkOk_by (N := ["self", "size", "strings", "string", "rows", "told", "row"]) (sc := defScope s_Group_init) (by decide +kernel)) (fun _ _ _ _ _ => (pg_name (i := 3) sc_Group_init.nd rfl (.inl rfl))) (fun _ _ _ _ _ => pts_nil) (fun _ _ _ _ _ => (pe_cmpR on_ne (xe_fld T.c_Pauli T.a_Pauli_size (pv 3)) (pv 1) (nomark _)))) pa_nil))) (pss_one ps_never) pss_nil)
  (pss_cons (ps_for PassesOwn.never rfl (pi_list (pv 2)) (pg_name (i := 3) sc_Group_init.nd rfl (.inl rfl))
  (pss_one (ps_if (pt_cmpR on_eq (pe_op on_mod (xe_fld T.c_Pauli T.a_Pauli_phase (pv 3)) (pe_nat 2)) (pe_nat 1) (nomark _)) (pss_one ps_never) pss_nil)))
  (pss_cons (ps_setLc (own := [("string", 3)]) (i := 4) rfl sc_Group_init.nd rfl rfl (sw_true rfl rfl rfl (by decide +kernel)) (pi_list (pv 2)) (blkOk_by (N := ["self", "size", "strings", "string", "rows", "told", "row"]) (sc := defScope s_Group_init) (by decide +kernel)) (fun _ _ _ _ _ => (pg_name (i := 3) sc_Group_init.nd rfl (.inl rfl))) (fun _ _ _ _ _ => pts_nil) (fun _ _ _ _ _ => (pe_call G_row_of (hr.mono (by decide)) (by rfl) T.m_row_of T.F_row_of.kp T.b_row_of .nil pass0 (pa_cons (pv 3) pa_nil))))
  (pss_cons (ps_expr (pe_call G_need_commuting (hr.mono (by decide)) (by rfl) T.m_need_commuting T.F_need_commuting.kp T.b_need_commuting .nil pass0 (pa_cons (pv 4) pa_nil)))
  (pss_cons (ps_set (i := 5) sc_Group_init.nd rfl (.inl rfl) (pe_call G_reduced_rows (hr.mono (by decide)) (by rfl) T.m_reduced_rows T.F_reduced_rows.kp T.b_reduced_rows .nil pass0 (pa_cons (pe_call G_independent_rows (hr.mono (by decide)) (by rfl) T.m_independent_rows T.F_independent_rows.kp T.b_independent_rows .nil pass0 (pa_cons (pv 4) (pa_cons (pv 1) pa_nil))) (pa_cons (pv 1) pa_nil))))
  (pss_cons (xs_fld T.c_Group T.a_Group_size (pv 0) (pv 1))
  (pss_cons (xs_fld T.c_Group T.a_Group_rows (pv 0) (pe_callTy xc_tupL (by rfl) T.n_tuple (by decide +kernel) (pa_cons (pe_lc (own := [("row", 6)]) rfl sc_Group_init.nd (pi_list (pv 5)) (blkOk_by (N := ["self", "size", "strings", "string", "rows", "told", "row"]) (sc := defScope s_Group_init) (by decide +kernel)) (fun _ _ _ _ _ => (pg_name (i := 6) sc_Group_init.nd rfl (.inl rfl))) (fun _ _ _ _ _ => pts_nil) (fun _ _ _ _ _ => (pe_call G_told_string (hr.mono (by decide)) (by rfl) T.m_told_string T.F_told_string.kp T.b_told_string .nil pass0 (pa_cons (pv 6) (pa_cons (pv 1) pa_nil))))) pa_nil)))
  (pss_one (xs_fld T.c_Group T.a_Group_rank (pv 0) (pe_callB xc_lenT (by rfl) T.n_len (by decide +kernel) (pa_cons (xe_fld T.c_Group T.a_Group_rows (pv 0)) pa_nil)))))))))))), ?_⟩
  have s0 : Same H0 (upd H0 a (.ins (He.ga K "Group") dx [])) := same_new ha0
  have hps := s0 _ _ hp
  have his := hi.mono monoP (Sol.of s0)
  have haS : (upd H0 a (.ins (He.ga K "Group") dx [])) a = some (.ins (He.ga K "Group") dx []) := upd_same
  generalize upd H0 a (.ins (He.ga K "Group") dx []) = H1 at s0 hps his haS
  have hl := hi.len
  have hok : ∀ r ∈ rows, r.ok n := fun r hr => by
    obtain ⟨i, hi2⟩ := List.getElem?_of_mem hr
    obtain ⟨v, _, hv⟩ := hi.get' hi2
    obtain ⟨_, _, _, _, _, _, _, _, h, _⟩ := hv
    exact h
  repeat walk_at "st"
  refine ⟨_, _, rfl, ?_⟩
  refine s_bl ?_
  refine s_ifF (by simp [h1]) ?_
  repeat walk_at "st"
  refine lcM (walk_list (K := K) (xs := xs)) rows (fun r => false) isB monoB hl.symm (by omega) (fun _ s => SqL.of (s _ _ hps)) (fun _ _ _ _ y => yat_same y) ?_ ?_
  · rintro i d x H3 H4 hd s3 ⟨rfl, y⟩ Qc qc
    obtain ⟨pa, pdx, pfs, rfl, hpa, hl1, hl2, hl3, hrok, _⟩ := monoP _ _ _ _ (Sol.of s3) (his.at y hd)
    walk_at "st"
    refine ⟨rfl, ?_⟩
    repeat walk_at "st"
    exact qc _ _ (Same.refl _) (by simp [isB])
  intro D vs3 H3 hD s3 h3 hi3
  obtain rfl := its_bl hi3
  repeat walk_at "st"
  refine s_anyB h3 ?_
  refine s_bl ?_
  refine s_ifF (by simp) ?_
  have hps3 := s3 _ _ hps
  repeat walk_at "st"
  refine for_it (n := xs.length) (walk_list (K := K) (xs := xs)) (fun i σ' H' => H' = H3 ∧ ∃ o3 o4 o5 o6, σ' = [some (.ref a), some (nV n), some (.ref p), o3, o4, o5, o6]) ⟨rfl, _, _, _, _, rfl⟩ (fun _ _ _ _ h => by rw [h.1]; exact SqL.of hps3) ?_ ?_
  · rintro i x σ' H4 H4' hin ⟨rfl, o3, o4, o5, o6, rfl⟩ ⟨rfl, y⟩
    obtain ⟨r, er, hr2⟩ := his.get y
    obtain ⟨pa, pdx, pfs, rfl, hpa, hl1, hl2, hl3, hrok, _⟩ := monoP _ _ _ _ (Sol.of s3) hr2
    repeat walk_at "st"
    refine s_ifF (decide_eq_false (by omega)) ?_
    repeat walk_at "st"
    exact ⟨rfl, _, _, _, _, rfl⟩
  rintro σ' H4 ⟨rfl, o3, o4, o5, o6, rfl⟩
  repeat walk_at "st"
  refine lcM (walk_list (K := K) (xs := xs)) rows id isRow monoRow hl.symm (by omega) (fun _ s => SqL.of (s _ _ hps3)) (fun _ _ _ _ y => yat_same y) ?_ ?_
  · rintro i d x H5 H6 hd s5 ⟨rfl, y⟩ Qc qc
    have hx := monoP _ _ _ _ (Sol.of (s3.trans s5)) (his.at y hd)
    walk_at "st"
    refine ⟨rfl, ?_⟩
    repeat walk_at "st"
    exact ⟨_, n, d, rfl, hx, hn, fun v' H7 s7 h7 => qc _ _ s7 h7⟩
  intro D2 vs5 H5 hD2 s5 h5 hi5
  rw [List.map_id] at hi5
  repeat walk_at "st"
  refine ⟨_, rows, rfl, ⟨D2, _, rfl, h5, hi5⟩, hz, hcr, fun H6 s6 => ?_⟩
  repeat walk_at "st"
  refine ⟨_, n, rows, S, rfl, ⟨D2, _, rfl, s6 _ _ h5, hi5.mono monoRow (Sol.of s6)⟩, hz, hn, hok, hS, hrS, fun v7 H7 kept s7 hk7 hsub hkl hsp => ?_⟩
  repeat walk_at "st"
  refine ⟨v7, n, kept, rfl, hk7, by omega, hn, fun r hr => hok r (hsub r hr), fun v8 H8 out s8 ho8 hook hol hosp => ?_⟩
  obtain ⟨op, os, rfl, hop, hos⟩ := ho8
  have s18 := ((s3.trans s5).trans s6).trans (s7.trans s8)
  have ha8 := s18 _ _ haS
  repeat walk_at "st"
  refine s_put ha8 (Nat.le_of_ble_eq_true rfl) ?_
  have hne : op ≠ a := fun z => by rw [z, ha8] at hop; cases hop
  have hop8 : (upd H8 a (.ins (He.ga K "Group") dx (putF (Str.ofString "size") (nV n) []))) op = some (.lst os) := by rw [upd_ne hne]; exact hop
  have hol2 := hos.len
  repeat walk_at "st"
  have so9 : Sol H8 (upd H8 a (.ins (He.ga K "Group") dx (putF (Str.ofString "size") (nV n) []))) := Sol.upd' ha8 (fun z => Bool.false_ne_true z)
  have hos9 := hos.mono monoRow so9
  have s19 : Same H0 (upd H8 a (.ins (He.ga K "Group") dx (putF (Str.ofString "size") (nV n) []))) := same_mut (s0.trans s18) ha0
  have ha9 : (upd H8 a (.ins (He.ga K "Group") dx (putF (Str.ofString "size") (nV n) []))) a = some (.ins (He.ga K "Group") dx (putF (Str.ofString "size") (nV n) [])) := upd_same
  generalize upd H8 a (.ins (He.ga K "Group") dx (putF (Str.ofString "size") (nV n) [])) = H9 at hop8 hos9 s19 ha9
  refine lcM (walk_list (K := K) (xs := os)) out id (isP K n) monoP hol2.symm (by omega) (fun _ s => SqL.of (s _ _ hop8)) (fun _ _ _ _ y => yat_same y) ?_ ?_
  · rintro i d x H10 H11 hd s10 ⟨rfl, y⟩ Qc qc
    have hx := monoRow _ _ _ _ (Sol.of s10) (hos9.at y hd)
    walk_at "st"
    refine ⟨rfl, ?_⟩
    repeat walk_at "st"
    exact ⟨_, n, d, rfl, hx, h1, hn, hook d (mem_idx hd), fun v' H12 s12 h12 => qc _ _ s12 h12⟩
  intro D3 vs10 H10 hD3 s10 h10 hi10
  rw [List.map_id] at hi10
  have ha10 := s10 _ _ ha9
  repeat walk_at "st"
  intro tp htp
  have htp1 := same_new (o := .tup vs10) htp
  repeat walk_at "st"
  refine s_put (htp1 _ _ ha10) (Nat.le_of_ble_eq_true rfl) ?_
  have hnt : tp ≠ a := fun z => by rw [z, ha10] at htp; cases htp
  have htp2 : (upd (upd H10 tp (.tup vs10)) a (.ins (He.ga K "Group") dx (putF (Str.ofString "rows") (.ref tp) (putF (Str.ofString "size") (nV n) [])))) tp = some (.tup vs10) := by rw [upd_ne hnt]; exact upd_same
  repeat walk_at "st"
  refine s_at upd_same rfl ?_
  repeat walk_at "st"
  refine s_put upd_same (Nat.le_of_ble_eq_true rfl) ?_
  have so10 : Sol H10 (upd (upd (upd H10 tp (.tup vs10)) a (.ins (He.ga K "Group") dx (putF (Str.ofString "rows") (.ref tp) (putF (Str.ofString "size") (nV n) [])))) a (.ins (He.ga K "Group") dx (putF (Str.ofString "rank") (nV vs10.length) (putF (Str.ofString "rows") (.ref tp) (putF (Str.ofString "size") (nV n) []))))) :=
    (Sol.of htp1).trans ((Sol.upd' (htp1 _ _ ha10) (fun z => Bool.false_ne_true z)).trans (Sol.upd' upd_same (fun z => Bool.false_ne_true z)))
  show Q .non _
  refine k _ out (same_mut (same_mut (Same.nw (s19.trans s10) htp) ha0) ha0) ⟨a, dx, _, .ref tp, rfl, upd_same, rfl, ⟨tp, vs10, rfl, by rw [upd_ne hnt]; exact htp2, hi10.mono monoP so10⟩, rfl⟩ (fun x => (hosp x).trans (hsp x)) (by omega)
end
end Kq

set_option Elab.async false
set_option linter.all false
set_option maxRecDepth 100000
set_option maxHeartbeats 4000000
/-! codes: bases and pairs walked -/
namespace Kq
open PySem PySem.Spec PyProof.Rows L2 XG
local macro_rules | `(tactic| walk_at "st") => `(tactic| first
  | with_reducible refine s_seq ?_
  | ((with_reducible refine' s_var ?h1 ?h2); (case h1 => rfl))
  | with_reducible refine s_c ?_
  | with_reducible refine s_op ?_
  | with_reducible refine s_asg ?_
  | with_reducible refine s_name ?_
  | with_reducible refine s_cons ?_
  | with_reducible refine s_nil ?_
  | with_reducible refine s_call ?_
  | with_reducible refine s_CB ?_
  | with_reducible refine s_add ?_
  | ((with_reducible refine' s_sub ?h1 ?h2); (case h1 => omega))
  | ((with_reducible refine' s_mul ?h1 ?h2); (case h1 => omega))
  | ((with_reducible refine' s_mod ?h1 ?h2); (case h1 => omega))
  | ((with_reducible refine' s_div ?h1 ?h2); (case h1 => omega))
  | ((with_reducible refine' s_shl ?h1 ?h2); (case h1 => omega))
  | with_reducible refine s_shr ?_
  | with_reducible refine s_and ?_
  | with_reducible refine s_or ?_
  | with_reducible refine s_xor ?_
  | with_reducible refine s_lt ?_
  | with_reducible refine s_le ?_
  | with_reducible refine s_gt ?_
  | with_reducible refine s_ge ?_
  | with_reducible refine s_eqN ?_
  | with_reducible refine s_neN ?_
  | with_reducible refine s_eqS ?_
  | with_reducible refine s_neS ?_
  | with_reducible refine s_I0 ?_
  | with_reducible refine s_un ?_
  | with_reducible refine s_neg ?_
  | with_reducible refine s_test ?_
  | with_reducible refine s_B ?_
  | with_reducible refine s_bl ?_
  | with_reducible refine s_ifS ?_
  | with_reducible refine s_ifE ?_
  | with_reducible refine s_not ?_
  | with_reducible refine s_and2 ?_
  | with_reducible refine s_or2 ?_
  | with_reducible refine s_andV ?_
  | with_reducible refine s_orV ?_
  | with_reducible refine s_notV ?_
  | with_reducible refine s_tru ?_
  | with_reducible refine s_par ?_
  | with_reducible refine s_two ?_
  | with_reducible refine s_par3 ?_
  | with_reducible refine s_three ?_
  | with_reducible refine s_lst ?_
  | with_reducible refine s_tup ?_
  | ((with_reducible refine' s_size ?h1 ?h2); (case h1 => exact Nat.le_of_ble_eq_true rfl))
  | with_reducible refine s_fld ?_
  | with_reducible refine s_gcons ?_
  | with_reducible refine s_gnil ?_
  | with_reducible refine s_intN ?_
  | with_reducible refine s_intI ?_
  | with_reducible refine s_tTru ?_
  | with_reducible refine s_tBL ?_
  | with_reducible refine s_sign ?_
  | with_reducible refine s_min ?_
  | with_reducible refine s_sfld ?_
  | with_reducible refine s_gfld ?_
  | with_reducible refine s_intB ?_
  | with_reducible refine s_next ?_
  | with_reducible refine s_ret ?_
  | with_reducible refine s_drop ?_
  | with_reducible refine s_for ?_
  | with_reducible refine s_lc ?_
  | with_reducible refine s_yes ?_
  | with_reducible refine s_bits ?_
  | with_reducible refine s_bitsV ?_
  | ((with_reducible refine' s_own ?h1 ?h2); (case h1 => assumption))
  | ((with_reducible refine' s_len ?h1 ?h2); (case h1 => assumption))
  | ((with_reducible refine' s_lenT ?h1 ?h2); (case h1 => assumption))
  | with_reducible refine s_iTup ?_
  | with_reducible refine s_iList ?_
  | with_reducible refine s_iStr ?_
  | with_reducible refine s_iRng1 ?_
  | with_reducible refine s_iRng2 ?_
  | with_reducible refine s_iEnum ?_
  | with_reducible refine s_iEnumT ?_
  | with_reducible refine s_iEnumS ?_
  | with_reducible refine s_iZip ?_
  | with_reducible refine s_iZipM ?_
  | with_reducible refine s_srcS ?_
  | with_reducible refine s_srcES ?_
  | ((with_reducible refine' s_srcT ?h1 ?h2); (case h1 => assumption))
  | ((with_reducible refine' s_srcL ?h1 ?h2); (case h1 => assumption))
  | ((with_reducible refine' s_srcE ?h1 ?h2); (case h1 => assumption))
  | ((with_reducible refine' s_srcET ?h1 ?h2); (case h1 => assumption))
  | ((with_reducible refine' s_rng1 ?h1 ?h2); (case h1 => omega))
  | ((with_reducible refine' s_rng2 ?h1 ?h2); (case h1 => omega))
  | with_reducible refine s_ckw ?_
  | ((with_reducible refine' s_sorted ?h1 ?h2); (case h1 => assumption))
  | ((with_reducible refine' s_inN ?h1 ?h2); (case h1 => assumption))
  | ((with_reducible refine' s_ninN ?h1 ?h2); (case h1 => assumption))
  | ((with_reducible refine' s_tupL ?h1 ?h2); (case h1 => assumption))
  | ((with_reducible refine' s_tupT ?h1 ?h2); (case h1 => assumption))
  | ((with_reducible refine' s_lstL ?h1 ?h2); (case h1 => assumption))
  | ((with_reducible refine' s_lstT ?h1 ?h2); (case h1 => assumption))
  | ((with_reducible refine' s_addS2 ?h1 ?h2); (case h1 => (simp only [List.length_append, letL_len]; omega)); (rw [sOf_add]))
  | with_reducible refine s_sl ?_
  | with_reducible refine s_part ?_
  | with_reducible refine s_partV ?_
  | with_reducible refine s_nopart ?_
  | ((with_reducible refine' s_cutTake ?h1 ?h2); (case h1 => assumption))
  | ((with_reducible refine' s_cutDrop ?h1 ?h2); (case h1 => assumption))
  | with_reducible refine s_isiII ?_
  | with_reducible refine s_isiIB ?_
  | with_reducible refine s_isiSS ?_
  | ((with_reducible refine' s_isiTT ?h1 ?h2); (case h1 => assumption))
  | ((with_reducible refine' s_aug ?h1 ?h2); (case h1 => rfl))
  | with_reducible refine s_ipN ?_
  | with_reducible refine s_ip ?_
  | with_reducible refine s_gsub ?_
  | with_reducible refine s_wh ?_
  | with_reducible refine s_join ?_
  | ((with_reducible refine' s_ixT ?h1 ?h2 ?h3); (case h1 => assumption); (case h2 => rfl))
  | ((with_reducible refine' s_at ?h1 ?h2 ?h3); (case h1 => assumption); (case h2 => assumption))
  | with_reducible refine s_make ?_
  | with_reducible refine s_dgetK ?_
  | with_reducible refine s_dput ?_)

section
variable {P : Program} {w : World} {K : PySem.W.Frag} {mg : Str → Option Value} {base : Heap}
def sp_number_of_codes : Sp := fun vs H Q _ => ∃ v n r, vs = [v, nV n] ∧ isRow H v r ∧ n ≤ 60 ∧ r.ok n ∧ Q (nV (enc n r.xz)) H
theorem ok_number_of_codes (T : Tx K mg) : FnOk P w K mg base CX0 1 (He.fAd K ("number_of_codes", none)) T.fd_number_of_codes ["row", "size"] (sp_number_of_codes) := by
  refine okD T.F_number_of_codes sc_number_of_codes (fun vs H Q E h => by obtain ⟨v, n, r, rfl, _⟩ := h; rfl) (fun cdv A outer s H vs Q E hr h => ?_)
  obtain ⟨v, n, r, rfl, ⟨p, rfl, hp⟩, hn, rok, k⟩ := h
  refine ⟨_, (pss_one (ps_ret (pe_op on_or (pe_ix xi_tup (pv 0) (pe_nat 0) (fun _ _ => rfl)) (pe_op on_shl (pe_ix xi_tup (pv 0) (pe_nat 1) (fun _ _ => rfl)) (pv 1))))), ?_⟩
  have hz : r.z < 2 ^ 64 := Nat.lt_of_lt_of_le rok.2.1 (Nat.pow_le_pow_right (by decide) (by omega))
  repeat walk_at "st"
  rw [enc_or rok.1]
  exact k
def sp_rest_in : Sp := fun vs H Q _ => ∃ v t n, vs = [nV n, v] ∧ isL isN H v t ∧ (∀ h ∈ t, h ≠ 0) ∧ Q (nV (restBy t n)) H
theorem ok_rest_in (T : Tx K mg) : FnOk P w K mg base CX0 1 (He.fAd K ("rest_in", none)) T.fd_rest_in ["number", "basis"] (sp_rest_in) := by
  refine okD T.F_rest_in sc_rest_in (fun vs H Q E h => by obtain ⟨v, t, n, rfl, _⟩ := h; rfl) (fun cdv A outer s H vs Q E hr h => ?_)
  obtain ⟨v, t, n, rfl, ⟨p, vs, rfl, hp, hi⟩, h0, k⟩ := h
  refine ⟨_, (pss_cons (ps_for PassesOwn.never rfl (pi_list (pv 1)) (pg_name (i := 2) sc_rest_in.nd rfl (.inl rfl))
  (pss_one (ps_set (i := 0) sc_rest_in.nd rfl (.inl rfl) (pe_callB (xc_min rfl) (by rfl) T.n_min (by decide +kernel) (pa_cons (pv 0) (pa_cons (pe_op on_xor (pv 0) (pv 2)) pa_nil))))))
  (pss_one (ps_ret (pv 0)))), ?_⟩
  repeat walk_at "st"
  refine forW (walk_list (K := K) (xs := vs)) t hi.len.symm (fun n h => if n.testBit h.log2 = true then n ^^^ h else n) n (fun n σ' H' => H' = H ∧ ∃ o, σ' = [some (nV n), some (.ref p), o]) ⟨rfl, _, rfl⟩ (fun n σ' H' h => by rw [h.1]; exact SqL.of hp) ?_ ?_
  · rintro i d x n σ' H' H'' hd _ ⟨rfl, o, rfl⟩ ⟨rfl, y⟩
    have hx := hi.at y hd
    cases hx
    repeat walk_at "st"
    rw [← min_rest (h0 d (mem_idx hd))]
    exact ⟨rfl, _, rfl⟩
  · rintro σ' H' ⟨rfl, o, rfl⟩
    repeat walk_at "st"
    exact k
def sp_basis_of : Sp := fun vs H Q _ => ∃ v u ns b, vs = [v, u] ∧ isL isN H v ns ∧ isL isN H u b ∧ Ech b ∧ ns.length ≤ 1000 ∧ b.length ≤ 1000 ∧ ∀ v' H', Same H H' → isL isN H' v' (basisOf ns b) → Q v' H'
theorem ok_basis_of (T : Tx K mg) : FnOk P w K mg base CX0 2 (He.fAd K ("basis_of", none)) T.fd_basis_of ["numbers", "begun"] (sp_basis_of) := by
  have G_rest_in := ok_rest_in (P := P) (w := w) (base := base) T
  refine okD T.F_basis_of sc_basis_of (fun vs H Q E h => by obtain ⟨v, t, n, b, rfl, _⟩ := h; rfl) (fun cdv A outer s H vs Q E hr h => ?_)
  obtain ⟨v, u, ns, b, rfl, ⟨p, xs, rfl, hp, hi⟩, ⟨q, ys, rfl, hq, hj⟩, hb, hz, hzb, k⟩ := h
  refine ⟨_, (pss_cons (ps_set (i := 2) sc_basis_of.nd rfl (.inl rfl) (pe_callTy xc_lstL (by rfl) T.n_list (by decide +kernel) (pa_cons (pv 1) pa_nil)))
  (pss_cons (ps_for PassesOwn.never rfl (pi_list (pv 0)) (pg_name (i := 3) sc_basis_of.nd rfl (.inl rfl))
  (pss_cons (ps_set (i := 4) sc_basis_of.nd rfl (.inl rfl) (pe_call G_rest_in (hr.mono (by decide)) (by rfl) T.m_rest_in T.F_rest_in.kp T.b_rest_in .nil pass0 (pa_cons (pv 3) (pa_cons (pv 2) pa_nil))))
  (pss_one (ps_if (pt_cmpR on_ne (pv 4) (pe_nat 0) (nomark _)) (pss_one (ps_expr (xe_bl PySem.F.slot_list_append PySem.F.type_list_append mt_append (pv 2) (pa_cons (pv 4) pa_nil)))) pss_nil))))
  (pss_one (ps_ret (pv 2))))), ?_⟩
  repeat walk_at "st"
  intro l hl
  have hp1 := same_new (o := .lst ys) hl _ _ hp
  repeat walk_at "st"
  refine forW (walk_list (K := K) (xs := xs)) ns hi.len.symm baseStep b (fun t σ' H' => ∃ ts o3 o4, σ' = [some (.ref p), some (.ref q), some (.ref l), o3, o4] ∧ Same H H' ∧ H' l = some (.lst ts) ∧ Itm isN H' ts t) ⟨ys, _, _, rfl, same_new hl, upd_same, hj.mono monoN (Sol.of (same_new hl))⟩ (fun n σ' H' h => by obtain ⟨_, _, _, _, s, _⟩ := h; exact SqL.of (s _ _ hp)) ?_ ?_
  · rintro i d x t σ' H' H'' hd et ⟨ts, o3, o4, rfl, s1, h1, ht⟩ ⟨rfl, y⟩
    have hx := hi.at y hd
    cases hx
    have ok := basis_ok hb (ns.take i)
    have et : t = basisOf (ns.take i) b := et
    rw [← et] at ok
    have hlen := ht.len
    have hl3 := ok.2.2
    rw [List.length_take] at hl3
    repeat walk_at "st"
    refine ⟨_, t, d, rfl, ⟨l, ts, rfl, h1, ht⟩, ok.1.nz, ?_⟩
    repeat walk_at "st"
    unfold baseStep
    refine s_if (fun e => ?_) (fun e => ?_)
    · have e2 : restBy t d ≠ 0 := by simpa using e
      repeat walk_at "st"
      refine s_append h1 (by omega) ?_
      rw [if_pos e2]
      refine ⟨_, _, _, rfl, same_mut s1 hl, upd_same, (ht.mono monoN (Sol.updL h1)).app (Itm.one rfl)⟩
    · have e2 : ¬ restBy t d ≠ 0 := by simpa using e
      repeat walk_at "st"
      rw [if_neg e2]
      exact ⟨_, _, _, rfl, s1, h1, ht⟩
  · rintro σ' H' ⟨ts, o3, o4, rfl, s1, h1, ht⟩
    repeat walk_at "st"
    exact k _ _ s1 ⟨l, ts, rfl, h1, ht⟩
def sp_added : Sp := fun vs H Q _ => ∃ v u a b, vs = [v, u] ∧ isRow H v a ∧ isRow H u b ∧ ∀ v' H', Same H H' → isRow H' v' (addR a b) → Q v' H'
theorem ok_added (T : Tx K mg) : FnOk P w K mg base CX0 1 (He.fAd K ("added", none)) T.fd_added ["one", "other"] (sp_added) := by
  refine okD T.F_added sc_added (fun vs H Q E h => by obtain ⟨v, u, a, b, rfl, _⟩ := h; rfl) (fun cdv A outer s H vs Q E hr h => ?_)
  obtain ⟨v, u, a, b, rfl, ⟨p, rfl, hp⟩, ⟨q, rfl, hq⟩, k⟩ := h
  refine ⟨_, (pss_one (ps_ret (pe_tup (pa_cons (pe_op on_xor (pe_ix xi_tup (pv 0) (pe_nat 0) (fun _ _ => rfl)) (pe_ix xi_tup (pv 1) (pe_nat 0) (fun _ _ => rfl))) (pa_cons (pe_op on_xor (pe_ix xi_tup (pv 0) (pe_nat 1) (fun _ _ => rfl)) (pe_ix xi_tup (pv 1) (pe_nat 1) (fun _ _ => rfl))) (pa_cons (pe_nat 0) pa_nil)))))), ?_⟩
  repeat walk_at "st"
  intro l hl
  exact k _ _ (same_new hl) ⟨l, rfl, upd_same⟩
def sp_cleared : Sp := fun vs H Q _ => ∃ v u t a b c, vs = [v, u, t] ∧ isRow H v a ∧ isRow H u b ∧ isRow H t c ∧ ∀ v' H', Same H H' → isRow H' v' (clearedR a b c) → Q v' H'
theorem ok_cleared (T : Tx K mg) : FnOk P w K mg base CX0 3 (He.fAd K ("cleared", none)) T.fd_cleared ["row", "one", "two"] (sp_cleared) := by
  have G_crossing := ok_crossing (P := P) (w := w) (base := base) T
  have G_added := ok_added (P := P) (w := w) (base := base) T
  refine okD T.F_cleared sc_cleared (fun vs H Q E h => by obtain ⟨v, u, a, b, _, _, rfl, _⟩ := h; rfl) (fun cdv A outer s H vs Q E hr h => ?_)
  obtain ⟨v, u, t, a, b, c, rfl, ha, hb, hc, k⟩ := h
  refine ⟨_, (pss_cons (ps_set (i := 3) sc_cleared.nd rfl (.inl rfl) (pe_ifExp (xt_tru (pe_call G_crossing (hr.mono (by decide)) (by rfl) T.m_crossing T.F_crossing.kp T.b_crossing .nil pass0 (pa_cons (pv 0) (pa_cons (pv 2) pa_nil)))) (pe_call G_added (hr.mono (by decide)) (by rfl) T.m_added T.F_added.kp T.b_added .nil pass0 (pa_cons (pv 0) (pa_cons (pv 1) pa_nil))) (pv 0)))
  (pss_one (ps_ret (pe_ifExp (xt_tru (pe_call G_crossing (hr.mono (by decide)) (by rfl) T.m_crossing T.F_crossing.kp T.b_crossing .nil pass0 (pa_cons (pv 0) (pa_cons (pv 1) pa_nil)))) (pe_call G_added (hr.mono (by decide)) (by rfl) T.m_added T.F_added.kp T.b_added .nil pass0 (pa_cons (pv 3) (pa_cons (pv 2) pa_nil))) (pv 3))))), ?_⟩
  repeat walk_at "st"
  refine ⟨_, _, a, c, rfl, ha, hc, ?_⟩
  repeat walk_at "st"
  have tail : ∀ (hv : V) (H1 : Hp) (h : Row), Same H H1 → isRow H1 hv h → h = (if cr a c ≠ 0 then addR a b else a) → tRet (tIf (tTru (tCall sp_crossing [] E0 (tCons (tVar 0) (tCons (tVar 1) tNil)))) (tCall sp_added [] E0 (tCons (tVar 3) (tCons (tVar 2) tNil))) (tVar 3)) { nx := fun x H' => Q V.non H', rt := Q } [some v, some u, some t, some hv] H1 := by
    intro hv H1 h s1 hh eh
    have ha1 := monoRow _ _ _ _ (Sol.of s1) ha
    have hb1 := monoRow _ _ _ _ (Sol.of s1) hb
    have hc1 := monoRow _ _ _ _ (Sol.of s1) hc
    repeat walk_at "st"
    refine ⟨_, _, a, b, rfl, ha1, hb1, ?_⟩
    repeat walk_at "st"
    unfold clearedR at k
    refine s_if (fun e => ?_) (fun e => ?_)
    · have e2 : cr a b ≠ 0 := by simpa using e
      rw [if_pos e2, ← eh] at k
      repeat walk_at "st"
      exact ⟨_, _, h, c, rfl, hh, hc1, fun v' H' s2 h2 => k _ _ (s1.trans s2) h2⟩
    · have e2 : ¬ cr a b ≠ 0 := by simpa using e
      rw [if_neg e2, ← eh] at k
      repeat walk_at "st"
      exact k _ _ s1 hh
  refine s_if (fun e => ?_) (fun e => ?_)
  · have e2 : cr a c ≠ 0 := by simpa using e
    repeat walk_at "st"
    refine ⟨_, _, a, b, rfl, ha, hb, fun v' H' s2 h2 => ?_⟩
    exact tail v' H' _ s2 h2 (by rw [if_pos e2])
  · have e2 : ¬ cr a c ≠ 0 := by simpa using e
    exact ⟨v, rfl, tail v H _ (Same.refl _) ha (by rw [if_neg e2])⟩

theorem Itm.erase {α : Type} {R : Rp α} {H : Hp} : ∀ {vs : List V} {l : List α} (n : Nat), Itm R H vs l → Itm R H (vs.eraseIdx n) (l.eraseIdx n)
  | _, _, _, .nil => .nil
  | _, _, 0, .cons _ t => t
  | _, _, n + 1, .cons q t => .cons q (Itm.erase n t)
def sp_paired : Sp := fun vs H Q _ => ∃ v n sides, vs = [v] ∧ isL isRow H v sides ∧ sides.length ≤ 1000 ∧ (∀ r ∈ sides, r.ok n) ∧ ∀ p a b H' rest, Same H H' → H' p = some (.tup [a, b]) → isL isRow H' b rest → rest.length ≤ sides.length →
  (∀ r ∈ rest, r.ok n ∧ Sn (sides.map Row.xz) r.xz ∧ ∀ q ∈ sides, cr r q = 0) → Q (.ref p) H'
theorem ok_paired (T : Tx K mg) : FnOk P w K mg base CX0 4 (He.fAd K ("paired", none)) T.fd_paired ["rows"] (sp_paired) := by
  have G_crossing := ok_crossing (P := P) (w := w) (base := base) T
  have G_cleared := ok_cleared (P := P) (w := w) (base := base) T
  refine okD T.F_paired sc_paired (fun vs H Q E h => by obtain ⟨v, n, s, rfl, _⟩ := h; rfl) (fun cdv A outer s H vs Q E hr h => ?_)
  have hu64 := hr.units
  obtain ⟨v, n, sides, rfl, ⟨p, xs, rfl, hp, hi⟩, hz, hok, k⟩ := h
  refine ⟨_, (pss_cons (ps_par3 (by rfl) sc_paired.nd (i := 1) (j := 2) (l := 3) rfl rfl rfl (by decide) (by decide) (by decide) rfl rfl rfl (pa_cons (pe_callTy xc_lstL (by rfl) T.n_list (by decide +kernel) (pa_cons (pv 0) pa_nil)) (pa_cons (pe_lst pa_nil) (pa_cons (pe_lst pa_nil) pa_nil))) (by rfl))
  (pss_cons (ps_while PassesOwn.never (pt_cmpR on_gt (pe_callB xc_lenL (by rfl) T.n_len (by decide +kernel) (pa_cons (pv 1) pa_nil)) (pe_nat 0) (nomark _)) (pss_cons (ps_set (i := 4) sc_paired.nd rfl (.inr rfl) (xe_bl PySem.F.slot_list_pop PySem.F.type_list_pop mt_popAt (pv 1) (pa_cons (pe_nat 0) pa_nil)))
  (pss_cons (ps_setLc (own := [("k", 7), ("other", 8)]) (i := 5) rfl sc_paired.nd rfl rfl (sw_true rfl rfl rfl (by decide +kernel)) (pi_enum (by rfl) T.n_enumerate (pa_cons (pv 1) pa_nil)) (blkOk_by (N := ["rows", "left", "pairs", "rest", "one", "found", "two", "k", "other"]) (sc := defScope s_paired) (by decide +kernel)) (fun _ _ _ _ _ => (xg_tup (n := 2) rfl (pgs_cons (pg_name (i := 7) sc_paired.nd rfl (.inl rfl)) (pgs_cons (pg_name (i := 8) sc_paired.nd rfl (.inl rfl)) pgs_nil)))) (fun _ _ _ _ _ => (pts_one (xt_tru (pe_call G_crossing (hr.mono (by decide)) (by rfl) T.m_crossing T.F_crossing.kp T.b_crossing .nil pass0 (pa_cons (pv 4) (pa_cons (pv 8) pa_nil)))))) (fun _ _ _ _ _ => (pv 7)))
  (pss_cons (ps_if (pt_cmpR (xo_eqNil hu64) (pv 5) (pe_lst pa_nil) (nomark _)) (pss_cons (ps_expr (xe_bl PySem.F.slot_list_append PySem.F.type_list_append mt_append (pv 3) (pa_cons (pv 4) pa_nil)))
  (pss_one ps_continue)) pss_nil)
  (pss_cons (ps_set (i := 6) sc_paired.nd rfl (.inr rfl) (xe_bl PySem.F.slot_list_pop PySem.F.type_list_pop mt_popAt (pv 1) (pa_cons (pe_ix xi_list (pv 5) (pe_nat 0) (fun _ _ => rfl)) pa_nil)))
  (pss_cons (ps_expr (xe_bl PySem.F.slot_list_append PySem.F.type_list_append mt_append (pv 2) (pa_cons (pe_tup (pa_cons (pv 4) (pa_cons (pv 6) pa_nil))) pa_nil)))
  (pss_one (ps_setLc (own := [("other", 8)]) (i := 1) rfl sc_paired.nd rfl rfl (sw_true rfl rfl rfl (by decide +kernel)) (pi_list (pv 1)) (blkOk_by (N := ["rows", "left", "pairs", "rest", "one", "found", "two", "k", "other"]) (sc := defScope s_paired) (by decide +kernel)) (fun _ _ _ _ _ => (pg_name (i := 8) sc_paired.nd rfl (.inl rfl))) (fun _ _ _ _ _ => pts_nil) (fun _ _ _ _ _ => (pe_call G_cleared (hr.mono (by decide)) (by rfl) T.m_cleared T.F_cleared.kp T.b_cleared .nil pass0 (pa_cons (pv 8) (pa_cons (pv 4) (pa_cons (pv 6) pa_nil)))))))))))))
  (pss_one (ps_ret (pe_tup (pa_cons (pv 2) (pa_cons (pv 3) pa_nil))))))), ?_⟩
  repeat walk_at "st"
  intro lp hlp
  repeat walk_at "st"
  intro pp hpp
  repeat walk_at "st"
  intro rp' hrp
  repeat walk_at "st"
  have hlp0 : H lp = none := hlp
  have ne1 : pp ≠ lp := fun z => by rw [z, upd_same] at hpp; cases hpp
  have ne2 : rp' ≠ pp := fun z => by rw [z, upd_same] at hrp; cases hrp
  have ne3 : rp' ≠ lp := fun z => by rw [z, upd_ne (Ne.symm ne1), upd_same] at hrp; cases hrp
  have hpp0 : H pp = none := by rw [upd_ne ne1] at hpp; exact hpp
  have hrp0 : H rp' = none := by rw [upd_ne ne2, upd_ne ne3] at hrp; exact hrp
  have s0 : Same H (upd (upd (upd H lp (.lst xs)) pp (.lst [])) rp' (.lst [])) := Same.nw (Same.nw (same_new hlp) hpp) hrp
  refine ⟨fun m σ' H' => ∃ lp ls left ps rs rest pl o4 o5 o6 o7 o8, σ' = [some (.ref p), some (.ref lp), some (.ref pp), some (.ref rp'), o4, o5, o6, o7, o8] ∧ m = left.length ∧ Same H H' ∧ H lp = none ∧ lp ≠ pp ∧ lp ≠ rp' ∧ H' lp = some (.lst ls) ∧ Itm isRow H' ls left ∧
    H' pp = some (.lst ps) ∧ ps.length + left.length ≤ sides.length ∧ H' rp' = some (.lst rs) ∧ Itm isRow H' rs rest ∧ rest.length + left.length ≤ sides.length ∧ Prd n sides left pl rest, ⟨_, lp, xs, sides, [], [], [], [], _, _, _, _, _, rfl, rfl, s0, hlp0, Ne.symm ne1, Ne.symm ne3, by rw [upd_ne (Ne.symm ne3), upd_ne (Ne.symm ne1), upd_same], hi.mono monoRow (Sol.of s0),
      by rw [upd_ne (Ne.symm ne2), upd_same], by simp, upd_same, .nil, by simp, Prd.init hok⟩, ?_⟩
  rintro m σ' H1 ⟨lp, ls, left, ps, rs, rest, pl, o4, o5, o6, o7, o8, rfl, rfl, s1, hl0, nl1, nl2, hl1, hil, hp1, hpl, hr1, hir, hrl, prd⟩
  have hll := hil.len
  repeat walk_at "st"
  refine s_if (fun e => ?_) (fun e => ?_)
  · have e2 : 0 < ls.length := of_decide_eq_true e
    obtain ⟨one, left, rfl⟩ : ∃ one l, left = one :: l := by
      cases left with
      | nil => rw [hll] at e2; simp at e2
      | cons a l => exact ⟨a, l, rfl⟩
    cases hil with
    | @cons ov _ ls' _ hov hil =>
    refine ⟨_, fun _ _ h => h, ?_⟩
    repeat walk_at "st"
    refine s_popAt (y := ov) hl1 rfl (by simp at hll ⊢; simp at hpl; omega) ?_
    have so2 : Sol H1 (upd H1 lp (.lst ((ov :: ls').eraseIdx 0))) := Sol.updL hl1
    have s2 : Same H (upd H1 lp (.lst ((ov :: ls').eraseIdx 0))) := same_mut s1 hl0
    have hl2 : (upd H1 lp (.lst ((ov :: ls').eraseIdx 0))) lp = some (.lst ls') := upd_same
    have hp2 : (upd H1 lp (.lst ((ov :: ls').eraseIdx 0))) pp = some (.lst ps) := by rw [upd_ne (Ne.symm nl1)]; exact hp1
    have hr2 : (upd H1 lp (.lst ((ov :: ls').eraseIdx 0))) rp' = some (.lst rs) := by rw [upd_ne (Ne.symm nl2)]; exact hr1
    have hil2 : Itm isRow _ ls' left := Itm.mono monoRow so2 hil
    have hir2 := hir.mono monoRow so2
    have hov2 := monoRow _ _ _ _ so2 hov
    clear hl1 hp1 hr1 hil hir hov s1 hll
    generalize upd H1 lp (.lst ((ov :: ls').eraseIdx 0)) = H2 at so2 s2 hl2 hp2 hr2 hil2 hir2 hov2
    have hll := hil2.len
    have hpl' : ps.length + (left.length + 1) ≤ sides.length := by simpa using hpl
    have hrl' : rest.length + (left.length + 1) ≤ sides.length := by simpa using hrl
    repeat walk_at "st"
    refine lcF (walk_enum (K := K) (xs := ls')) (List.range ls'.length) id (fun k => decide (cr one (left.getD k ⟨0, 0, 0⟩) ≠ 0)) isN monoN (by simp) (by omega) (fun _ s => SqL.of (s _ _ hl2)) (fun _ _ _ _ y => ypair_same y) ?_ ?_
    · rintro i d x H3 H4 hd s3 ⟨T1, a, b, rfl, hT, rfl, ea, eb⟩ Qc Qn qc qn
      cases ea
      obtain ⟨hi', rfl⟩ := List.getElem?_eq_some_iff.mp hd
      rw [List.getElem_range] at qc qn
      obtain ⟨r, er, hrr⟩ := hil2.get eb
      have eg : left.getD i ⟨0, 0, 0⟩ = r := by rw [List.getD_eq_getElem?_getD, er]; rfl
      rw [eg] at qc qn
      refine s_gtup upd_same rfl ?_
      have s34 := Same.nw (o := .tup [nV i, b]) s3 hT
      repeat walk_at "st"
      refine ⟨rfl, ?_⟩
      repeat walk_at "st"
      refine ⟨_, _, one, r, rfl, monoRow _ _ _ _ (Sol.of s34) hov2, monoRow _ _ _ _ (Sol.of s34) hrr, ?_⟩
      repeat walk_at "st"
      refine s_if (fun e => ?_) (fun e => ?_)
      · repeat walk_at "st"
        exact qc _ _ e (Same.refl _) rfl
      · exact qn _ e (Same.refl _)
    intro fp ws H3 hfp s3 h3 hi3
    rw [List.map_id] at hi3
    obtain rfl := hi3.eqN
    have hmem : ∀ f, f ∈ (List.range ls'.length).filter (fun k => decide (cr one (left.getD k ⟨0, 0, 0⟩) ≠ 0)) ↔ ∃ r, left[f]? = some r ∧ cr one r ≠ 0 := fun f => by
      rw [List.mem_filter, List.mem_range, decide_eq_true_iff]
      constructor
      · rintro ⟨h1, h2⟩
        have er : left[f]? = some (left[f]'(by omega)) := by simp [show f < left.length by omega]
        rw [List.getD_eq_getElem?_getD, er] at h2
        exact ⟨_, er, h2⟩
      · rintro ⟨r, er, h2⟩
        have := (List.getElem?_eq_some_iff.mp er).1
        exact ⟨by omega, by rw [List.getD_eq_getElem?_getD, er]; exact h2⟩
    generalize (List.range ls'.length).filter (fun k => decide (cr one (left.getD k ⟨0, 0, 0⟩) ≠ 0)) = fl at h3 hi3 hmem
    have so3 := Sol.of s3
    have hl3 := s3 _ _ hl2
    have hp3 := s3 _ _ hp2
    have hr3 := s3 _ _ hr2
    have hil3 := hil2.mono monoRow so3
    have hir3 := hir2.mono monoRow so3
    have hov3 := monoRow _ _ _ _ so3 hov2
    have nfl : fp ≠ lp := fun z => by rw [z, hl2] at hfp; cases hfp
    have sx3 := s2.trans s3
    clear hl2 hp2 hr2 hil2 hir2 hov2 s2 so2 so3 hfp s3
    repeat walk_at "st"
    intro ep hep
    have s4 := same_new (o := .lst []) hep
    refine s_eqNilN (s4 _ _ h3) upd_same ?_
    refine s_bl ?_
    have so4 := Sol.of s4
    have h4 := s4 _ _ h3
    have hl4 := s4 _ _ hl3
    have hp4 := s4 _ _ hp3
    have hr4 := s4 _ _ hr3
    have hil4 := hil3.mono monoRow so4
    have hir4 := hir3.mono monoRow so4
    have hov4 := monoRow _ _ _ _ so4 hov3
    have sx4 := sx3.trans s4
    clear hl3 hp3 hr3 hil3 hir3 hov3 so4 s4 sx3 h3
    generalize upd H3 ep (.lst []) = H4 at h4 hl4 hp4 hr4 hil4 hir4 hov4 sx4
    refine s_if (fun e => ?_) (fun e => ?_)
    · have hf0 : fl = [] := by
        cases fl with
        | nil => rfl
        | cons a l => cases e
      have hirl := hir4.len
      repeat walk_at "st"
      refine s_append hr4 (by omega) ?_
      have so := Sol.updL (o := .lst (rs ++ [ov])) hr4
      show ∃ m', _
      refine ⟨left.length, by simp, lp, ls', left, ps, rs ++ [ov], rest ++ [one], pl, _, _, _, _, _, rfl, rfl, same_mut sx4 hrp0, hl0, nl1, nl2, by rw [upd_ne nl2]; exact hl4, hil4.mono monoRow so, by rw [upd_ne (Ne.symm ne2)]; exact hp4, by omega, upd_same, (hir4.mono monoRow so).app (Itm.one (monoRow _ _ _ _ so hov4)), by simp; omega, prd.none fun q hq => ?_⟩
      obtain ⟨f, hf⟩ := List.getElem?_of_mem hq
      apply Classical.byContradiction
      intro c
      have := (hmem f).mpr ⟨q, hf, c⟩
      rw [hf0] at this
      cases this
    · obtain ⟨f, fs, rfl⟩ : ∃ f fs, fl = f :: fs := by
        cases fl with
        | nil => cases e
        | cons f fs => exact ⟨f, fs, rfl⟩
      obtain ⟨two, etwo, hc2⟩ := (hmem f).mp List.mem_cons_self
      obtain ⟨tv, etv, htv⟩ := hil4.get' etwo
      repeat walk_at "st"
      refine s_ixL h4 (v := nV f) rfl ?_
      repeat walk_at "st"
      refine s_popAt hl4 etv (by omega) ?_
      have so5 : Sol H4 (upd H4 lp (.lst (ls'.eraseIdx f))) := Sol.updL hl4
      have s5 : Same H (upd H4 lp (.lst (ls'.eraseIdx f))) := same_mut sx4 hl0
      have hl5 : (upd H4 lp (.lst (ls'.eraseIdx f))) lp = some (.lst (ls'.eraseIdx f)) := upd_same
      have hp5 : (upd H4 lp (.lst (ls'.eraseIdx f))) pp = some (.lst ps) := by rw [upd_ne (Ne.symm nl1)]; exact hp4
      have hr5 : (upd H4 lp (.lst (ls'.eraseIdx f))) rp' = some (.lst rs) := by rw [upd_ne (Ne.symm nl2)]; exact hr4
      have hil5 : Itm isRow _ (ls'.eraseIdx f) (left.eraseIdx f) := Itm.mono monoRow so5 (Itm.erase f hil4)
      have hir5 := Itm.mono monoRow so5 hir4
      have hov5 := monoRow _ _ _ _ so5 hov4
      have htv5 := monoRow _ _ _ _ so5 htv
      clear hl4 hp4 hr4 hil4 hir4 hov4 htv sx4 h4
      generalize upd H4 lp (.lst (ls'.eraseIdx f)) = H5 at so5 s5 hl5 hp5 hr5 hil5 hir5 hov5 htv5
      have hel := hil5.len
      have hel2 : (left.eraseIdx f).length = left.length - 1 := by
        rw [List.length_eraseIdx, if_pos (List.getElem?_eq_some_iff.mp etwo).1]
      have hpos := (List.getElem?_eq_some_iff.mp etwo).1
      repeat walk_at "st"
      intro T6 hT6
      have s6 := same_new (o := .tup [ov, tv]) hT6
      have so6 := Sol.of s6
      have hp6 := s6 _ _ hp5
      have so7 := so6.trans (Sol.updL (o := .lst (ps ++ [.ref T6])) hp6)
      repeat walk_at "st"
      refine s_append hp6 (by omega) ?_
      have hl7 : (upd (upd H5 T6 (.tup [ov, tv])) pp (.lst (ps ++ [.ref T6]))) lp = some (.lst (ls'.eraseIdx f)) := by rw [upd_ne nl1]; exact s6 _ _ hl5
      have hr7 : (upd (upd H5 T6 (.tup [ov, tv])) pp (.lst (ps ++ [.ref T6]))) rp' = some (.lst rs) := by rw [upd_ne ne2]; exact s6 _ _ hr5
      have hp7 : (upd (upd H5 T6 (.tup [ov, tv])) pp (.lst (ps ++ [.ref T6]))) pp = some (.lst (ps ++ [.ref T6])) := upd_same
      have s7 : Same H (upd (upd H5 T6 (.tup [ov, tv])) pp (.lst (ps ++ [.ref T6]))) := same_mut (s5.trans s6) hpp0
      have hil7 := Itm.mono monoRow so7 hil5
      have hir7 := Itm.mono monoRow so7 hir5
      have hov7 := monoRow _ _ _ _ so7 hov5
      have htv7 := monoRow _ _ _ _ so7 htv5
      generalize upd (upd H5 T6 (.tup [ov, tv])) pp (.lst (ps ++ [.ref T6])) = H7 at so7 s7 hl7 hp7 hr7 hil7 hir7 hov7 htv7
      clear hl5 hp5 hr5 hil5 hir5 hov5 htv5 s5 so5 so6 s6 hp6 so7
      repeat walk_at "st"
      refine lcM (walk_list (K := K) (xs := ls'.eraseIdx f)) (left.eraseIdx f) (fun o => clearedR o one two) isRow monoRow hel.symm (by omega) (fun _ s => SqL.of (s _ _ hl7)) (fun _ _ _ _ y => yat_same y) ?_ ?_
      · rintro i d x H8 H9 hd s8 ⟨rfl, y⟩ Qc qc
        have hx := monoRow _ _ _ _ (Sol.of s8) (hil7.at y hd)
        walk_at "st"
        refine ⟨rfl, ?_⟩
        repeat walk_at "st"
        exact ⟨_, _, _, d, one, two, rfl, hx, monoRow _ _ _ _ (Sol.of s8) hov7, monoRow _ _ _ _ (Sol.of s8) htv7, fun v' H10 s10 h10 => qc _ _ s10 h10⟩
      intro np ns H8 hnp s8 h8 hi8
      have hnH : H np = none := by
        cases e : H np with
        | none => rfl
        | some o => have := s7 _ _ e; rw [hnp] at this; cases this
      repeat walk_at "st"
      refine ⟨((left.eraseIdx f).map fun o => clearedR o one two).length, by rw [List.length_map, List.length_cons]; omega, np, ns, (left.eraseIdx f).map fun o => clearedR o one two, ps ++ [.ref T6], rs, rest, pl ++ [one, two], _, _, _, _, _, rfl, rfl, s7.trans s8, hnH, (fun z => by rw [z, hp7] at hnp; cases hnp), (fun z => by rw [z, hr7] at hnp; cases hnp), h8, hi8, s8 _ _ hp7, ?_, s8 _ _ hr7, Itm.mono monoRow (Sol.of s8) hir7, ?_, prd.two etwo hc2⟩
      · rw [List.length_append, List.length_singleton, List.length_map]; omega
      · rw [List.length_map]; omega
  · have e2 : left = [] := by
      have : ¬ 0 < ls.length := of_decide_eq_false e
      exact List.length_eq_zero_iff.mp (by omega)
    subst e2
    repeat walk_at "st"
    intro tp htp
    refine k tp _ _ _ rest (Same.nw s1 htp) upd_same ⟨rp', rs, rfl, same_new htp _ _ hr1, hir.mono monoRow (Sol.of (same_new htp))⟩ (by simpa using hrl) prd.fin
end
end Kq

set_option Elab.async false
set_option linter.all false
set_option maxRecDepth 100000
set_option maxHeartbeats 4000000
/-! told pairs walked -/
namespace Kq
open PySem PySem.Spec PyProof.Rows L2 XG
local macro_rules | `(tactic| walk_at "st") => `(tactic| first
  | with_reducible refine s_seq ?_
  | ((with_reducible refine' s_var ?h1 ?h2); (case h1 => rfl))
  | with_reducible refine s_c ?_
  | with_reducible refine s_op ?_
  | with_reducible refine s_asg ?_
  | with_reducible refine s_name ?_
  | with_reducible refine s_cons ?_
  | with_reducible refine s_nil ?_
  | with_reducible refine s_call ?_
  | with_reducible refine s_CB ?_
  | with_reducible refine s_add ?_
  | ((with_reducible refine' s_sub ?h1 ?h2); (case h1 => omega))
  | ((with_reducible refine' s_mul ?h1 ?h2); (case h1 => omega))
  | ((with_reducible refine' s_mod ?h1 ?h2); (case h1 => omega))
  | ((with_reducible refine' s_div ?h1 ?h2); (case h1 => omega))
  | ((with_reducible refine' s_shl ?h1 ?h2); (case h1 => omega))
  | with_reducible refine s_shr ?_
  | with_reducible refine s_and ?_
  | with_reducible refine s_or ?_
  | with_reducible refine s_xor ?_
  | with_reducible refine s_lt ?_
  | with_reducible refine s_le ?_
  | with_reducible refine s_gt ?_
  | with_reducible refine s_ge ?_
  | with_reducible refine s_eqN ?_
  | with_reducible refine s_neN ?_
  | with_reducible refine s_eqS ?_
  | with_reducible refine s_neS ?_
  | with_reducible refine s_I0 ?_
  | with_reducible refine s_un ?_
  | with_reducible refine s_neg ?_
  | with_reducible refine s_test ?_
  | with_reducible refine s_B ?_
  | with_reducible refine s_bl ?_
  | with_reducible refine s_ifS ?_
  | with_reducible refine s_ifE ?_
  | with_reducible refine s_not ?_
  | with_reducible refine s_and2 ?_
  | with_reducible refine s_or2 ?_
  | with_reducible refine s_andV ?_
  | with_reducible refine s_orV ?_
  | with_reducible refine s_notV ?_
  | with_reducible refine s_tru ?_
  | with_reducible refine s_par ?_
  | with_reducible refine s_two ?_
  | with_reducible refine s_par3 ?_
  | with_reducible refine s_three ?_
  | with_reducible refine s_lst ?_
  | with_reducible refine s_tup ?_
  | ((with_reducible refine' s_size ?h1 ?h2); (case h1 => exact Nat.le_of_ble_eq_true rfl))
  | with_reducible refine s_fld ?_
  | with_reducible refine s_gcons ?_
  | with_reducible refine s_gnil ?_
  | with_reducible refine s_intN ?_
  | with_reducible refine s_intI ?_
  | with_reducible refine s_tTru ?_
  | with_reducible refine s_tBL ?_
  | with_reducible refine s_sign ?_
  | with_reducible refine s_min ?_
  | with_reducible refine s_sfld ?_
  | with_reducible refine s_gfld ?_
  | with_reducible refine s_intB ?_
  | with_reducible refine s_next ?_
  | with_reducible refine s_ret ?_
  | with_reducible refine s_drop ?_
  | with_reducible refine s_for ?_
  | with_reducible refine s_lc ?_
  | with_reducible refine s_yes ?_
  | with_reducible refine s_bits ?_
  | with_reducible refine s_bitsV ?_
  | ((with_reducible refine' s_own ?h1 ?h2); (case h1 => assumption))
  | ((with_reducible refine' s_len ?h1 ?h2); (case h1 => assumption))
  | ((with_reducible refine' s_lenT ?h1 ?h2); (case h1 => assumption))
  | with_reducible refine s_iTup ?_
  | with_reducible refine s_iList ?_
  | with_reducible refine s_iStr ?_
  | with_reducible refine s_iRng1 ?_
  | with_reducible refine s_iRng2 ?_
  | with_reducible refine s_iEnum ?_
  | with_reducible refine s_iEnumT ?_
  | with_reducible refine s_iEnumS ?_
  | with_reducible refine s_iZip ?_
  | with_reducible refine s_iZipM ?_
  | with_reducible refine s_srcS ?_
  | with_reducible refine s_srcES ?_
  | ((with_reducible refine' s_srcT ?h1 ?h2); (case h1 => assumption))
  | ((with_reducible refine' s_srcL ?h1 ?h2); (case h1 => assumption))
  | ((with_reducible refine' s_srcE ?h1 ?h2); (case h1 => assumption))
  | ((with_reducible refine' s_srcET ?h1 ?h2); (case h1 => assumption))
  | ((with_reducible refine' s_rng1 ?h1 ?h2); (case h1 => omega))
  | ((with_reducible refine' s_rng2 ?h1 ?h2); (case h1 => omega))
  | with_reducible refine s_ckw ?_
  | ((with_reducible refine' s_sorted ?h1 ?h2); (case h1 => assumption))
  | ((with_reducible refine' s_inN ?h1 ?h2); (case h1 => assumption))
  | ((with_reducible refine' s_ninN ?h1 ?h2); (case h1 => assumption))
  | ((with_reducible refine' s_tupL ?h1 ?h2); (case h1 => assumption))
  | ((with_reducible refine' s_tupT ?h1 ?h2); (case h1 => assumption))
  | ((with_reducible refine' s_lstL ?h1 ?h2); (case h1 => assumption))
  | ((with_reducible refine' s_lstT ?h1 ?h2); (case h1 => assumption))
  | ((with_reducible refine' s_addS2 ?h1 ?h2); (case h1 => (simp only [List.length_append, letL_len]; omega)); (rw [sOf_add]))
  | with_reducible refine s_sl ?_
  | with_reducible refine s_part ?_
  | with_reducible refine s_partV ?_
  | with_reducible refine s_nopart ?_
  | ((with_reducible refine' s_cutTake ?h1 ?h2); (case h1 => assumption))
  | ((with_reducible refine' s_cutDrop ?h1 ?h2); (case h1 => assumption))
  | with_reducible refine s_isiII ?_
  | with_reducible refine s_isiIB ?_
  | with_reducible refine s_isiSS ?_
  | ((with_reducible refine' s_isiTT ?h1 ?h2); (case h1 => assumption))
  | ((with_reducible refine' s_aug ?h1 ?h2); (case h1 => rfl))
  | with_reducible refine s_ipN ?_
  | with_reducible refine s_ip ?_
  | with_reducible refine s_gsub ?_
  | with_reducible refine s_wh ?_
  | with_reducible refine s_join ?_
  | ((with_reducible refine' s_ixT ?h1 ?h2 ?h3); (case h1 => assumption); (case h2 => rfl))
  | ((with_reducible refine' s_at ?h1 ?h2 ?h3); (case h1 => assumption); (case h2 => assumption))
  | with_reducible refine s_make ?_
  | with_reducible refine s_dgetK ?_
  | with_reducible refine s_dput ?_)

section
variable {P : Program} {w : World} {K : PySem.W.Frag} {mg : Str → Option Value} {base : Heap}
def sp_check_size (K : PySem.W.Frag) : Sp := fun vs H Q _ => ∃ a dx fs u n r, vs = [.ref a, u] ∧ H a = some (.ins (He.ga K "Code") dx fs) ∧ List.lookup (Str.ofString "size") fs = some (nV n) ∧ isP K n H u r ∧ Q .non H
theorem ok_check_size (T : Tx K mg) : FnOk P w K mg base CX0 1 (He.fAd K ("check_size", none)) T.fd_check_size ["code", "string"] (sp_check_size K) := by
  refine okD T.F_check_size sc_check_size (fun vs H Q E h => by obtain ⟨v, n, r, u, _, _, rfl, _⟩ := h; rfl) (fun cdv A outer s H vs Q E hr h => ?_)
  obtain ⟨a, dx, fs, u, n, r, rfl, ha, hl, ⟨pa, pdx, pfs, rfl, hpa, hl1, hl2, hl3, hrok, _⟩, k⟩ := h
  refine ⟨_, (pss_one (ps_if (pt_cmpR on_ne (xe_fld T.c_Pauli T.a_Pauli_size (pv 1)) (xe_fld T.c_Code T.a_Code_size (pv 0)) (nomark _)) (pss_one ps_never) pss_nil)), ?_⟩
  repeat walk_at "st"
  refine s_ifF (by simp) ?_
  repeat walk_at "st"
  exact k

/-- what told pairs must keep -/
structure Hid (known : List Row) (hid : List (Row × Row)) : Prop where
  out : ∀ p ∈ hid, ∀ q ∈ known, cr p.1 q = 0 ∧ cr p.2 q = 0
  inn : ∀ (i j : Nat) p q, j < i → hid[i]? = some p → hid[j]? = some q → cr p.1 q.1 = 0 ∧ cr p.1 q.2 = 0 ∧ cr p.2 q.1 = 0 ∧ cr p.2 q.2 = 0
  own : ∀ p ∈ hid, cr p.1 p.2 ≠ 0
theorem inV_02 {s : Nat} (h : s < 2) : inV (nV (2 * s)) [nV 0, nV 2] = true := by
  match s, h with
  | 0, _ => rfl
  | 1, _ => rfl
def sp_Code_told (K : PySem.W.Frag) : Sp := fun vs H Q _ => ∃ a dx fs n hv sv v g sd hid kk, vs = [.ref a, v] ∧ H a = some (.ins (He.ga K "Code") dx fs) ∧ List.lookup (Str.ofString "size") fs = some (nV n) ∧ List.lookup (Str.ofString "heads") fs = some hv ∧
  List.lookup (Str.ofString "sides") fs = some sv ∧ List.lookup (Str.ofString "kept") fs = some (nV kk) ∧ isL isRow H hv g ∧ isL isRow H sv sd ∧ isL (isPr (isP K n) (isP K n)) H v hid ∧ Hid (g ++ sd) hid ∧ kk ≤ hid.length ∧ n ≤ 60 ∧ g.length ≤ 1000 ∧ sd.length ≤ 1000 ∧ hid.length ≤ 100 ∧
  ∀ v' H', Same H H' → Q v' H'
theorem ok_Code_told (T : Tx K mg) : FnOk P w K mg base CX0 3 (He.fAd K ("Code", some "told_pairs")) T.fd_Code_told ["self", "hidden"] (sp_Code_told K) := by
  have G_crossing := ok_crossing (P := P) (w := w) (base := base) T
  have G_row_of := ok_row_of (P := P) (w := w) (base := base) T
  refine okD T.F_Code_told sc_Code_told (fun vs H Q E h => by obtain ⟨v, n, r, u, _, _, _, _, _, _, _, rfl, _⟩ := h; rfl) (fun cdv A outer s H vs Q E hr h => ?_)
  obtain ⟨a, dx, fs, n, hv, sv, v, g, sd, hid, kk, rfl, ha, lsz, lhd, lsd, lkp, ⟨hp, hs, rfl, hhp, hhi⟩, ⟨sp, ss, rfl, hsp, hsi⟩, ⟨p, xs, rfl, hpp, hpi⟩, hh, hkk, hn, hgl, hsl, hhl, k⟩ := h
  refine ⟨_, (pss_cons (ps_set (i := 2) sc_Code_told.nd rfl (.inr rfl) (pe_op op_cat (xe_fld T.c_Code T.a_Code_heads (pv 0)) (xe_fld T.c_Code T.a_Code_sides (pv 0))))
  (pss_cons (ps_for PassesOwn.never rfl (pi_enum (by rfl) T.n_enumerate (pa_cons (pv 1) pa_nil)) (xg_tup (n := 2) rfl (pgs_cons (pg_name (i := 3) sc_Code_told.nd rfl (.inl rfl)) (pgs_cons (pg_name (i := 4) sc_Code_told.nd rfl (.inl rfl)) pgs_nil)))
  (pss_cons (ps_if (pt_val (pe_callB (xc_anyB rfl) (by rfl) T.n_any (by decide +kernel) (pa_cons (pe_lc (own := [("string", 7)]) rfl sc_Code_told.nd (pi_tup (pv 4)) (blkOk_by (N := ["self", "hidden", "known", "index", "pair", "one", "two", "string", "row", "other"]) (sc := defScope s_Code_told) (by decide +kernel)) (fun _ _ _ _ _ => (pg_name (i := 7) sc_Code_told.nd rfl (.inl rfl))) (fun _ _ _ _ _ => pts_nil) (fun _ _ _ _ _ => (pe_or (pe_cmpR on_ne (xe_fld T.c_Pauli T.a_Pauli_size (pv 7)) (xe_fld T.c_Code T.a_Code_size (pv 0)) (nomark _)) (pe_one (pe_cmpR xo_ninT (xe_fld T.c_Pauli T.a_Pauli_phase (pv 7)) (pe_tup (pa_cons (pe_nat 0) (pa_cons (pe_nat 2) pa_nil))) (by rfl)))))) pa_nil))) (pss_one ps_never) pss_nil)
  (pss_cons (ps_asg (pe_lc (own := [("string", 7)]) rfl sc_Code_told.nd (pi_tup (pv 4)) (blkOk_by (N := ["self", "hidden", "known", "index", "pair", "one", "two", "string", "row", "other"]) (sc := defScope s_Code_told) (by decide +kernel)) (fun _ _ _ _ _ => (pg_name (i := 7) sc_Code_told.nd rfl (.inl rfl))) (fun _ _ _ _ _ => pts_nil) (fun _ _ _ _ _ => (pe_call G_row_of (hr.mono (by decide)) (by rfl) T.m_row_of T.F_row_of.kp T.b_row_of .nil pass0 (pa_cons (pv 7) pa_nil)))) (xg_lst (n := 2) rfl (pgs_cons (pg_name (i := 5) sc_Code_told.nd rfl (.inl rfl)) (pgs_cons (pg_name (i := 6) sc_Code_told.nd rfl (.inl rfl)) pgs_nil))))
  (pss_cons (ps_if (PW.pt (pw_or (pt_val (pe_callB (xc_anyN rfl) (by rfl) T.n_any (by decide +kernel) (pa_cons (pe_lc2 (own := [("row", 8), ("other", 9)]) (vs1 := [9]) rfl sc_Code_told.nd (pi_tup (pe_tup (pa_cons (pv 5) (pa_cons (pv 6) pa_nil)))) (blkOk_by (N := ["self", "hidden", "known", "index", "pair", "one", "two", "string", "row", "other"]) (sc := defScope s_Code_told) (by decide +kernel)) (by decide) (fun _ _ _ _ _ => (pg_name (i := 8) sc_Code_told.nd rfl (.inl rfl))) (fun _ _ _ _ _ => pts_nil) (fun _ _ _ _ _ => (xp_list (K := K) (pv 2))) (fun _ _ _ _ _ => (pg_name (i := 9) sc_Code_told.nd rfl (.inl rfl))) (fun _ _ _ _ _ => pts_nil) (fun _ _ _ _ _ => (pe_call G_crossing (hr.mono (by decide)) (by rfl) T.m_crossing T.F_crossing.kp T.b_crossing .nil pass0 (pa_cons (pv 8) (pa_cons (pv 9) pa_nil))))) pa_nil))) (pw_or1 (pt_not (xt_tru (pe_call G_crossing (hr.mono (by decide)) (by rfl) T.m_crossing T.F_crossing.kp T.b_crossing .nil pass0 (pa_cons (pv 5) (pa_cons (pv 6) pa_nil)))))))) (pss_one ps_never) pss_nil)
  (pss_one (ps_set (i := 2) sc_Code_told.nd rfl (.inr rfl) (pe_op op_cat (pv 2) (pe_lst (pa_cons (pv 5) (pa_cons (pv 6) pa_nil))))))))))
  (pss_cons (ps_if (pt_cmpR on_lt (pe_callB xc_lenL (by rfl) T.n_len (by decide +kernel) (pa_cons (pv 1) pa_nil)) (xe_fld T.c_Code T.a_Code_kept (pv 0)) (nomark _)) (pss_one ps_never) pss_nil)
  (pss_one (ps_ret (pe_callTy xc_tupL (by rfl) T.n_tuple (by decide +kernel) (pa_cons (pe_lc (own := [("pair", 4)]) rfl sc_Code_told.nd (pi_list (pv 1)) (blkOk_by (N := ["self", "hidden", "known", "index", "pair", "one", "two", "string", "row", "other"]) (sc := defScope s_Code_told) (by decide +kernel)) (fun _ _ _ _ _ => (pg_name (i := 4) sc_Code_told.nd rfl (.inl rfl))) (fun _ _ _ _ _ => pts_nil) (fun _ _ _ _ _ => (pe_callTy xc_tupT (by rfl) T.n_tuple (by decide +kernel) (pa_cons (pv 4) pa_nil)))) pa_nil))))))), ?_⟩
  have e1 := hhi.len
  have e2 := hsi.len
  have e3 := hpi.len
  repeat walk_at "st"
  refine s_cat hhp hsp (by omega) fun kp hkp => ?_
  repeat walk_at "st"
  have s1 := same_new (o := .lst (hs ++ ss)) hkp
  have hpp1 := s1 _ _ hpp
  repeat walk_at "st"
  refine for_it (n := xs.length) (walk_enum (K := K) (xs := xs)) (fun i σ' H' => ∃ kp ks kn o3 o4 o5 o6 o7 o8 o9, σ' = [some (.ref a), some (.ref p), some (.ref kp), o3, o4, o5, o6, o7, o8, o9] ∧ Same H H' ∧ H' kp = some (.lst ks) ∧ Itm isRow H' ks kn ∧ kn.length ≤ 2000 + 2 * i ∧ ∀ q ∈ kn, q ∈ g ++ sd ∨ ∃ j c, j < i ∧ hid[j]? = some c ∧ (q = c.1 ∨ q = c.2)) ?_ (fun _ _ _ _ h => by obtain ⟨_, _, _, _, _, _, _, _, _, _, _, s, _⟩ := h; exact SqL.of (s _ _ hpp)) ?_ ?_
  · exact ⟨kp, hs ++ ss, g ++ sd, _, _, _, _, _, _, _, rfl, s1, upd_same, (hhi.app hsi).mono monoRow (Sol.of s1), by simp; omega, fun q hq => .inl hq⟩
  · rintro i x σ' H1 H1' hin ⟨kp, ks, kn, o3, o4, o5, o6, o7, o8, o9, rfl, s2, h2, hi2, hkl, hmem⟩ ⟨T1, _, pv, rfl, hT, rfl, ea, eb⟩
    cases ea
    obtain ⟨c, ec, hpc⟩ := hpi.get eb
    obtain ⟨tp, pa, pb, rfl, htp, hpa, hpb⟩ := hpc
    refine s_gtup upd_same rfl ?_
    have s3 := Same.nw (o := .tup [nV i, .ref tp]) s2 hT
    have h3 := same_new (o := .tup [nV i, .ref tp]) hT _ _ h2
    have hi3 := hi2.mono monoRow (Sol.of (same_new (o := .tup [nV i, .ref tp]) hT))
    clear s2 h2 hi2
    generalize upd H1 T1 (.tup [V.int (i : Nat), .ref tp]) = H3 at s3 h3 hi3
    have htp3 := s3 _ _ htp
    have ha3 := s3 _ _ ha
    have hpi2 : Itm (isP K n) H [pa, pb] [c.1, c.2] := .cons hpa (.cons hpb .nil)
    repeat walk_at "st"
    refine lcM (walk_tup (K := K) (xs := [pa, pb])) [c.1, c.2] (fun r => false) isB monoB rfl (by simp) (fun _ s => SqT.of (s _ _ htp3)) (fun _ _ _ _ y => yat_same y) ?_ ?_
    · rintro j d x H4 H5 hd s4 ⟨rfl, y⟩ Qc qc
      have s14 := s3.trans s4
      obtain ⟨qa, qdx, qfs, rfl, hqa, hl1, hl2, hl3, hrok, _⟩ := monoP _ _ _ _ (Sol.of s14) (hpi2.at y hd)
      have ha4 := s14 _ _ ha
      walk_at "st"
      refine ⟨rfl, ?_⟩
      repeat walk_at "st"
      refine s_ifF (by simp) ?_
      repeat walk_at "st"
      intro t5 ht5
      refine ⟨t5, _, rfl, upd_same, rfl, rfl, ?_⟩
      rw [if_pos rfl, inV_02 hrok.2.2]
      exact qc _ _ (same_new ht5) rfl
    intro D4 vs4 H4 hD4 s4 h4 hi4
    obtain rfl := its_bl hi4
    have s14 := s3.trans s4
    repeat walk_at "st"
    refine s_anyB h4 ?_
    refine s_bl ?_
    refine s_ifF (by simp) ?_
    have htp4 := s4 _ _ htp3
    repeat walk_at "st"
    refine lcM (walk_tup (K := K) (xs := [pa, pb])) [c.1, c.2] id isRow monoRow rfl (by simp) (fun _ s => SqT.of (s _ _ htp4)) (fun _ _ _ _ y => yat_same y) ?_ ?_
    · rintro j d x H5 H6 hd s5 ⟨rfl, y⟩ Qc qc
      have hx := monoP _ _ _ _ (Sol.of (s14.trans s5)) (hpi2.at y hd)
      walk_at "st"
      refine ⟨rfl, ?_⟩
      repeat walk_at "st"
      exact ⟨_, n, d, rfl, hx, by omega, fun v' H7 s7 h7 => qc _ _ s7 h7⟩
    intro D5 vs5 H5 hD5 s5 h5 hi5
    rw [List.map_id] at hi5
    have s15 := s14.trans s5
    cases hi5 with
    | @cons va _ _ _ hva hi5 =>
    cases hi5 with
    | @cons vb _ _ _ hvb hi5 =>
    cases hi5
    refine s_glst h5 rfl ?_
    have hk5 := s5 _ _ (s4 _ _ h3)
    have hki5 := hi3.mono monoRow (Sol.of (s4.trans s5))
    repeat walk_at "st"
    refine s_lc2 ?_
    repeat walk_at "st"
    intro t6 ht6
    have s6 := same_new (o := .tup [va, vb]) ht6
    have hk6 := s6 _ _ hk5
    have hki6 := hki5.mono monoRow (Sol.of s6)
    have hva6 := monoRow _ _ _ _ (Sol.of s6) hva
    have hvb6 := monoRow _ _ _ _ (Sol.of s6) hvb
    have s16 := s15.trans s6
    have ht66 : (upd H5 t6 (.tup [va, vb])) t6 = some (.tup [va, vb]) := upd_same
    generalize upd H5 t6 (.tup [va, vb]) = H6 at s6 hk6 hki6 hva6 hvb6 s16 ht66
    have hcm := mem_idx ec
    have hzero : ∀ q ∈ kn, cr c.1 q = 0 ∧ cr c.2 q = 0 := fun q hq => by
      rcases hmem q hq with hq | ⟨j, d, hj, ed, hq⟩
      · exact hh.out c hcm q hq
      · obtain ⟨z1, z2, z3, z4⟩ := hh.inn i j c d hj ec ed
        rcases hq with rfl | rfl
        · exact ⟨z1, z3⟩
        · exact ⟨z2, z4⟩
    have hpr : Itm isRow H6 [va, vb] [c.1, c.2] := .cons hva6 (.cons hvb6 .nil)
    have hkl3 := hki6.len
    refine s_srcT ht66 ?_
    intro D hD
    refine ⟨fun i2 m H => m = 2 - i2 ∧ i2 ≤ 2 ∧ Same H6 H ∧ ∃ z, H D = some (.lst (List.replicate z (nV 0))) ∧ z ≤ i2 * ks.length, ⟨2, rfl, by omega, same_new hD, 0, upd_same, by simp⟩, ?_⟩
    rintro i2 m H7 ⟨rfl, hi2, s7, z, h7, hz⟩
    have W1 : L2.Walk (Itt K t6) 2 (fun H => SqT K H t6 [va, vb]) (YAt [va, vb]) := walk_tup (K := K) (xs := [va, vb])
    have sq7 : SqT K H7 t6 [va, vb] := SqT.of (s7 _ _ ht66)
    by_cases hlt : i2 < 2
    · right
      refine ⟨W1.goes i2 H7 hlt sq7, _, fun _ h => h, ?_⟩
      intro x H8 y
      obtain ⟨rfl, ex⟩ := W1.yields i2 H7 x H8 hlt sq7 y
      obtain ⟨cc, ecc, hcc⟩ := hpr.get ex
      have hccz : ∀ q ∈ kn, cr cc q = 0 := fun q hq => by
        have := hzero q hq
        rcases List.mem_cons.mp (mem_idx ecc) with rfl | hm
        · exact this.1
        · rw [List.mem_singleton.mp hm]; exact this.2
      walk_at "st"
      refine ⟨rfl, ?_⟩
      have hk8 := s7 _ _ hk6
      repeat walk_at "st"
      refine s_ifT rfl ?_
      repeat walk_at "st"
      have W2 : L2.Walk (Itl K kp) ks.length (fun H => SqL K H kp ks) (YAt ks) := walk_list (K := K) (xs := ks)
      refine ⟨fun j k H => k = ks.length - j ∧ j ≤ ks.length ∧ Same H6 H ∧ ∃ z, H D = some (.lst (List.replicate z (nV 0))) ∧ z ≤ i2 * ks.length + j, ⟨_, rfl, Nat.zero_le _, s7, z, h7, hz⟩, ?_⟩
      rintro j m H9 ⟨rfl, hj, s9, z2, h9, hz2⟩
      have sq9 : SqL K H9 kp ks := SqL.of (s9 _ _ hk6)
      by_cases hlt2 : j < ks.length
      · right
        refine ⟨W2.goes j H9 hlt2 sq9, _, fun _ h => h, ?_⟩
        intro x2 H10 y2
        obtain ⟨rfl, ex2⟩ := W2.yields j H9 x2 H10 hlt2 sq9 y2
        obtain ⟨q, eq, hq⟩ := hki6.get ex2
        walk_at "st"
        refine ⟨rfl, ?_⟩
        repeat walk_at "st"
        refine s_ifT rfl ?_
        repeat walk_at "st"
        refine ⟨_, _, cc, q, rfl, monoRow _ _ _ _ (Sol.of s9) hcc, monoRow _ _ _ _ (Sol.of s9) hq, ?_⟩
        rw [hccz q (mem_idx eq)]
        refine ⟨_, h9, by rw [List.length_replicate]; exact Nat.lt_of_lt_of_le (show z2 < 100000 by have : i2 * ks.length ≤ 1 * ks.length := Nat.mul_le_mul_right _ (by omega); omega) (by decide), _, by omega, rfl, hlt2, same_mut s9 hD, z2 + 1, by rw [upd_same, List.replicate_succ'], by omega⟩
      · left
        refine ⟨W2.stops H9 sq9 |> fun h => by rw [show j = ks.length by omega]; exact h, ?_⟩
        refine ⟨2 - (i2 + 1), by omega, rfl, by omega, s9, z2, h9, ?_⟩
        rw [Nat.add_mul, Nat.one_mul]; omega
    · left
      refine ⟨by rw [show i2 = 2 by omega]; exact W1.stops H7 sq7, ?_⟩
      repeat walk_at "st"
      refine s_anyN (ns := List.replicate z 0) (by rw [h7, List.map_replicate]) ?_
      refine s_bl ?_
      refine s_ifF (by simp) ?_
      repeat walk_at "st"
      refine ⟨_, _, c.1, c.2, rfl, monoRow _ _ _ _ (Sol.of s7) hva6, monoRow _ _ _ _ (Sol.of s7) hvb6, ?_⟩
      have hown := hh.own c hcm
      repeat walk_at "st"
      refine s_ifF (by simp [hown]) ?_
      repeat walk_at "st"
      intro l8 hl8
      have s8 := same_new (o := .lst [va, vb]) hl8
      refine s_cat (s8 _ _ (s7 _ _ hk6)) upd_same (by simp; omega) fun kp2 hkp2 => ?_
      have s9 := Same.nw (o := .lst (ks ++ [va, vb])) (s7.trans s8) hkp2
      refine ⟨kp2, ks ++ [va, vb], kn ++ [c.1, c.2], _, _, _, _, _, _, _, rfl, s16.trans s9, upd_same, (hki6.app hpr).mono monoRow (Sol.of s9), by simp; omega, fun q hq => ?_⟩
      rcases List.mem_append.mp hq with hq | hq
      · rcases hmem q hq with hq | ⟨j, d, hj, ed, hq⟩
        · exact .inl hq
        · exact .inr ⟨j, d, by omega, ed, hq⟩
      · refine .inr ⟨i, c, by omega, ec, ?_⟩
        rcases List.mem_cons.mp hq with hq | hq
        · exact .inl hq
        · exact .inr (List.mem_singleton.mp hq)
  · rintro σ' H1 ⟨kp, ks, kn, o3, o4, o5, o6, o7, o8, o9, rfl, s2, h2, hi2, hkl, hmem⟩
    have hpp2 := s2 _ _ hpp
    have ha2 := s2 _ _ ha
    repeat walk_at "st"
    refine s_ifF (decide_eq_false (by omega)) ?_
    repeat walk_at "st"
    refine lcM (walk_list (K := K) (xs := xs)) hid id (isPr (isP K n) (isP K n)) (monoPr monoP monoP) e3.symm (by omega) (fun _ s => SqL.of (s _ _ hpp2)) (fun _ _ _ _ y => yat_same y) ?_ ?_
    · rintro i d x H3 H4 hd s3 ⟨rfl, y⟩ Qc qc
      have hx := monoPr monoP monoP _ _ _ _ (Sol.of (s2.trans s3)) (hpi.at y hd)
      obtain ⟨tp, pa, pb, rfl, htp, hpab⟩ := id hx
      walk_at "st"
      refine ⟨rfl, ?_⟩
      repeat walk_at "st"
      exact qc _ _ (Same.refl _) hx
    intro D3 vs3 H3 hD3 s3 h3 hi3
    repeat walk_at "st"
    intro l hl
    exact k _ _ (Same.nw (s2.trans s3) hl)
end
end Kq

set_option Elab.async false
set_option linter.all false
set_option maxHeartbeats 4000000
/-! what a code's strings must keep -/
namespace Kq
open XG
structure CodeOk (n : Nat) (rows ga : List Row) (hid : List (Row × Row)) : Prop where
  okr : ∀ r ∈ rows, r.ok n
  oka : ∀ r ∈ ga, r.ok n
  sgn : ∃ S, SgnSet S ∧ ∀ r ∈ rows, S r
  com : ∀ a ∈ rows, ∀ b ∈ rows, cr a b = 0
  gcom : ∀ b ∈ ga, ∀ a ∈ rows, cr b a = 0
  gst : ∀ x, Sn (ga.map Row.xz) x → (∀ q ∈ ga, cr2 x q.xz = 0) → Sn (rows.map Row.xz) x
  told : Hid (rows ++ ga) hid
  dim : ∃ (Br Bw : List V2) (r0 gd : Nat), Ind Br ∧ (∀ x, Sn Br x ↔ Sn (rows.map Row.xz) x) ∧ Br.length = r0 ∧ Ind Bw ∧ (∀ x, Sn Bw x ↔ Sn ((rows ++ ga).map Row.xz) x) ∧ Bw.length = r0 + 2 * gd ∧ n = r0 + gd + hid.length
theorem ok_lt {n : Nat} {rows : List Row} (h : ∀ r ∈ rows, r.ok n) {x : V2} (hx : Sn (rows.map Row.xz) x) : x.1 < 2 ^ n ∧ x.2 < 2 ^ n :=
  hx.all (p := fun x => x.1 < 2 ^ n ∧ x.2 < 2 ^ n) ⟨Nat.two_pow_pos n, Nat.two_pow_pos n⟩ (fun a b ha hb => ⟨Nat.xor_lt_two_pow ha.1 hb.1, Nat.xor_lt_two_pow ha.2 hb.2⟩) fun a ha => by
    obtain ⟨r, hr, rfl⟩ := List.mem_map.mp ha
    exact ⟨(h r hr).1, (h r hr).2.1⟩
/-- the number of a basis of the numbers of vectors -/
theorem enc_dim {n : Nat} {B : List V2} {t : List Nat} {rows : List Row} (hok : ∀ r ∈ rows, r.ok n) (hB : Ind B) (hs : ∀ x, Sn B x ↔ Sn (rows.map Row.xz) x) (ht : Ind t) (hts : ∀ x, Sn t x ↔ Sn (rows.map fun r => enc n r.xz) x) : t.length = B.length := by
  have h1 : Ind (B.map (enc n)) := ind_map (enc_ze n) (enc_xo n) (fun v => v.1 < 2 ^ n) (fun a b ha hb e => enc_inj ha hb e) (Nat.two_pow_pos n) (fun a b ha hb => Nat.xor_lt_two_pow ha hb) (fun a ha => (ok_lt hok ((hs a).mp (Sn.mem ha))).1) hB
  have := dim_eq ht h1 fun x => by
    rw [hts, show (rows.map fun r => enc n r.xz) = (rows.map Row.xz).map (enc n) from by rw [List.map_map]; rfl, Sn.map (enc_ze n) (enc_xo n), Sn.map (enc_ze n) (enc_xo n)]
    constructor
    · rintro ⟨a, ha, e⟩; exact ⟨a, (hs a).mpr ha, e⟩
    · rintro ⟨a, ha, e⟩; exact ⟨a, (hs a).mp ha, e⟩
  rw [this, List.length_map]
theorem enc_span {n : Nat} {rows : List Row} {t : List Nat} (hts : ∀ x, Sn t x ↔ Sn (rows.map fun r => enc n r.xz) x) {x : V2} (h : Sn (rows.map Row.xz) x) : Sn t (enc n x) := by
  rw [hts, show (rows.map fun r => enc n r.xz) = (rows.map Row.xz).map (enc n) from by rw [List.map_map]; rfl, Sn.map (enc_ze n) (enc_xo n)]
  exact ⟨x, h, rfl⟩
theorem map_app_span {rows ga g : List Row} (hg : ∀ x, Sn (g.map Row.xz) x ↔ Sn (rows.map Row.xz) x) (x : V2) : Sn ((g ++ ga).map Row.xz) x ↔ Sn ((rows ++ ga).map Row.xz) x := by
  rw [List.map_append, List.map_append, Sn.app, Sn.app]
  constructor
  · rintro ⟨a, b, ha, hb, e⟩; exact ⟨a, b, (hg a).mp ha, hb, e⟩
  · rintro ⟨a, b, ha, hb, e⟩; exact ⟨a, b, (hg a).mpr ha, hb, e⟩
section
variable {n : Nat} {rows ga g : List Row} {hid : List (Row × Row)}
theorem CodeOk.hidG (h : CodeOk n rows ga hid) (hg : ∀ x, Sn (g.map Row.xz) x ↔ Sn (rows.map Row.xz) x) : Hid (g ++ ga) hid := by
  refine ⟨fun p hp q hq => ?_, h.told.inn, h.told.own⟩
  have hs : ∀ a : Row, (∀ q ∈ rows, cr a q = 0) → ∀ q ∈ g, cr a q = 0 := fun a ha q hq => cr2_span (L := rows.map Row.xz) (fun b hb => by
    obtain ⟨r, hr, rfl⟩ := List.mem_map.mp hb
    exact ha r hr) ((hg _).mp (Sn.mem (List.mem_map_of_mem hq)))
  rcases List.mem_append.mp hq with hq | hq
  · exact ⟨hs p.1 (fun q hq => (h.told.out p hp q (List.mem_append_left _ hq)).1) q hq, hs p.2 (fun q hq => (h.told.out p hp q (List.mem_append_left _ hq)).2) q hq⟩
  · exact h.told.out p hp q (List.mem_append_right _ hq)
theorem CodeOk.gcomG (h : CodeOk n rows ga hid) (hg : ∀ x, Sn (g.map Row.xz) x ↔ Sn (rows.map Row.xz) x) : ∀ b ∈ ga, ∀ a ∈ g, cr b a = 0 := fun b hb a ha =>
  cr2_span (L := rows.map Row.xz) (fun c hc => by
    obtain ⟨r, hr, rfl⟩ := List.mem_map.mp hc
    exact h.gcom b hb r hr) ((hg _).mp (Sn.mem (List.mem_map_of_mem ha)))
/-- the numbers that a code tells -/
theorem CodeOk.nums (h : CodeOk n rows ga hid) (hgok : ∀ r ∈ g, r.ok n) (hg : ∀ x, Sn (g.map Row.xz) x ↔ Sn (rows.map Row.xz) x) {inner whole : List Nat} (ei : inner = basisOf (g.map fun r => enc n r.xz) []) (ew : whole = basisOf (ga.map fun r => enc n r.xz) inner) :
    ∃ gd, inner.length ≤ whole.length ∧ (whole.length - inner.length) / 2 = gd ∧ inner.length + gd ≤ n ∧ n - inner.length - gd = hid.length := by
  obtain ⟨Br, Bw, r0, gd, h1, h2, h3, h4, h5, h6, h7⟩ := h.dim
  obtain ⟨e1, e2, _⟩ := basis_ok Ech.nil (g.map fun r => enc n r.xz)
  rw [← ei] at e1 e2
  obtain ⟨f1, f2, _⟩ := basis_ok e1 (ga.map fun r => enc n r.xz)
  rw [← ew] at f1 f2
  have a1 : inner.length = r0 := by
    rw [← h3]
    exact enc_dim (rows := g) hgok h1 (fun x => (h2 x).trans (hg x).symm) e1.ind (fun x => by rw [e2]; rfl)
  have a2 : whole.length = r0 + 2 * gd := by
    rw [← h6]
    refine enc_dim (n := n) (rows := g ++ ga) (fun r hr => ?_) h4 (fun x => (h5 x).trans (map_app_span hg x).symm) f1.ind (fun x => ?_)
    · rcases List.mem_append.mp hr with hr | hr
      · exact hgok r hr
      · exact h.oka r hr
    · rw [f2, List.map_append, Sn.app, Sn.app]
      constructor
      · rintro ⟨a, b, ha, hb, e⟩; exact ⟨a, b, by have := (e2 a).mp ha; exact this, hb, e⟩
      · rintro ⟨a, b, ha, hb, e⟩; exact ⟨a, b, (e2 a).mpr ha, hb, e⟩
  exact ⟨gd, by omega, by omega, by omega, by omega⟩
theorem CodeOk.rest (h : CodeOk n rows ga hid) (hg : ∀ x, Sn (g.map Row.xz) x ↔ Sn (rows.map Row.xz) x) {r : Row} (hr : Sn (ga.map Row.xz) r.xz) (hq : ∀ q ∈ ga, cr r q = 0) : restBy (basisOf (g.map fun r => enc n r.xz) []) (enc n r.xz) = 0 := by
  obtain ⟨e1, e2, _⟩ := basis_ok Ech.nil (g.map fun r => enc n r.xz)
  rw [ech_rest e1]
  exact enc_span (rows := g) (fun x => by rw [e2]; rfl) ((hg _).mpr (h.gst _ hr hq))
end
end Kq

set_option Elab.async false
set_option linter.all false
set_option maxRecDepth 100000
set_option maxHeartbeats 4000000
/-! Code.__init__ walked -/
namespace Kq
open PySem PySem.Spec PyProof.Rows L2 XG
local macro_rules | `(tactic| walk_at "st") => `(tactic| first
  | with_reducible refine s_seq ?_
  | ((with_reducible refine' s_var ?h1 ?h2); (case h1 => rfl))
  | with_reducible refine s_c ?_
  | with_reducible refine s_op ?_
  | with_reducible refine s_asg ?_
  | with_reducible refine s_name ?_
  | with_reducible refine s_cons ?_
  | with_reducible refine s_nil ?_
  | with_reducible refine s_call ?_
  | with_reducible refine s_CB ?_
  | with_reducible refine s_add ?_
  | ((with_reducible refine' s_sub ?h1 ?h2); (case h1 => omega))
  | ((with_reducible refine' s_mul ?h1 ?h2); (case h1 => omega))
  | ((with_reducible refine' s_mod ?h1 ?h2); (case h1 => omega))
  | ((with_reducible refine' s_div ?h1 ?h2); (case h1 => omega))
  | ((with_reducible refine' s_shl ?h1 ?h2); (case h1 => omega))
  | with_reducible refine s_shr ?_
  | with_reducible refine s_and ?_
  | with_reducible refine s_or ?_
  | with_reducible refine s_xor ?_
  | with_reducible refine s_lt ?_
  | with_reducible refine s_le ?_
  | with_reducible refine s_gt ?_
  | with_reducible refine s_ge ?_
  | with_reducible refine s_eqN ?_
  | with_reducible refine s_neN ?_
  | with_reducible refine s_eqS ?_
  | with_reducible refine s_neS ?_
  | with_reducible refine s_I0 ?_
  | with_reducible refine s_un ?_
  | with_reducible refine s_neg ?_
  | with_reducible refine s_test ?_
  | with_reducible refine s_B ?_
  | with_reducible refine s_bl ?_
  | with_reducible refine s_ifS ?_
  | with_reducible refine s_ifE ?_
  | with_reducible refine s_not ?_
  | with_reducible refine s_and2 ?_
  | with_reducible refine s_or2 ?_
  | with_reducible refine s_andV ?_
  | with_reducible refine s_orV ?_
  | with_reducible refine s_notV ?_
  | with_reducible refine s_tru ?_
  | with_reducible refine s_par ?_
  | with_reducible refine s_two ?_
  | with_reducible refine s_par3 ?_
  | with_reducible refine s_three ?_
  | with_reducible refine s_lst ?_
  | with_reducible refine s_tup ?_
  | ((with_reducible refine' s_size ?h1 ?h2); (case h1 => exact Nat.le_of_ble_eq_true rfl))
  | with_reducible refine s_fld ?_
  | with_reducible refine s_gcons ?_
  | with_reducible refine s_gnil ?_
  | with_reducible refine s_intN ?_
  | with_reducible refine s_intI ?_
  | with_reducible refine s_tTru ?_
  | with_reducible refine s_tBL ?_
  | with_reducible refine s_sign ?_
  | with_reducible refine s_min ?_
  | with_reducible refine s_sfld ?_
  | with_reducible refine s_gfld ?_
  | with_reducible refine s_intB ?_
  | with_reducible refine s_next ?_
  | with_reducible refine s_ret ?_
  | with_reducible refine s_drop ?_
  | with_reducible refine s_for ?_
  | with_reducible refine s_lc ?_
  | with_reducible refine s_yes ?_
  | with_reducible refine s_bits ?_
  | with_reducible refine s_bitsV ?_
  | ((with_reducible refine' s_own ?h1 ?h2); (case h1 => assumption))
  | ((with_reducible refine' s_len ?h1 ?h2); (case h1 => assumption))
  | ((with_reducible refine' s_lenT ?h1 ?h2); (case h1 => assumption))
  | with_reducible refine s_iTup ?_
  | with_reducible refine s_iList ?_
  | with_reducible refine s_iStr ?_
  | with_reducible refine s_iRng1 ?_
  | with_reducible refine s_iRng2 ?_
  | with_reducible refine s_iEnum ?_
  | with_reducible refine s_iEnumT ?_
  | with_reducible refine s_iEnumS ?_
  | with_reducible refine s_iZip ?_
  | with_reducible refine s_iZipM ?_
  | with_reducible refine s_srcS ?_
  | with_reducible refine s_srcES ?_
  | ((with_reducible refine' s_srcT ?h1 ?h2); (case h1 => assumption))
  | ((with_reducible refine' s_srcL ?h1 ?h2); (case h1 => assumption))
  | ((with_reducible refine' s_srcE ?h1 ?h2); (case h1 => assumption))
  | ((with_reducible refine' s_srcET ?h1 ?h2); (case h1 => assumption))
  | ((with_reducible refine' s_rng1 ?h1 ?h2); (case h1 => omega))
  | ((with_reducible refine' s_rng2 ?h1 ?h2); (case h1 => omega))
  | with_reducible refine s_ckw ?_
  | ((with_reducible refine' s_sorted ?h1 ?h2); (case h1 => assumption))
  | ((with_reducible refine' s_inN ?h1 ?h2); (case h1 => assumption))
  | ((with_reducible refine' s_ninN ?h1 ?h2); (case h1 => assumption))
  | ((with_reducible refine' s_tupL ?h1 ?h2); (case h1 => assumption))
  | ((with_reducible refine' s_tupT ?h1 ?h2); (case h1 => assumption))
  | ((with_reducible refine' s_lstL ?h1 ?h2); (case h1 => assumption))
  | ((with_reducible refine' s_lstT ?h1 ?h2); (case h1 => assumption))
  | ((with_reducible refine' s_addS2 ?h1 ?h2); (case h1 => (simp only [List.length_append, letL_len]; omega)); (rw [sOf_add]))
  | with_reducible refine s_sl ?_
  | with_reducible refine s_part ?_
  | with_reducible refine s_partV ?_
  | with_reducible refine s_nopart ?_
  | ((with_reducible refine' s_cutTake ?h1 ?h2); (case h1 => assumption))
  | ((with_reducible refine' s_cutDrop ?h1 ?h2); (case h1 => assumption))
  | with_reducible refine s_isiII ?_
  | with_reducible refine s_isiIB ?_
  | with_reducible refine s_isiSS ?_
  | ((with_reducible refine' s_isiTT ?h1 ?h2); (case h1 => assumption))
  | ((with_reducible refine' s_aug ?h1 ?h2); (case h1 => rfl))
  | with_reducible refine s_ipN ?_
  | with_reducible refine s_ip ?_
  | with_reducible refine s_gsub ?_
  | with_reducible refine s_wh ?_
  | with_reducible refine s_join ?_
  | ((with_reducible refine' s_ixT ?h1 ?h2 ?h3); (case h1 => assumption); (case h2 => rfl))
  | ((with_reducible refine' s_at ?h1 ?h2 ?h3); (case h1 => assumption); (case h2 => assumption))
  | with_reducible refine s_make ?_
  | with_reducible refine s_dgetK ?_
  | with_reducible refine s_dput ?_)

/-- a field of an instance that is not yet whole -/
theorem s_putF {C a dx : Addr} {fs : List (Str × V)} {f : Str} {v : V} {N : L2.St → Hp → Prop} {σ : L2.St} {H H0 : Hp} {m : Nat} (ha : H a = some (.ins C dx fs)) (d : done fs = false) (s : Same H0 H) (ha0 : H0 a = none) (n : fs.length ≤ m) (hm : m ≤ 900)
    (q : ∀ H' fs', fs' = putF f v fs → Sol H H' → Same H0 H' → H' a = some (.ins C dx fs') → (∀ b o, H b = some o → b ≠ a → H' b = some o) → List.lookup f fs' = some v → (∀ g r, List.lookup g fs = r → g ≠ f → List.lookup g fs' = r) → fs'.length ≤ m + 1 → N σ H') :
    ∃ a' dx' fs', V.ref a = .ref a' ∧ H a' = some (.ins C dx' fs') ∧ fs'.length < 1000 ∧ N σ (upd H a' (.ins C dx' (putF f v fs'))) :=
  ⟨a, dx, fs, rfl, ha, by omega, q _ _ rfl (Sol.ins ha d) (same_mut s ha0) upd_same (fun b o e ne => by rw [upd_ne ne]; exact e) lk_same (fun g r l ne => lk_keep ne l) (Nat.le_trans len_put (by omega))⟩
/-- a code's object -/
def isC (K : PySem.W.Frag) (n : Nat) : Rp (List Row × List Row) := fun H v c => ∃ a dx fs gv av, v = .ref a ∧ H a = some (.ins (He.ga K "Code") dx fs) ∧ List.lookup (Str.ofString "size") fs = some (nV n) ∧ List.lookup (Str.ofString "group") fs = some gv ∧ isG K n H gv c.1 ∧
  List.lookup (Str.ofString "gauge") fs = some av ∧ isT (isP K n) H av c.2 ∧ done fs = true
theorem monoC {K : PySem.W.Frag} {n : Nat} : MonoS (isC K n) := fun _ _ _ _ s ⟨a, dx, fs, gv, av, e, h, l1, l2, g, l3, t, d⟩ => ⟨a, dx, fs, gv, av, e, s a _ h d, l1, l2, monoG _ _ _ _ s g, l3, monoT monoP _ _ _ _ s t, d⟩
section
variable {P : Program} {w : World} {K : PySem.W.Frag} {mg : Str → Option Value} {base : Heap}
theorem isP.ok {K : PySem.W.Frag} {n : Nat} {H : Hp} {v : V} {r : Row} (h : isP K n H v r) : r.ok n := by
  obtain ⟨_, _, _, _, _, _, _, _, h, _⟩ := h
  exact h
theorem Itm.oks {n : Nat} {H : Hp} {vs : List V} {l : List Row} (h : Itm (isP K n) H vs l) : ∀ r ∈ l, r.ok n := fun r hr => by
  obtain ⟨i, hi⟩ := List.getElem?_of_mem hr
  obtain ⟨v, _, hv⟩ := h.get' hi
  exact hv.ok
def sp_Code_init (K : PySem.W.Frag) : Sp := fun vs H Q _ => ∃ a dx H0 n v u t rows ga hid, vs = [.ref a, nV n, v, u, t] ∧ H0 a = none ∧ H = upd H0 a (.ins (He.ga K "Code") dx []) ∧ isL (isP K n) H0 v rows ∧ isL (isP K n) H0 u ga ∧ isL (isPr (isP K n) (isP K n)) H0 t hid ∧ 1 ≤ n ∧ n ≤ 60 ∧
  rows.length ≤ 100 ∧ ga.length ≤ 100 ∧ hid.length ≤ 100 ∧ CodeOk n rows ga hid ∧ ∀ H' g, Same H0 H' → isC K n H' (.ref a) (g, ga) → (∀ x, Sn (g.map Row.xz) x ↔ Sn (rows.map Row.xz) x) → g.length ≤ rows.length → Q .non H'
theorem ok_Code_init (T : Tx K mg) : FnOk P w K mg base CX0 7 (He.fAd K ("Code", some "__init__")) T.fd_Code_init ["self", "size", "strings", "gauge", "hidden"] (sp_Code_init K) := by
  have G_row_of := ok_row_of (P := P) (w := w) (base := base) T
  have G_basis_of := ok_basis_of (P := P) (w := w) (base := base) T
  have G_rest_in := ok_rest_in (P := P) (w := w) (base := base) T
  have G_number_of_codes := ok_number_of_codes (P := P) (w := w) (base := base) T
  have G_crossing := ok_crossing (P := P) (w := w) (base := base) T
  have G_paired := ok_paired (P := P) (w := w) (base := base) T
  have G_Group_init := ok_Group_init (P := P) (w := w) (base := base) T
  have G_check_size := ok_check_size (P := P) (w := w) (base := base) T
  have G_Code_told := ok_Code_told (P := P) (w := w) (base := base) T
  refine okD T.F_Code_init sc_Code_init (fun vs H Q E h => by obtain ⟨a, dx, H0, n, r, _, _, _, _, _, rfl, _⟩ := h; rfl) (fun cdv A outer s H vs Q E hr h => ?_)
  obtain ⟨a, dx, H0, n, v, u, t, rows, ga, hid, rfl, ha0, rfl, hv0, ⟨up, us, rfl, hup0, hui0⟩, ht0, hn1, hn, hrl, hgl, hhl', co, k⟩ := h
  refine ⟨_, (pss_cons (ps_asg (pe_tup (pa_cons (pv 1) (pa_cons (pe_make T.k_Group G_Group_init (hr.mono (by decide)) (by rfl) T.m_Group T.b_Group_init .nil pass0 (pa_cons (pv 1) (pa_cons (pv 2) pa_nil))) (pa_cons (pe_callTy xc_tupL (by rfl) T.n_tuple (by decide +kernel) (pa_cons (pv 3) pa_nil)) pa_nil)))) (xg_tup (n := 3) rfl (pgs_cons (xg_fld T.c_Code T.a_Code_size (pv 0)) (pgs_cons (xg_fld T.c_Code T.a_Code_group (pv 0)) (pgs_cons (xg_fld T.c_Code T.a_Code_gauge (pv 0)) pgs_nil)))))
  (pss_cons (xs_fld T.c_Code T.a_Code_heads (pv 0) (pe_lc (own := [("string", 6)]) rfl sc_Code_init.nd (pi_tup (xe_fld T.c_Group T.a_Group_rows (xe_fld T.c_Code T.a_Code_group (pv 0)))) (blkOk_by (N := ["self", "size", "strings", "gauge", "hidden", "index", "string", "head", "row"]) (sc := defScope s_Code_init) (by decide +kernel)) (fun _ _ _ _ _ => (pg_name (i := 6) sc_Code_init.nd rfl (.inl rfl))) (fun _ _ _ _ _ => pts_nil) (fun _ _ _ _ _ => (pe_call G_row_of (hr.mono (by decide)) (by rfl) T.m_row_of T.F_row_of.kp T.b_row_of .nil pass0 (pa_cons (pv 6) pa_nil)))))
  (pss_cons (ps_for PassesOwn.never rfl (pi_enumT (by rfl) T.n_enumerate (pa_cons (xe_fld T.c_Code T.a_Code_gauge (pv 0)) pa_nil)) (xg_tup (n := 2) rfl (pgs_cons (pg_name (i := 5) sc_Code_init.nd rfl (.inl rfl)) (pgs_cons (pg_name (i := 6) sc_Code_init.nd rfl (.inr rfl)) pgs_nil)))
  (pss_cons (ps_expr (pe_call G_check_size (hr.mono (by decide)) (by rfl) T.m_check_size T.F_check_size.kp T.b_check_size .nil pass0 (pa_cons (pv 0) (pa_cons (pv 6) pa_nil))))
  (pss_cons (ps_if (pt_cmpR xo_ninT (xe_fld T.c_Pauli T.a_Pauli_phase (pv 6)) (pe_tup (pa_cons (pe_nat 0) (pa_cons (pe_nat 2) pa_nil))) (by rfl)) (pss_one ps_never) pss_nil)
  (pss_one (ps_if (pt_val (pe_callB (xc_anyN rfl) (by rfl) T.n_any (by decide +kernel) (pa_cons (pe_lc (own := [("head", 7)]) rfl sc_Code_init.nd (pi_list (xe_fld T.c_Code T.a_Code_heads (pv 0))) (blkOk_by (N := ["self", "size", "strings", "gauge", "hidden", "index", "string", "head", "row"]) (sc := defScope s_Code_init) (by decide +kernel)) (fun _ _ _ _ _ => (pg_name (i := 7) sc_Code_init.nd rfl (.inl rfl))) (fun _ _ _ _ _ => pts_nil) (fun _ _ _ _ _ => (pe_call G_crossing (hr.mono (by decide)) (by rfl) T.m_crossing T.F_crossing.kp T.b_crossing .nil pass0 (pa_cons (pe_call G_row_of (hr.mono (by decide)) (by rfl) T.m_row_of T.F_row_of.kp T.b_row_of .nil pass0 (pa_cons (pv 6) pa_nil)) (pa_cons (pv 7) pa_nil))))) pa_nil))) (pss_one ps_never) pss_nil)))))
  (pss_cons (xs_fld T.c_Code T.a_Code_sides (pv 0) (pe_lc (own := [("string", 6)]) rfl sc_Code_init.nd (pi_tup (xe_fld T.c_Code T.a_Code_gauge (pv 0))) (blkOk_by (N := ["self", "size", "strings", "gauge", "hidden", "index", "string", "head", "row"]) (sc := defScope s_Code_init) (by decide +kernel)) (fun _ _ _ _ _ => (pg_name (i := 6) sc_Code_init.nd rfl (.inl rfl))) (fun _ _ _ _ _ => pts_nil) (fun _ _ _ _ _ => (pe_call G_row_of (hr.mono (by decide)) (by rfl) T.m_row_of T.F_row_of.kp T.b_row_of .nil pass0 (pa_cons (pv 6) pa_nil)))))
  (pss_cons (xs_fld T.c_Code T.a_Code_inner (pv 0) (pe_call G_basis_of (hr.mono (by decide)) (by rfl) T.m_basis_of T.F_basis_of.kp T.b_basis_of .nil pass0 (pa_cons (pe_lc (own := [("row", 8)]) rfl sc_Code_init.nd (pi_list (xe_fld T.c_Code T.a_Code_heads (pv 0))) (blkOk_by (N := ["self", "size", "strings", "gauge", "hidden", "index", "string", "head", "row"]) (sc := defScope s_Code_init) (by decide +kernel)) (fun _ _ _ _ _ => (pg_name (i := 8) sc_Code_init.nd rfl (.inl rfl))) (fun _ _ _ _ _ => pts_nil) (fun _ _ _ _ _ => (pe_call G_number_of_codes (hr.mono (by decide)) (by rfl) T.m_number_of_codes T.F_number_of_codes.kp T.b_number_of_codes .nil pass0 (pa_cons (pv 8) (pa_cons (pv 1) pa_nil))))) (pa_cons (pe_lst pa_nil) pa_nil))))
  (pss_cons (xs_fld T.c_Code T.a_Code_whole (pv 0) (pe_call G_basis_of (hr.mono (by decide)) (by rfl) T.m_basis_of T.F_basis_of.kp T.b_basis_of .nil pass0 (pa_cons (pe_lc (own := [("row", 8)]) rfl sc_Code_init.nd (pi_list (xe_fld T.c_Code T.a_Code_sides (pv 0))) (blkOk_by (N := ["self", "size", "strings", "gauge", "hidden", "index", "string", "head", "row"]) (sc := defScope s_Code_init) (by decide +kernel)) (fun _ _ _ _ _ => (pg_name (i := 8) sc_Code_init.nd rfl (.inl rfl))) (fun _ _ _ _ _ => pts_nil) (fun _ _ _ _ _ => (pe_call G_number_of_codes (hr.mono (by decide)) (by rfl) T.m_number_of_codes T.F_number_of_codes.kp T.b_number_of_codes .nil pass0 (pa_cons (pv 8) (pa_cons (pv 1) pa_nil))))) (pa_cons (xe_fld T.c_Code T.a_Code_inner (pv 0)) pa_nil))))
  (pss_cons (ps_if (pt_val (pe_callB (xc_anyB rfl) (by rfl) T.n_any (by decide +kernel) (pa_cons (pe_lc (own := [("row", 8)]) rfl sc_Code_init.nd (pi_list (pe_ix xi_tup (pe_call G_paired (hr.mono (by decide)) (by rfl) T.m_paired T.F_paired.kp T.b_paired .nil pass0 (pa_cons (xe_fld T.c_Code T.a_Code_sides (pv 0)) pa_nil)) (pe_nat 1) (fun _ _ => rfl))) (blkOk_by (N := ["self", "size", "strings", "gauge", "hidden", "index", "string", "head", "row"]) (sc := defScope s_Code_init) (by decide +kernel)) (fun _ _ _ _ _ => (pg_name (i := 8) sc_Code_init.nd rfl (.inl rfl))) (fun _ _ _ _ _ => pts_nil) (fun _ _ _ _ _ => (pe_cmpR on_ne (pe_call G_rest_in (hr.mono (by decide)) (by rfl) T.m_rest_in T.F_rest_in.kp T.b_rest_in .nil pass0 (pa_cons (pe_call G_number_of_codes (hr.mono (by decide)) (by rfl) T.m_number_of_codes T.F_number_of_codes.kp T.b_number_of_codes .nil pass0 (pa_cons (pv 8) (pa_cons (pv 1) pa_nil))) (pa_cons (xe_fld T.c_Code T.a_Code_inner (pv 0)) pa_nil))) (pe_nat 0) (nomark _)))) pa_nil))) (pss_one ps_never) pss_nil)
  (pss_cons (xs_fld T.c_Code T.a_Code_gauged (pv 0) (pe_op on_div (pe_op on_sub (pe_callB xc_lenL (by rfl) T.n_len (by decide +kernel) (pa_cons (xe_fld T.c_Code T.a_Code_whole (pv 0)) pa_nil)) (pe_callB xc_lenL (by rfl) T.n_len (by decide +kernel) (pa_cons (xe_fld T.c_Code T.a_Code_inner (pv 0)) pa_nil))) (pe_nat 2)))
  (pss_cons (xs_fld T.c_Code T.a_Code_kept (pv 0) (pe_op on_sub (pe_op on_sub (pv 1) (pe_callB xc_lenL (by rfl) T.n_len (by decide +kernel) (pa_cons (xe_fld T.c_Code T.a_Code_inner (pv 0)) pa_nil))) (xe_fld T.c_Code T.a_Code_gauged (pv 0))))
  (pss_one (xs_fld T.c_Code T.a_Code_hidden (pv 0) (pe_ifExp (pt_cmpR op_isN (pv 4) pe_non (nomark _)) pe_never (pe_meth (pv 0) T.c_Code T.t_Code_told G_Code_told (hr.mono (by decide)) T.b_Code_told .nil pass0 (pa_cons (pv 4) pa_nil)))))))))))))), ?_⟩
  have s0 : Same H0 (upd H0 a (.ins (He.ga K "Code") dx [])) := same_new ha0
  have hv := hv0.same monoP s0
  have hup := s0 _ _ hup0
  have haS : (upd H0 a (.ins (He.ga K "Code") dx [])) a = some (.ins (He.ga K "Code") dx []) := upd_same
  generalize upd H0 a (.ins (He.ga K "Code") dx []) = H1 at s0 hv hup haS
  obtain ⟨S, hS, hrS⟩ := co.sgn
  repeat walk_at "st"
  intro xg dx2 hx hdx hne
  have nx : xg ≠ a := fun z => by rw [z, haS] at hx; cases hx
  have sd := same_new (o := .own xg) hdx
  refine ⟨xg, dx2, upd H1 dx2 (.own xg), n, v, rows, S, rfl, by rw [upd_ne (Ne.symm hne)]; exact hx, rfl, hv.same monoP sd, hn1, by omega, by omega, hS, hrS, co.com, fun H2 g s2 hg hgs hgl2 => ⟨rfl, ?_⟩⟩
  have s12 := sd.trans s2
  have ha2 := s12 _ _ haS
  have hup2 := s12 _ _ hup
  repeat walk_at "st"
  intro gp hgp
  have s3 := same_new (o := .tup us) hgp
  repeat walk_at "st"
  intro p3 hp3
  refine s_gtup upd_same rfl ?_
  have s4 := same_new (o := .tup [nV n, .ref xg, .ref gp]) hp3
  have ha4 := s4 _ _ (s3 _ _ ha2)
  have hgp4 : (upd (upd H2 gp (.tup us)) p3 (.tup [nV n, .ref xg, .ref gp])) gp = some (.tup us) := s4 _ _ upd_same
  have s04 := ((s0.trans s12).trans s3).trans s4
  have hg4 := monoG _ _ _ _ (Sol.of (s3.trans s4)) hg
  generalize upd (upd H2 gp (.tup us)) p3 (.tup [nV n, .ref xg, .ref gp]) = HA at ha4 hgp4 s04 hg4
  clear s3 s4 hp3 hgp
  have hui4 := hui0.mono monoP (Sol.of s04)
  have ng : gp ≠ a := fun z => by rw [z, ha4] at hgp4; cases hgp4
  repeat walk_at "st"
  refine s_put ha4 (Nat.le_of_ble_eq_true rfl) ?_
  repeat walk_at "st"
  refine s_put upd_same (Nat.le_of_ble_eq_true rfl) ?_
  repeat walk_at "st"
  refine s_put upd_same (Nat.le_of_ble_eq_true rfl) ?_
  obtain ⟨fs3, e3⟩ : ∃ fs3, fs3 = putF (Str.ofString "gauge") (V.ref gp) (putF (Str.ofString "group") (V.ref xg) (putF (Str.ofString "size") (nV n) [])) := ⟨_, rfl⟩
  rw [← e3]
  have l1 : List.lookup (Str.ofString "size") fs3 = some (nV n) := by rw [e3]; rfl
  have l2 : List.lookup (Str.ofString "group") fs3 = some (.ref xg) := by rw [e3]; rfl
  have l3 : List.lookup (Str.ofString "gauge") fs3 = some (.ref gp) := by rw [e3]; rfl
  have d3 : done fs3 = false := by rw [e3]; rfl
  have l0 : List.lookup (Str.ofString "told_pairs") fs3 = none := by rw [e3]; rfl
  have n3 : fs3.length ≤ 3 := by rw [e3]; exact Nat.le_of_ble_eq_true rfl
  have soB : Sol HA (upd (upd (upd HA a (.ins (He.ga K "Code") dx (putF (Str.ofString "size") (nV n) []))) a (.ins (He.ga K "Code") dx (putF (Str.ofString "group") (V.ref xg) (putF (Str.ofString "size") (nV n) [])))) a (.ins (He.ga K "Code") dx fs3)) :=
    (Sol.ins ha4 rfl).trans ((Sol.ins upd_same rfl).trans (Sol.ins upd_same rfl))
  have s0B : Same H0 (upd (upd (upd HA a (.ins (He.ga K "Code") dx (putF (Str.ofString "size") (nV n) []))) a (.ins (He.ga K "Code") dx (putF (Str.ofString "group") (V.ref xg) (putF (Str.ofString "size") (nV n) [])))) a (.ins (He.ga K "Code") dx fs3)) := same_mut (same_mut (same_mut s04 ha0) ha0) ha0
  have haB : (upd (upd (upd HA a (.ins (He.ga K "Code") dx (putF (Str.ofString "size") (nV n) []))) a (.ins (He.ga K "Code") dx (putF (Str.ofString "group") (V.ref xg) (putF (Str.ofString "size") (nV n) [])))) a (.ins (He.ga K "Code") dx fs3)) a = some (.ins (He.ga K "Code") dx fs3) := upd_same
  generalize upd (upd (upd HA a (.ins (He.ga K "Code") dx (putF (Str.ofString "size") (nV n) []))) a (.ins (He.ga K "Code") dx (putF (Str.ofString "group") (V.ref xg) (putF (Str.ofString "size") (nV n) [])))) a (.ins (He.ga K "Code") dx fs3) = HB at soB s0B haB
  clear e3
  repeat walk_at "st"
  have hgB := monoG _ _ _ _ soB hg4
  have hgpB := soB _ _ hgp4 trivial
  have huiB := Itm.mono monoP soB hui4
  clear hg4 hgp4 hui4 ha4 s04 soB
  obtain ⟨xx, gdx, gfs, rv, exx, hgo, lrows, ⟨rp', rs, rfl, hrp, hri⟩, gdn⟩ := id hgB
  cases exx
  have hlr := hri.len
  have hri' := hri.oks
  repeat walk_at "st"
  refine lcM (walk_tup (K := K) (xs := rs)) g id isRow monoRow hlr.symm (by omega) (fun _ s => SqT.of (s _ _ hrp)) (fun _ _ _ _ y => yat_same y) ?_ ?_
  · rintro i d y H5 H6 hd s5 ⟨rfl, y⟩ Qc qc
    have hx := monoP _ _ _ _ (Sol.of s5) (hri.at y hd)
    walk_at "st"
    refine ⟨rfl, ?_⟩
    repeat walk_at "st"
    exact ⟨_, n, d, rfl, hx, by omega, fun v' H7 s7 h7 => qc _ _ s7 h7⟩
  intro hdp hds H5 hhdp s5 h5 hi5
  rw [List.map_id] at hi5
  have ha5 := s5 _ _ haB
  repeat walk_at "st"
  have nhd : hdp ≠ a := fun z => by rw [z, ha5] at h5; cases h5
  refine s_putF ha5 d3 (s0B.trans s5) ha0 n3 (by omega) fun H6 fs4 e4 so6 s06 ha6 kp6 l4 lk4 n4 => ?_
  have d4 : done fs4 = false := by rw [e4, done_put (by decide +kernel)]; exact d3
  have hhd6 := kp6 _ _ h5 nhd
  have hhi6 := hi5.mono monoRow so6
  have hg6 := monoG _ _ _ _ ((Sol.of s5).trans so6) hgB
  have hgp6 := so6 _ _ (s5 _ _ hgpB) trivial
  have l0 := lk4 _ _ l0 (by decide +kernel)
  have l1 := lk4 _ _ l1 (by decide +kernel)
  have l2 := lk4 _ _ l2 (by decide +kernel)
  have l3 := lk4 _ _ l3 (by decide +kernel)
  clear lk4 e4 kp6 h5 hi5 ha5 hgB hgpB hgo hrp hri s5 so6 haB s0B huiB
  have hui6 := Itm.mono monoP (Sol.of s06) hui0
  have hul := hui0.len
  have hok := hui0.oks
  repeat walk_at "st"
  -- the gauge strings are fit
  refine for_it (n := us.length) (walk_enumT (K := K) (xs := us)) (fun i σ' H' => ∃ o5 o6 o7 o8, σ' = [some (.ref a), some (nV n), some v, some (.ref up), some t, o5, o6, o7, o8] ∧ Same H6 H') ⟨_, _, _, _, rfl, Same.refl _⟩ (fun _ _ _ _ h => by obtain ⟨_, _, _, _, _, s⟩ := h; exact SqT.of (s _ _ hgp6)) ?_ ?_
  · rintro i y σ' H7 H7' hin ⟨o5, o6, o7, o8, rfl, s7⟩ ⟨T1, _, b, rfl, hT, rfl, ea, eb⟩
    cases ea
    obtain ⟨r, er, hrr⟩ := hui6.get eb
    refine s_gtup upd_same rfl ?_
    have s8 := Same.nw (o := .tup [nV i, b]) s7 hT
    have hb8 := monoP _ _ _ _ (Sol.of s8) hrr
    generalize upd H7 T1 (.tup [nV i, b]) = H8 at s8 hb8
    have ha8 := s8 _ _ ha6
    repeat walk_at "st"
    refine ⟨a, dx, fs4, _, n, r, rfl, ha8, l1, hb8, ?_⟩
    obtain ⟨pa, pdx, pfs, rfl, hpa, hl1, hl2, hl3, hrok, _⟩ := id hb8
    repeat walk_at "st"
    intro t9 ht9
    refine ⟨t9, _, rfl, upd_same, rfl, rfl, ?_⟩
    rw [if_pos rfl, inV_02 hrok.2.2]
    refine s_bl ?_
    refine s_ifF rfl ?_
    have s9 := same_new (o := .tup [nV 0, nV 2]) ht9
    have hb9 := monoP _ _ _ _ (Sol.of s9) hb8
    have ha9 := s9 _ _ ha8
    have s89 := s8.trans s9
    have hhd9 := s89 _ _ hhd6
    have hhl := hhi6.len
    generalize upd H8 t9 (.tup [nV 0, nV 2]) = H9 at s9 hb9 ha9 s89 hhd9
    repeat walk_at "st"
    refine lcM (walk_list (K := K) (xs := hds)) g (fun _ => 0) isN monoN hhl.symm (by omega) (fun _ s => SqL.of (s _ _ hhd9)) (fun _ _ _ _ y => yat_same y) ?_ ?_
    · rintro j d y H10 H11 hd s10 ⟨rfl, y⟩ Qc qc
      have hx := monoRow _ _ _ _ (Sol.of (s89.trans s10)) (hhi6.at y hd)
      walk_at "st"
      refine ⟨rfl, ?_⟩
      repeat walk_at "st"
      refine ⟨_, n, r, rfl, monoP _ _ _ _ (Sol.of s10) hb9, by omega, fun v' H12 s12 h12 => ?_⟩
      repeat walk_at "st"
      refine ⟨_, _, r, d, rfl, h12, monoRow _ _ _ _ (Sol.of s12) hx, ?_⟩
      rw [co.gcomG hgs r (mem_idx er) d (mem_idx hd)]
      exact qc _ _ s12 rfl
    intro D vs10 H10 hD s10 h10 hi10
    obtain rfl := hi10.eqN
    repeat walk_at "st"
    refine s_anyN h10 ?_
    refine s_bl ?_
    refine s_ifF (by simp) ?_
    repeat walk_at "st"
    exact ⟨_, _, _, _, rfl, s89.trans s10⟩
  rintro σ' H7 ⟨o5, o6, o7, o8, rfl, s7⟩
  have ha7 := s7 _ _ ha6
  have hgp7 := s7 _ _ hgp6
  have hui7 := Itm.mono monoP (Sol.of s7) hui6
  repeat walk_at "st"
  -- sides
  refine lcM (walk_tup (K := K) (xs := us)) ga id isRow monoRow hul.symm (by omega) (fun _ s => SqT.of (s _ _ hgp7)) (fun _ _ _ _ y => yat_same y) ?_ ?_
  · rintro i d y H8 H9 hd s8 ⟨rfl, y⟩ Qc qc
    have hx := monoP _ _ _ _ (Sol.of s8) (hui7.at y hd)
    walk_at "st"
    refine ⟨rfl, ?_⟩
    repeat walk_at "st"
    exact ⟨_, n, d, rfl, hx, by omega, fun v' H10 s10 h10 => qc _ _ s10 h10⟩
  intro sdp sds H8 hsdp s8 h8 hi8
  rw [List.map_id] at hi8
  have s78 := s7.trans s8
  have ha8 := s78 _ _ ha6
  have nsd : sdp ≠ a := fun z => by rw [z, ha8] at h8; cases h8
  repeat walk_at "st"
  refine s_putF ha8 d4 (s06.trans s78) ha0 n4 (by omega) fun H9 fs5 e5 so9 s09 ha9 kp9 l5 lk5 n5 => ?_
  have d5 : done fs5 = false := by rw [e5, done_put (by decide +kernel)]; exact d4
  have hhd9 := kp9 _ _ (s78 _ _ hhd6) nhd
  have hsd9 := kp9 _ _ h8 nsd
  have so69 := (Sol.of s78).trans so9
  have hhi9 := hhi6.mono monoRow so69
  have hsi9 := hi8.mono monoRow so9
  have hg9 := monoG _ _ _ _ so69 hg6
  have hgp9 := so69 _ _ hgp6 trivial
  have l0 := lk5 _ _ l0 (by decide +kernel)
  have l1 := lk5 _ _ l1 (by decide +kernel)
  have l2 := lk5 _ _ l2 (by decide +kernel)
  have l3 := lk5 _ _ l3 (by decide +kernel)
  have l4 := lk5 _ _ l4 (by decide +kernel)
  have hhl := hhi9.len
  have hsl := hsi9.len
  clear lk5 e5 kp9 h8 hi8 ha8 s8 s78 s7 ha7 hgp7 hui7 so69 so9 hhi6 hhd6 hg6 hgp6 hui6 ha6 s06
  repeat walk_at "st"
  have gok : ∀ r ∈ g, r.ok n := hri'
  -- inner
  refine lcM (walk_list (K := K) (xs := hds)) g (fun r => enc n r.xz) isN monoN hhl.symm (by omega) (fun _ s => SqL.of (s _ _ hhd9)) (fun _ _ _ _ y => yat_same y) ?_ ?_
  · rintro i d y H10 H11 hd s10 ⟨rfl, y⟩ Qc qc
    have hx := monoRow _ _ _ _ (Sol.of s10) (hhi9.at y hd)
    walk_at "st"
    refine ⟨rfl, ?_⟩
    repeat walk_at "st"
    exact ⟨_, n, d, rfl, hx, hn, gok d (mem_idx hd), qc _ _ (Same.refl _) rfl⟩
  intro np ns H10 hnp s10 h10 hi10
  repeat walk_at "st"
  intro ep hep
  have s11 := same_new (o := .lst []) hep
  repeat walk_at "st"
  refine ⟨_, _, _, [], rfl, ⟨np, ns, rfl, s11 _ _ h10, hi10.mono monoN (Sol.of s11)⟩, ⟨ep, [], rfl, upd_same, .nil⟩, Ech.nil, by rw [List.length_map]; omega, by simp, fun iv H12 s12 hiv => ?_⟩
  obtain ⟨ip, is, rfl, hip, hii⟩ := hiv
  have s9x := (s10.trans s11).trans s12
  have ha12 := s9x _ _ ha9
  have nip : ip ≠ a := fun z => by rw [z, ha12] at hip; cases hip
  repeat walk_at "st"
  refine s_putF ha12 d5 (s09.trans s9x) ha0 n5 (by omega) fun H13 fs6 e6 so13 s13 ha13 kp13 l6 lk6 n6 => ?_
  have d6 : done fs6 = false := by rw [e6, done_put (by decide +kernel)]; exact d5
  have hhd13 := kp13 _ _ (s9x _ _ hhd9) nhd
  have hsd13 := kp13 _ _ (s9x _ _ hsd9) nsd
  have hip13 := kp13 _ _ hip nip
  have so913 := (Sol.of s9x).trans so13
  have hhi13 := hhi9.mono monoRow so913
  have hsi13 := hsi9.mono monoRow so913
  have hii13 := hii.mono monoN so13
  have hg13 := monoG _ _ _ _ so913 hg9
  have hgp13 := so913 _ _ hgp9 trivial
  have l0 := lk6 _ _ l0 (by decide +kernel)
  have l1 := lk6 _ _ l1 (by decide +kernel)
  have l2 := lk6 _ _ l2 (by decide +kernel)
  have l3 := lk6 _ _ l3 (by decide +kernel)
  have l4 := lk6 _ _ l4 (by decide +kernel)
  have l5 := lk6 _ _ l5 (by decide +kernel)
  clear lk6 e6 kp13 hhd9 hsd9 so913 hhi9 hsi9 hg9 hgp9 ha12 ha9 so13 hip hii s9x s12 s11 s10 h10 hi10
  generalize einner : basisOf (g.map fun r => enc n r.xz) [] = inner at hii13
  have okin := basis_ok Ech.nil (g.map fun r => enc n r.xz)
  rw [einner] at okin
  have hil : inner.length ≤ 100 := by have := okin.2.2; rw [List.length_map] at this; simp at this; omega
  -- whole
  repeat walk_at "st"
  refine lcM (walk_list (K := K) (xs := sds)) ga (fun r => enc n r.xz) isN monoN hsl.symm (by omega) (fun _ s => SqL.of (s _ _ hsd13)) (fun _ _ _ _ y => yat_same y) ?_ ?_
  · rintro i d y H14 H15 hd s14 ⟨rfl, y⟩ Qc qc
    have hx := monoRow _ _ _ _ (Sol.of s14) (hsi13.at y hd)
    walk_at "st"
    refine ⟨rfl, ?_⟩
    repeat walk_at "st"
    exact ⟨_, n, d, rfl, hx, hn, hok d (mem_idx hd), qc _ _ (Same.refl _) rfl⟩
  intro mp ms H14 hmp s14 h14 hi14
  have ha14 := s14 _ _ ha13
  repeat walk_at "st"
  refine ⟨_, _, _, inner, rfl, ⟨mp, ms, rfl, h14, hi14⟩, ⟨ip, is, rfl, s14 _ _ hip13, hii13.mono monoN (Sol.of s14)⟩, okin.1, by rw [List.length_map]; omega, by omega, fun wv H15 s15 hwv => ?_⟩
  obtain ⟨wp, ws, rfl, hwp, hwi⟩ := hwv
  have s1315 := s14.trans s15
  have ha15 := s1315 _ _ ha13
  have nwp : wp ≠ a := fun z => by rw [z, ha15] at hwp; cases hwp
  repeat walk_at "st"
  refine s_putF ha15 d6 (s13.trans s1315) ha0 n6 (by omega) fun H16 fs7 e7 so16 s16 ha16 kp16 l7 lk7 n7 => ?_
  have d7 : done fs7 = false := by rw [e7, done_put (by decide +kernel)]; exact d6
  have hhd16 := kp16 _ _ (s1315 _ _ hhd13) nhd
  have hsd16 := kp16 _ _ (s1315 _ _ hsd13) nsd
  have hip16 := kp16 _ _ (s1315 _ _ hip13) nip
  have hwp16 := kp16 _ _ hwp nwp
  have so1316 := (Sol.of s1315).trans so16
  have hhi16 := hhi13.mono monoRow so1316
  have hsi16 := hsi13.mono monoRow so1316
  have hii16 := hii13.mono monoN so1316
  have hwi16 := hwi.mono monoN so16
  have hg16 := monoG _ _ _ _ so1316 hg13
  have hgp16 := so1316 _ _ hgp13 trivial
  have l0 := lk7 _ _ l0 (by decide +kernel)
  have l1 := lk7 _ _ l1 (by decide +kernel)
  have l2 := lk7 _ _ l2 (by decide +kernel)
  have l3 := lk7 _ _ l3 (by decide +kernel)
  have l4 := lk7 _ _ l4 (by decide +kernel)
  have l5 := lk7 _ _ l5 (by decide +kernel)
  have l6 := lk7 _ _ l6 (by decide +kernel)
  clear lk7 e7 kp16 hhd13 hsd13 so1316 hhi13 hsi13 hg13 hgp13 ha15 ha13 so16 hip13 hii13 s1315 s15 s14 h14 hi14 ha14 hwp hwi
  generalize ewhole : basisOf (ga.map fun r => enc n r.xz) inner = whole at hwi16
  obtain ⟨gd, z1, z2, z3, z4⟩ := co.nums gok hgs einner.symm ewhole.symm
  -- the rest of the pairing lies in the group
  repeat walk_at "st"
  refine ⟨_, n, ga, rfl, ⟨sdp, sds, rfl, hsd16, hsi16⟩, by omega, hok, fun tp p1 p2 H17 rest s17 htp hrest hrestl hrest2 => ?_⟩
  obtain ⟨rp2, rs2, rfl, hrp2, hri2⟩ := hrest
  have hrl2 := hri2.len
  repeat walk_at "st"
  refine lcM (walk_list (K := K) (xs := rs2)) rest (fun _ => false) isB monoB hrl2.symm (by omega) (fun _ s => SqL.of (s _ _ hrp2)) (fun _ _ _ _ y => yat_same y) ?_ ?_
  · rintro i d y H18 H19 hd s18 ⟨rfl, y⟩ Qc qc
    have hx := monoRow _ _ _ _ (Sol.of s18) (hri2.at y hd)
    have ha18 := s18 _ _ (s17 _ _ ha16)
    have hip18 := s18 _ _ (s17 _ _ hip16)
    obtain ⟨q1, q2, q3⟩ := hrest2 d (mem_idx hd)
    walk_at "st"
    refine ⟨rfl, ?_⟩
    repeat walk_at "st"
    refine ⟨_, n, d, rfl, hx, hn, q1, ?_⟩
    repeat walk_at "st"
    refine ⟨_, inner, _, rfl, ⟨ip, is, rfl, hip18, hii16.mono monoN (Sol.of (s17.trans s18))⟩, okin.1.nz, ?_⟩
    rw [← einner, co.rest hgs q2 q3]
    repeat walk_at "st"
    exact qc _ _ (Same.refl _) rfl
  intro D vs18 H18 hD s18 h18 hi18
  obtain rfl := its_bl hi18
  repeat walk_at "st"
  refine s_anyB h18 ?_
  refine s_bl ?_
  refine s_ifF (by simp) ?_
  have s1618 := s17.trans s18
  have ha18 := s1618 _ _ ha16
  have hip18 := s1618 _ _ hip16
  have hwp18 := s1618 _ _ hwp16
  have hil18 := hii16.len
  have hwl18 := hwi16.len
  repeat walk_at "st"
  rw [hil18, hwl18, z2]
  refine s_putF ha18 d7 (s16.trans s1618) ha0 n7 (by omega) fun H19 fs8 e8 so19 s19 ha19 kp19 l8 lk8 n8 => ?_
  have d8 : done fs8 = false := by rw [e8, done_put (by decide +kernel)]; exact d7
  have l0 := lk8 _ _ l0 (by decide +kernel)
  have l1 := lk8 _ _ l1 (by decide +kernel)
  have l2 := lk8 _ _ l2 (by decide +kernel)
  have l3 := lk8 _ _ l3 (by decide +kernel)
  have l4 := lk8 _ _ l4 (by decide +kernel)
  have l5 := lk8 _ _ l5 (by decide +kernel)
  have l6 := lk8 _ _ l6 (by decide +kernel)
  have hip19 := kp19 _ _ hip18 nip
  have hhd19 := kp19 _ _ (s1618 _ _ hhd16) nhd
  have hsd19 := kp19 _ _ (s1618 _ _ hsd16) nsd
  have so1619 := (Sol.of s1618).trans so19
  repeat walk_at "st"
  rw [hil18, z4]
  refine s_putF ha19 d8 s19 ha0 n8 (by omega) fun H20 fs9 e9 so20 s20 ha20 kp20 l9 lk9 n9 => ?_
  have d9 : done fs9 = false := by rw [e9, done_put (by decide +kernel)]; exact d8
  have l0 := lk9 _ _ l0 (by decide +kernel)
  have l1 := lk9 _ _ l1 (by decide +kernel)
  have l2 := lk9 _ _ l2 (by decide +kernel)
  have l3 := lk9 _ _ l3 (by decide +kernel)
  have l4 := lk9 _ _ l4 (by decide +kernel)
  have l5 := lk9 _ _ l5 (by decide +kernel)
  have hhd20 := kp20 _ _ hhd19 nhd
  have hsd20 := kp20 _ _ hsd19 nsd
  have so1620 := so1619.trans so20
  have hhi20 := hhi16.mono monoRow so1620
  have hsi20 := hsi16.mono monoRow so1620
  have hg20 := monoG _ _ _ _ so1620 hg16
  have hgp20 := so1620 _ _ hgp16 trivial
  have ht20 := ht0.same (monoPr monoP monoP) s20
  obtain ⟨thp, ths, rfl, _, _⟩ := id ht0
  repeat walk_at "st"
  refine ⟨rfl, ?_⟩
  refine s_bl ?_
  refine s_ifF (by simp) ?_
  refine ⟨_, rfl, a, dx, fs9, rfl, ha20, l0, ?_⟩
  repeat walk_at "st"
  refine ⟨a, dx, fs9, n, .ref hdp, .ref sdp, _, g, ga, hid, hid.length, rfl, ha20, l1, l4, l5, l9, ⟨hdp, hds, rfl, hhd20, hhi20⟩, ⟨sdp, sds, rfl, hsd20, hsi20⟩, ht20, co.hidG hgs, Nat.le_refl _, hn, by omega, by omega, hhl', fun v21 H21 s21 => ?_⟩
  have ha21 := s21 _ _ ha20
  repeat walk_at "st"
  refine s_putF ha21 d9 (s20.trans s21) ha0 n9 (by omega) fun H22 fs10 e10 so22 s22 ha22 kp22 l10 lk10 n10 => ?_
  have so2022 := (Sol.of s21).trans so22
  show Q .non _
  have d10 : done fs10 = true := by
    unfold done
    rw [l10]; simp
  have hui22 := Itm.mono monoP (Sol.of s22) hui0
  exact k H22 g s22 ⟨a, dx, fs10, .ref xg, .ref gp, rfl, ha22, lk10 _ _ l1 (by decide +kernel), lk10 _ _ l2 (by decide +kernel), monoG _ _ _ _ so2022 hg20, lk10 _ _ l3 (by decide +kernel), ⟨gp, us, rfl, so2022 _ _ hgp20 trivial, hui22⟩, d10⟩ hgs hgl2
end
end Kq

set_option Elab.async false
set_option linter.all false
set_option maxHeartbeats 4000000
/-! regions: the vectors within a lot -/
namespace Kq
open XG
/-! ### rows of bits -/
def Bin (l : List Nat) : Prop := ∀ b ∈ l, b < 2
theorem Bin.tail {b : Nat} {l : List Nat} (h : Bin (b :: l)) : Bin l := fun c hc => h c (List.mem_cons_of_mem _ hc)
theorem Bin.head {b : Nat} {l : List Nat} (h : Bin (b :: l)) : b = 0 ∨ b = 1 := by have := h b List.mem_cons_self; omega
theorem numOf_acc : ∀ (l : List Nat) (a : Nat), l.foldl (fun n b => 2 * n + b) a = a * 2 ^ l.length + numOf l
  | [], a => by simp [numOf]
  | b :: l, a => by
    unfold numOf
    rw [List.foldl_cons, List.foldl_cons, numOf_acc l, numOf_acc l (2 * 0 + b), List.length_cons, Nat.pow_succ, Nat.add_mul]
    have : 2 * a * 2 ^ l.length = a * (2 ^ l.length * 2) := by rw [Nat.mul_comm 2 a, Nat.mul_assoc, Nat.mul_comm 2]
    rw [this]; simp [Nat.add_assoc]
theorem numOf_cons (b : Nat) (l : List Nat) : numOf (b :: l) = b * 2 ^ l.length + numOf l := by
  show (b :: l).foldl (fun n b => 2 * n + b) 0 = _
  rw [List.foldl_cons, numOf_acc]; simp
theorem numOf_lt : ∀ {l : List Nat}, Bin l → numOf l < 2 ^ l.length
  | [], _ => by simp [numOf]
  | b :: l, h => by
    have := numOf_lt h.tail
    rw [numOf_cons, List.length_cons, Nat.pow_succ]
    rcases h.head with rfl | rfl <;> omega
theorem numOf_top {b : Nat} {l : List Nat} (h : Bin (b :: l)) : numOf (b :: l) = (if b = 1 then 2 ^ l.length else 0) ^^^ numOf l := by
  rw [numOf_cons]
  have hl := numOf_lt h.tail
  rcases h.head with rfl | rfl
  · simp
  · rw [if_pos rfl, Nat.one_mul]
    have e : 2 ^ l.length &&& numOf l = 0 := by
      rw [Nat.and_comm, and_pow, if_neg]
      rw [Nat.testBit_lt_two_pow hl]; simp
    have := and_xor_or (2 ^ l.length) (numOf l)
    have h2 : 2 ^ l.length + numOf l = 2 ^ l.length ||| numOf l := by
      have := Nat.two_pow_add_eq_or_of_lt hl 1
      simpa using this
    rw [h2]; omega
theorem numOf_inj : ∀ {l m : List Nat}, Bin l → Bin m → l.length = m.length → numOf l = numOf m → l = m
  | [], [], _, _, _, _ => rfl
  | [], _ :: _, _, _, h, _ => by simp at h
  | _ :: _, [], _, _, h, _ => by simp at h
  | a :: l, b :: m, hl, hm, h, e => by
    rw [numOf_cons, numOf_cons] at e
    have h2 : l.length = m.length := by simpa using h
    have l1 := numOf_lt hl.tail
    have l2 := numOf_lt hm.tail
    rw [h2] at e l1
    have hp := Nat.two_pow_pos m.length
    rcases hl.head with rfl | rfl <;> rcases hm.head with rfl | rfl
    · rw [numOf_inj hl.tail hm.tail h2 (by omega)]
    · omega
    · omega
    · rw [numOf_inj hl.tail hm.tail h2 (by omega)]
theorem bitsOf_bin (k w : Nat) : Bin (bitsOf k w) := fun b hb => by
  unfold bitsOf at hb
  obtain ⟨i, _, rfl⟩ := List.mem_map.mp hb
  rw [Nat.and_one_is_mod]; exact Nat.mod_lt _ (by decide)
theorem bitsOf_len (k w : Nat) : (bitsOf k w).length = w := by simp [bitsOf]
theorem bitsOf_succ (k w : Nat) : bitsOf k (w + 1) = ((k.testBit w).toNat) :: bitsOf k w := by
  unfold bitsOf
  rw [List.range_succ_eq_map, List.map_cons, List.map_map]
  congr 1
  · rw [bit_and]; simp
  · apply List.map_congr_left
    intro i hi
    have := List.mem_range.mp hi
    show k >>> (w + 1 - 1 - (i + 1)) &&& 1 = k >>> (w - 1 - i) &&& 1
    rw [show w + 1 - 1 - (i + 1) = w - 1 - i by omega]
theorem numOf_bitsOf (k : Nat) : ∀ w, numOf (bitsOf k w) = k % 2 ^ w
  | 0 => by simp [bitsOf, numOf, Nat.mod_one]
  | w + 1 => by
    rw [bitsOf_succ, numOf_cons, numOf_bitsOf k w, bitsOf_len, Nat.mod_pow_succ]
    have e : k / 2 ^ w % 2 = (k.testBit w).toNat := by rw [← bit_mod, Nat.shiftRight_eq_div_pow]
    rw [e, Nat.mul_comm, Nat.add_comm]
theorem bitsOf_numOf {l : List Nat} (h : Bin l) : bitsOf (numOf l) l.length = l :=
  numOf_inj (bitsOf_bin _ _) h (bitsOf_len _ _) (by rw [numOf_bitsOf, Nat.mod_eq_of_lt (numOf_lt h)])
/-! ### sums of vectors by rows of bits -/
def lin : List Nat → List V2 → V2
  | b :: bs, u :: us => xo (if b = 1 then u else ze) (lin bs us)
  | _, _ => ze
theorem lin_cons (b : Nat) (bs : List Nat) (u : V2) (us : List V2) : lin (b :: bs) (u :: us) = xo (if b = 1 then u else ze) (lin bs us) := rfl
theorem lin_sn : ∀ (bs : List Nat) (us : List V2), Sn us (lin bs us)
  | [], us => by cases us <;> exact .zero
  | _ :: _, [] => .zero
  | b :: bs, u :: us => by
    rw [lin_cons]
    refine Sn.xo ?_ ((lin_sn bs us).mono fun a ha => List.mem_cons_of_mem _ ha)
    split
    · exact Sn.mem List.mem_cons_self
    · exact .zero
theorem lin_bits_xo (k k' : Nat) : ∀ (us : List V2), lin (bitsOf (k ^^^ k') us.length) us = xo (lin (bitsOf k us.length) us) (lin (bitsOf k' us.length) us)
  | [] => by simp [lin, XG.self]
  | u :: us => by
    rw [List.length_cons, bitsOf_succ, bitsOf_succ, bitsOf_succ]
    rw [lin_cons, lin_cons, lin_cons]
    rw [lin_bits_xo k k' us, Nat.testBit_xor, xo_swap]
    congr 1
    cases k.testBit us.length <;> cases k'.testBit us.length <;> simp [XG.self, zl, XG.zr]
theorem lin_zero : ∀ (us : List V2), lin (bitsOf 0 us.length) us = ze
  | [] => by simp [lin]
  | u :: us => by
    rw [List.length_cons, bitsOf_succ]
    rw [lin_cons]
    rw [lin_zero us]; simp [XG.zr]
theorem par_num_cr (q : V2) : ∀ {bs : List Nat} {us : List V2}, Bin bs → bs.length = us.length → par (numOf bs) (numOf (us.map fun u => cr2 u q)) = cr2 (lin bs us) q
  | [], [], _, _ => by simp [lin, numOf, par_zero, cr2_ze]
  | [], _ :: _, _, h => by simp at h
  | _ :: _, [], _, h => by simp at h
  | b :: bs, u :: us, hb, hl => by
    have hl2 : bs.length = us.length := by simpa using hl
    have hbin : Bin ((u :: us).map fun u => cr2 u q) := fun c hc => by
      obtain ⟨v, _, rfl⟩ := List.mem_map.mp hc
      exact cr2_lt _ _
    have ih := par_num_cr q hb.tail hl2
    have l1 := numOf_lt hb.tail
    have l2 : numOf (us.map fun u => cr2 u q) < 2 ^ us.length := by
      have := numOf_lt (l := us.map fun u => cr2 u q) (fun c hc => hbin c (List.mem_cons_of_mem _ hc))
      rwa [List.length_map] at this
    rw [List.map_cons] at hbin ⊢
    rw [numOf_top hb, numOf_top hbin, List.length_map, hl2, par_xor, par_xor', par_xor', ih]
    rw [hl2] at l1
    rw [lin_cons]
    rw [cr2_xo]
    have t1 : (numOf bs).testBit us.length = false := Nat.testBit_lt_two_pow l1
    have t2 : (numOf (us.map fun u => cr2 u q)).testBit us.length = false := Nat.testBit_lt_two_pow l2
    have p1 : par (2 ^ us.length) (numOf (us.map fun u => cr2 u q)) = 0 := by rw [par_comm, par_pow, t2]; rfl
    have p2 : par (numOf bs) (2 ^ us.length) = 0 := by rw [par_pow, t1]; rfl
    have p3 : par (2 ^ us.length) (2 ^ us.length) = 1 := by rw [par_pow, Nat.testBit_two_pow_self]; rfl
    have hc := cr2_lt u q
    have hc2 := cr2_lt (lin bs us) q
    rcases hb.head with rfl | rfl <;> rcases (by omega : cr2 u q = 0 ∨ cr2 u q = 1) with e | e <;> simp [e, par_zero, par_zero', p1, p2, p3, cr2_ze] <;> omega
/-! ### bits of vectors -/
def bitp (v : V2) (p : Nat) : List Nat := [v.1 >>> p &&& 1, v.2 >>> p &&& 1]
def bitsOn (v : V2) (l : List Nat) : List Nat := l.flatMap (bitp v)
theorem bitsOn_cons (v : V2) (p : Nat) (l : List Nat) : bitsOn v (p :: l) = (v.1.testBit p).toNat :: (v.2.testBit p).toNat :: bitsOn v l := by
  unfold bitsOn
  rw [List.flatMap_cons]
  show [v.1 >>> p &&& 1, v.2 >>> p &&& 1] ++ _ = _
  rw [bit_and, bit_and]; rfl
theorem bitsOn_len (v : V2) : ∀ l : List Nat, (bitsOn v l).length = 2 * l.length
  | [] => rfl
  | p :: l => by rw [bitsOn_cons, List.length_cons, List.length_cons, bitsOn_len v l, List.length_cons]; omega
theorem bitsOn_bin (v : V2) : ∀ l : List Nat, Bin (bitsOn v l)
  | [] => fun b hb => by cases hb
  | p :: l => by
    rw [bitsOn_cons]
    intro b hb
    rcases List.mem_cons.mp hb with rfl | hb
    · exact Bool.toNat_lt _
    · rcases List.mem_cons.mp hb with rfl | hb
      · exact Bool.toNat_lt _
      · exact bitsOn_bin v l b hb
def eOf (l : List Nat) (v : V2) : Nat := numOf (bitsOn v l)
theorem eOf_cons (v : V2) (p : Nat) (l : List Nat) : eOf (p :: l) v = (if v.1.testBit p then 2 ^ (2 * l.length + 1) else 0) ^^^ ((if v.2.testBit p then 2 ^ (2 * l.length) else 0) ^^^ eOf l v) := by
  unfold eOf
  have h := bitsOn_bin v (p :: l)
  rw [bitsOn_cons] at h ⊢
  rw [numOf_top h, numOf_top h.tail, List.length_cons, bitsOn_len]
  cases v.1.testBit p <;> cases v.2.testBit p <;> simp
theorem eOf_ze : ∀ l : List Nat, eOf l ze = 0
  | [] => rfl
  | p :: l => by rw [eOf_cons, eOf_ze l]; simp [ze2]
theorem eOf_xo (a b : V2) : ∀ l : List Nat, eOf l (xo a b) = xo (eOf l a) (eOf l b)
  | [] => by show (0 : Nat) = 0 ^^^ 0; simp
  | p :: l => by
    rw [eOf_cons, eOf_cons, eOf_cons, eOf_xo a b l, xo2]
    show (if (a.1 ^^^ b.1).testBit p = true then _ else 0) ^^^ ((if (a.2 ^^^ b.2).testBit p = true then _ else 0) ^^^ (eOf l a ^^^ eOf l b)) = _
    rw [Nat.testBit_xor, Nat.testBit_xor, xoN]
    have sw : ∀ A B C D E F : Nat, (A ^^^ (B ^^^ C)) ^^^ (D ^^^ (E ^^^ F)) = (A ^^^ D) ^^^ ((B ^^^ E) ^^^ (C ^^^ F)) := fun A B C D E F => by
      have h1 := xo_swap (α := Nat) A (B ^^^ C) D (E ^^^ F)
      have h2 := xo_swap (α := Nat) B C E F
      simp only [xoN] at h1 h2
      rw [h1, h2]
    rw [sw]
    cases a.1.testBit p <;> cases b.1.testBit p <;> cases a.2.testBit p <;> cases b.2.testBit p <;> simp
theorem bitsOn_eq {a b : V2} : ∀ {l : List Nat}, bitsOn a l = bitsOn b l → ∀ p ∈ l, a.1.testBit p = b.1.testBit p ∧ a.2.testBit p = b.2.testBit p
  | [], _, p, hp => by cases hp
  | q :: l, h, p, hp => by
    rw [bitsOn_cons, bitsOn_cons, List.cons.injEq, List.cons.injEq] at h
    have tn : ∀ x y : Bool, x.toNat = y.toNat → x = y := by intro x y; cases x <;> cases y <;> simp
    rcases List.mem_cons.mp hp with rfl | hp
    · exact ⟨tn _ _ h.1, tn _ _ h.2.1⟩
    · exact bitsOn_eq h.2.2 p hp
def Lt2 (n : Nat) (v : V2) : Prop := v.1 < 2 ^ n ∧ v.2 < 2 ^ n
theorem Lt2.xo {n : Nat} {a b : V2} (ha : Lt2 n a) (hb : Lt2 n b) : Lt2 n (XG.xo a b) := ⟨Nat.xor_lt_two_pow ha.1 hb.1, Nat.xor_lt_two_pow ha.2 hb.2⟩
theorem Lt2.ze (n : Nat) : Lt2 n XG.ze := ⟨Nat.two_pow_pos n, Nat.two_pow_pos n⟩
theorem Row.ok.lt {n : Nat} {r : Row} (h : r.ok n) : Lt2 n r.xz := ⟨h.1, h.2.1⟩
theorem v2_ext {n : Nat} {a b : V2} (ha : Lt2 n a) (hb : Lt2 n b) (h : ∀ p, p < n → a.1.testBit p = b.1.testBit p ∧ a.2.testBit p = b.2.testBit p) : a = b := by
  have hk : ∀ x, x < 2 ^ n → ∀ k, ¬ k < n → x.testBit k = false := fun x hx k hk => by
    cases e : x.testBit k
    · rfl
    · exact absurd (bit_lt hx e) hk
  refine Prod.ext (Nat.eq_of_testBit_eq fun i => ?_) (Nat.eq_of_testBit_eq fun i => ?_) <;> by_cases hi : i < n
  · exact (h i hi).1
  · rw [hk _ ha.1 i hi, hk _ hb.1 i hi]
  · exact (h i hi).2
  · rw [hk _ ha.2 i hi, hk _ hb.2 i hi]
theorem eOf_inj {n : Nat} {a b : V2} (ha : Lt2 n a) (hb : Lt2 n b) (h : eOf (List.range n) a = eOf (List.range n) b) : a = b :=
  v2_ext ha hb fun p hp => bitsOn_eq (numOf_inj (bitsOn_bin _ _) (bitsOn_bin _ _) (by rw [bitsOn_len, bitsOn_len]) h) p (List.mem_range.mpr hp)
theorem eOf_span {n : Nat} {L : List V2} (hL : ∀ a ∈ L, Lt2 n a) {v : V2} (hv : Lt2 n v) : Sn (L.map (eOf (List.range n))) (eOf (List.range n) v) ↔ Sn L v := by
  rw [Sn.map (eOf_ze _) (fun a b => eOf_xo a b _)]
  constructor
  · rintro ⟨a, ha, e⟩
    have := ha.all (p := Lt2 n) (Lt2.ze n) (fun _ _ h1 h2 => h1.xo h2) hL
    rw [← eOf_inj this hv e]; exact ha
  · intro h; exact ⟨v, h, rfl⟩
/-! ### units -/
def unitp (p : Nat) : List Row := [⟨1 <<< p, 0, 0⟩, ⟨0, 1 <<< p, 0⟩]
def unitsOn (l : List Nat) : List Row := l.flatMap unitp
theorem unitsOn_len : ∀ l : List Nat, (unitsOn l).length = 2 * l.length
  | [] => rfl
  | p :: l => by
    show (unitp p ++ unitsOn l).length = _
    rw [List.length_append, unitsOn_len l, List.length_cons]
    show 2 + _ = _; omega
def uv (l : List Nat) : List V2 := (unitsOn l).map Row.xz
theorem uv_cons (p : Nat) (l : List Nat) : uv (p :: l) = (2 ^ p, 0) :: (0, 2 ^ p) :: uv l := by
  show ((unitp p ++ unitsOn l).map Row.xz) = _
  rw [List.map_append]
  show [(1 <<< p, 0), (0, 1 <<< p)] ++ _ = _
  rw [Nat.shiftLeft_eq, Nat.one_mul]; rfl
def Within (l : List Nat) (v : V2) : Prop := ∀ p, v.1.testBit p = true ∨ v.2.testBit p = true → p ∈ l
theorem Within.xo {l : List Nat} {a b : V2} (ha : Within l a) (hb : Within l b) : Within l (XG.xo a b) := fun p hp => by
  rw [xo2] at hp
  have hp : (a.1 ^^^ b.1).testBit p = true ∨ (a.2 ^^^ b.2).testBit p = true := hp
  rw [Nat.testBit_xor, Nat.testBit_xor] at hp
  cases e1 : a.1.testBit p
  · cases e2 : a.2.testBit p
    · rw [e1, e2] at hp; exact hb p (by simpa using hp)
    · exact ha p (.inr e2)
  · exact ha p (.inl e1)
theorem Within.ze (l : List Nat) : Within l XG.ze := fun p hp => by
  have hp : (0 : Nat).testBit p = true ∨ (0 : Nat).testBit p = true := hp
  simp at hp
theorem within_span {l : List Nat} {v : V2} (h : Sn (uv l) v) : Within l v := by
  refine h.all (p := Within l) (Within.ze l) (fun _ _ h1 h2 => h1.xo h2) fun a ha => ?_
  clear h
  induction l with
  | nil => cases ha
  | cons q l ih =>
    rw [uv_cons] at ha
    rcases List.mem_cons.mp ha with rfl | ha
    · intro p hp
      have hp : (2 ^ q).testBit p = true ∨ (0 : Nat).testBit p = true := hp
      rw [Nat.testBit_two_pow] at hp; simp at hp; subst hp; exact List.mem_cons_self
    · rcases List.mem_cons.mp ha with rfl | ha
      · intro p hp
        have hp : (0 : Nat).testBit p = true ∨ (2 ^ q).testBit p = true := hp
        rw [Nat.testBit_two_pow] at hp; simp at hp; subst hp; exact List.mem_cons_self
      · exact fun p hp => List.mem_cons_of_mem _ (ih ha p hp)
theorem lin_units_bit (v : V2) (q : Nat) : ∀ {l : List Nat}, l.Nodup → (lin (bitsOn v l) (uv l)).1.testBit q = (decide (q ∈ l) && v.1.testBit q) ∧ (lin (bitsOn v l) (uv l)).2.testBit q = (decide (q ∈ l) && v.2.testBit q)
  | [], _ => by show (0 : Nat).testBit q = _ ∧ (0 : Nat).testBit q = _; simp
  | p :: l, h => by
    rw [List.nodup_cons] at h
    obtain ⟨i1, i2⟩ := lin_units_bit v q h.2
    rw [bitsOn_cons, uv_cons]
    rw [lin_cons, lin_cons]
    have e1 : ∀ b : Bool, (if b.toNat = 1 then ((2 ^ p, 0) : V2) else ze) = (if b then 2 ^ p else 0, 0) := by intro b; cases b <;> rfl
    have e2 : ∀ b : Bool, (if b.toNat = 1 then ((0, 2 ^ p) : V2) else ze) = (0, if b then 2 ^ p else 0) := by intro b; cases b <;> rfl
    rw [e1, e2]
    show ((if v.1.testBit p then 2 ^ p else 0) ^^^ (0 ^^^ (lin (bitsOn v l) (uv l)).1)).testBit q = _ ∧ (0 ^^^ ((if v.2.testBit p then 2 ^ p else 0) ^^^ (lin (bitsOn v l) (uv l)).2)).testBit q = _
    rw [Nat.zero_xor, Nat.zero_xor, Nat.testBit_xor, Nat.testBit_xor, i1, i2]
    by_cases e : p = q
    · subst e
      rw [decide_eq_false h.1]
      cases v.1.testBit p <;> cases v.2.testBit p <;> simp [Nat.testBit_two_pow]
    · have e' : ¬ q = p := fun z => e z.symm
      cases v.1.testBit p <;> cases v.2.testBit p <;> simp [Nat.testBit_two_pow, e, e', List.mem_cons]
theorem lin_units {n : Nat} {v : V2} {l : List Nat} (hn : l.Nodup) (hl : ∀ p ∈ l, p < n) (hv : Lt2 n v) (hw : Within l v) : lin (bitsOn v l) (uv l) = v := by
  have hb : Lt2 n (lin (bitsOn v l) (uv l)) := by
    have hk : ∀ x, (∀ q, x.testBit q = true → q ∈ l) → x < 2 ^ n := fun x hx => lt_of_bits fun i hi => hl i (hx i hi)
    exact ⟨hk _ fun q hq => by rw [(lin_units_bit v q hn).1] at hq; simp at hq; exact hq.1, hk _ fun q hq => by rw [(lin_units_bit v q hn).2] at hq; simp at hq; exact hq.1⟩
  refine v2_ext hb hv fun p _ => ?_
  obtain ⟨h1, h2⟩ := lin_units_bit v p hn
  rw [h1, h2]
  by_cases e : p ∈ l
  · rw [decide_eq_true e]; simp
  · rw [decide_eq_false e]
    constructor
    · cases z : v.1.testBit p
      · rfl
      · exact absurd (hw p (.inl z)) e
    · cases z : v.2.testBit p
      · rfl
      · exact absurd (hw p (.inr z)) e
end Kq

set_option Elab.async false
set_option linter.all false
set_option maxHeartbeats 4000000
/-! regions: what is found -/
namespace Kq
open XG
def combStep (r : Row) (c : Nat × Row) : Row := ⟨r.x ^^^ (c.2.x * c.1), r.z ^^^ (c.2.z * c.1), 0⟩
def comb (bs : List Nat) (us : List Row) : Row := (bs.zip us).foldl combStep ⟨0, 0, 0⟩
theorem comb_acc : ∀ {bs : List Nat} {us : List Row} (a : Row), Bin bs → ((bs.zip us).foldl combStep a).xz = xo a.xz (lin bs (us.map Row.xz)) ∧ (a.s = 0 → ((bs.zip us).foldl combStep a).s = 0)
  | [], us, a, _ => by cases us <;> exact ⟨by show a.xz = xo a.xz ze; rw [XG.zr], fun h => h⟩
  | _ :: _, [], a, _ => ⟨by show a.xz = xo a.xz ze; rw [XG.zr], fun h => h⟩
  | b :: bs, u :: us, a, h => by
    rw [List.zip_cons_cons, List.foldl_cons]
    obtain ⟨h1, h2⟩ := comb_acc (us := us) (combStep a (b, u)) h.tail
    refine ⟨?_, fun _ => h2 rfl⟩
    rw [h1, List.map_cons, lin_cons, ← XG.assoc]
    congr 1
    rcases h.head with rfl | rfl
    · show (a.x ^^^ (u.x * 0), a.z ^^^ (u.z * 0)) = xo (a.x, a.z) ((0 : Nat), (0 : Nat))
      rw [xo2]; simp
    · show (a.x ^^^ (u.x * 1), a.z ^^^ (u.z * 1)) = xo (a.x, a.z) (u.x, u.z)
      rw [xo2]; simp
theorem comb_xz {bs : List Nat} {us : List Row} (h : Bin bs) : (comb bs us).xz = lin bs (us.map Row.xz) ∧ (comb bs us).s = 0 := by
  obtain ⟨h1, h2⟩ := comb_acc (us := us) ⟨0, 0, 0⟩ h
  refine ⟨?_, h2 rfl⟩
  show ((bs.zip us).foldl combStep ⟨0, 0, 0⟩).xz = _
  rw [h1]
  exact zl (α := V2) _
/-- the greedy choice -/
structure RS where
  known : List (List Nat)
  found : List Row
  rank : Nat
def regStep (n : Nat) (us : List Row) (s : RS) (bs : List Nat) : RS :=
  if s.rank < rankOf (s.known ++ [bitsOn (comb bs us).xz (List.range n)]) then ⟨s.known ++ [bitsOn (comb bs us).xz (List.range n)], s.found ++ [comb bs us], s.rank + 1⟩ else s
def regInit (n : Nat) (others : List Row) : RS := ⟨others.map fun r => bitsOn r.xz (List.range n), [], rankOf (others.map fun r => bitsOn r.xz (List.range n))⟩
def matOf (us rows : List Row) : List (List Nat) := rows.map fun r => us.map fun u => cr u r
def kerBits (us rows : List Row) : List (List Nat) := (kerOf ((matOf us rows).map numOf) us.length).map fun k => bitsOf k us.length
def regF (n : Nat) (l : List Nat) (rows others : List Row) : RS := (kerBits (unitsOn l) rows).foldl (regStep n (unitsOn l)) (regInit n others)
theorem rank_in {k : List (List Nat)} {b : List Nat} (h : Sn (k.map numOf) (numOf b)) : rankOf (k ++ [b]) = rankOf k := by
  unfold rankOf
  rw [List.map_append, List.map_singleton, reduced_snoc]
  obtain ⟨h1, h2, _⟩ := reduced_ok (k.map numOf)
  unfold putIn
  rw [if_pos ((restBy_zero h1).mpr ((h2 _).mpr h))]
theorem rank_out {k : List (List Nat)} {b : List Nat} (h : ¬ Sn (k.map numOf) (numOf b)) : rankOf (k ++ [b]) = rankOf k + 1 := by
  unfold rankOf
  rw [List.map_append, List.map_singleton, reduced_snoc]
  obtain ⟨h1, h2, _⟩ := reduced_ok (k.map numOf)
  unfold putIn
  rw [if_neg (fun z => h ((h2 _).mp ((restBy_zero h1).mp z))), (sortD_perm _).length_eq]
  simp
structure RInv (n : Nat) (others : List Row) (ok : Row → Prop) (s : RS) : Prop where
  kn : s.known.map numOf = (others ++ s.found).map fun r => eOf (List.range n) r.xz
  rk : s.rank = rankOf s.known
  ok : ∀ r ∈ s.found, ok r
  ind : Ind (s.found.map Row.xz)
  dis : ∀ x, Sn (s.found.map Row.xz) x → Sn (others.map Row.xz) x → x = ze
theorem RInv.init (n : Nat) (others : List Row) (ok : Row → Prop) : RInv n others ok (regInit n others) := by
  refine ⟨?_, rfl, fun r hr => (by cases hr), trivial, fun x hx _ => Sn.nil.mp hx⟩
  show (others.map fun r => bitsOn r.xz (List.range n)).map numOf = (others ++ []).map _
  rw [List.append_nil, List.map_map]; rfl
theorem RInv.step {n : Nat} {others : List Row} {ok : Row → Prop} {s : RS} (h : RInv n others ok s) (ho : ∀ r ∈ others, Lt2 n r.xz) (hok : ∀ r, ok r → Lt2 n r.xz) {us : List Row} {bs : List Nat} (hb : ok (comb bs us)) :
    RInv n others ok (regStep n us s bs) ∧ (∀ x, Sn ((others ++ s.found).map Row.xz) x → Sn ((others ++ (regStep n us s bs).found).map Row.xz) x) ∧ Sn ((others ++ (regStep n us s bs).found).map Row.xz) (comb bs us).xz ∧ (regStep n us s bs).found.length ≤ s.found.length + 1 := by
  have hall : ∀ a ∈ (others ++ s.found).map Row.xz, Lt2 n a := fun a ha => by
    obtain ⟨r, hr, rfl⟩ := List.mem_map.mp ha
    rcases List.mem_append.mp hr with hr | hr
    · exact ho r hr
    · exact hok r (h.ok r hr)
  have hs : Sn (s.known.map numOf) (numOf (bitsOn (comb bs us).xz (List.range n))) ↔ Sn ((others ++ s.found).map Row.xz) (comb bs us).xz := by
    rw [h.kn, ← eOf_span hall (hok _ hb), List.map_map]; rfl
  unfold regStep
  by_cases c : Sn (s.known.map numOf) (numOf (bitsOn (comb bs us).xz (List.range n)))
  · rw [rank_in c, h.rk, if_neg (Nat.lt_irrefl _)]
    exact ⟨h, fun x hx => hx, hs.mp c, by omega⟩
  · rw [rank_out c, h.rk, if_pos (by omega)]
    have c2 : ¬ Sn ((others ++ s.found).map Row.xz) (comb bs us).xz := fun z => c (hs.mpr z)
    have hsub : ∀ x, Sn (s.found.map Row.xz) x → Sn ((others ++ s.found).map Row.xz) x := fun x hx => hx.mono fun a ha => by rw [List.map_append]; exact List.mem_append_right _ ha
    have hsub2 : ∀ x, Sn (others.map Row.xz) x → Sn ((others ++ s.found).map Row.xz) x := fun x hx => hx.mono fun a ha => by rw [List.map_append]; exact List.mem_append_left _ ha
    refine ⟨⟨?_, ?_, fun r hr => ?_, ?_, fun x hx ho2 => ?_⟩, fun x hx => ?_, ?_, by simp⟩
    · show (s.known ++ [_]).map numOf = (others ++ (s.found ++ [_])).map _
      rw [List.map_append, h.kn, ← List.append_assoc, List.map_append (l₁ := others ++ s.found)]; rfl
    · show rankOf s.known + 1 = rankOf (s.known ++ [_])
      rw [rank_out c]
    · rcases List.mem_append.mp hr with hr | hr
      · exact h.ok r hr
      · rw [List.mem_singleton.mp hr]; exact hb
    · show Ind ((s.found ++ [_]).map Row.xz)
      rw [List.map_append]
      exact ind_app1 h.ind fun z => c2 (hsub _ z)
    · have hx : Sn ((s.found ++ [comb bs us]).map Row.xz) x := hx
      rw [List.map_append] at hx
      rcases Sn.app1.mp hx with hx | hx
      · exact h.dis x hx ho2
      · exfalso
        refine c2 ?_
        have := (hsub2 _ ho2).xo (hsub _ hx)
        rw [xo_cancel'] at this
        exact this
    · refine hx.mono fun a ha => ?_
      rw [List.map_append] at ha ⊢
      rcases List.mem_append.mp ha with ha | ha
      · exact List.mem_append_left _ ha
      · exact List.mem_append_right _ (by show a ∈ (s.found ++ [comb bs us]).map Row.xz; rw [List.map_append]; exact List.mem_append_left _ ha)
    · refine Sn.mem (List.mem_map_of_mem (List.mem_append_right _ ?_))
      show comb bs us ∈ s.found ++ [comb bs us]
      exact List.mem_append_right _ (List.mem_singleton.mpr rfl)
theorem RInv.fold {n : Nat} {others : List Row} {ok : Row → Prop} (ho : ∀ r ∈ others, Lt2 n r.xz) (hok : ∀ r, ok r → Lt2 n r.xz) (us : List Row) : ∀ (bss : List (List Nat)) (s : RS), (∀ bs ∈ bss, ok (comb bs us)) → RInv n others ok s →
    RInv n others ok (bss.foldl (regStep n us) s) ∧ (∀ x, Sn ((others ++ s.found).map Row.xz) x → Sn ((others ++ (bss.foldl (regStep n us) s).found).map Row.xz) x) ∧ (∀ bs ∈ bss, Sn ((others ++ (bss.foldl (regStep n us) s).found).map Row.xz) (comb bs us).xz) ∧ (bss.foldl (regStep n us) s).found.length ≤ s.found.length + bss.length
  | [], s, _, h => ⟨h, fun x hx => hx, fun bs hb => (by cases hb), by simp⟩
  | b :: bss, s, hb, h => by
    obtain ⟨h1, h2, h3, h4⟩ := h.step ho hok (us := us) (bs := b) (hb b List.mem_cons_self)
    obtain ⟨k1, k2, k3, k4⟩ := RInv.fold ho hok us bss (regStep n us s b) (fun c hc => hb c (List.mem_cons_of_mem _ hc)) h1
    refine ⟨k1, fun x hx => k2 x (h2 x hx), fun c hc => ?_, by rw [List.length_cons]; exact Nat.le_trans k4 (by omega)⟩
    rcases List.mem_cons.mp hc with rfl | hc
    · exact k2 _ h3
    · exact k3 c hc
/-- a row that a region may find -/
structure Good (n : Nat) (l : List Nat) (rows : List Row) (r : Row) : Prop where
  ok : r.ok n
  s0 : r.s = 0
  inn : Within l r.xz
  com : ∀ q ∈ rows, cr r q = 0
theorem mat_len (us rows : List Row) : ∀ b ∈ matOf us rows, b.length = us.length ∧ Bin b := fun b hb => by
  obtain ⟨r, _, rfl⟩ := List.mem_map.mp hb
  refine ⟨by simp, fun c hc => ?_⟩
  obtain ⟨u, _, rfl⟩ := List.mem_map.mp hc
  exact cr2_lt _ _
theorem ker_mem {us rows : List Row} {k : Nat} : Sn (kerOf ((matOf us rows).map numOf) us.length) k ↔ k < 2 ^ us.length ∧ ∀ r ∈ rows, cr2 (lin (bitsOf k us.length) (us.map Row.xz)) r.xz = 0 := by
  have hlt : ∀ a ∈ (matOf us rows).map numOf, a < 2 ^ us.length := fun a ha => by
    obtain ⟨b, hb, rfl⟩ := List.mem_map.mp ha
    obtain ⟨h1, h2⟩ := mat_len us rows b hb
    have := numOf_lt h2
    rwa [h1] at this
  rw [(kerOf_ok hlt).2]
  refine and_congr_right fun hk => ?_
  have key : ∀ r : Row, par k (numOf (us.map fun u => cr u r)) = cr2 (lin (bitsOf k us.length) (us.map Row.xz)) r.xz := fun r => by
    have := par_num_cr r.xz (bs := bitsOf k us.length) (us := us.map Row.xz) (bitsOf_bin _ _) (by rw [bitsOf_len, List.length_map])
    rw [numOf_bitsOf, Nat.mod_eq_of_lt hk, List.map_map] at this
    exact this
  constructor
  · intro h r hr
    rw [← key]
    exact h _ (List.mem_map_of_mem (List.mem_map_of_mem (f := fun r => us.map fun u => cr u r) hr))
  · intro h g hg
    obtain ⟨b, hb, rfl⟩ := List.mem_map.mp hg
    obtain ⟨r, hr, rfl⟩ := List.mem_map.mp hb
    rw [key]; exact h r hr
theorem regF_ok {n : Nat} {l : List Nat} {rows others : List Row} (hn : l.Nodup) (hl : ∀ p ∈ l, p < n) (ho : ∀ r ∈ others, r.ok n) :
    RInv n others (Good n l rows) (regF n l rows others) ∧ (∀ v, Lt2 n v → Within l v → (∀ r ∈ rows, cr2 v r.xz = 0) → Sn ((others ++ (regF n l rows others).found).map Row.xz) v) ∧ (regF n l rows others).found.length ≤ 2 * l.length := by
  have hlt2 : ∀ v, Sn (uv l) v → Lt2 n v := fun v hv => by
    have hw := within_span hv
    exact ⟨lt_of_bits fun i hi => hl i (hw i (.inl hi)), lt_of_bits fun i hi => hl i (hw i (.inr hi))⟩
  have hgood : ∀ bs ∈ kerBits (unitsOn l) rows, Good n l rows (comb bs (unitsOn l)) := fun bs hbs => by
    obtain ⟨k, hk, rfl⟩ := List.mem_map.mp hbs
    obtain ⟨h1, h2⟩ := ker_mem.mp (Sn.mem hk)
    obtain ⟨e1, e2⟩ := comb_xz (us := unitsOn l) (bitsOf_bin k (unitsOn l).length)
    have hsn : Sn (uv l) (comb (bitsOf k (unitsOn l).length) (unitsOn l)).xz := by rw [e1]; exact lin_sn _ _
    have hv := hlt2 _ hsn
    exact ⟨⟨hv.1, hv.2, by rw [e2]; decide⟩, e2, within_span hsn, fun q hq => by show cr2 _ _ = 0; rw [e1]; exact h2 q hq⟩
  obtain ⟨h1, h2, h3, h4⟩ := RInv.fold (fun r hr => (ho r hr).lt) (fun r (hr : Good n l rows r) => hr.ok.lt) (unitsOn l) (kerBits (unitsOn l) rows) (regInit n others) hgood (RInv.init n others _)
  refine ⟨h1, fun v hv hw hc => ?_, ?_⟩
  · have hlen : (unitsOn l).length = (uv l).length := by unfold uv; rw [List.length_map]
    have hbl : (bitsOn v l).length = (unitsOn l).length := by rw [bitsOn_len, unitsOn_len]
    have hk : Sn (kerOf ((matOf (unitsOn l) rows).map numOf) (unitsOn l).length) (eOf l v) := by
      rw [ker_mem]
      refine ⟨by rw [← hbl]; exact numOf_lt (bitsOn_bin v l), fun r hr => ?_⟩
      have : bitsOf (eOf l v) (unitsOn l).length = bitsOn v l := by rw [← hbl]; exact bitsOf_numOf (bitsOn_bin v l)
      rw [this]
      show cr2 (lin (bitsOn v l) (uv l)) r.xz = 0
      rw [lin_units hn hl hv hw]
      exact hc r hr
    have hmap := (Sn.map (f := fun k => lin (bitsOf k (unitsOn l).length) (uv l)) (by show lin (bitsOf 0 _) _ = ze; rw [hlen]; exact lin_zero _) (fun a b => by show lin (bitsOf (a ^^^ b) _) _ = _; rw [hlen]; exact lin_bits_xo a b _)).mpr ⟨eOf l v, hk, rfl⟩
    have e : lin (bitsOf (eOf l v) (unitsOn l).length) (uv l) = v := by
      have : bitsOf (eOf l v) (unitsOn l).length = bitsOn v l := by rw [← hbl]; exact bitsOf_numOf (bitsOn_bin v l)
      rw [this, lin_units hn hl hv hw]
    rw [e] at hmap
    refine hmap.sub fun a ha => ?_
    obtain ⟨k, hk, rfl⟩ := List.mem_map.mp ha
    have := h3 _ (List.mem_map_of_mem (f := fun k => bitsOf k (unitsOn l).length) hk)
    rw [(comb_xz (us := unitsOn l) (bitsOf_bin k (unitsOn l).length)).1] at this
    exact this
  · refine Nat.le_trans h4 ?_
    show 0 + (kerBits (unitsOn l) rows).length ≤ _
    unfold kerBits kerOf
    rw [List.length_map, ← unitsOn_len]
    have := (reduced_ok (kfound (reduced ((matOf (unitsOn l) rows).map numOf)) (unitsOn l).length)).2.2
    have := kfound_len (reduced ((matOf (unitsOn l) rows).map numOf)) (unitsOn l).length
    omega
end Kq

set_option Elab.async false
set_option linter.all false
set_option maxRecDepth 100000
set_option maxHeartbeats 4000000
/-! more steps -/
namespace Kq
open PySem PySem.Spec PyProof.Rows L2
section
variable {K : PySem.W.Frag} {σ : L2.St} {H : Hp} {Q : VK} {ta tb tc te : TE} {D : Ends}
theorem s_chain {r r' : R2} (h : ta σ H fun x H1 => tb σ H1 fun y H2 => r x y H2 fun z H3 => ∃ k, z = .bl k ∧ (if k = true then tc σ H3 fun w' H4 => r' y w' H4 Q else Q (.bl false) H3)) : tChain r r' ta tb tc σ H Q := h
theorem s_isiTup {p t : Addr} {xs : List V} (h : H p = some (.tup xs)) (ht : H t = some (.tup [.ty "tuple", .ty "list"])) (q : Q (.bl true) H) : rIsiT K [.ref p, .ref t] H Q :=
  ⟨_, t, _, _, [.type "tuple", .type "list"], true, rfl, ht, .cons (.ty _) (.cons (.ty _) .nil), .base (.tup h), rfl, q⟩
theorem s_isiLst {p t : Addr} {xs : List V} (h : H p = some (.lst xs)) (ht : H t = some (.tup [.ty "tuple", .ty "list"])) (q : Q (.bl true) H) : rIsiT K [.ref p, .ref t] H Q :=
  ⟨_, t, _, _, [.type "tuple", .type "list"], true, rfl, ht, .cons (.ty _) (.cons (.ty _) .nil), .base (.lst h), rfl, q⟩
end
end Kq

set_option Elab.async false
set_option linter.all false
set_option maxRecDepth 100000
set_option maxHeartbeats 4000000
/-! regions walked: the parts -/
namespace Kq
open PySem PySem.Spec PyProof.Rows L2 XG
local macro_rules | `(tactic| walk_at "st") => `(tactic| first
  | with_reducible refine s_seq ?_
  | ((with_reducible refine' s_var ?h1 ?h2); (case h1 => rfl))
  | with_reducible refine s_c ?_
  | with_reducible refine s_op ?_
  | with_reducible refine s_asg ?_
  | with_reducible refine s_name ?_
  | with_reducible refine s_cons ?_
  | with_reducible refine s_nil ?_
  | with_reducible refine s_call ?_
  | with_reducible refine s_CB ?_
  | with_reducible refine s_add ?_
  | ((with_reducible refine' s_sub ?h1 ?h2); (case h1 => omega))
  | ((with_reducible refine' s_mul ?h1 ?h2); (case h1 => omega))
  | ((with_reducible refine' s_mod ?h1 ?h2); (case h1 => omega))
  | ((with_reducible refine' s_div ?h1 ?h2); (case h1 => omega))
  | ((with_reducible refine' s_shl ?h1 ?h2); (case h1 => omega))
  | with_reducible refine s_shr ?_
  | with_reducible refine s_and ?_
  | with_reducible refine s_or ?_
  | with_reducible refine s_xor ?_
  | with_reducible refine s_lt ?_
  | with_reducible refine s_le ?_
  | with_reducible refine s_gt ?_
  | with_reducible refine s_ge ?_
  | with_reducible refine s_eqN ?_
  | with_reducible refine s_neN ?_
  | with_reducible refine s_eqS ?_
  | with_reducible refine s_neS ?_
  | with_reducible refine s_I0 ?_
  | with_reducible refine s_un ?_
  | with_reducible refine s_neg ?_
  | with_reducible refine s_test ?_
  | with_reducible refine s_B ?_
  | with_reducible refine s_bl ?_
  | with_reducible refine s_ifS ?_
  | with_reducible refine s_ifE ?_
  | with_reducible refine s_not ?_
  | with_reducible refine s_and2 ?_
  | with_reducible refine s_or2 ?_
  | with_reducible refine s_andV ?_
  | with_reducible refine s_orV ?_
  | with_reducible refine s_notV ?_
  | with_reducible refine s_tru ?_
  | with_reducible refine s_par ?_
  | with_reducible refine s_two ?_
  | with_reducible refine s_par3 ?_
  | with_reducible refine s_three ?_
  | with_reducible refine s_lst ?_
  | with_reducible refine s_tup ?_
  | ((with_reducible refine' s_size ?h1 ?h2); (case h1 => exact Nat.le_of_ble_eq_true rfl))
  | with_reducible refine s_fld ?_
  | with_reducible refine s_gcons ?_
  | with_reducible refine s_gnil ?_
  | with_reducible refine s_intN ?_
  | with_reducible refine s_intI ?_
  | with_reducible refine s_tTru ?_
  | with_reducible refine s_tBL ?_
  | with_reducible refine s_sign ?_
  | with_reducible refine s_min ?_
  | with_reducible refine s_sfld ?_
  | with_reducible refine s_gfld ?_
  | with_reducible refine s_intB ?_
  | with_reducible refine s_next ?_
  | with_reducible refine s_ret ?_
  | with_reducible refine s_drop ?_
  | with_reducible refine s_for ?_
  | with_reducible refine s_lc ?_
  | with_reducible refine s_yes ?_
  | with_reducible refine s_bits ?_
  | with_reducible refine s_bitsV ?_
  | ((with_reducible refine' s_own ?h1 ?h2); (case h1 => assumption))
  | ((with_reducible refine' s_len ?h1 ?h2); (case h1 => assumption))
  | ((with_reducible refine' s_lenT ?h1 ?h2); (case h1 => assumption))
  | with_reducible refine s_iTup ?_
  | with_reducible refine s_iList ?_
  | with_reducible refine s_iStr ?_
  | with_reducible refine s_iRng1 ?_
  | with_reducible refine s_iRng2 ?_
  | with_reducible refine s_iEnum ?_
  | with_reducible refine s_iEnumT ?_
  | with_reducible refine s_iEnumS ?_
  | with_reducible refine s_iZip ?_
  | with_reducible refine s_iZipM ?_
  | with_reducible refine s_srcS ?_
  | with_reducible refine s_srcES ?_
  | ((with_reducible refine' s_srcT ?h1 ?h2); (case h1 => assumption))
  | ((with_reducible refine' s_srcL ?h1 ?h2); (case h1 => assumption))
  | ((with_reducible refine' s_srcE ?h1 ?h2); (case h1 => assumption))
  | ((with_reducible refine' s_srcET ?h1 ?h2); (case h1 => assumption))
  | ((with_reducible refine' s_rng1 ?h1 ?h2); (case h1 => omega))
  | ((with_reducible refine' s_rng2 ?h1 ?h2); (case h1 => omega))
  | with_reducible refine s_ckw ?_
  | ((with_reducible refine' s_sorted ?h1 ?h2); (case h1 => assumption))
  | ((with_reducible refine' s_inN ?h1 ?h2); (case h1 => assumption))
  | ((with_reducible refine' s_ninN ?h1 ?h2); (case h1 => assumption))
  | ((with_reducible refine' s_tupL ?h1 ?h2); (case h1 => assumption))
  | ((with_reducible refine' s_tupT ?h1 ?h2); (case h1 => assumption))
  | ((with_reducible refine' s_lstL ?h1 ?h2); (case h1 => assumption))
  | ((with_reducible refine' s_lstT ?h1 ?h2); (case h1 => assumption))
  | ((with_reducible refine' s_addS2 ?h1 ?h2); (case h1 => (simp only [List.length_append, letL_len]; omega)); (rw [sOf_add]))
  | with_reducible refine s_sl ?_
  | with_reducible refine s_part ?_
  | with_reducible refine s_partV ?_
  | with_reducible refine s_nopart ?_
  | ((with_reducible refine' s_cutTake ?h1 ?h2); (case h1 => assumption))
  | ((with_reducible refine' s_cutDrop ?h1 ?h2); (case h1 => assumption))
  | with_reducible refine s_isiII ?_
  | with_reducible refine s_isiIB ?_
  | with_reducible refine s_isiSS ?_
  | ((with_reducible refine' s_isiTT ?h1 ?h2); (case h1 => assumption))
  | ((with_reducible refine' s_aug ?h1 ?h2); (case h1 => rfl))
  | with_reducible refine s_ipN ?_
  | with_reducible refine s_ip ?_
  | with_reducible refine s_gsub ?_
  | with_reducible refine s_wh ?_
  | with_reducible refine s_join ?_
  | ((with_reducible refine' s_ixT ?h1 ?h2 ?h3); (case h1 => assumption); (case h2 => rfl))
  | ((with_reducible refine' s_at ?h1 ?h2 ?h3); (case h1 => assumption); (case h2 => assumption))
  | with_reducible refine s_make ?_
  | with_reducible refine s_dgetK ?_
  | with_reducible refine s_dput ?_
  | with_reducible refine s_chain ?_)

/-- a region's object -/
def isR (K : PySem.W.Frag) (n : Nat) : Rp (List Row) := fun H v rs => ∃ a dx fs iv, v = .ref a ∧ H a = some (.ins (He.ga K "Region") dx fs) ∧ List.lookup (Str.ofString "number") fs = some (nV rs.length) ∧ List.lookup (Str.ofString "inside") fs = some iv ∧ isT (isP K n) H iv rs ∧ done fs = true
theorem monoR {K : PySem.W.Frag} {n : Nat} : MonoS (isR K n) := fun _ _ _ _ s ⟨a, dx, fs, iv, e, h, l1, l2, t, d⟩ => ⟨a, dx, fs, iv, e, s a _ h d, l1, l2, monoT monoP _ _ _ _ s t, d⟩
def Up (n : Nat) (l : List Nat) : Prop := l.Pairwise (· < ·) ∧ ∀ p ∈ l, p < n
theorem Up.nodup {n : Nat} {l : List Nat} (h : Up n l) : l.Nodup := h.1.imp fun z => Nat.ne_of_lt z
section
variable {P : Program} {w : World} {K : PySem.W.Frag} {mg : Str → Option Value} {base : Heap}
def sp_Region_init (K : PySem.W.Frag) : Sp := fun vs H Q _ => ∃ a dx H0 n v rs, vs = [.ref a, nV rs.length, v] ∧ H0 a = none ∧ H = upd H0 a (.ins (He.ga K "Region") dx []) ∧ isT (isP K n) H0 v rs ∧ ∀ H', Same H0 H' → isR K n H' (.ref a) rs → Q .non H'
theorem ok_Region_init (T : Tx K mg) : FnOk P w K mg base CX0 1 (He.fAd K ("Region", some "__init__")) T.fd_Region_init ["self", "number", "inside"] (sp_Region_init K) := by
  refine okD T.F_Region_init sc_Region_init (fun vs H Q E h => by obtain ⟨a, dx, H0, n, v, rs, rfl, _⟩ := h; rfl) (fun cdv A outer s H vs Q E hr h => ?_)
  obtain ⟨a, dx, H0, n, v, rs, rfl, ha0, rfl, hv, k⟩ := h
  refine ⟨_, (pss_cons (xs_fld T.c_Region T.a_Region_number (pv 0) (pv 1))
  (pss_one (xs_fld T.c_Region T.a_Region_inside (pv 0) (pe_callTy xc_tupT (by rfl) T.n_tuple (by decide +kernel) (pa_cons (pv 2) pa_nil))))), ?_⟩
  repeat walk_at "st"
  refine s_putF upd_same rfl (same_new ha0) ha0 (m := 0) (Nat.zero_le _) (by omega) fun H1 fs1 e1 so1 s1 ha1 kp1 l1 lk1 n1 => ?_
  have d1 : done fs1 = false := by rw [e1, done_put (by decide +kernel)]; rfl
  obtain ⟨ip, is, rfl, hip, hii⟩ := hv
  have hip1 := s1 _ _ hip
  repeat walk_at "st"
  refine s_putF ha1 d1 s1 ha0 n1 (by omega) fun H2 fs2 e2 so2 s2 ha2 kp2 l2 lk2 n2 => ?_
  show Q .non _
  exact k H2 s2 ⟨a, dx, fs2, .ref ip, rfl, ha2, lk2 _ _ l1 (by decide +kernel), l2, ⟨ip, is, rfl, s2 _ _ hip, hii.mono monoP (Sol.of s2)⟩, by unfold done; rw [l2]; simp⟩

def sp_told_lot (K : PySem.W.Frag) : Sp := fun vs H Q _ => ∃ cv lv n c l, vs = [cv, lv] ∧ isC K n H cv c ∧ (isBits H lv l ∨ isL isN H lv l) ∧ Up n l ∧ l.length ≤ 100 ∧ ∀ v' H', Same H H' → isBits H' v' l → Q v' H'
theorem ok_told_lot (T : Tx K mg) : FnOk P w K mg base CX0 1 (He.fAd K ("told_lot", none)) T.fd_told_lot ["code", "lot"] (sp_told_lot K) := by
  refine okD T.F_told_lot sc_told_lot (fun vs H Q E h => by obtain ⟨a, dx, n, v, rs, rfl, _⟩ := h; rfl) (fun cdv A outer s H vs Q E hr h => ?_)
  obtain ⟨cv, lv, n, c, l, rfl, ⟨a, dx, fs, gv, av, rfl, ha, lsz, _, _, _, _, _⟩, hl, hup, hlen, k⟩ := h
  have step : ∀ (i : Nat) (d m : Nat), l[i]? = some d → (∀ j p, i ≤ j → l[j]? = some p → m ≤ p) → m ≤ d ∧ d < n ∧ ∀ j p, i + 1 ≤ j → l[j]? = some p → d + 1 ≤ p := fun i d m hd hm => by
    refine ⟨hm i d (Nat.le_refl _) hd, hup.2 d (mem_idx hd), fun j p hj hp => ?_⟩
    obtain ⟨h1, rfl⟩ := List.getElem?_eq_some_iff.mp hd
    obtain ⟨h2, rfl⟩ := List.getElem?_eq_some_iff.mp hp
    exact (List.pairwise_iff_getElem.mp hup.1) i j h1 h2 (by omega)
  rcases hl with ⟨p, rfl, hp⟩ | ⟨p, xs, rfl, hp, hi⟩
  · refine ⟨_, (pss_cons (ps_if (pt_not (pt_val (pe_callB call_isiT (by rfl) T.n_isinstance (by decide +kernel) (pa_cons (pv 1) (pa_cons (pe_tup (pa_cons (pe_bltn (v := .ty "tuple") (by rfl) T.n_tuple (by decide +kernel) rfl) (pa_cons (pe_bltn (v := .ty "list") (by rfl) T.n_list (by decide +kernel) rfl) pa_nil))) pa_nil))))) (pss_one ps_never) pss_nil)
  (pss_cons (ps_set (i := 2) sc_told_lot.nd rfl (.inl rfl) (pe_nat 0))
  (pss_cons (ps_for PassesOwn.never rfl (pi_tup (pv 1)) (pg_name (i := 3) sc_told_lot.nd rfl (.inl rfl))
  (pss_cons (ps_if (PW.pt (pw_or (pt_not (pt_val (pe_callB call_isi (by rfl) T.n_isinstance (by decide +kernel) (pa_cons (pv 3) (pa_cons (pe_bltn (v := .ty "int") (by rfl) T.n_int (by decide +kernel) rfl) pa_nil))))) (pw_or (pt_val (pe_callB call_isi (by rfl) T.n_isinstance (by decide +kernel) (pa_cons (pv 3) (pa_cons (pe_bltn (v := .ty "bool") (by rfl) T.n_bool (by decide +kernel) rfl) pa_nil)))) (pw_or1 (pt_not (pt_chain on_le on_lt (pv 2) (pv 3) (xe_fld T.c_Code T.a_Code_size (pv 0)))))))) (pss_one ps_never) pss_nil)
  (pss_one (ps_set (i := 2) sc_told_lot.nd rfl (.inl rfl) (pe_op on_add (pv 3) (pe_nat 1))))))
  (pss_one (ps_ret (pe_callTy xc_tupT (by rfl) T.n_tuple (by decide +kernel) (pa_cons (pv 1) pa_nil))))))), ?_⟩
    repeat walk_at "st"
    intro t ht
    have s1 := same_new (o := .tup [.ty "tuple", .ty "list"]) ht
    repeat walk_at "st"
    refine s_isiTup (s1 _ _ hp) upd_same ?_
    refine s_bl ?_
    refine s_ifF rfl ?_
    have hp1 := s1 _ _ hp
    repeat walk_at "st"
    refine for_it (n := (l.map nV).length) (walk_tup (K := K) (xs := l.map nV)) (fun i σ' H' => Same H H' ∧ ∃ m o, σ' = [some (.ref a), some (.ref p), some (nV m), o] ∧ ∀ j p, i ≤ j → l[j]? = some p → m ≤ p) ⟨s1, 0, _, rfl, fun _ _ _ _ => Nat.zero_le _⟩ (fun _ _ _ _ h => SqT.of (h.1 _ _ hp)) ?_ ?_
    · rintro i x σ' H1 H1' hin ⟨s2, m, o, rfl, hm⟩ ⟨rfl, y⟩
      obtain ⟨d, hd, rfl⟩ := getN y
      obtain ⟨z1, z2, z3⟩ := step i d m hd hm
      have ha2 := s2 _ _ ha
      repeat walk_at "st"
      refine s_ifF rfl ?_
      repeat walk_at "st"
      refine s_ifF rfl ?_
      repeat walk_at "st"
      refine s_ifT (decide_eq_true z1) ?_
      repeat walk_at "st"
      refine s_ifF (by simp [z2]) ?_
      repeat walk_at "st"
      exact ⟨s2, _, _, rfl, z3⟩
    · rintro σ' H1 ⟨s2, m, o, rfl, hm⟩
      have hp2 := s2 _ _ hp
      repeat walk_at "st"
      exact k _ _ s2 ⟨p, rfl, hp2⟩
  · refine ⟨_, (pss_cons (ps_if (pt_not (pt_val (pe_callB call_isiT (by rfl) T.n_isinstance (by decide +kernel) (pa_cons (pv 1) (pa_cons (pe_tup (pa_cons (pe_bltn (v := .ty "tuple") (by rfl) T.n_tuple (by decide +kernel) rfl) (pa_cons (pe_bltn (v := .ty "list") (by rfl) T.n_list (by decide +kernel) rfl) pa_nil))) pa_nil))))) (pss_one ps_never) pss_nil)
  (pss_cons (ps_set (i := 2) sc_told_lot.nd rfl (.inl rfl) (pe_nat 0))
  (pss_cons (ps_for PassesOwn.never rfl (pi_list (pv 1)) (pg_name (i := 3) sc_told_lot.nd rfl (.inl rfl))
  (pss_cons (ps_if (PW.pt (pw_or (pt_not (pt_val (pe_callB call_isi (by rfl) T.n_isinstance (by decide +kernel) (pa_cons (pv 3) (pa_cons (pe_bltn (v := .ty "int") (by rfl) T.n_int (by decide +kernel) rfl) pa_nil))))) (pw_or (pt_val (pe_callB call_isi (by rfl) T.n_isinstance (by decide +kernel) (pa_cons (pv 3) (pa_cons (pe_bltn (v := .ty "bool") (by rfl) T.n_bool (by decide +kernel) rfl) pa_nil)))) (pw_or1 (pt_not (pt_chain on_le on_lt (pv 2) (pv 3) (xe_fld T.c_Code T.a_Code_size (pv 0)))))))) (pss_one ps_never) pss_nil)
  (pss_one (ps_set (i := 2) sc_told_lot.nd rfl (.inl rfl) (pe_op on_add (pv 3) (pe_nat 1))))))
  (pss_one (ps_ret (pe_callTy xc_tupL (by rfl) T.n_tuple (by decide +kernel) (pa_cons (pv 1) pa_nil))))))), ?_⟩
    obtain rfl := hi.eqN
    repeat walk_at "st"
    intro t ht
    have s1 := same_new (o := .tup [.ty "tuple", .ty "list"]) ht
    repeat walk_at "st"
    refine s_isiLst (s1 _ _ hp) upd_same ?_
    refine s_bl ?_
    refine s_ifF rfl ?_
    have hp1 := s1 _ _ hp
    repeat walk_at "st"
    refine for_it (n := (l.map nV).length) (walk_list (K := K) (xs := l.map nV)) (fun i σ' H' => Same H H' ∧ ∃ m o, σ' = [some (.ref a), some (.ref p), some (nV m), o] ∧ ∀ j p, i ≤ j → l[j]? = some p → m ≤ p) ⟨s1, 0, _, rfl, fun _ _ _ _ => Nat.zero_le _⟩ (fun _ _ _ _ h => SqL.of (h.1 _ _ hp)) ?_ ?_
    · rintro i x σ' H1 H1' hin ⟨s2, m, o, rfl, hm⟩ ⟨rfl, y⟩
      obtain ⟨d, hd, rfl⟩ := getN y
      obtain ⟨z1, z2, z3⟩ := step i d m hd hm
      have ha2 := s2 _ _ ha
      repeat walk_at "st"
      refine s_ifF rfl ?_
      repeat walk_at "st"
      refine s_ifF rfl ?_
      repeat walk_at "st"
      refine s_ifT (decide_eq_true z1) ?_
      repeat walk_at "st"
      refine s_ifF (by simp [z2]) ?_
      repeat walk_at "st"
      exact ⟨s2, _, _, rfl, z3⟩
    · rintro σ' H1 ⟨s2, m, o, rfl, hm⟩
      have hp2 := s2 _ _ hp
      repeat walk_at "st"
      intro l2 hl2
      exact k _ _ (Same.nw s2 hl2) ⟨l2, rfl, upd_same⟩

def sp_group_rows (K : PySem.W.Frag) : Sp := fun vs H Q _ => ∃ cv n c, vs = [cv] ∧ isC K n H cv c ∧ n ≤ 100 ∧ c.1.length ≤ 1000 ∧ ∀ v' H', Same H H' → isL isRow H' v' c.1 → Q v' H'
theorem ok_group_rows (T : Tx K mg) : FnOk P w K mg base CX0 2 (He.fAd K ("group_rows", none)) T.fd_group_rows ["code"] (sp_group_rows K) := by
  have G_row_of := ok_row_of (P := P) (w := w) (base := base) T
  refine okD T.F_group_rows sc_group_rows (fun vs H Q E h => by obtain ⟨a, dx, n, rfl, _⟩ := h; rfl) (fun cdv A outer s H vs Q E hr h => ?_)
  obtain ⟨cv, n, c, rfl, ⟨a, dx, fs, gv, av, rfl, ha, lsz, lgr, ⟨ga, gdx, gfs, rv, rfl, hga, lrw, ⟨rp', rs, rfl, hrp, hri⟩, gd⟩, _, _, _⟩, hn, hlen, k⟩ := h
  refine ⟨_, (pss_one (ps_ret (pe_lc (own := [("string", 1)]) rfl sc_group_rows.nd (pi_tup (xe_fld T.c_Group T.a_Group_rows (xe_fld T.c_Code T.a_Code_group (pv 0)))) (blkOk_by (N := ["code", "string"]) (sc := defScope s_group_rows) (by decide +kernel)) (fun _ _ _ _ _ => (pg_name (i := 1) sc_group_rows.nd rfl (.inl rfl))) (fun _ _ _ _ _ => pts_nil) (fun _ _ _ _ _ => (pe_call G_row_of (hr.mono (by decide)) (by rfl) T.m_row_of T.F_row_of.kp T.b_row_of .nil pass0 (pa_cons (pv 1) pa_nil)))))), ?_⟩
  have hrl := hri.len
  repeat walk_at "st"
  refine lcM (walk_tup (K := K) (xs := rs)) c.1 id isRow monoRow hrl.symm (by omega) (fun _ s => SqT.of (s _ _ hrp)) (fun _ _ _ _ y => yat_same y) ?_ ?_
  · rintro i d y H5 H6 hd s5 ⟨rfl, y⟩ Qc qc
    have hx := monoP _ _ _ _ (Sol.of s5) (hri.at y hd)
    walk_at "st"
    refine ⟨rfl, ?_⟩
    repeat walk_at "st"
    exact ⟨_, n, d, rfl, hx, hn, fun v' H7 s7 h7 => qc _ _ s7 h7⟩
  · intro D vs5 H5 hD s5 h5 hi5
    rw [List.map_id] at hi5
    exact k _ _ s5 ⟨D, vs5, rfl, h5, hi5⟩
def sp_empty_rows (K : PySem.W.Frag) : Sp := fun vs H Q _ => ∃ cv n c, vs = [cv] ∧ isC K n H cv c ∧ n ≤ 100 ∧ c.1.length ≤ 1000 ∧ c.2.length ≤ 1000 ∧ ∀ v' H', Same H H' → isL isRow H' v' (c.1 ++ c.2) → Q v' H'
theorem ok_empty_rows (T : Tx K mg) : FnOk P w K mg base CX0 3 (He.fAd K ("empty_rows", none)) T.fd_empty_rows ["code"] (sp_empty_rows K) := by
  have G_row_of := ok_row_of (P := P) (w := w) (base := base) T
  have G_group_rows := ok_group_rows (P := P) (w := w) (base := base) T
  refine okD T.F_empty_rows sc_empty_rows (fun vs H Q E h => by obtain ⟨a, dx, n, rfl, _⟩ := h; rfl) (fun cdv A outer s H vs Q E hr h => ?_)
  obtain ⟨cv, n, c, rfl, hC, hn, hlen, hlen2, k⟩ := h
  obtain ⟨a, dx, fs, gv, av, rfl, ha, lsz, lgr, hg, lga, ⟨ap, as, rfl, hap, hai⟩, _⟩ := id hC
  refine ⟨_, (pss_one (ps_ret (pe_op op_cat (pe_call G_group_rows (hr.mono (by decide)) (by rfl) T.m_group_rows T.F_group_rows.kp T.b_group_rows .nil pass0 (pa_cons (pv 0) pa_nil)) (pe_lc (own := [("string", 1)]) rfl sc_empty_rows.nd (pi_tup (xe_fld T.c_Code T.a_Code_gauge (pv 0))) (blkOk_by (N := ["code", "string"]) (sc := defScope s_empty_rows) (by decide +kernel)) (fun _ _ _ _ _ => (pg_name (i := 1) sc_empty_rows.nd rfl (.inl rfl))) (fun _ _ _ _ _ => pts_nil) (fun _ _ _ _ _ => (pe_call G_row_of (hr.mono (by decide)) (by rfl) T.m_row_of T.F_row_of.kp T.b_row_of .nil pass0 (pa_cons (pv 1) pa_nil))))))), ?_⟩
  have hal := hai.len
  repeat walk_at "st"
  refine ⟨_, n, c, rfl, hC, hn, hlen, fun v1 H1 s1 h1 => ?_⟩
  obtain ⟨gp, gs, rfl, hgp, hgi⟩ := h1
  have ha1 := s1 _ _ ha
  have hap1 := s1 _ _ hap
  have hgl := hgi.len
  repeat walk_at "st"
  refine lcM (walk_tup (K := K) (xs := as)) c.2 id isRow monoRow hal.symm (by omega) (fun _ s => SqT.of (s _ _ hap1)) (fun _ _ _ _ y => yat_same y) ?_ ?_
  · rintro i d y H5 H6 hd s5 ⟨rfl, y⟩ Qc qc
    have hx := monoP _ _ _ _ (Sol.of (s1.trans s5)) (hai.at y hd)
    walk_at "st"
    refine ⟨rfl, ?_⟩
    repeat walk_at "st"
    exact ⟨_, n, d, rfl, hx, hn, fun v' H7 s7 h7 => qc _ _ s7 h7⟩
  · intro D vs5 H5 hD s5 h5 hi5
    rw [List.map_id] at hi5
    have hl5 := hi5.len
    refine s_cat (s5 _ _ hgp) h5 (by omega) fun q hq => ?_
    exact k _ _ (Same.nw (s1.trans s5) hq) ⟨q, _, rfl, upd_same, Itm.mono monoRow (Sol.of (same_new hq)) ((hgi.mono monoRow (Sol.of s5)).app hi5)⟩

def sp_units_on : Sp := fun vs H Q _ => ∃ v l, vs = [v] ∧ isBits H v l ∧ l.length ≤ 100 ∧ (∀ p ∈ l, p ≤ 1000) ∧ ∀ v' H', Same H H' → isL isRow H' v' (unitsOn l) → Q v' H'
theorem ok_units_on (T : Tx K mg) : FnOk P w K mg base CX0 1 (He.fAd K ("units_on", none)) T.fd_units_on ["lot"] (sp_units_on) := by
  refine okD T.F_units_on sc_units_on (fun vs H Q E h => by obtain ⟨a, dx, rfl, _⟩ := h; rfl) (fun cdv A outer s H vs Q E hr h => ?_)
  obtain ⟨v, l, rfl, ⟨p, rfl, hp⟩, hlen, hle, k⟩ := h
  refine ⟨_, (pss_cons (ps_set (i := 1) sc_units_on.nd rfl (.inl rfl) (pe_lst pa_nil))
  (pss_cons (ps_for PassesOwn.never rfl (pi_tup (pv 0)) (pg_name (i := 2) sc_units_on.nd rfl (.inl rfl))
  (pss_one (ps_expr (xe_bl PySem.F.slot_list_extend PySem.F.type_list_extend mt_extend (pv 1) (pa_cons (pe_lst (pa_cons (pe_tup (pa_cons (pe_op on_shl (pe_nat 1) (pv 2)) (pa_cons (pe_nat 0) (pa_cons (pe_nat 0) pa_nil)))) (pa_cons (pe_tup (pa_cons (pe_nat 0) (pa_cons (pe_op on_shl (pe_nat 1) (pv 2)) (pa_cons (pe_nat 0) pa_nil)))) pa_nil))) pa_nil)))))
  (pss_one (ps_ret (pv 1))))), ?_⟩
  repeat walk_at "st"
  intro fp hfp
  have s1 := same_new (o := .lst []) hfp
  have hp1 := s1 _ _ hp
  repeat walk_at "st"
  refine for_it (n := (l.map nV).length) (walk_tup (K := K) (xs := l.map nV)) (fun i σ' H' => Same H H' ∧ ∃ xs o, σ' = [some (.ref p), some (.ref fp), o] ∧ H' fp = some (.lst xs) ∧ Itm isRow H' xs (unitsOn (l.take i))) ⟨s1, [], _, rfl, upd_same, .nil⟩ (fun _ _ _ _ h => SqT.of (h.1 _ _ hp)) ?_ ?_
  · rintro i x σ' H1 H1' hin ⟨s2, xs, o, rfl, h2, hi2⟩ ⟨rfl, y⟩
    obtain ⟨d, hd, rfl⟩ := getN y
    have hd2 := hle d (mem_idx hd)
    have hxl := hi2.len
    rw [unitsOn_len, List.length_take] at hxl
    repeat walk_at "st"
    intro t1 ht1
    repeat walk_at "st"
    intro t2 ht2
    repeat walk_at "st"
    intro l3 hl3
    have s3 := same_new (o := .tup [nV (1 <<< d), nV 0, nV 0]) ht1
    have s4 := same_new (o := .tup [nV 0, nV (1 <<< d), nV 0]) ht2
    have s5 := same_new (o := .lst [.ref t1, .ref t2]) hl3
    have s35 := (s3.trans s4).trans s5
    have hf5 := s35 _ _ h2
    repeat walk_at "st"
    refine s_extend hf5 upd_same (by simp; omega) ?_
    have hun : unitsOn (l.take (i + 1)) = unitsOn (l.take i) ++ unitp d := by
      unfold unitsOn
      rw [List.take_add_one, hd, List.flatMap_append]; simp
    have so := Sol.updL (o := .lst (xs ++ [.ref t1, .ref t2])) hf5
    refine ⟨same_mut (s2.trans s35) hfp, _, _, rfl, upd_same, ?_⟩
    rw [hun]
    refine (hi2.mono monoRow ((Sol.of s35).trans so)).app (.cons (monoRow _ _ _ _ so ⟨t1, rfl, s5 _ _ (s4 _ _ upd_same)⟩) (.cons (monoRow _ _ _ _ so ⟨t2, rfl, s5 _ _ upd_same⟩) .nil))
  · rintro σ' H1 ⟨s2, xs, o, rfl, h2, hi2⟩
    rw [List.take_of_length_le (by simp)] at hi2
    repeat walk_at "st"
    exact k _ _ s2 ⟨fp, xs, rfl, h2, hi2⟩

def sp_bits_on : Sp := fun vs H Q _ => ∃ v u r l, vs = [v, u] ∧ isRow H v r ∧ isBits H u l ∧ l.length ≤ 100 ∧ ∀ v' H', Same H H' → isBits H' v' (bitsOn r.xz l) → Q v' H'
theorem ok_bits_on (T : Tx K mg) : FnOk P w K mg base CX0 1 (He.fAd K ("bits_on", none)) T.fd_bits_on ["row", "lot"] (sp_bits_on) := by
  refine okD T.F_bits_on sc_bits_on (fun vs H Q E h => by obtain ⟨a, dx, _, _, rfl, _⟩ := h; rfl) (fun cdv A outer s H vs Q E hr h => ?_)
  obtain ⟨v, u, r, l, rfl, ⟨q, rfl, hq⟩, ⟨p, rfl, hp⟩, hlen, k⟩ := h
  refine ⟨_, (pss_cons (ps_set (i := 2) sc_bits_on.nd rfl (.inl rfl) (pe_lst pa_nil))
  (pss_cons (ps_for PassesOwn.never rfl (pi_tup (pv 1)) (pg_name (i := 3) sc_bits_on.nd rfl (.inl rfl))
  (pss_one (ps_expr (xe_bl PySem.F.slot_list_extend PySem.F.type_list_extend mt_extend (pv 2) (pa_cons (pe_lst (pa_cons (pe_op on_and (pe_op on_shr (pe_ix xi_tup (pv 0) (pe_nat 0) (fun _ _ => rfl)) (pv 3)) (pe_nat 1)) (pa_cons (pe_op on_and (pe_op on_shr (pe_ix xi_tup (pv 0) (pe_nat 1) (fun _ _ => rfl)) (pv 3)) (pe_nat 1)) pa_nil))) pa_nil)))))
  (pss_one (ps_ret (pe_callTy xc_tupL (by rfl) T.n_tuple (by decide +kernel) (pa_cons (pv 2) pa_nil)))))), ?_⟩
  repeat walk_at "st"
  intro fp hfp
  have s1 := same_new (o := .lst []) hfp
  have hp1 := s1 _ _ hp
  repeat walk_at "st"
  refine for_it (n := (l.map nV).length) (walk_tup (K := K) (xs := l.map nV)) (fun i σ' H' => Same H H' ∧ ∃ o, σ' = [some (.ref q), some (.ref p), some (.ref fp), o] ∧ H' fp = some (.lst ((bitsOn r.xz (l.take i)).map nV))) ⟨s1, _, rfl, upd_same⟩ (fun _ _ _ _ h => SqT.of (h.1 _ _ hp)) ?_ ?_
  · rintro i x σ' H1 H1' hin ⟨s2, o, rfl, h2⟩ ⟨rfl, y⟩
    obtain ⟨d, hd, rfl⟩ := getN y
    have hxl := bitsOn_len r.xz (l.take i)
    rw [List.length_take] at hxl
    have hq2 := s2 _ _ hq
    repeat walk_at "st"
    intro l3 hl3
    have s3 := same_new (o := .lst [nV (r.x >>> d &&& 1), nV (r.z >>> d &&& 1)]) hl3
    repeat walk_at "st"
    refine s_extend (s3 _ _ h2) upd_same (by simp; omega) ?_
    have hun : bitsOn r.xz (l.take (i + 1)) = bitsOn r.xz (l.take i) ++ bitp r.xz d := by
      unfold bitsOn
      rw [List.take_add_one, hd, List.flatMap_append]; simp
    refine ⟨same_mut (s2.trans s3) hfp, _, rfl, ?_⟩
    rw [upd_same, hun, List.map_append]
    rfl
  · rintro σ' H1 ⟨s2, o, rfl, h2⟩
    rw [List.take_of_length_le (by simp)] at h2
    repeat walk_at "st"
    intro t ht
    exact k _ _ (Same.nw s2 ht) ⟨t, rfl, upd_same⟩
end
end Kq

set_option Elab.async false
set_option linter.all false
set_option maxRecDepth 100000
set_option maxHeartbeats 4000000
/-! regions walked -/
namespace Kq
open PySem PySem.Spec PyProof.Rows L2 XG
local macro_rules | `(tactic| walk_at "st") => `(tactic| first
  | with_reducible refine s_seq ?_
  | ((with_reducible refine' s_var ?h1 ?h2); (case h1 => rfl))
  | with_reducible refine s_c ?_
  | with_reducible refine s_op ?_
  | with_reducible refine s_asg ?_
  | with_reducible refine s_name ?_
  | with_reducible refine s_cons ?_
  | with_reducible refine s_nil ?_
  | with_reducible refine s_call ?_
  | with_reducible refine s_CB ?_
  | with_reducible refine s_add ?_
  | ((with_reducible refine' s_sub ?h1 ?h2); (case h1 => omega))
  | ((with_reducible refine' s_mul ?h1 ?h2); (case h1 => omega))
  | ((with_reducible refine' s_mod ?h1 ?h2); (case h1 => omega))
  | ((with_reducible refine' s_div ?h1 ?h2); (case h1 => omega))
  | ((with_reducible refine' s_shl ?h1 ?h2); (case h1 => omega))
  | with_reducible refine s_shr ?_
  | with_reducible refine s_and ?_
  | with_reducible refine s_or ?_
  | with_reducible refine s_xor ?_
  | with_reducible refine s_lt ?_
  | with_reducible refine s_le ?_
  | with_reducible refine s_gt ?_
  | with_reducible refine s_ge ?_
  | with_reducible refine s_eqN ?_
  | with_reducible refine s_neN ?_
  | with_reducible refine s_eqS ?_
  | with_reducible refine s_neS ?_
  | with_reducible refine s_I0 ?_
  | with_reducible refine s_un ?_
  | with_reducible refine s_neg ?_
  | with_reducible refine s_test ?_
  | with_reducible refine s_B ?_
  | with_reducible refine s_bl ?_
  | with_reducible refine s_ifS ?_
  | with_reducible refine s_ifE ?_
  | with_reducible refine s_not ?_
  | with_reducible refine s_and2 ?_
  | with_reducible refine s_or2 ?_
  | with_reducible refine s_andV ?_
  | with_reducible refine s_orV ?_
  | with_reducible refine s_notV ?_
  | with_reducible refine s_tru ?_
  | with_reducible refine s_par ?_
  | with_reducible refine s_two ?_
  | with_reducible refine s_par3 ?_
  | with_reducible refine s_three ?_
  | with_reducible refine s_lst ?_
  | with_reducible refine s_tup ?_
  | ((with_reducible refine' s_size ?h1 ?h2); (case h1 => exact Nat.le_of_ble_eq_true rfl))
  | with_reducible refine s_fld ?_
  | with_reducible refine s_gcons ?_
  | with_reducible refine s_gnil ?_
  | with_reducible refine s_intN ?_
  | with_reducible refine s_intI ?_
  | with_reducible refine s_tTru ?_
  | with_reducible refine s_tBL ?_
  | with_reducible refine s_sign ?_
  | with_reducible refine s_min ?_
  | with_reducible refine s_sfld ?_
  | with_reducible refine s_gfld ?_
  | with_reducible refine s_intB ?_
  | with_reducible refine s_next ?_
  | with_reducible refine s_ret ?_
  | with_reducible refine s_drop ?_
  | with_reducible refine s_for ?_
  | with_reducible refine s_lc ?_
  | with_reducible refine s_yes ?_
  | with_reducible refine s_bits ?_
  | with_reducible refine s_bitsV ?_
  | ((with_reducible refine' s_own ?h1 ?h2); (case h1 => assumption))
  | ((with_reducible refine' s_len ?h1 ?h2); (case h1 => assumption))
  | ((with_reducible refine' s_lenT ?h1 ?h2); (case h1 => assumption))
  | with_reducible refine s_iTup ?_
  | with_reducible refine s_iList ?_
  | with_reducible refine s_iStr ?_
  | with_reducible refine s_iRng1 ?_
  | with_reducible refine s_iRng2 ?_
  | with_reducible refine s_iEnum ?_
  | with_reducible refine s_iEnumT ?_
  | with_reducible refine s_iEnumS ?_
  | with_reducible refine s_iZip ?_
  | with_reducible refine s_iZipM ?_
  | with_reducible refine s_srcS ?_
  | with_reducible refine s_srcES ?_
  | ((with_reducible refine' s_srcT ?h1 ?h2); (case h1 => assumption))
  | ((with_reducible refine' s_srcL ?h1 ?h2); (case h1 => assumption))
  | ((with_reducible refine' s_srcE ?h1 ?h2); (case h1 => assumption))
  | ((with_reducible refine' s_srcET ?h1 ?h2); (case h1 => assumption))
  | ((with_reducible refine' s_rng1 ?h1 ?h2); (case h1 => omega))
  | ((with_reducible refine' s_rng2 ?h1 ?h2); (case h1 => omega))
  | with_reducible refine s_ckw ?_
  | ((with_reducible refine' s_sorted ?h1 ?h2); (case h1 => assumption))
  | ((with_reducible refine' s_inN ?h1 ?h2); (case h1 => assumption))
  | ((with_reducible refine' s_ninN ?h1 ?h2); (case h1 => assumption))
  | ((with_reducible refine' s_tupL ?h1 ?h2); (case h1 => assumption))
  | ((with_reducible refine' s_tupT ?h1 ?h2); (case h1 => assumption))
  | ((with_reducible refine' s_lstL ?h1 ?h2); (case h1 => assumption))
  | ((with_reducible refine' s_lstT ?h1 ?h2); (case h1 => assumption))
  | ((with_reducible refine' s_addS2 ?h1 ?h2); (case h1 => (simp only [List.length_append, letL_len]; omega)); (rw [sOf_add]))
  | with_reducible refine s_sl ?_
  | with_reducible refine s_part ?_
  | with_reducible refine s_partV ?_
  | with_reducible refine s_nopart ?_
  | ((with_reducible refine' s_cutTake ?h1 ?h2); (case h1 => assumption))
  | ((with_reducible refine' s_cutDrop ?h1 ?h2); (case h1 => assumption))
  | with_reducible refine s_isiII ?_
  | with_reducible refine s_isiIB ?_
  | with_reducible refine s_isiSS ?_
  | ((with_reducible refine' s_isiTT ?h1 ?h2); (case h1 => assumption))
  | ((with_reducible refine' s_aug ?h1 ?h2); (case h1 => rfl))
  | with_reducible refine s_ipN ?_
  | with_reducible refine s_ip ?_
  | with_reducible refine s_gsub ?_
  | with_reducible refine s_wh ?_
  | with_reducible refine s_join ?_
  | ((with_reducible refine' s_ixT ?h1 ?h2 ?h3); (case h1 => assumption); (case h2 => rfl))
  | ((with_reducible refine' s_at ?h1 ?h2 ?h3); (case h1 => assumption); (case h2 => assumption))
  | with_reducible refine s_make ?_
  | with_reducible refine s_dgetK ?_
  | with_reducible refine s_dput ?_
  | with_reducible refine s_chain ?_)

theorem ker_good {n : Nat} {l : List Nat} {rows : List Row} (hl : ∀ p ∈ l, p < n) : ∀ bs ∈ kerBits (unitsOn l) rows, Bin bs ∧ bs.length = 2 * l.length ∧ (comb bs (unitsOn l)).ok n := fun bs hbs => by
  obtain ⟨k, hk, rfl⟩ := List.mem_map.mp hbs
  have hb := bitsOf_bin k (unitsOn l).length
  obtain ⟨e1, e2⟩ := comb_xz (us := unitsOn l) hb
  have hsn : Sn (uv l) (comb (bitsOf k (unitsOn l).length) (unitsOn l)).xz := by rw [e1]; exact lin_sn _ _
  have hw := within_span hsn
  exact ⟨hb, by rw [bitsOf_len, unitsOn_len], ⟨lt_of_bits fun i hi => hl i (hw i (.inl hi)), lt_of_bits fun i hi => hl i (hw i (.inr hi)), by rw [e2]; decide⟩⟩
theorem regStep_len (n : Nat) (us : List Row) (s : RS) (b : List Nat) : (regStep n us s b).known.length ≤ s.known.length + 1 ∧ (regStep n us s b).found.length ≤ s.found.length + 1 := by
  unfold regStep
  split
  · simp
  · simp
theorem regFold_len (n : Nat) (us : List Row) : ∀ (bss : List (List Nat)) (s : RS), (bss.foldl (regStep n us) s).known.length ≤ s.known.length + bss.length ∧ (bss.foldl (regStep n us) s).found.length ≤ s.found.length + bss.length
  | [], s => by simp
  | b :: bss, s => by
    have h1 := regStep_len n us s b
    have h2 := regFold_len n us bss (regStep n us s b)
    rw [List.foldl_cons, List.length_cons]; omega
theorem kerBits_len (us rows : List Row) : (kerBits us rows).length ≤ us.length := by
  unfold kerBits kerOf
  rw [List.length_map]
  have := (reduced_ok (kfound (reduced ((matOf us rows).map numOf)) us.length)).2.2
  have := kfound_len (reduced ((matOf us rows).map numOf)) us.length
  omega
section
variable {P : Program} {w : World} {K : PySem.W.Frag} {mg : Str → Option Value} {base : Heap}
def sp_region_of (K : PySem.W.Frag) : Sp := fun vs H Q _ => ∃ cv lv rv ov n c l rows others, vs = [cv, lv, rv, ov] ∧ isC K n H cv c ∧ isBits H lv l ∧ Up n l ∧ 1 ≤ n ∧ n ≤ 50 ∧ l.length ≤ 50 ∧ isL isRow H rv rows ∧ isL isRow H ov others ∧ rows.length ≤ 200 ∧ others.length ≤ 200 ∧
  ∀ v' H', Same H H' → isR K n H' v' (regF n l rows others).found → Q v' H'
theorem ok_region_of (T : Tx K mg) : FnOk P w K mg base CX0 6 (He.fAd K ("region_of", none)) T.fd_region_of ["code", "lot", "rows", "others"] (sp_region_of K) := by
  have G_units_on := ok_units_on (P := P) (w := w) (base := base) T
  have G_bits_on := ok_bits_on (P := P) (w := w) (base := base) T
  have G_bit_rank := ok_bit_rank (P := P) (w := w) (base := base) T
  have G_kernel_bits := ok_kernel_bits (P := P) (w := w) (base := base) T
  have G_crossing := ok_crossing (P := P) (w := w) (base := base) T
  have G_string_of := ok_string_of (P := P) (w := w) (base := base) T
  have G_Region_init := ok_Region_init (P := P) (w := w) (base := base) T
  refine okD T.F_region_of sc_region_of (fun vs H Q E h => by obtain ⟨a, dx, _, _, _, _, _, _, _, rfl, _⟩ := h; rfl) (fun cdv A outer s H vs Q E hr h => ?_)
  obtain ⟨cv, lv, rv, ov, n, c, l, rows, others, rfl, hC, hl, hup, hn1, hn, hll, ⟨rp', rs, rfl, hrp, hri⟩, ⟨op, os, rfl, hop, hoi⟩, hrl, hol, k⟩ := h
  obtain ⟨a, dx, fs, gv, av, rfl, ha, lsz, _, _, _, _, _⟩ := id hC
  refine ⟨_, (pss_cons (ps_asg (pe_tup (pa_cons (pe_call G_units_on (hr.mono (by decide)) (by rfl) T.m_units_on T.F_units_on.kp T.b_units_on .nil pass0 (pa_cons (pv 1) pa_nil)) (pa_cons (pe_lst pa_nil) pa_nil))) (xg_tup (n := 2) rfl (pgs_cons (pg_name (i := 4) sc_region_of.nd rfl (.inr rfl)) (pgs_cons (pg_name (i := 5) sc_region_of.nd rfl (.inl rfl)) pgs_nil))))
  (pss_cons (ps_set (i := 6) sc_region_of.nd rfl (.inr rfl) (pe_callTy xc_tupL (by rfl) T.n_tuple (by decide +kernel) (pa_cons (pe_lc (own := [("place", 13)]) rfl sc_region_of.nd (pi_range1 rfl T.n_range (pa_cons (xe_fld T.c_Code T.a_Code_size (pv 0)) pa_nil)) (blkOk_by (N := ["code", "lot", "rows", "others", "units", "found", "wide", "known", "rank", "bits", "row", "bit", "unit", "place"]) (sc := defScope s_region_of) (by decide +kernel)) (fun _ _ _ _ _ => (pg_name (i := 13) sc_region_of.nd rfl (.inl rfl))) (fun _ _ _ _ _ => pts_nil) (fun _ _ _ _ _ => (pv 13))) pa_nil)))
  (pss_cons (ps_setLc (own := [("row", 10)]) (i := 7) rfl sc_region_of.nd rfl rfl (sw_true rfl rfl rfl (by decide +kernel)) (pi_list (pv 3)) (blkOk_by (N := ["code", "lot", "rows", "others", "units", "found", "wide", "known", "rank", "bits", "row", "bit", "unit", "place"]) (sc := defScope s_region_of) (by decide +kernel)) (fun _ _ _ _ _ => (pg_name (i := 10) sc_region_of.nd rfl (.inl rfl))) (fun _ _ _ _ _ => pts_nil) (fun _ _ _ _ _ => (pe_call G_bits_on (hr.mono (by decide)) (by rfl) T.m_bits_on T.F_bits_on.kp T.b_bits_on .nil pass0 (pa_cons (pv 10) (pa_cons (pv 6) pa_nil)))))
  (pss_cons (ps_set (i := 8) sc_region_of.nd rfl (.inl rfl) (pe_call G_bit_rank (hr.mono (by decide)) (by rfl) T.m_bit_rank T.F_bit_rank.kp T.b_bit_rank .nil pass0 (pa_cons (pv 7) pa_nil)))
  (pss_cons (ps_for PassesOwn.never rfl (pi_tup (pe_call G_kernel_bits (hr.mono (by decide)) (by rfl) T.m_kernel_bits T.F_kernel_bits.kp T.b_kernel_bits .nil pass0 (pa_cons (pe_lc (own := [("row", 10)]) rfl sc_region_of.nd (pi_list (pv 2)) (blkOk_by (N := ["code", "lot", "rows", "others", "units", "found", "wide", "known", "rank", "bits", "row", "bit", "unit", "place"]) (sc := defScope s_region_of) (by decide +kernel)) (fun _ _ _ _ _ => (pg_name (i := 10) sc_region_of.nd rfl (.inr rfl))) (fun _ _ _ _ _ => pts_nil) (fun _ _ _ _ _ => (pe_callTy xc_tupL (by rfl) T.n_tuple (by decide +kernel) (pa_cons (pe_lc (own := [("unit", 12)]) rfl sc_region_of.nd (xp_list (K := K) (pv 4)) (blkOk_by rfl) (fun _ _ _ _ _ => (pg_name (i := 12) sc_region_of.nd rfl (.inl rfl))) (fun _ _ _ _ _ => pts_nil) (fun _ _ _ _ _ => (pe_call G_crossing (hr.mono (by decide)) (by rfl) T.m_crossing T.F_crossing.kp T.b_crossing .nil pass0 (pa_cons (pv 12) (pa_cons (pv 10) pa_nil))))) pa_nil)))) (pa_cons (pe_callB xc_lenL (by rfl) T.n_len (by decide +kernel) (pa_cons (pv 4) pa_nil)) pa_nil)))) (pg_name (i := 9) sc_region_of.nd rfl (.inl rfl))
  (pss_cons (ps_set (i := 10) sc_region_of.nd rfl (.inl rfl) (pe_tup (pa_cons (pe_nat 0) (pa_cons (pe_nat 0) (pa_cons (pe_nat 0) pa_nil)))))
  (pss_cons (ps_for PassesOwn.never rfl (pi_zipM (by rfl) T.n_zip (pa_cons (pv 9) (pa_cons (pv 4) pa_nil))) (xg_tup (n := 2) rfl (pgs_cons (pg_name (i := 11) sc_region_of.nd rfl (.inl rfl)) (pgs_cons (pg_name (i := 12) sc_region_of.nd rfl (.inl rfl)) pgs_nil)))
  (pss_one (ps_set (i := 10) sc_region_of.nd rfl (.inl rfl) (pe_tup (pa_cons (pe_op on_xor (pe_ix xi_tup (pv 10) (pe_nat 0) (fun _ _ => rfl)) (pe_op on_mul (pe_ix xi_tup (pv 12) (pe_nat 0) (fun _ _ => rfl)) (pv 11))) (pa_cons (pe_op on_xor (pe_ix xi_tup (pv 10) (pe_nat 1) (fun _ _ => rfl)) (pe_op on_mul (pe_ix xi_tup (pv 12) (pe_nat 1) (fun _ _ => rfl)) (pv 11))) (pa_cons (pe_nat 0) pa_nil)))))))
  (pss_one (ps_if (pt_cmpR on_gt (pe_call G_bit_rank (hr.mono (by decide)) (by rfl) T.m_bit_rank T.F_bit_rank.kp T.b_bit_rank .nil pass0 (pa_cons (pe_op op_cat (pv 7) (pe_lst (pa_cons (pe_call G_bits_on (hr.mono (by decide)) (by rfl) T.m_bits_on T.F_bits_on.kp T.b_bits_on .nil pass0 (pa_cons (pv 10) (pa_cons (pv 6) pa_nil))) pa_nil))) pa_nil)) (pv 8) (nomark _)) (pss_cons (ps_expr (xe_bl PySem.F.slot_list_append PySem.F.type_list_append mt_append (pv 7) (pa_cons (pe_call G_bits_on (hr.mono (by decide)) (by rfl) T.m_bits_on T.F_bits_on.kp T.b_bits_on .nil pass0 (pa_cons (pv 10) (pa_cons (pv 6) pa_nil))) pa_nil)))
  (pss_cons (ps_expr (xe_bl PySem.F.slot_list_append PySem.F.type_list_append mt_append (pv 5) (pa_cons (pe_call G_string_of (hr.mono (by decide)) (by rfl) T.m_string_of T.F_string_of.kp T.b_string_of .nil pass0 (pa_cons (pv 10) (pa_cons (xe_fld T.c_Code T.a_Code_size (pv 0)) pa_nil))) pa_nil)))
  (pss_one (ps_set (i := 8) sc_region_of.nd rfl (.inl rfl) (pe_op on_add (pv 8) (pe_nat 1)))))) pss_nil)))))
  (pss_one (ps_ret (pe_make T.k_Region G_Region_init (hr.mono (by decide)) (by rfl) T.m_Region T.b_Region_init .nil pass0 (pa_cons (pe_callB xc_lenL (by rfl) T.n_len (by decide +kernel) (pa_cons (pv 5) pa_nil)) (pa_cons (pe_callTy xc_tupL (by rfl) T.n_tuple (by decide +kernel) (pa_cons (pv 5) pa_nil)) pa_nil)))))))))), ?_⟩
  repeat walk_at "st"
  refine ⟨_, l, rfl, hl, by omega, fun p hp => by have := hup.2 p hp; omega, fun v1 H1 s1 h1 => ?_⟩
  obtain ⟨up, us, rfl, hup1, hui1⟩ := h1
  repeat walk_at "st"
  intro fp hfp
  repeat walk_at "st"
  intro t1 ht1
  refine s_gtup upd_same rfl ?_
  have s2 := same_new (o := .lst []) hfp
  have s3 := same_new (o := .tup [.ref up, .ref fp]) ht1
  have s03 := (s1.trans s2).trans s3
  have hf3 : (upd (upd H1 fp (.lst [])) t1 (.tup [.ref up, .ref fp])) fp = some (.lst []) := s3 _ _ upd_same
  have hup3 := s3 _ _ (s2 _ _ hup1)
  have hui3 := hui1.mono monoRow (Sol.of (s2.trans s3))
  have hfp0 : H fp = none := s1.free hfp
  have nup1 : up ≠ fp := fun z => by rw [← z, hup1] at hfp; cases hfp
  generalize upd (upd H1 fp (.lst [])) t1 (.tup [.ref up, .ref fp]) = H3 at s03 hf3 hup3 hui3
  clear s2 s3 ht1 hfp hup1 hui1
  have ha3 := s03 _ _ ha
  have hul := hui3.len
  rw [unitsOn_len] at hul
  repeat walk_at "st"
  -- wide
  refine lcM (n := n) walk_rg0 (List.range n) id isN monoN (by simp) (by omega) (fun _ _ => trivial) (fun _ _ _ _ y => yfn_same y) ?_ ?_
  · rintro i d x H4 H5 hd s4 ⟨rfl, rfl⟩ Qc qc
    obtain ⟨hi, rfl⟩ := List.getElem?_eq_some_iff.mp hd
    rw [List.getElem_range] at qc
    walk_at "st"
    refine ⟨rfl, ?_⟩
    repeat walk_at "st"
    exact qc _ _ (Same.refl _) rfl
  intro D4 vs4 H4 hD4 s4 h4 hi4
  rw [List.map_id] at hi4
  obtain rfl := hi4.eqN
  repeat walk_at "st"
  intro wp hwp
  have s5 := same_new (o := .tup ((List.range n).map nV)) hwp
  have s05 := (s03.trans s4).trans s5
  have s35 := s4.trans s5
  have hwp5 : isBits (upd H4 wp (.tup ((List.range n).map nV))) (.ref wp) (List.range n) := ⟨wp, rfl, upd_same⟩
  have hf5 := s35 _ _ hf3
  have hup5 := s35 _ _ hup3
  have hui5 := hui3.mono monoRow (Sol.of s35)
  generalize upd H4 wp (.tup ((List.range n).map nV)) = H5 at s5 s05 s35 hwp5 hf5 hup5 hui5
  clear h4 hi4 hf3 hup3 hui3 s03 s35 s5 s4 ha3
  have hop5 := s05 _ _ hop
  have hol' := hoi.len
  repeat walk_at "st"
  -- known
  refine lcM (walk_list (K := K) (xs := os)) others (fun r => bitsOn r.xz (List.range n)) isBits monoBits hol'.symm (by omega) (fun _ s => SqL.of (s _ _ hop5)) (fun _ _ _ _ y => yat_same y) ?_ ?_
  · rintro i d y H6 H7 hd s6 ⟨rfl, y⟩ Qc qc
    have hx := monoRow _ _ _ _ (Sol.of (s05.trans s6)) (hoi.at y hd)
    walk_at "st"
    refine ⟨rfl, ?_⟩
    repeat walk_at "st"
    exact ⟨_, _, d, _, rfl, hx, monoBits _ _ _ _ (Sol.of s6) hwp5, by simp; omega, fun v' H8 s8 h8 => qc _ _ s8 h8⟩
  intro kp ks H6 hkp s6 h6 hi6
  have hkp0 : H kp = none := s05.free hkp
  have nup2 : up ≠ kp := fun z => by rw [← z, hup5] at hkp; cases hkp
  have nfk : fp ≠ kp := fun z => by rw [← z, hf5] at hkp; cases hkp
  have s06 := s05.trans s6
  have hf6 := s6 _ _ hf5
  have hup6 := s6 _ _ hup5
  have hui6 := hui5.mono monoRow (Sol.of s6)
  have hwp6 := monoBits _ _ _ _ (Sol.of s6) hwp5
  clear hop5 hf5 hup5 hui5 hwp5 s05 s6
  have hkl := hi6.len
  rw [List.length_map] at hkl
  repeat walk_at "st"
  refine ⟨_, _, rfl, ⟨kp, ks, rfl, h6, hi6⟩, by rw [List.length_map]; omega, fun H7 s7 => ?_⟩
  have s07 := s06.trans s7
  have hrp7 := s07 _ _ hrp
  have hrl' := hri.len
  have hup7 := s7 _ _ hup6
  have hui7 := hui6.mono monoRow (Sol.of s7)
  repeat walk_at "st"
  -- the matrix
  refine lcM (walk_list (K := K) (xs := rs)) rows (fun r => (unitsOn l).map fun u => cr u r) isBits monoBits hrl'.symm (by omega) (fun _ s => SqL.of (s _ _ hrp7)) (fun _ _ _ _ y => yat_same y) ?_ ?_
  · rintro i d y H8 H9 hd s8 ⟨rfl, y⟩ Qc qc
    have hx := monoRow _ _ _ _ (Sol.of (s07.trans s8)) (hri.at y hd)
    have hup8 := s8 _ _ hup7
    walk_at "st"
    refine ⟨rfl, ?_⟩
    repeat walk_at "st"
    refine lcM (walk_list (K := K) (xs := us)) (unitsOn l) (fun u => cr u d) isN monoN (by rw [unitsOn_len]; omega) (by omega) (fun _ s => SqL.of (s _ _ hup8)) (fun _ _ _ _ y => yat_same y) ?_ ?_
    · rintro j u y2 H10 H11 hd2 s10 ⟨rfl, y2⟩ Qc2 qc2
      have hx2 := monoRow _ _ _ _ (Sol.of (s8.trans s10)) (hui7.at y2 hd2)
      walk_at "st"
      refine ⟨rfl, ?_⟩
      repeat walk_at "st"
      exact ⟨_, _, u, d, rfl, hx2, monoRow _ _ _ _ (Sol.of s10) hx, qc2 _ _ (Same.refl _) rfl⟩
    · intro D10 vs10 H10 hD10 s10 h10 hi10
      obtain rfl := hi10.eqN
      repeat walk_at "st"
      intro t11 ht11
      exact qc _ _ (Same.nw s10 ht11) ⟨t11, rfl, upd_same⟩
  intro mp ms H8 hmp s8 h8 hi8
  have s08 := s07.trans s8
  have hup8 := s8 _ _ hup7
  repeat walk_at "st"
  refine ⟨_, matOf (unitsOn l) rows, us.length, rfl, ⟨mp, ms, rfl, h8, hi8⟩, by unfold matOf; rw [List.length_map]; omega, by omega, fun b hb => ?_, fun v9 H9 s9 h9 => ?_⟩
  · obtain ⟨z1, z2⟩ := mat_len _ _ b hb
    have := numOf_lt z2
    rwa [z1, unitsOn_len, ← hul] at this
  obtain ⟨bp, bvs, rfl, hbp, hbi⟩ := h9
  rw [show us.length = (unitsOn l).length from by rw [unitsOn_len]; exact hul] at hbi
  have hbi : Itm isBits H9 bvs (kerBits (unitsOn l) rows) := hbi
  have s69 := (s7.trans s8).trans s9
  have s09 := s06.trans s69
  have hf9 := s69 _ _ hf6
  have hup9 := s69 _ _ hup6
  have hui9 := hui6.mono monoRow (Sol.of s69)
  have hwp9 := monoBits _ _ _ _ (Sol.of s69) hwp6
  have h9k := s69 _ _ h6
  have hi9k := hi6.mono monoBits (Sol.of s69)
  clear s7 s8 s9 hf6 hup6 hui6 hwp6 h6 hi6 s07 s08 hrp7 hup7 hui7 h8 hi8 hup8 s06 s69
  have hker := ker_good (rows := rows) hup.2
  repeat walk_at "st"
  have hkb := kerBits_len (unitsOn l) rows
  rw [unitsOn_len] at hkb
  refine forW (walk_tup (K := K) (xs := bvs)) (kerBits (unitsOn l) rows) hbi.len.symm (regStep n (unitsOn l)) (regInit n others) (fun s σ' H' => ∃ ks fs' o9 o10 o11 o12 o13, σ' = [some (.ref a), some lv, some (.ref rp'), some (.ref op), some (.ref up), some (.ref fp), some (.ref wp), some (.ref kp), some (nV s.rank), o9, o10, o11, o12, o13] ∧ (∀ b o, b ≠ fp → b ≠ kp → H9 b = some o → H' b = some o) ∧ Same H H' ∧ H' kp = some (.lst ks) ∧ Itm isBits H' ks s.known ∧ H' fp = some (.lst fs') ∧ Itm (isP K n) H' fs' s.found) ?_ ?_ ?_ ?_
  · exact ⟨ks, [], _, _, _, _, _, rfl, fun _ _ _ _ h => h, s09, h9k, hi9k, hf9, .nil⟩
  · rintro s σ' H' ⟨_, _, _, _, _, _, _, _, hsm, _⟩
    refine SqT.of (hsm _ _ ?_ ?_ hbp)
    · intro z; rw [z, hf9] at hbp; cases hbp
    · intro z; rw [z, h9k] at hbp; cases hbp
  · rintro i bs x s σ' Hx H10 hd es ⟨ks, fs', o9, o10, o11, o12, o13, rfl, hsm, s010, hk10, hki10, hf10, hfi10⟩ ⟨rfl, y⟩
    have hx := hbi.at y hd
    obtain ⟨z1, z2, z3⟩ := hker bs (mem_idx hd)
    have hlens := regFold_len n (unitsOn l) ((kerBits (unitsOn l) rows).take i) (regInit n others)
    rw [← es, List.length_take] at hlens
    have hl1 : s.known.length ≤ 400 := by
      have e1 : (regInit n others).known.length = others.length := by simp [regInit]
      omega
    have hl2 : s.found.length ≤ 200 := by
      have e1 : (regInit n others).found.length = 0 := rfl
      omega
    clear hlens
    have solid9 : Sol H9 H10 := fun b o hb so => by
      refine hsm b o ?_ ?_ hb
      · intro z; rw [z, hf9] at hb; cases hb; exact so
      · intro z; rw [z, h9k] at hb; cases hb; exact so
    obtain ⟨q, rfl, hq9⟩ := hx
    have hq10 := solid9 _ _ hq9 trivial
    have hwp10 := monoBits _ _ _ _ solid9 hwp9
    have hui10 := hui9.mono monoRow solid9
    have hup10 := hsm _ _ nup1 nup2 hup9
    have ha10 := s010 _ _ ha
    repeat walk_at "st"
    intro t0 ht0
    have s11 := same_new (o := .tup [nV 0, nV 0, nV 0]) ht0
    have hr0 : isRow (upd H10 t0 (.tup [nV 0, nV 0, nV 0])) (.ref t0) ⟨0, 0, 0⟩ := ⟨t0, rfl, upd_same⟩
    generalize upd H10 t0 (.tup [nV 0, nV 0, nV 0]) = H11 at s11 hr0
    have hq11 := s11 _ _ hq10
    have hup11 := s11 _ _ hup10
    have hui11 := hui10.mono monoRow (Sol.of s11)
    have zl1 : (bs.map nV).length = us.length := by rw [List.length_map, z2]; exact hul.symm
    repeat walk_at "st"
    refine s_srcZM hq11 hup11 ?_
    refine forW (walk_zipM (K := K) (xs := bs.map nV) (ys := us) zl1) (bs.zip (unitsOn l)) (by rw [List.length_zip, unitsOn_len, z2, List.length_map, z2]; omega) combStep ⟨0, 0, 0⟩ (fun r σ' H' => ∃ rv o11 o12, σ' = [some (.ref a), some lv, some (.ref rp'), some (.ref op), some (.ref up), some (.ref fp), some (.ref wp), some (.ref kp), some (nV s.rank), some (.ref q), some rv, o11, o12, o13] ∧ Same H11 H' ∧ isRow H' rv r) ⟨_, _, _, rfl, Same.refl _, hr0⟩ ?_ ?_ ?_
    · rintro r σ' H' ⟨_, _, _, _, s12, _⟩
      exact ⟨SqT.of (s12 _ _ hq11), SqL.of (s12 _ _ hup11)⟩
    · rintro j c2 y r σ' H12 H13 hj _ ⟨rv, o11, o12, rfl, s12, p, rfl, hp⟩ ⟨T1, b1, u1, rfl, hT, rfl, eb, eu⟩
      obtain ⟨b, u⟩ := c2
      have hz := List.getElem?_zip_eq_some.mp hj
      obtain ⟨b', hb', rfl⟩ := getN eb
      rw [hz.1] at hb'
      cases hb'
      have hu := hui11.at eu hz.2
      obtain ⟨up1, rfl, hup1⟩ := monoRow _ _ _ _ (Sol.of (Same.nw (o := .tup [nV b, u1]) s12 hT)) hu
      have hb2 : b < 2 := z1 b (mem_idx hz.1)
      have hp13 := same_new (o := .tup [nV b, .ref up1]) hT _ _ hp
      have s13 := Same.nw (o := .tup [nV b, .ref up1]) s12 hT
      refine s_gtup upd_same rfl ?_
      repeat walk_at "st"
      intro t14 ht14
      repeat walk_at "st"
      exact ⟨_, _, _, rfl, Same.nw s13 ht14, t14, rfl, upd_same⟩
    · rintro σ' H12 ⟨rv, o11, o12, rfl, s12, hr12⟩
      have hr12 : isRow H12 rv (comb bs (unitsOn l)) := hr12
      have s1012 := s11.trans s12
      have hk12 := s1012 _ _ hk10
      have hki12 := hki10.mono monoBits (Sol.of s1012)
      have hf12 := s1012 _ _ hf10
      have hfi12 := hfi10.mono monoP (Sol.of s1012)
      have hwp12 := monoBits _ _ _ _ (Sol.of s1012) hwp10
      have s012 := s010.trans s1012
      have hsm12 : ∀ b o, b ≠ fp → b ≠ kp → H9 b = some o → H12 b = some o := fun b o n1 n2 h => s1012 _ _ (hsm b o n1 n2 h)
      clear s11 s12 hr0 hq11 hup11 hui11 hk10 hki10 hf10 hfi10 hwp10 s010 s1012 hsm solid9 hq10 hui10 hup10 ha10
      have ha12 := s012 _ _ ha
      have hkl12 := hki12.len
      have hfl12 := hfi12.len
      repeat walk_at "st"
      refine ⟨_, _, comb bs (unitsOn l), _, rfl, hr12, hwp12, by simp; omega, fun v13 H13 s13 h13 => ?_⟩
      repeat walk_at "st"
      intro l14 hl14
      have s14 := same_new (o := .lst [v13]) hl14
      refine s_cat ((s13.trans s14) _ _ hk12) upd_same (by simp; omega) fun l15 hl15 => ?_
      have s15 := same_new (o := .lst (ks ++ [v13])) hl15
      have s1215 := (s13.trans s14).trans s15
      repeat walk_at "st"
      refine ⟨_, s.known ++ [bitsOn (comb bs (unitsOn l)).xz (List.range n)], rfl, ⟨l15, _, rfl, upd_same, (hki12.mono monoBits (Sol.of s1215)).app (Itm.one (monoBits _ _ _ _ (Sol.of (s14.trans s15)) h13))⟩, by simp; omega, fun H16 s16 => ?_⟩
      have s1216 := s1215.trans s16
      have hk16 := s1216 _ _ hk12
      have hf16 := s1216 _ _ hf12
      have ha16 := s1216 _ _ ha12
      have hr16 := monoRow _ _ _ _ (Sol.of s1216) hr12
      have hwp16 := monoBits _ _ _ _ (Sol.of s1216) hwp12
      have hki16 := hki12.mono monoBits (Sol.of s1216)
      have hfi16 := hfi12.mono monoP (Sol.of s1216)
      have s016 := s012.trans s1216
      have hsm16 : ∀ b o, b ≠ fp → b ≠ kp → H9 b = some o → H16 b = some o := fun b o n1 n2 h => s1216 _ _ (hsm12 b o n1 n2 h)
      repeat walk_at "st"
      unfold regStep
      refine s_if (fun e => ?_) (fun e => ?_)
      · rw [if_pos (of_decide_eq_true e)]
        repeat walk_at "st"
        refine ⟨_, _, comb bs (unitsOn l), _, rfl, hr16, hwp16, by simp; omega, fun v17 H17 s17 h17 => ?_⟩
        have hk17 := s17 _ _ hk16
        repeat walk_at "st"
        refine s_append hk17 (by omega) ?_
        have so18 := Sol.updL (o := .lst (ks ++ [v17])) hk17
        have so1618 := (Sol.of s17).trans so18
        have hk18 : (upd H17 kp (.lst (ks ++ [v17]))) kp = some (.lst (ks ++ [v17])) := upd_same
        have hf18 : (upd H17 kp (.lst (ks ++ [v17]))) fp = some (.lst fs') := by rw [upd_ne nfk]; exact s17 _ _ hf16
        have ha18 : (upd H17 kp (.lst (ks ++ [v17]))) a = some (.ins (He.ga K "Code") dx fs) := by
          rw [upd_ne (fun z => by rw [z, hk16] at ha16; cases ha16)]; exact s17 _ _ ha16
        have hr18 := monoRow _ _ _ _ so1618 hr16
        have hki18 := (hki16.mono monoBits so1618).app (Itm.one (monoBits _ _ _ _ so18 h17))
        have hfi18 := hfi16.mono monoP so1618
        have s018 : Same H (upd H17 kp (.lst (ks ++ [v17]))) := same_mut (s016.trans s17) hkp0
        have hsm18 : ∀ b o, b ≠ fp → b ≠ kp → H9 b = some o → (upd H17 kp (.lst (ks ++ [v17]))) b = some o := fun b o n1 n2 h => by rw [upd_ne n2]; exact s17 _ _ (hsm16 b o n1 n2 h)
        generalize upd H17 kp (.lst (ks ++ [v17])) = H18 at so18 so1618 hk18 hf18 ha18 hr18 hki18 hfi18 s018 hsm18
        repeat walk_at "st"
        refine ⟨_, n, comb bs (unitsOn l), rfl, hr18, hn1, by omega, z3, fun v19 H19 s19 h19 => ?_⟩
        have hf19 := s19 _ _ hf18
        repeat walk_at "st"
        refine s_append hf19 (by omega) ?_
        have so20 := Sol.updL (o := .lst (fs' ++ [v19])) hf19
        have so1820 := (Sol.of s19).trans so20
        repeat walk_at "st"
        exact ⟨_, _, _, _, _, _, _, rfl, fun b o n1 n2 h => by rw [upd_ne n1]; exact s19 _ _ (hsm18 b o n1 n2 h), same_mut (s018.trans s19) hfp0, by rw [upd_ne (Ne.symm nfk)]; exact s19 _ _ hk18, hki18.mono monoBits so1820, upd_same, (hfi18.mono monoP so1820).app (Itm.one (monoP _ _ _ _ so20 h19))⟩
      · rw [if_neg (of_decide_eq_false e)]
        repeat walk_at "st"
        exact ⟨_, _, _, _, _, _, _, rfl, hsm16, s016, hk16, hki16, hf16, hfi16⟩
  · rintro σ' H10 ⟨ks, fs', o9, o10, o11, o12, o13, rfl, hsm, s010, hk10, hki10, hf10, hfi10⟩
    have hfi10 : Itm (isP K n) H10 fs' (regF n l rows others).found := hfi10
    have hfl10 := hfi10.len
    repeat walk_at "st"
    intro t11 ht11
    repeat walk_at "st"
    intro x dx2 hx hdx hne
    have s11 := same_new (o := .tup fs') ht11
    have s12 := same_new (o := .own x) hdx
    rw [hfl10]
    refine ⟨x, dx2, upd (upd H10 t11 (.tup fs')) dx2 (.own x), n, _, (regF n l rows others).found, rfl, by rw [upd_ne (Ne.symm hne)]; exact hx, rfl, ⟨t11, fs', rfl, s12 _ _ upd_same, hfi10.mono monoP (Sol.of (s11.trans s12))⟩, fun H' s13 hR => ⟨rfl, ?_⟩⟩
    exact k _ _ (((s010.trans s11).trans s12).trans s13) hR
end
end Kq

set_option Elab.async false
set_option linter.all false
set_option maxRecDepth 100000
set_option maxHeartbeats 4000000
/-! region walked -/
namespace Kq
open PySem PySem.Spec PyProof.Rows L2 XG
local macro_rules | `(tactic| walk_at "st") => `(tactic| first
  | with_reducible refine s_seq ?_
  | ((with_reducible refine' s_var ?h1 ?h2); (case h1 => rfl))
  | with_reducible refine s_c ?_
  | with_reducible refine s_op ?_
  | with_reducible refine s_asg ?_
  | with_reducible refine s_name ?_
  | with_reducible refine s_cons ?_
  | with_reducible refine s_nil ?_
  | with_reducible refine s_call ?_
  | with_reducible refine s_CB ?_
  | with_reducible refine s_add ?_
  | ((with_reducible refine' s_sub ?h1 ?h2); (case h1 => omega))
  | ((with_reducible refine' s_mul ?h1 ?h2); (case h1 => omega))
  | ((with_reducible refine' s_mod ?h1 ?h2); (case h1 => omega))
  | ((with_reducible refine' s_div ?h1 ?h2); (case h1 => omega))
  | ((with_reducible refine' s_shl ?h1 ?h2); (case h1 => omega))
  | with_reducible refine s_shr ?_
  | with_reducible refine s_and ?_
  | with_reducible refine s_or ?_
  | with_reducible refine s_xor ?_
  | with_reducible refine s_lt ?_
  | with_reducible refine s_le ?_
  | with_reducible refine s_gt ?_
  | with_reducible refine s_ge ?_
  | with_reducible refine s_eqN ?_
  | with_reducible refine s_neN ?_
  | with_reducible refine s_eqS ?_
  | with_reducible refine s_neS ?_
  | with_reducible refine s_I0 ?_
  | with_reducible refine s_un ?_
  | with_reducible refine s_neg ?_
  | with_reducible refine s_test ?_
  | with_reducible refine s_B ?_
  | with_reducible refine s_bl ?_
  | with_reducible refine s_ifS ?_
  | with_reducible refine s_ifE ?_
  | with_reducible refine s_not ?_
  | with_reducible refine s_and2 ?_
  | with_reducible refine s_or2 ?_
  | with_reducible refine s_andV ?_
  | with_reducible refine s_orV ?_
  | with_reducible refine s_notV ?_
  | with_reducible refine s_tru ?_
  | with_reducible refine s_par ?_
  | with_reducible refine s_two ?_
  | with_reducible refine s_par3 ?_
  | with_reducible refine s_three ?_
  | with_reducible refine s_lst ?_
  | with_reducible refine s_tup ?_
  | ((with_reducible refine' s_size ?h1 ?h2); (case h1 => exact Nat.le_of_ble_eq_true rfl))
  | with_reducible refine s_fld ?_
  | with_reducible refine s_gcons ?_
  | with_reducible refine s_gnil ?_
  | with_reducible refine s_intN ?_
  | with_reducible refine s_intI ?_
  | with_reducible refine s_tTru ?_
  | with_reducible refine s_tBL ?_
  | with_reducible refine s_sign ?_
  | with_reducible refine s_min ?_
  | with_reducible refine s_sfld ?_
  | with_reducible refine s_gfld ?_
  | with_reducible refine s_intB ?_
  | with_reducible refine s_next ?_
  | with_reducible refine s_ret ?_
  | with_reducible refine s_drop ?_
  | with_reducible refine s_for ?_
  | with_reducible refine s_lc ?_
  | with_reducible refine s_yes ?_
  | with_reducible refine s_bits ?_
  | with_reducible refine s_bitsV ?_
  | ((with_reducible refine' s_own ?h1 ?h2); (case h1 => assumption))
  | ((with_reducible refine' s_len ?h1 ?h2); (case h1 => assumption))
  | ((with_reducible refine' s_lenT ?h1 ?h2); (case h1 => assumption))
  | with_reducible refine s_iTup ?_
  | with_reducible refine s_iList ?_
  | with_reducible refine s_iStr ?_
  | with_reducible refine s_iRng1 ?_
  | with_reducible refine s_iRng2 ?_
  | with_reducible refine s_iEnum ?_
  | with_reducible refine s_iEnumT ?_
  | with_reducible refine s_iEnumS ?_
  | with_reducible refine s_iZip ?_
  | with_reducible refine s_iZipM ?_
  | with_reducible refine s_srcS ?_
  | with_reducible refine s_srcES ?_
  | ((with_reducible refine' s_srcT ?h1 ?h2); (case h1 => assumption))
  | ((with_reducible refine' s_srcL ?h1 ?h2); (case h1 => assumption))
  | ((with_reducible refine' s_srcE ?h1 ?h2); (case h1 => assumption))
  | ((with_reducible refine' s_srcET ?h1 ?h2); (case h1 => assumption))
  | ((with_reducible refine' s_rng1 ?h1 ?h2); (case h1 => omega))
  | ((with_reducible refine' s_rng2 ?h1 ?h2); (case h1 => omega))
  | with_reducible refine s_ckw ?_
  | ((with_reducible refine' s_sorted ?h1 ?h2); (case h1 => assumption))
  | ((with_reducible refine' s_inN ?h1 ?h2); (case h1 => assumption))
  | ((with_reducible refine' s_ninN ?h1 ?h2); (case h1 => assumption))
  | ((with_reducible refine' s_tupL ?h1 ?h2); (case h1 => assumption))
  | ((with_reducible refine' s_tupT ?h1 ?h2); (case h1 => assumption))
  | ((with_reducible refine' s_lstL ?h1 ?h2); (case h1 => assumption))
  | ((with_reducible refine' s_lstT ?h1 ?h2); (case h1 => assumption))
  | ((with_reducible refine' s_addS2 ?h1 ?h2); (case h1 => (simp only [List.length_append, letL_len]; omega)); (rw [sOf_add]))
  | with_reducible refine s_sl ?_
  | with_reducible refine s_part ?_
  | with_reducible refine s_partV ?_
  | with_reducible refine s_nopart ?_
  | ((with_reducible refine' s_cutTake ?h1 ?h2); (case h1 => assumption))
  | ((with_reducible refine' s_cutDrop ?h1 ?h2); (case h1 => assumption))
  | with_reducible refine s_isiII ?_
  | with_reducible refine s_isiIB ?_
  | with_reducible refine s_isiSS ?_
  | ((with_reducible refine' s_isiTT ?h1 ?h2); (case h1 => assumption))
  | ((with_reducible refine' s_aug ?h1 ?h2); (case h1 => rfl))
  | with_reducible refine s_ipN ?_
  | with_reducible refine s_ip ?_
  | with_reducible refine s_gsub ?_
  | with_reducible refine s_wh ?_
  | with_reducible refine s_join ?_
  | ((with_reducible refine' s_ixT ?h1 ?h2 ?h3); (case h1 => assumption); (case h2 => rfl))
  | ((with_reducible refine' s_at ?h1 ?h2 ?h3); (case h1 => assumption); (case h2 => assumption))
  | with_reducible refine s_make ?_
  | with_reducible refine s_dgetK ?_
  | with_reducible refine s_dput ?_
  | with_reducible refine s_chain ?_)

section
variable {P : Program} {w : World} {K : PySem.W.Frag} {mg : Str → Option Value} {base : Heap}
def sp_region (K : PySem.W.Frag) : Sp := fun vs H Q _ => ∃ cv lv n c l, vs = [cv, lv] ∧ isC K n H cv c ∧ (isBits H lv l ∨ isL isN H lv l) ∧ Up n l ∧ l.length ≤ 50 ∧ 1 ≤ n ∧ n ≤ 50 ∧ c.1.length ≤ 100 ∧ c.2.length ≤ 100 ∧
  ∀ v' H', Same H H' → isR K n H' v' (regF n l c.1 (c.1 ++ c.2)).found → Q v' H'
theorem ok_region (T : Tx K mg) : FnOk P w K mg base CX0 7 (He.fAd K ("region", none)) T.fd_region ["code", "lot"] (sp_region K) := by
  have G_region_of := ok_region_of (P := P) (w := w) (base := base) T
  have G_told_lot := ok_told_lot (P := P) (w := w) (base := base) T
  have G_group_rows := ok_group_rows (P := P) (w := w) (base := base) T
  have G_empty_rows := ok_empty_rows (P := P) (w := w) (base := base) T
  refine okD T.F_region sc_region (fun vs H Q E h => by obtain ⟨a, dx, _, _, _, rfl, _⟩ := h; rfl) (fun cdv A outer s H vs Q E hr h => ?_)
  obtain ⟨cv, lv, n, c, l, rfl, hC, hl, hup, hll, hn1, hn, h1, h2, k⟩ := h
  refine ⟨_, (pss_one (ps_ret (pe_call G_region_of (hr.mono (by decide)) (by rfl) T.m_region_of T.F_region_of.kp T.b_region_of .nil pass0 (pa_cons (pv 0) (pa_cons (pe_call G_told_lot (hr.mono (by decide)) (by rfl) T.m_told_lot T.F_told_lot.kp T.b_told_lot .nil pass0 (pa_cons (pv 0) (pa_cons (pv 1) pa_nil))) (pa_cons (pe_call G_group_rows (hr.mono (by decide)) (by rfl) T.m_group_rows T.F_group_rows.kp T.b_group_rows .nil pass0 (pa_cons (pv 0) pa_nil)) (pa_cons (pe_call G_empty_rows (hr.mono (by decide)) (by rfl) T.m_empty_rows T.F_empty_rows.kp T.b_empty_rows .nil pass0 (pa_cons (pv 0) pa_nil)) pa_nil))))))), ?_⟩
  repeat walk_at "st"
  refine ⟨_, _, n, c, l, rfl, hC, hl, hup, by omega, fun v1 H1 s1 h1' => ?_⟩
  repeat walk_at "st"
  refine ⟨_, n, c, rfl, monoC _ _ _ _ (Sol.of s1) hC, by omega, by omega, fun v2 H2 s2 h2' => ?_⟩
  repeat walk_at "st"
  refine ⟨_, n, c, rfl, monoC _ _ _ _ (Sol.of (s1.trans s2)) hC, by omega, by omega, by omega, fun v3 H3 s3 h3' => ?_⟩
  repeat walk_at "st"
  have s13 := (s1.trans s2).trans s3
  refine ⟨_, _, _, _, n, c, l, c.1, c.1 ++ c.2, rfl, monoC _ _ _ _ (Sol.of s13) hC, monoBits _ _ _ _ (Sol.of (s2.trans s3)) h1', hup, hn1, hn, hll, h2'.same monoRow s3, h3', by omega, by simp; omega, fun v4 H4 s4 h4 => ?_⟩
  exact k _ _ (s13.trans s4) h4
/-- two strings that tell the same -/
def RP (K : PySem.W.Frag) : Addr → Addr → Hp → Prop := fun a b H => ∃ n r, isP K n H (.ref a) r ∧ isP K n H (.ref b) r
theorem monRP : Mon (DIns (He.ga K "Pauli") (RP K)) := mon_ins fun a b H H' e ⟨n, r, h1, h2⟩ => ⟨n, r, monoP _ _ _ _ (fun c o hc _ => e c o hc) h1, monoP _ _ _ _ (fun c o hc _ => e c o hc) h2⟩
theorem ok_Pauli_eq (T : Tx K mg) : FnOk P w K mg base CX0 1 (He.fAd K ("Pauli", some "__eq__")) T.fd_Pauli_eq ["self", "other"] (spEq (RP K)) := by
  refine okD T.F_Pauli_eq sc_Pauli_eq (fun vs H Q E h => by obtain ⟨a, b, rfl, _⟩ := h; rfl) (fun cdv A outer s H vs Q E hr h => ?_)
  obtain ⟨a, b, rfl, ⟨n, r, ⟨_, adx, afs, ea, ha, l1, l2, l3, _⟩, ⟨_, bdx, bfs, eb, hb, m1, m2, m3, _⟩⟩, k⟩ := h
  cases ea
  cases eb
  refine ⟨_, (pss_one (ps_ret (pe_and (pe_callB call_isi (by rfl) T.n_isinstance (by decide +kernel) (pa_cons (pv 1) (pa_cons (pe_glob (v := .ref (He.ga K "Pauli")) (by rfl) T.m_Pauli rfl) pa_nil))) (pe_and (pe_cmpR on_eqS (xe_fld T.c_Pauli T.a_Pauli_letters (pv 0)) (xe_fld T.c_Pauli T.a_Pauli_letters (pv 1)) (nomark _)) (pe_one (pe_cmpR on_eq (xe_fld T.c_Pauli T.a_Pauli_phase (pv 0)) (xe_fld T.c_Pauli T.a_Pauli_phase (pv 1)) (nomark _))))))), ?_⟩
  repeat walk_at "st"
  refine s_isiC T.c_Pauli T.i_Pauli hb ?_
  refine s_bl ?_
  refine s_ifT rfl ?_
  repeat walk_at "st"
  refine s_ifT (by simp) ?_
  repeat walk_at "st"
  rw [decide_eq_true rfl]
  exact k _ (fun _ _ h => h)
end
end Kq

set_option Elab.async false
set_option linter.all false
set_option maxRecDepth 100000
set_option maxHeartbeats 4000000
/-! the pen's dict -/
namespace Kq
open PySem PySem.Spec PyProof.Rows L2
theorem putK_len {kvs : List (Key × V)} {k : Key} {v : V} (h : (valV kvs k).isSome = true) : (putK kvs k v).length = kvs.length := by
  unfold putK
  rw [if_pos (by rw [valV_any]; exact h), List.length_map]
/-- all but one address stays -/
def SameX (a : Addr) (H H' : Hp) : Prop := ∀ b o, b ≠ a → H b = some o → H' b = some o
theorem SameX.refl (a : Addr) (H : Hp) : SameX a H H := fun _ _ _ h => h
theorem SameX.trans {a : Addr} {H H1 H2 : Hp} (x : SameX a H H1) (y : SameX a H1 H2) : SameX a H H2 := fun b o n h => y b o n (x b o n h)
theorem SameX.of {a : Addr} {H H' : Hp} (s : Same H H') : SameX a H H' := fun b o _ h => s b o h
theorem SameX.upd {a : Addr} {H : Hp} {o : HO} : SameX a H (upd H a o) := fun b u n h => by rw [upd_ne n]; exact h
theorem SameX.sol {a : Addr} {H H' : Hp} {kvs : List (Key × V)} (s : SameX a H H') (h : H a = some (.dK kvs)) : Sol H H' := fun b o e so => s b o (fun z => by rw [z, h] at e; cases e; exact so) e
structure PenK (kvs : List (Key × V)) (cp : Addr) (at_ c : Nat) (d f : Int) : Prop where
  len : kvs.length ≤ 5
  k1 : valV kvs (.inr (Str.ofString "cells")) = some (.ref cp)
  k2 : valV kvs (.inr (Str.ofString "at")) = some (nV at_)
  k3 : valV kvs (.inr (Str.ofString "digits")) = some (.int d)
  k4 : valV kvs (.inr (Str.ofString "count")) = some (nV c)
  k5 : valV kvs (.inr (Str.ofString "fold")) = some (.int f)
theorem inr_ne {a b : Str} (h : a ≠ b) : ¬ (Sum.inr a : Key) = .inr b := fun z => h (Sum.inr.inj z)
section
variable {kvs : List (Key × V)} {cp : Addr} {at_ c : Nat} {d f : Int}
theorem PenK.setAt (h : PenK kvs cp at_ c d f) (n : Nat) : PenK (putK kvs (.inr (Str.ofString "at")) (nV n)) cp n c d f :=
  ⟨by rw [putK_len (by rw [h.k2]; rfl)]; exact h.len, by rw [valV_put, if_neg (inr_ne (by decide +kernel))]; exact h.k1, by rw [valV_put, if_pos rfl], by rw [valV_put, if_neg (inr_ne (by decide +kernel))]; exact h.k3, by rw [valV_put, if_neg (inr_ne (by decide +kernel))]; exact h.k4, by rw [valV_put, if_neg (inr_ne (by decide +kernel))]; exact h.k5⟩
theorem PenK.setCount (h : PenK kvs cp at_ c d f) (n : Nat) : PenK (putK kvs (.inr (Str.ofString "count")) (nV n)) cp at_ n d f :=
  ⟨by rw [putK_len (by rw [h.k4]; rfl)]; exact h.len, by rw [valV_put, if_neg (inr_ne (by decide +kernel))]; exact h.k1, by rw [valV_put, if_neg (inr_ne (by decide +kernel))]; exact h.k2, by rw [valV_put, if_neg (inr_ne (by decide +kernel))]; exact h.k3, by rw [valV_put, if_pos rfl], by rw [valV_put, if_neg (inr_ne (by decide +kernel))]; exact h.k5⟩
theorem PenK.setDigits (h : PenK kvs cp at_ c d f) (n : Int) : PenK (putK kvs (.inr (Str.ofString "digits")) (.int n)) cp at_ c n f :=
  ⟨by rw [putK_len (by rw [h.k3]; rfl)]; exact h.len, by rw [valV_put, if_neg (inr_ne (by decide +kernel))]; exact h.k1, by rw [valV_put, if_neg (inr_ne (by decide +kernel))]; exact h.k2, by rw [valV_put, if_pos rfl], by rw [valV_put, if_neg (inr_ne (by decide +kernel))]; exact h.k4, by rw [valV_put, if_neg (inr_ne (by decide +kernel))]; exact h.k5⟩
theorem PenK.setFold (h : PenK kvs cp at_ c d f) (n : Int) : PenK (putK kvs (.inr (Str.ofString "fold")) (.int n)) cp at_ c d n :=
  ⟨by rw [putK_len (by rw [h.k5]; rfl)]; exact h.len, by rw [valV_put, if_neg (inr_ne (by decide +kernel))]; exact h.k1, by rw [valV_put, if_neg (inr_ne (by decide +kernel))]; exact h.k2, by rw [valV_put, if_neg (inr_ne (by decide +kernel))]; exact h.k3, by rw [valV_put, if_neg (inr_ne (by decide +kernel))]; exact h.k4, by rw [valV_put, if_pos rfl]⟩
end
/-- the pen, after at most k draws -/
def isPen (H : Hp) (a cp : Addr) (k : Nat) : Prop := ∃ (kvs : List (Key × V)) (cells : List Int) (at_ c : Nat) (d f : Int), H a = some (.dK kvs) ∧ PenK kvs cp at_ c d f ∧ H cp = some (.lst (cells.map V.int)) ∧ c ≤ k ∧ 0 ≤ d ∧ 0 ≤ f ∧ f < 2147483587
theorem isPen.same {H H' : Hp} {a cp : Addr} {k : Nat} (h : isPen H a cp k) (s : Same H H') : isPen H' a cp k := by
  obtain ⟨kvs, cells, at_, c, d, f, h1, h2, h3, r⟩ := h
  exact ⟨kvs, cells, at_, c, d, f, s _ _ h1, h2, s _ _ h3, r⟩
theorem isPen.le {H : Hp} {a cp : Addr} {k k' : Nat} (h : isPen H a cp k) (l : k ≤ k') : isPen H a cp k' := by
  obtain ⟨kvs, cells, at_, c, d, f, h1, h2, h3, h4, r⟩ := h
  exact ⟨kvs, cells, at_, c, d, f, h1, h2, h3, Nat.le_trans h4 l, r⟩
theorem isPen.sol {H H' : Hp} {a cp : Addr} {k : Nat} (h : isPen H a cp k) (s : SameX a H H') : Sol H H' := by
  obtain ⟨kvs, cells, at_, c, d, f, h1, _⟩ := h
  exact s.sol h1
theorem isPen.ne {H : Hp} {a b cp : Addr} {k : Nat} {xs : List V} (h : isPen H a cp k) (e : H b = some (.lst xs)) : b ≠ a := fun z => by
  obtain ⟨kvs, cells, at_, c, d, f, h1, _⟩ := h
  rw [z, h1] at e; cases e
theorem isPen.cells {H : Hp} {a cp : Addr} {k : Nat} (h : isPen H a cp k) : ∃ xs, H cp = some (.lst xs) := by
  obtain ⟨kvs, cells, at_, c, d, f, h1, h2, h3, r⟩ := h
  exact ⟨_, h3⟩
theorem isPen.got {H : Hp} {a cp : Addr} {k : Nat} (h : isPen H a cp k) : ∃ o, H a = some o := by
  obtain ⟨kvs, cells, at_, c, d, f, h1, h2, h3, r⟩ := h
  exact ⟨_, h1⟩
/-- the pen where nothing of it changed -/
theorem isPen.keep {H H' : Hp} {a cp : Addr} {k : Nat} (h : isPen H a cp k) (h1 : H' a = H a) (h2 : H' cp = H cp) : isPen H' a cp k := by
  obtain ⟨kvs, cells, at_, c, d, f, g1, g2, g3, r⟩ := h
  exact ⟨kvs, cells, at_, c, d, f, by rw [h1]; exact g1, g2, by rw [h2]; exact g3, r⟩
theorem isL.sameX {α : Type} {R : Rp α} (m : MonoS R) {H H' : Hp} {a cp : Addr} {k : Nat} {v : V} {l : List α} (p : isPen H a cp k) (s : SameX a H H') (h : isL R H v l) : isL R H' v l :=
  let ⟨q, vs, e, h1, h2⟩ := h; ⟨q, vs, e, s _ _ (p.ne h1) h1, h2.mono m (p.sol s)⟩
theorem getS {H : Hp} {a : Addr} {kvs : List (Key × V)} {k : Str} {v : V} (h : H a = some (.dK kvs)) (e : valV kvs (.inr k) = some v) : DGet H a (.str k) (some v) := by rw [← e]; exact DGet.k (k := .inr k) h
theorem s_eqI {H : Hp} {Q : VK} {a b : Int} (q : Q (.bl (decide (V.int a = V.int b))) H) : rEq (.int a) (.int b) H Q := ⟨rfl, q⟩
theorem s_seqT {t u : TS} {D : Ends} {σ : L2.St} {H : Hp} (J : L2.St → Hp → Prop) (h2 : ∀ σ H, J σ H → u D σ H) (h1 : (∀ σ H, J σ H → u D σ H) → t { D with nx := u D } σ H) : tSeq t u D σ H := h1 h2
end Kq

set_option Elab.async false
set_option linter.all false
set_option maxRecDepth 100000
set_option maxHeartbeats 4000000
/-! the law's draws walked -/
namespace Kq
open PySem PySem.Spec PyProof.Rows L2 XG
local macro_rules | `(tactic| walk_at "st") => `(tactic| first
  | with_reducible refine s_seq ?_
  | ((with_reducible refine' s_var ?h1 ?h2); (case h1 => rfl))
  | with_reducible refine s_c ?_
  | with_reducible refine s_op ?_
  | with_reducible refine s_asg ?_
  | with_reducible refine s_name ?_
  | with_reducible refine s_cons ?_
  | with_reducible refine s_nil ?_
  | with_reducible refine s_call ?_
  | with_reducible refine s_CB ?_
  | with_reducible refine s_add ?_
  | ((with_reducible refine' s_sub ?h1 ?h2); (case h1 => omega))
  | ((with_reducible refine' s_mul ?h1 ?h2); (case h1 => omega))
  | ((with_reducible refine' s_mod ?h1 ?h2); (case h1 => omega))
  | ((with_reducible refine' s_div ?h1 ?h2); (case h1 => omega))
  | ((with_reducible refine' s_shl ?h1 ?h2); (case h1 => omega))
  | with_reducible refine s_shr ?_
  | with_reducible refine s_and ?_
  | with_reducible refine s_or ?_
  | with_reducible refine s_xor ?_
  | with_reducible refine s_lt ?_
  | with_reducible refine s_le ?_
  | with_reducible refine s_gt ?_
  | with_reducible refine s_ge ?_
  | with_reducible refine s_eqN ?_
  | with_reducible refine s_neN ?_
  | with_reducible refine s_eqS ?_
  | with_reducible refine s_neS ?_
  | with_reducible refine s_I0 ?_
  | with_reducible refine s_un ?_
  | with_reducible refine s_neg ?_
  | with_reducible refine s_test ?_
  | with_reducible refine s_B ?_
  | with_reducible refine s_bl ?_
  | with_reducible refine s_ifS ?_
  | with_reducible refine s_ifE ?_
  | with_reducible refine s_not ?_
  | with_reducible refine s_and2 ?_
  | with_reducible refine s_or2 ?_
  | with_reducible refine s_andV ?_
  | with_reducible refine s_orV ?_
  | with_reducible refine s_notV ?_
  | with_reducible refine s_tru ?_
  | with_reducible refine s_par ?_
  | with_reducible refine s_two ?_
  | with_reducible refine s_par3 ?_
  | with_reducible refine s_three ?_
  | with_reducible refine s_lst ?_
  | with_reducible refine s_tup ?_
  | ((with_reducible refine' s_size ?h1 ?h2); (case h1 => exact Nat.le_of_ble_eq_true rfl))
  | with_reducible refine s_fld ?_
  | with_reducible refine s_gcons ?_
  | with_reducible refine s_gnil ?_
  | with_reducible refine s_intN ?_
  | with_reducible refine s_intI ?_
  | with_reducible refine s_tTru ?_
  | with_reducible refine s_tBL ?_
  | with_reducible refine s_sign ?_
  | with_reducible refine s_min ?_
  | with_reducible refine s_sfld ?_
  | with_reducible refine s_gfld ?_
  | with_reducible refine s_intB ?_
  | with_reducible refine s_next ?_
  | with_reducible refine s_ret ?_
  | with_reducible refine s_drop ?_
  | with_reducible refine s_for ?_
  | with_reducible refine s_lc ?_
  | with_reducible refine s_yes ?_
  | with_reducible refine s_bits ?_
  | with_reducible refine s_bitsV ?_
  | ((with_reducible refine' s_own ?h1 ?h2); (case h1 => assumption))
  | ((with_reducible refine' s_len ?h1 ?h2); (case h1 => assumption))
  | ((with_reducible refine' s_lenT ?h1 ?h2); (case h1 => assumption))
  | with_reducible refine s_iTup ?_
  | with_reducible refine s_iList ?_
  | with_reducible refine s_iStr ?_
  | with_reducible refine s_iRng1 ?_
  | with_reducible refine s_iRng2 ?_
  | with_reducible refine s_iEnum ?_
  | with_reducible refine s_iEnumT ?_
  | with_reducible refine s_iEnumS ?_
  | with_reducible refine s_iZip ?_
  | with_reducible refine s_iZipM ?_
  | with_reducible refine s_srcS ?_
  | with_reducible refine s_srcES ?_
  | ((with_reducible refine' s_srcT ?h1 ?h2); (case h1 => assumption))
  | ((with_reducible refine' s_srcL ?h1 ?h2); (case h1 => assumption))
  | ((with_reducible refine' s_srcE ?h1 ?h2); (case h1 => assumption))
  | ((with_reducible refine' s_srcET ?h1 ?h2); (case h1 => assumption))
  | ((with_reducible refine' s_rng1 ?h1 ?h2); (case h1 => omega))
  | ((with_reducible refine' s_rng2 ?h1 ?h2); (case h1 => omega))
  | with_reducible refine s_ckw ?_
  | ((with_reducible refine' s_sorted ?h1 ?h2); (case h1 => assumption))
  | ((with_reducible refine' s_inN ?h1 ?h2); (case h1 => assumption))
  | ((with_reducible refine' s_ninN ?h1 ?h2); (case h1 => assumption))
  | ((with_reducible refine' s_tupL ?h1 ?h2); (case h1 => assumption))
  | ((with_reducible refine' s_tupT ?h1 ?h2); (case h1 => assumption))
  | ((with_reducible refine' s_lstL ?h1 ?h2); (case h1 => assumption))
  | ((with_reducible refine' s_lstT ?h1 ?h2); (case h1 => assumption))
  | ((with_reducible refine' s_addS2 ?h1 ?h2); (case h1 => (simp only [List.length_append, letL_len]; omega)); (rw [sOf_add]))
  | with_reducible refine s_sl ?_
  | with_reducible refine s_part ?_
  | with_reducible refine s_partV ?_
  | with_reducible refine s_nopart ?_
  | ((with_reducible refine' s_cutTake ?h1 ?h2); (case h1 => assumption))
  | ((with_reducible refine' s_cutDrop ?h1 ?h2); (case h1 => assumption))
  | with_reducible refine s_isiII ?_
  | with_reducible refine s_isiIB ?_
  | with_reducible refine s_isiSS ?_
  | ((with_reducible refine' s_isiTT ?h1 ?h2); (case h1 => assumption))
  | ((with_reducible refine' s_aug ?h1 ?h2); (case h1 => rfl))
  | with_reducible refine s_ipN ?_
  | with_reducible refine s_ip ?_
  | with_reducible refine s_gsub ?_
  | with_reducible refine s_wh ?_
  | with_reducible refine s_join ?_
  | ((with_reducible refine' s_ixT ?h1 ?h2 ?h3); (case h1 => assumption); (case h2 => rfl))
  | ((with_reducible refine' s_at ?h1 ?h2 ?h3); (case h1 => assumption); (case h2 => assumption))
  | with_reducible refine s_make ?_
  | with_reducible refine s_dgetK ?_
  | with_reducible refine s_dput ?_
  | with_reducible refine s_chain ?_
  | with_reducible refine s_eqI ?_)

section
variable {P : Program} {w : World} {K : PySem.W.Frag} {mg : Str → Option Value} {base : Heap}
theorem nat_of {i : Int} {m : Nat} (h : 0 < m) : ∃ d : Nat, d < m ∧ i % (m : Int) = (d : Int) := by
  have h1 : 0 ≤ i % (m : Int) := Int.emod_nonneg _ (by omega)
  have h2 : i % (m : Int) < m := Int.emod_lt_of_pos _ (by omega)
  exact ⟨(i % (m : Int)).toNat, by omega, by omega⟩
def sp_law_draw : Sp := fun vs H Q _ => ∃ a cp m k, vs = [.ref a, nV m] ∧ isPen H a cp k ∧ 0 < m ∧ m ≤ 10000 ∧ k ≤ 100000 ∧ ∀ d H', d < m → SameX a H H' → isPen H' a cp (k + 1) → Q (nV d) H'
theorem ok_law_draw (T : Tx K mg) : FnOk P w K mg base CX0 1 (He.fAd K ("_law_draw", none)) T.fd_law_draw ["_law_pen_here", "_law_many"] (sp_law_draw) := by
  refine okD T.F_law_draw sc_law_draw (fun vs H Q E h => by obtain ⟨a, b, _, _, rfl, _⟩ := h; rfl) (fun cdv A outer s H vs Q E hr h => ?_)
  have hu0 := hr.units
  have hu : (A.deeper (envOfC "_law_draw" (defScope s_law_draw) s.heap.objs.size (He.fAd K ("_law_draw", none)) cdv)).units + 1 < cLine := by omega
  obtain ⟨a, cp, m, k, rfl, ⟨kvs, cells, at_, c, d, f, ha, pk, hcp, hck, hd0, hf0, hf1⟩, hm, hm2, hk, kk⟩ := h
  refine ⟨_, (pss_cons (ps_dput hu (pv 0) pe_str (pe_op on_add (pe_dget hu (pv 0) pe_str (fun _ _ => rfl)) (pe_nat 1)) rfl)
  (pss_cons (ps_if (PW.pt (pw_and (pt_cmpR op_eq (pe_dget hu (pv 0) pe_str (fun _ _ => rfl)) (pe_nat 0) (nomark _)) (pw_and1 (pt_cmpR on_lt (pe_dget hu (pv 0) pe_str (fun _ _ => rfl)) (pe_callB xc_lenL (by rfl) T.n_len (by decide +kernel) (pa_cons (pe_dget hu (pv 0) pe_str (fun _ _ => rfl)) pa_nil)) (nomark _))))) (pss_cons (ps_set (i := 2) sc_law_draw.nd rfl (.inl rfl) (pe_ix xi_list (pe_dget hu (pv 0) pe_str (fun _ _ => rfl)) (pe_dget hu (pv 0) pe_str (fun _ _ => rfl)) (fun _ _ => rfl)))
  (pss_cons (ps_dput hu (pv 0) pe_str (pe_op on_add (pe_dget hu (pv 0) pe_str (fun _ _ => rfl)) (pe_nat 1)) rfl)
  (pss_one (ps_if (pt_cmpR op_ge (pv 2) (pe_op op_pow (pe_nat 10) (pe_nat 18)) (nomark _)) (pss_one (ps_dput hu (pv 0) pe_str (pe_op op_sub (pv 2) (pe_op op_pow (pe_nat 10) (pe_nat 18))) rfl)) (pss_one (ps_dput hu (pv 0) pe_str (pe_op op_mod (pe_callTy xc_intI (by rfl) T.n_int (by decide +kernel) (pa_cons (pe_op op_add (pe_op op_mul (pe_dget hu (pv 0) pe_str (fun _ _ => rfl)) (pe_nat 69069)) (pv 2)) pa_nil)) (pe_nat 2147483587)) rfl)))))) pss_nil)
  (pss_cons (ps_if (pt_cmpR op_gt (pe_dget hu (pv 0) pe_str (fun _ _ => rfl)) (pe_nat 0) (nomark _)) (pss_cons (ps_set (i := 3) sc_law_draw.nd rfl (.inl rfl) (pe_op op_mod (pe_callTy xc_intI (by rfl) T.n_int (by decide +kernel) (pa_cons (pe_dget hu (pv 0) pe_str (fun _ _ => rfl)) pa_nil)) (pv 1)))
  (pss_cons (ps_dput hu (pv 0) pe_str (pe_op op_fdiv (pe_dget hu (pv 0) pe_str (fun _ _ => rfl)) (pv 1)) rfl)
  (pss_one (ps_ret (pv 3))))) pss_nil)
  (pss_cons (ps_set (i := 4) sc_law_draw.nd rfl (.inl rfl) (pe_op op_add (pe_op op_add (pe_dget hu (pv 0) pe_str (fun _ _ => rfl)) (pe_op on_mul (pe_dget hu (pv 0) pe_str (fun _ _ => rfl)) (pe_nat 7907))) (pe_nat 37)))
  (pss_one (ps_ret (pe_op op_mod (pe_op op_fdiv (pe_callTy xc_intI (by rfl) T.n_int (by decide +kernel) (pa_cons (pe_op op_mod (pe_op op_pow (pv 4) (pe_nat 17)) (pe_nat 2305843009213693951)) pa_nil)) (pe_nat 128)) (pv 1)))))))), ?_⟩
  have nca : cp ≠ a := fun z => by rw [z, ha] at hcp; cases hcp
  repeat walk_at "st"
  refine ⟨a, nV c, rfl, getS ha pk.k4, ?_⟩
  repeat walk_at "st"
  refine ⟨a, _, rfl, DPut.k (k := .inr (Str.ofString "count")) ha (Nat.lt_of_le_of_lt pk.len (by decide)), ?_⟩
  have pk1 := pk.setCount (c + 1)
  have ha1 : (upd H a (.dK (putK kvs (.inr (Str.ofString "count")) (nV (c + 1))))) a = some (.dK (putK kvs (.inr (Str.ofString "count")) (nV (c + 1)))) := upd_same
  have sx1 : SameX a H (upd H a (.dK (putK kvs (.inr (Str.ofString "count")) (nV (c + 1))))) := SameX.upd
  have hc1 := sx1 _ _ nca hcp
  generalize putK kvs (.inr (Str.ofString "count")) (nV (c + 1)) = kvs1 at pk1 ha1 sx1 hc1
  generalize upd H a (.dK kvs1) = H1 at ha1 sx1 hc1
  clear pk ha hcp
  with_reducible refine s_seqT (fun σ' H2 => ∃ o2 kvs2 at2 d2 f2, σ' = [some (.ref a), some (nV m), o2, none, none] ∧ H2 a = some (.dK kvs2) ∧ PenK kvs2 cp at2 (c + 1) d2 f2 ∧ H2 cp = some (.lst (cells.map V.int)) ∧ 0 ≤ d2 ∧ 0 ≤ f2 ∧ f2 < 2147483587 ∧ SameX a H H2) ?_ (fun tail => ?_)
  · rintro σ' H2 ⟨o2, kvs2, at2, d2, f2, rfl, ha2, pk2, hc2, g0, g1, g2, sx2⟩
    repeat walk_at "st"
    refine ⟨a, .int d2, rfl, getS ha2 pk2.k3, ?_⟩
    repeat walk_at "st"
    refine s_if (fun e => ?_) (fun e => ?_)
    · repeat walk_at "st"
      refine ⟨a, .int d2, rfl, getS ha2 pk2.k3, ?_⟩
      repeat walk_at "st"
      refine s_I (show (0 : Int) < m by omega) ?_
      obtain ⟨r, hr1, hr2⟩ := nat_of (i := d2) hm
      rw [hr2]
      repeat walk_at "st"
      refine ⟨a, .int d2, rfl, getS ha2 pk2.k3, ?_⟩
      repeat walk_at "st"
      refine s_I (show (0 : Int) < m ∧ (m : Int) < 1073741824 by omega) ?_
      repeat walk_at "st"
      refine ⟨a, _, rfl, DPut.k (k := .inr (Str.ofString "digits")) ha2 (Nat.lt_of_le_of_lt pk2.len (by decide)), ?_⟩
      repeat walk_at "st"
      exact kk r _ hr1 (sx2.trans SameX.upd) ⟨_, cells, at2, c + 1, _, f2, upd_same, pk2.setDigits _, by rw [upd_ne nca]; exact hc2, by omega, Int.ediv_nonneg g0 (by omega), g1, g2⟩
    · repeat walk_at "st"
      refine ⟨a, .int f2, rfl, getS ha2 pk2.k5, ?_⟩
      repeat walk_at "st"
      refine ⟨a, nV (c + 1), rfl, getS ha2 pk2.k4, ?_⟩
      repeat walk_at "st"
      refine s_I ?_ ?_
      · exact ⟨by decide, by decide, by
          have : (c : Int) ≤ 100000 := by omega
          omega⟩
      repeat walk_at "st"
      refine s_I (by decide) ?_
      repeat walk_at "st"
      refine s_I (show (0 : Int) < ((128 : Nat) : Int) ∧ ((128 : Nat) : Int) < 1073741824 by decide) ?_
      repeat walk_at "st"
      refine s_I (show (0 : Int) < m by omega) ?_
      obtain ⟨r, hr1, hr2⟩ := nat_of (i := (f2 + ((c + 1) * 7907 : Nat) + (37 : Nat)) ^ ((17 : Nat) : Int).toNat % ((2305843009213693951 : Nat) : Int) / ((128 : Nat) : Int)) hm
      rw [hr2]
      exact kk r _ hr1 sx2 ⟨_, cells, at2, c + 1, d2, f2, ha2, pk2, hc2, by omega, g0, g1, g2⟩
  repeat walk_at "st"
  refine ⟨a, .int d, rfl, getS ha1 pk1.k3, ?_⟩
  repeat walk_at "st"
  have skip : ∀ σ', σ' = [some (.ref a), some (nV m), none, none, none] → _ := fun σ' e => tail σ' H1 ⟨_, kvs1, at_, d, f, e, ha1, pk1, hc1, hd0, hf0, hf1, sx1⟩
  refine s_if (fun e => ?_) (fun e => ?_)
  · repeat walk_at "st"
    refine ⟨a, nV at_, rfl, getS ha1 pk1.k2, ?_⟩
    repeat walk_at "st"
    refine ⟨a, .ref cp, rfl, getS ha1 pk1.k1, ?_⟩
    repeat walk_at "st"
    refine s_if (fun e2 => ?_) (fun e2 => ?_)
    · have hat : at_ < cells.length := by have := of_decide_eq_true e2; simpa using this
      repeat walk_at "st"
      refine ⟨a, .ref cp, rfl, getS ha1 pk1.k1, ?_⟩
      repeat walk_at "st"
      refine ⟨a, nV at_, rfl, getS ha1 pk1.k2, ?_⟩
      refine s_ixL hc1 (v := .int cells[at_]) (by simp [hat]) ?_
      repeat walk_at "st"
      refine ⟨a, nV at_, rfl, getS ha1 pk1.k2, ?_⟩
      repeat walk_at "st"
      refine ⟨a, _, rfl, DPut.k (k := .inr (Str.ofString "at")) ha1 (Nat.lt_of_le_of_lt pk1.len (by decide)), ?_⟩
      have pk3 := pk1.setAt (at_ + 1)
      have ha3 : (upd H1 a (.dK (putK kvs1 (.inr (Str.ofString "at")) (nV (at_ + 1))))) a = some (.dK (putK kvs1 (.inr (Str.ofString "at")) (nV (at_ + 1)))) := upd_same
      have sx3 : SameX a H1 (upd H1 a (.dK (putK kvs1 (.inr (Str.ofString "at")) (nV (at_ + 1))))) := SameX.upd
      have hc3 := sx3 _ _ nca hc1
      generalize putK kvs1 (.inr (Str.ofString "at")) (nV (at_ + 1)) = kvs3 at pk3 ha3 sx3 hc3
      generalize upd H1 a (.dK kvs3) = H3 at ha3 sx3 hc3
      generalize cells[at_] = cell
      repeat walk_at "st"
      refine s_I ⟨by decide, by decide, by decide⟩ ?_
      repeat walk_at "st"
      refine s_if (fun e3 => ?_) (fun e3 => ?_)
      · have e3 := of_decide_eq_true e3
        repeat walk_at "st"
        refine s_I ⟨by decide, by decide, by decide⟩ ?_
        repeat walk_at "st"
        refine ⟨a, _, rfl, DPut.k (k := .inr (Str.ofString "digits")) ha3 (Nat.lt_of_le_of_lt pk3.len (by decide)), ?_⟩
        exact tail _ _ ⟨_, _, _, _, _, rfl, upd_same, pk3.setDigits _, by rw [upd_ne nca]; exact hc3, by omega, hf0, hf1, (sx1.trans sx3).trans SameX.upd⟩
      · repeat walk_at "st"
        refine ⟨a, .int f, rfl, getS ha3 pk3.k5, ?_⟩
        repeat walk_at "st"
        refine s_I (.inr (by decide)) ?_
        repeat walk_at "st"
        refine s_I (by decide) ?_
        repeat walk_at "st"
        refine ⟨a, _, rfl, DPut.k (k := .inr (Str.ofString "fold")) ha3 (Nat.lt_of_le_of_lt pk3.len (by decide)), ?_⟩
        exact tail _ _ ⟨_, _, _, _, _, rfl, upd_same, pk3.setFold _, by rw [upd_ne nca]; exact hc3, hd0, Int.emod_nonneg _ (by decide), Int.emod_lt_of_pos _ (by decide), (sx1.trans sx3).trans SameX.upd⟩
    · exact skip _ rfl
  · refine s_ifF rfl ?_
    exact skip _ rfl
end
end Kq

set_option Elab.async false
set_option linter.all false
set_option maxRecDepth 100000
set_option maxHeartbeats 4000000
/-! the law's small defs walked -/
namespace Kq
open PySem PySem.Spec PyProof.Rows L2 XG
local macro_rules | `(tactic| walk_at "st") => `(tactic| first
  | with_reducible refine s_seq ?_
  | ((with_reducible refine' s_var ?h1 ?h2); (case h1 => rfl))
  | with_reducible refine s_c ?_
  | with_reducible refine s_op ?_
  | with_reducible refine s_asg ?_
  | with_reducible refine s_name ?_
  | with_reducible refine s_cons ?_
  | with_reducible refine s_nil ?_
  | with_reducible refine s_call ?_
  | with_reducible refine s_CB ?_
  | with_reducible refine s_add ?_
  | ((with_reducible refine' s_sub ?h1 ?h2); (case h1 => omega))
  | ((with_reducible refine' s_mul ?h1 ?h2); (case h1 => omega))
  | ((with_reducible refine' s_mod ?h1 ?h2); (case h1 => omega))
  | ((with_reducible refine' s_div ?h1 ?h2); (case h1 => omega))
  | ((with_reducible refine' s_shl ?h1 ?h2); (case h1 => omega))
  | with_reducible refine s_shr ?_
  | with_reducible refine s_and ?_
  | with_reducible refine s_or ?_
  | with_reducible refine s_xor ?_
  | with_reducible refine s_lt ?_
  | with_reducible refine s_le ?_
  | with_reducible refine s_gt ?_
  | with_reducible refine s_ge ?_
  | with_reducible refine s_eqN ?_
  | with_reducible refine s_neN ?_
  | with_reducible refine s_eqS ?_
  | with_reducible refine s_neS ?_
  | with_reducible refine s_I0 ?_
  | with_reducible refine s_un ?_
  | with_reducible refine s_neg ?_
  | with_reducible refine s_test ?_
  | with_reducible refine s_B ?_
  | with_reducible refine s_bl ?_
  | with_reducible refine s_ifS ?_
  | with_reducible refine s_ifE ?_
  | with_reducible refine s_not ?_
  | with_reducible refine s_and2 ?_
  | with_reducible refine s_or2 ?_
  | with_reducible refine s_andV ?_
  | with_reducible refine s_orV ?_
  | with_reducible refine s_notV ?_
  | with_reducible refine s_tru ?_
  | with_reducible refine s_par ?_
  | with_reducible refine s_two ?_
  | with_reducible refine s_par3 ?_
  | with_reducible refine s_three ?_
  | with_reducible refine s_lst ?_
  | with_reducible refine s_tup ?_
  | ((with_reducible refine' s_size ?h1 ?h2); (case h1 => exact Nat.le_of_ble_eq_true rfl))
  | with_reducible refine s_fld ?_
  | with_reducible refine s_gcons ?_
  | with_reducible refine s_gnil ?_
  | with_reducible refine s_intN ?_
  | with_reducible refine s_intI ?_
  | with_reducible refine s_tTru ?_
  | with_reducible refine s_tBL ?_
  | with_reducible refine s_sign ?_
  | with_reducible refine s_min ?_
  | with_reducible refine s_sfld ?_
  | with_reducible refine s_gfld ?_
  | with_reducible refine s_intB ?_
  | with_reducible refine s_next ?_
  | with_reducible refine s_ret ?_
  | with_reducible refine s_drop ?_
  | with_reducible refine s_for ?_
  | with_reducible refine s_lc ?_
  | with_reducible refine s_yes ?_
  | with_reducible refine s_bits ?_
  | with_reducible refine s_bitsV ?_
  | ((with_reducible refine' s_own ?h1 ?h2); (case h1 => assumption))
  | ((with_reducible refine' s_len ?h1 ?h2); (case h1 => assumption))
  | ((with_reducible refine' s_lenT ?h1 ?h2); (case h1 => assumption))
  | with_reducible refine s_iTup ?_
  | with_reducible refine s_iList ?_
  | with_reducible refine s_iStr ?_
  | with_reducible refine s_iRng1 ?_
  | with_reducible refine s_iRng2 ?_
  | with_reducible refine s_iEnum ?_
  | with_reducible refine s_iEnumT ?_
  | with_reducible refine s_iEnumS ?_
  | with_reducible refine s_iZip ?_
  | with_reducible refine s_iZipM ?_
  | with_reducible refine s_srcS ?_
  | with_reducible refine s_srcES ?_
  | ((with_reducible refine' s_srcT ?h1 ?h2); (case h1 => assumption))
  | ((with_reducible refine' s_srcL ?h1 ?h2); (case h1 => assumption))
  | ((with_reducible refine' s_srcE ?h1 ?h2); (case h1 => assumption))
  | ((with_reducible refine' s_srcET ?h1 ?h2); (case h1 => assumption))
  | ((with_reducible refine' s_rng1 ?h1 ?h2); (case h1 => omega))
  | ((with_reducible refine' s_rng2 ?h1 ?h2); (case h1 => omega))
  | with_reducible refine s_ckw ?_
  | ((with_reducible refine' s_sorted ?h1 ?h2); (case h1 => assumption))
  | ((with_reducible refine' s_inN ?h1 ?h2); (case h1 => assumption))
  | ((with_reducible refine' s_ninN ?h1 ?h2); (case h1 => assumption))
  | ((with_reducible refine' s_tupL ?h1 ?h2); (case h1 => assumption))
  | ((with_reducible refine' s_tupT ?h1 ?h2); (case h1 => assumption))
  | ((with_reducible refine' s_lstL ?h1 ?h2); (case h1 => assumption))
  | ((with_reducible refine' s_lstT ?h1 ?h2); (case h1 => assumption))
  | ((with_reducible refine' s_addS2 ?h1 ?h2); (case h1 => (simp only [List.length_append, letL_len]; omega)); (rw [sOf_add]))
  | with_reducible refine s_sl ?_
  | with_reducible refine s_part ?_
  | with_reducible refine s_partV ?_
  | with_reducible refine s_nopart ?_
  | ((with_reducible refine' s_cutTake ?h1 ?h2); (case h1 => assumption))
  | ((with_reducible refine' s_cutDrop ?h1 ?h2); (case h1 => assumption))
  | with_reducible refine s_isiII ?_
  | with_reducible refine s_isiIB ?_
  | with_reducible refine s_isiSS ?_
  | ((with_reducible refine' s_isiTT ?h1 ?h2); (case h1 => assumption))
  | ((with_reducible refine' s_aug ?h1 ?h2); (case h1 => rfl))
  | with_reducible refine s_ipN ?_
  | with_reducible refine s_ip ?_
  | with_reducible refine s_gsub ?_
  | with_reducible refine s_wh ?_
  | with_reducible refine s_join ?_
  | ((with_reducible refine' s_ixT ?h1 ?h2 ?h3); (case h1 => assumption); (case h2 => rfl))
  | ((with_reducible refine' s_at ?h1 ?h2 ?h3); (case h1 => assumption); (case h2 => assumption))
  | with_reducible refine s_make ?_
  | with_reducible refine s_dgetK ?_
  | with_reducible refine s_dput ?_
  | with_reducible refine s_chain ?_
  | with_reducible refine s_eqI ?_)

section
variable {P : Program} {w : World} {K : PySem.W.Frag} {mg : Str → Option Value} {base : Heap}
def sp_law_pick : Sp := fun vs H Q _ => ∃ a cp p xs k, vs = [.ref a, .ref p] ∧ isPen H a cp k ∧ H p = some (.lst xs) ∧ 0 < xs.length ∧ xs.length ≤ 1000 ∧ k ≤ 100000 ∧ ∀ x H', x ∈ xs → SameX a H H' → isPen H' a cp (k + 1) → Q x H'
theorem ok_law_pick (T : Tx K mg) : FnOk P w K mg base CX0 2 (He.fAd K ("_law_pick", none)) T.fd_law_pick ["_law_pen_here", "_law_some"] (sp_law_pick) := by
  have G_law_draw := ok_law_draw (P := P) (w := w) (base := base) T
  refine okD T.F_law_pick sc_law_pick (fun vs H Q E h => by obtain ⟨a, b, _, _, _, rfl, _⟩ := h; rfl) (fun cdv A outer s H vs Q E hr h => ?_)
  obtain ⟨a, cp, p, xs, k, rfl, hpen, hp, h0, h1, hk, kk⟩ := h
  refine ⟨_, (pss_one (ps_ret (pe_ix xi_list (pv 1) (pe_call G_law_draw (hr.mono (by decide)) (by rfl) T.m_law_draw T.F_law_draw.kp T.b_law_draw .nil pass0 (pa_cons (pv 0) (pa_cons (pe_callB xc_lenL (by rfl) T.n_len (by decide +kernel) (pa_cons (pv 1) pa_nil)) pa_nil))) (fun _ _ => rfl)))), ?_⟩
  repeat walk_at "st"
  refine ⟨a, cp, xs.length, k, rfl, hpen, h0, by omega, hk, fun d H' hd sx hpen' => ?_⟩
  refine s_ixL (sx _ _ (hpen.ne hp) hp) (v := xs[d]) (by simp [hd]) ?_
  exact kk _ _ (List.getElem_mem hd) sx hpen'

theorem erase_perm {xs : List V} {d : Nat} {y : V} (h : xs[d]? = some y) : (y :: xs.eraseIdx d).Perm xs := by
  obtain ⟨hd, rfl⟩ := List.getElem?_eq_some_iff.mp h
  induction xs generalizing d with
  | nil => simp at hd
  | cons x xs ih =>
    cases d with
    | zero => exact List.Perm.refl _
    | succ d =>
      have hd' : d < xs.length := by simpa using hd
      have := ih hd' (by simp [hd'])
      exact (List.Perm.swap _ _ _).trans (this.cons x)
def sp_law_shuffled : Sp := fun vs H Q _ => ∃ a cp p xs k, vs = [.ref a, .ref p] ∧ isPen H a cp k ∧ H p = some (.lst xs) ∧ xs.length ≤ 1000 ∧ k + xs.length ≤ 100000 ∧ ∀ q ys H', ys.Perm xs → H q = none → SameX a H H' → H' q = some (.lst ys) → isPen H' a cp (k + xs.length) → Q (.ref q) H'
theorem ok_law_shuffled (T : Tx K mg) : FnOk P w K mg base CX0 2 (He.fAd K ("_law_shuffled", none)) T.fd_law_shuffled ["_law_pen_here", "_law_some"] (sp_law_shuffled) := by
  have G_law_draw := ok_law_draw (P := P) (w := w) (base := base) T
  refine okD T.F_law_shuffled sc_law_shuffled (fun vs H Q E h => by obtain ⟨a, b, _, _, _, rfl, _⟩ := h; rfl) (fun cdv A outer s H vs Q E hr h => ?_)
  obtain ⟨a, cp, p, xs, k, rfl, hpen, hp, h1, hk, kk⟩ := h
  refine ⟨_, (pss_cons (ps_par (by rfl) sc_law_shuffled.nd (i := 2) (j := 3) rfl rfl (by decide) rfl rfl (pa_cons (pe_callTy xc_lstL (by rfl) T.n_list (by decide +kernel) (pa_cons (pv 1) pa_nil)) (pa_cons (pe_lst pa_nil) pa_nil)) (by rfl))
  (pss_cons (ps_for PassesOwn.never rfl (pi_range1 rfl T.n_range (pa_cons (pe_callB xc_lenL (by rfl) T.n_len (by decide +kernel) (pa_cons (pv 1) pa_nil)) pa_nil)) (pg_name (i := 4) sc_law_shuffled.nd rfl (.inl rfl))
  (pss_one (ps_expr (xe_bl PySem.F.slot_list_append PySem.F.type_list_append mt_append (pv 3) (pa_cons (xe_bl PySem.F.slot_list_pop PySem.F.type_list_pop mt_popAt (pv 2) (pa_cons (pe_call G_law_draw (hr.mono (by decide)) (by rfl) T.m_law_draw T.F_law_draw.kp T.b_law_draw .nil pass0 (pa_cons (pv 0) (pa_cons (pe_callB xc_lenL (by rfl) T.n_len (by decide +kernel) (pa_cons (pv 2) pa_nil)) pa_nil))) pa_nil)) pa_nil)))))
  (pss_one (ps_ret (pv 3))))), ?_⟩
  have npa := hpen.ne hp
  have haS : H a ≠ none := by obtain ⟨o, e⟩ := hpen.got; rw [e]; simp
  have hcS : H cp ≠ none := by obtain ⟨o, e⟩ := hpen.cells; rw [e]; simp
  repeat walk_at "st"
  intro rp' hrp
  repeat walk_at "st"
  intro fp hfp
  have s1 := same_new (o := .lst xs) hrp
  have s2 := same_new (o := .lst []) hfp
  have nfr : fp ≠ rp' := fun z => by rw [z, upd_same] at hfp; cases hfp
  have hfp0 : H fp = none := s1.free hfp
  have hp2 := (s1.trans s2) _ _ hp
  have nra : rp' ≠ a := fun z => haS (by rw [← z]; exact hrp)
  have nfa : fp ≠ a := fun z => haS (by rw [← z]; exact hfp0)
  repeat walk_at "st"
  refine for_it (n := xs.length) walk_rg0 (fun i σ' H' => ∃ rs fs' o, σ' = [some (.ref a), some (.ref p), some (.ref rp'), some (.ref fp), o] ∧ SameX a H H' ∧ isPen H' a cp (k + i) ∧ H' rp' = some (.lst rs) ∧ H' fp = some (.lst fs') ∧ (fs' ++ rs).Perm xs ∧ rs.length = xs.length - i) ⟨xs, [], _, rfl, SameX.of (s1.trans s2), hpen.same (s1.trans s2), by rw [upd_ne (Ne.symm nfr), upd_same], upd_same, List.Perm.refl _, by simp⟩ (fun _ _ _ _ _ => trivial) ?_ ?_
  · rintro i x σ' H1 H1' hin ⟨rs, fs', o, rfl, sx, hpen1, hr1, hf1, hperm, hlen⟩ ⟨rfl, rfl⟩
    repeat walk_at "st"
    refine ⟨a, cp, rs.length, k + i, rfl, hpen1, by omega, by omega, by omega, fun d H2 hd sx2 hpen2 => ?_⟩
    have hr2 := sx2 _ _ nra hr1
    have hf2 := sx2 _ _ nfa hf1
    repeat walk_at "st"
    refine s_popAt hr2 (y := rs[d]) (by simp [hd]) (by omega) ?_
    have hf3 : (upd H2 rp' (.lst (rs.eraseIdx d))) fp = some (.lst fs') := by rw [upd_ne nfr]; exact hf2
    repeat walk_at "st"
    have hpl := hperm.length_eq
    rw [List.length_append] at hpl
    refine s_append hf3 (by omega) ?_
    refine ⟨rs.eraseIdx d, fs' ++ [rs[d]], _, rfl, fun b o n e => ?_, ?_, ?_, upd_same, ?_, ?_⟩
    · rw [upd_ne (fun z => by rw [z, hfp0] at e; cases e), upd_ne (fun z => by rw [z, hrp] at e; cases e)]
      exact sx2 _ _ n (sx _ _ n e)
    · refine hpen2.keep ?_ ?_
      · rw [upd_ne (Ne.symm nfa), upd_ne (Ne.symm nra)]
      · rw [upd_ne (fun z => hcS (by rw [z]; exact hfp0)), upd_ne (fun z => hcS (by rw [z]; exact hrp))]
    · rw [upd_ne (Ne.symm nfr), upd_same]
    · have := erase_perm (xs := rs) (d := d) (y := rs[d]) (by simp [hd])
      rw [List.append_assoc]
      exact (List.Perm.append_left fs' this).trans hperm
    · rw [List.length_eraseIdx, if_pos hd]; omega
  · rintro σ' H1 ⟨rs, fs', o, rfl, sx, hpen1, hr1, hf1, hperm, hlen⟩
    have : rs = [] := List.length_eq_zero_iff.mp (by omega)
    subst this
    rw [List.append_nil] at hperm
    repeat walk_at "st"
    exact kk fp fs' H1 hperm hfp0 sx hf1 hpen1
end
end Kq

set_option Elab.async false
set_option linter.all false
set_option maxRecDepth 100000
set_option maxHeartbeats 4000000
/-! the law's rows walked -/
namespace Kq
open PySem PySem.Spec PyProof.Rows L2 XG
local macro_rules | `(tactic| walk_at "st") => `(tactic| first
  | with_reducible refine s_seq ?_
  | ((with_reducible refine' s_var ?h1 ?h2); (case h1 => rfl))
  | with_reducible refine s_c ?_
  | with_reducible refine s_op ?_
  | with_reducible refine s_asg ?_
  | with_reducible refine s_name ?_
  | with_reducible refine s_cons ?_
  | with_reducible refine s_nil ?_
  | with_reducible refine s_call ?_
  | with_reducible refine s_CB ?_
  | with_reducible refine s_add ?_
  | ((with_reducible refine' s_sub ?h1 ?h2); (case h1 => omega))
  | ((with_reducible refine' s_mul ?h1 ?h2); (case h1 => omega))
  | ((with_reducible refine' s_mod ?h1 ?h2); (case h1 => omega))
  | ((with_reducible refine' s_div ?h1 ?h2); (case h1 => omega))
  | ((with_reducible refine' s_shl ?h1 ?h2); (case h1 => omega))
  | with_reducible refine s_shr ?_
  | with_reducible refine s_and ?_
  | with_reducible refine s_or ?_
  | with_reducible refine s_xor ?_
  | with_reducible refine s_lt ?_
  | with_reducible refine s_le ?_
  | with_reducible refine s_gt ?_
  | with_reducible refine s_ge ?_
  | with_reducible refine s_eqN ?_
  | with_reducible refine s_neN ?_
  | with_reducible refine s_eqS ?_
  | with_reducible refine s_neS ?_
  | with_reducible refine s_I0 ?_
  | with_reducible refine s_un ?_
  | with_reducible refine s_neg ?_
  | with_reducible refine s_test ?_
  | with_reducible refine s_B ?_
  | with_reducible refine s_bl ?_
  | with_reducible refine s_ifS ?_
  | with_reducible refine s_ifE ?_
  | with_reducible refine s_not ?_
  | with_reducible refine s_and2 ?_
  | with_reducible refine s_or2 ?_
  | with_reducible refine s_andV ?_
  | with_reducible refine s_orV ?_
  | with_reducible refine s_notV ?_
  | with_reducible refine s_tru ?_
  | with_reducible refine s_par ?_
  | with_reducible refine s_two ?_
  | with_reducible refine s_par3 ?_
  | with_reducible refine s_three ?_
  | with_reducible refine s_lst ?_
  | with_reducible refine s_tup ?_
  | ((with_reducible refine' s_size ?h1 ?h2); (case h1 => exact Nat.le_of_ble_eq_true rfl))
  | with_reducible refine s_fld ?_
  | with_reducible refine s_gcons ?_
  | with_reducible refine s_gnil ?_
  | with_reducible refine s_intN ?_
  | with_reducible refine s_intI ?_
  | with_reducible refine s_tTru ?_
  | with_reducible refine s_tBL ?_
  | with_reducible refine s_sign ?_
  | with_reducible refine s_min ?_
  | with_reducible refine s_sfld ?_
  | with_reducible refine s_gfld ?_
  | with_reducible refine s_intB ?_
  | with_reducible refine s_next ?_
  | with_reducible refine s_ret ?_
  | with_reducible refine s_drop ?_
  | with_reducible refine s_for ?_
  | with_reducible refine s_lc ?_
  | with_reducible refine s_yes ?_
  | with_reducible refine s_bits ?_
  | with_reducible refine s_bitsV ?_
  | ((with_reducible refine' s_own ?h1 ?h2); (case h1 => assumption))
  | ((with_reducible refine' s_len ?h1 ?h2); (case h1 => assumption))
  | ((with_reducible refine' s_lenT ?h1 ?h2); (case h1 => assumption))
  | with_reducible refine s_iTup ?_
  | with_reducible refine s_iList ?_
  | with_reducible refine s_iStr ?_
  | with_reducible refine s_iRng1 ?_
  | with_reducible refine s_iRng2 ?_
  | with_reducible refine s_iEnum ?_
  | with_reducible refine s_iEnumT ?_
  | with_reducible refine s_iEnumS ?_
  | with_reducible refine s_iZip ?_
  | with_reducible refine s_iZipM ?_
  | with_reducible refine s_srcS ?_
  | with_reducible refine s_srcES ?_
  | ((with_reducible refine' s_srcT ?h1 ?h2); (case h1 => assumption))
  | ((with_reducible refine' s_srcL ?h1 ?h2); (case h1 => assumption))
  | ((with_reducible refine' s_srcE ?h1 ?h2); (case h1 => assumption))
  | ((with_reducible refine' s_srcET ?h1 ?h2); (case h1 => assumption))
  | ((with_reducible refine' s_rng1 ?h1 ?h2); (case h1 => omega))
  | ((with_reducible refine' s_rng2 ?h1 ?h2); (case h1 => omega))
  | with_reducible refine s_ckw ?_
  | ((with_reducible refine' s_sorted ?h1 ?h2); (case h1 => assumption))
  | ((with_reducible refine' s_inN ?h1 ?h2); (case h1 => assumption))
  | ((with_reducible refine' s_ninN ?h1 ?h2); (case h1 => assumption))
  | ((with_reducible refine' s_tupL ?h1 ?h2); (case h1 => assumption))
  | ((with_reducible refine' s_tupT ?h1 ?h2); (case h1 => assumption))
  | ((with_reducible refine' s_lstL ?h1 ?h2); (case h1 => assumption))
  | ((with_reducible refine' s_lstT ?h1 ?h2); (case h1 => assumption))
  | ((with_reducible refine' s_addS2 ?h1 ?h2); (case h1 => (simp only [List.length_append, letL_len]; omega)); (rw [sOf_add]))
  | with_reducible refine s_sl ?_
  | with_reducible refine s_part ?_
  | with_reducible refine s_partV ?_
  | with_reducible refine s_nopart ?_
  | ((with_reducible refine' s_cutTake ?h1 ?h2); (case h1 => assumption))
  | ((with_reducible refine' s_cutDrop ?h1 ?h2); (case h1 => assumption))
  | with_reducible refine s_isiII ?_
  | with_reducible refine s_isiIB ?_
  | with_reducible refine s_isiSS ?_
  | ((with_reducible refine' s_isiTT ?h1 ?h2); (case h1 => assumption))
  | ((with_reducible refine' s_aug ?h1 ?h2); (case h1 => rfl))
  | with_reducible refine s_ipN ?_
  | with_reducible refine s_ip ?_
  | with_reducible refine s_gsub ?_
  | with_reducible refine s_wh ?_
  | with_reducible refine s_join ?_
  | ((with_reducible refine' s_ixT ?h1 ?h2 ?h3); (case h1 => assumption); (case h2 => rfl))
  | ((with_reducible refine' s_at ?h1 ?h2 ?h3); (case h1 => assumption); (case h2 => assumption))
  | with_reducible refine s_make ?_
  | with_reducible refine s_dgetK ?_
  | with_reducible refine s_dput ?_
  | with_reducible refine s_chain ?_
  | with_reducible refine s_eqI ?_)

section
variable {P : Program} {w : World} {K : PySem.W.Frag} {mg : Str → Option Value} {base : Heap}
theorem pc_le (n : Nat) : ∀ k, n < 2 ^ k → pc n ≤ k := by
  intro k
  induction k generalizing n with
  | zero => intro h; have : n = 0 := by simpa using h
            subst this; rw [pc_zero]; exact Nat.le_refl _
  | succ k ih =>
    intro h
    rw [pc_eq]
    have := ih (n / 2) (by rw [Nat.pow_succ] at h; omega)
    omega
def sp_law_ones : Sp := fun vs H Q _ => ∃ n, vs = [nV n] ∧ n < 2 ^ 60 ∧ Q (nV (pc n)) H
theorem ok_law_ones (T : Tx K mg) : FnOk P w K mg base CX0 1 (He.fAd K ("_law_ones", none)) T.fd_law_ones ["_law_number"] (sp_law_ones) := by
  refine okD T.F_law_ones sc_law_ones (fun vs H Q E h => by obtain ⟨a, rfl, _⟩ := h; rfl) (fun cdv A outer s H vs Q E hr h => ?_)
  obtain ⟨n, rfl, hn, k⟩ := h
  refine ⟨_, (pss_cons (ps_set (i := 1) sc_law_ones.nd rfl (.inl rfl) (pe_nat 0))
  (pss_cons (ps_for PassesOwn.never rfl (pi_range1 rfl T.n_range (pa_cons (pe_nat 64) pa_nil)) (pg_name (i := 2) sc_law_ones.nd rfl (.inl rfl))
  (pss_cons (ps_if (pt_cmpR on_eq (pv 0) (pe_nat 0) (nomark _)) (pss_one ps_break) pss_nil)
  (pss_one (ps_par (by rfl) sc_law_ones.nd (i := 0) (j := 1) rfl rfl (by decide) rfl rfl (pa_cons (pe_op on_and (pv 0) (pe_op on_sub (pv 0) (pe_nat 1))) (pa_cons (pe_op on_add (pv 1) (pe_nat 1)) pa_nil)) (by rfl)))))
  (pss_one (ps_ret (pv 1))))), ?_⟩
  have hp := pc_le n 60 hn
  repeat walk_at "st"
  refine for_it (n := 64) walk_rg0 (fun i σ' H' => H' = H ∧ ∃ m c o, σ' = [some (nV m), some (nV c), o] ∧ c + pc m = pc n ∧ c = i) ⟨rfl, n, 0, _, rfl, by omega, rfl⟩ (fun _ _ _ _ _ => trivial) ?_ ?_
  · rintro i x σ' H1 H1' hin ⟨rfl, m, c, o, rfl, e, rfl⟩ ⟨rfl, rfl⟩
    repeat walk_at "st"
    refine s_if (fun z => ?_) (fun z => ?_)
    · have z := of_decide_eq_true z
      subst z
      rw [pc_zero, Nat.add_zero] at e
      show tRet (tVar 1) _ _ _
      repeat walk_at "st"
      rw [e]; exact k
    · have z := of_decide_eq_false z
      obtain ⟨p1, p2⟩ := pc_step m z
      repeat walk_at "st"
      exact ⟨rfl, _, _, _, rfl, by omega, rfl⟩
  · rintro σ' H1 ⟨rfl, m, c, o, rfl, e, rfl⟩
    exfalso
    omega
def Small (r : Row) : Prop := r.x < 2 ^ 60 ∧ r.z < 2 ^ 60
theorem Row.ok.small {n : Nat} {r : Row} (h : r.ok n) (hn : n ≤ 60) : Small r := ⟨Nat.lt_of_lt_of_le h.1 (Nat.pow_le_pow_right (by decide) hn), Nat.lt_of_lt_of_le h.2.1 (Nat.pow_le_pow_right (by decide) hn)⟩
def sp_law_crosses : Sp := fun vs H Q _ => ∃ v u a b, vs = [v, u] ∧ isRow H v a ∧ isRow H u b ∧ Small a ∧ Small b ∧ Q (nV (cr a b)) H
theorem ok_law_crosses (T : Tx K mg) : FnOk P w K mg base CX0 2 (He.fAd K ("_law_crosses", none)) T.fd_law_crosses ["_law_one", "_law_two"] (sp_law_crosses) := by
  have G_law_ones := ok_law_ones (P := P) (w := w) (base := base) T
  refine okD T.F_law_crosses sc_law_crosses (fun vs H Q E h => by obtain ⟨a, _, _, _, rfl, _⟩ := h; rfl) (fun cdv A outer s H vs Q E hr h => ?_)
  obtain ⟨v, u, a, b, rfl, ⟨p, rfl, hp⟩, ⟨q, rfl, hq⟩, sa, sb, k⟩ := h
  refine ⟨_, (pss_one (ps_ret (pe_op on_mod (pe_callTy xc_intN (by rfl) T.n_int (by decide +kernel) (pa_cons (pe_call G_law_ones (hr.mono (by decide)) (by rfl) T.m_law_ones T.F_law_ones.kp T.b_law_ones .nil pass0 (pa_cons (pe_op on_xor (pe_op on_and (pe_ix xi_tup (pv 0) (pe_nat 0) (fun _ _ => rfl)) (pe_ix xi_tup (pv 1) (pe_nat 1) (fun _ _ => rfl))) (pe_op on_and (pe_ix xi_tup (pv 0) (pe_nat 1) (fun _ _ => rfl)) (pe_ix xi_tup (pv 1) (pe_nat 0) (fun _ _ => rfl)))) pa_nil)) pa_nil)) (pe_nat 2)))), ?_⟩
  repeat walk_at "st"
  refine ⟨_, rfl, Nat.xor_lt_two_pow (Nat.lt_of_le_of_lt Nat.and_le_left sa.1) (Nat.lt_of_le_of_lt Nat.and_le_left sa.2), ?_⟩
  repeat walk_at "st"
  have e : pc ((a.x &&& b.z) ^^^ (a.z &&& b.x)) % 2 = cr a b := by
    have := pc_xor (a.x &&& b.z) (a.z &&& b.x)
    unfold cr cr2 par
    show _ = (pc (a.x &&& b.z) % 2 + pc (a.z &&& b.x) % 2) % 2
    omega
  rw [e]
  exact k
def sp_law_product : Sp := fun vs H Q _ => ∃ v u a b, vs = [v, u] ∧ isRow H v a ∧ isRow H u b ∧ Small a ∧ Small b ∧ ∀ v' H', Same H H' → isRow H' v' (rp a b) → Q v' H'
theorem ok_law_product (T : Tx K mg) : FnOk P w K mg base CX0 2 (He.fAd K ("_law_product", none)) T.fd_law_product ["_law_one", "_law_two"] (sp_law_product) := by
  have G_law_ones := ok_law_ones (P := P) (w := w) (base := base) T
  refine okD T.F_law_product sc_law_product (fun vs H Q E h => by obtain ⟨a, _, _, _, rfl, _⟩ := h; rfl) (fun cdv A outer s H vs Q E hr h => ?_)
  obtain ⟨v, u, a, b, rfl, ⟨p, rfl, hp⟩, ⟨q, rfl, hq⟩, sa, sb, k⟩ := h
  refine ⟨_, (pss_cons (ps_par (by rfl) sc_law_product.nd (i := 2) (j := 3) rfl rfl (by decide) rfl rfl (pa_cons (pe_op on_xor (pe_ix xi_tup (pv 0) (pe_nat 0) (fun _ _ => rfl)) (pe_ix xi_tup (pv 1) (pe_nat 0) (fun _ _ => rfl))) (pa_cons (pe_op on_xor (pe_ix xi_tup (pv 0) (pe_nat 1) (fun _ _ => rfl)) (pe_ix xi_tup (pv 1) (pe_nat 1) (fun _ _ => rfl))) pa_nil)) (by rfl))
  (pss_cons (ps_set (i := 4) sc_law_product.nd rfl (.inl rfl) (pe_op on_add (pe_call G_law_ones (hr.mono (by decide)) (by rfl) T.m_law_ones T.F_law_ones.kp T.b_law_ones .nil pass0 (pa_cons (pe_op on_and (pe_ix xi_tup (pv 0) (pe_nat 0) (fun _ _ => rfl)) (pe_ix xi_tup (pv 0) (pe_nat 1) (fun _ _ => rfl))) pa_nil)) (pe_call G_law_ones (hr.mono (by decide)) (by rfl) T.m_law_ones T.F_law_ones.kp T.b_law_ones .nil pass0 (pa_cons (pe_op on_and (pe_ix xi_tup (pv 1) (pe_nat 0) (fun _ _ => rfl)) (pe_ix xi_tup (pv 1) (pe_nat 1) (fun _ _ => rfl))) pa_nil))))
  (pss_cons (ps_set (i := 4) sc_law_product.nd rfl (.inl rfl) (pe_op op_add (pe_op op_sub (pv 4) (pe_call G_law_ones (hr.mono (by decide)) (by rfl) T.m_law_ones T.F_law_ones.kp T.b_law_ones .nil pass0 (pa_cons (pe_op on_and (pv 2) (pv 3)) pa_nil))) (pe_op on_mul (pe_nat 2) (pe_call G_law_ones (hr.mono (by decide)) (by rfl) T.m_law_ones T.F_law_ones.kp T.b_law_ones .nil pass0 (pa_cons (pe_op on_and (pe_ix xi_tup (pv 0) (pe_nat 1) (fun _ _ => rfl)) (pe_ix xi_tup (pv 1) (pe_nat 0) (fun _ _ => rfl))) pa_nil)))))
  (pss_one (ps_ret (pe_tup (pa_cons (pv 2) (pa_cons (pv 3) (pa_cons (pe_op op_fdiv (pe_op op_mod (pe_callTy xc_intI (by rfl) T.n_int (by decide +kernel) (pa_cons (pe_op op_add (pv 4) (pe_op on_mul (pe_nat 2) (pe_op on_add (pe_ix xi_tup (pv 0) (pe_nat 2) (fun _ _ => rfl)) (pe_ix xi_tup (pv 1) (pe_nat 2) (fun _ _ => rfl))))) pa_nil)) (pe_nat 4)) (pe_nat 2)) pa_nil))))))))), ?_⟩
  have sm : ∀ x y : Nat, x < 2 ^ 60 → x &&& y < 2 ^ 60 := fun x y h => Nat.lt_of_le_of_lt Nat.and_le_left h
  repeat walk_at "st"
  refine ⟨_, rfl, sm _ _ sa.1, ?_⟩
  repeat walk_at "st"
  refine ⟨_, rfl, sm _ _ sb.1, ?_⟩
  repeat walk_at "st"
  refine ⟨_, rfl, sm _ _ (Nat.xor_lt_two_pow sa.1 sb.1), ?_⟩
  repeat walk_at "st"
  refine ⟨_, rfl, sm _ _ sa.2, ?_⟩
  repeat walk_at "st"
  refine s_I (by decide) ?_
  repeat walk_at "st"
  refine s_I (show (0 : Int) < ((2 : Nat) : Int) ∧ ((2 : Nat) : Int) < 1073741824 by decide) ?_
  repeat walk_at "st"
  intro p2 hp2
  refine k _ _ (same_new hp2) ⟨p2, rfl, ?_⟩
  rw [upd_same]
  have e : ∀ i : Int, i = rpI a b → i % ((4 : Nat) : Int) / ((2 : Nat) : Int) = ((rp a b).s : Int) := fun i hi => by
    rw [← rp_s, hi]; omega
  refine congrArg (fun i => some (HO.tup [nV (a.x ^^^ b.x), nV (a.z ^^^ b.z), V.int i])) (e _ ?_)
  unfold rpI
  push_cast
  omega
def sp_law_letters : Sp := fun vs H Q _ => ∃ v r n, vs = [v, nV n] ∧ isRow H v r ∧ n ≤ 100 ∧ Q (.str (sOf (letL n r.x r.z))) H
theorem ok_law_letters (T : Tx K mg) : FnOk P w K mg base CX0 1 (He.fAd K ("_law_letters", none)) T.fd_law_letters ["_law_string", "_law_size"] (sp_law_letters) := by
  refine okD T.F_law_letters sc_law_letters (fun vs H Q E h => by obtain ⟨a, _, _, rfl, _⟩ := h; rfl) (fun cdv A outer s H vs Q E hr h => ?_)
  obtain ⟨v, r, n, rfl, ⟨p, rfl, hp⟩, hn, k⟩ := h
  refine ⟨_, (pss_cons (ps_set (i := 2) sc_law_letters.nd rfl (.inl rfl) pe_str)
  (pss_cons (ps_for PassesOwn.never rfl (pi_range1 rfl T.n_range (pa_cons (pv 1) pa_nil)) (pg_name (i := 3) sc_law_letters.nd rfl (.inl rfl))
  (pss_one (ps_set (i := 2) sc_law_letters.nd rfl (.inl rfl) (pe_op op_add_str (pv 2) (pe_ix xi_str pe_str (pe_op on_add (pe_op on_mod (pe_callTy xc_intN (by rfl) T.n_int (by decide +kernel) (pa_cons (pe_op on_shr (pe_ix xi_tup (pv 0) (pe_nat 0) (fun _ _ => rfl)) (pv 3)) pa_nil)) (pe_nat 2)) (pe_op on_mul (pe_nat 2) (pe_op on_mod (pe_callTy xc_intN (by rfl) T.n_int (by decide +kernel) (pa_cons (pe_op on_shr (pe_ix xi_tup (pv 0) (pe_nat 1) (fun _ _ => rfl)) (pv 3)) pa_nil)) (pe_nat 2)))) (fun _ _ => rfl))))))
  (pss_one (ps_ret (pv 2))))), ?_⟩
  repeat walk_at "st"
  refine for_it (n := n) walk_rg0 (fun i σ' H' => H' = H ∧ ∃ o, σ' = [some (.ref p), some (nV n), some (.str (sOf (letL i r.x r.z))), o]) ⟨rfl, _, rfl⟩ (fun _ _ _ _ _ => trivial) ?_ ?_
  · rintro i x σ' H1 H1' hin ⟨rfl, o, rfl⟩ ⟨rfl, rfl⟩
    repeat walk_at "st"
    rw [bit_mod, bit_mod]
    refine s_ixS (c := chr4 (r.x.testBit i) (r.z.testBit i)) (by decide +kernel) (four_at _ _) ?_
    have ll := letL_len i r.x r.z
    refine s_addS2 (a := letL i r.x r.z) (b := [chr4 (r.x.testBit i) (r.z.testBit i)]) (by simp; omega) ?_
    rw [sOf_add, show letL i r.x r.z ++ [chr4 (r.x.testBit i) (r.z.testBit i)] = letL (i + 1) r.x r.z from by unfold letL; rw [List.range_succ, List.map_append]; rfl]
    repeat walk_at "st"
    exact ⟨rfl, _, rfl⟩
  · rintro σ' H1 ⟨rfl, o, rfl⟩
    repeat walk_at "st"
    exact k
def sp_law_text : Sp := fun vs H Q _ => ∃ v r n, vs = [v, nV n] ∧ isRow H v r ∧ n ≤ 100 ∧ r.s < 2 ∧ Q (.str (sOf (sgnL r.s ++ letL n r.x r.z))) H
theorem ok_law_text (T : Tx K mg) : FnOk P w K mg base CX0 2 (He.fAd K ("_law_text", none)) T.fd_law_text ["_law_string", "_law_size"] (sp_law_text) := by
  have G_law_letters := ok_law_letters (P := P) (w := w) (base := base) T
  refine okD T.F_law_text sc_law_text (fun vs H Q E h => by obtain ⟨a, _, _, rfl, _⟩ := h; rfl) (fun cdv A outer s H vs Q E hr h => ?_)
  obtain ⟨v, r, n, rfl, ⟨p, rfl, hp⟩, hn, hs, k⟩ := h
  refine ⟨_, (pss_one (ps_ret (pe_op op_add_str (pe_ifExp (xt_tru (pe_ix xi_tup (pv 0) (pe_nat 2) (fun _ _ => rfl))) pe_str pe_str) (pe_call G_law_letters (hr.mono (by decide)) (by rfl) T.m_law_letters T.F_law_letters.kp T.b_law_letters .nil pass0 (pa_cons (pv 0) (pa_cons (pv 1) pa_nil)))))), ?_⟩
  have e : ∀ {σ : L2.St} {H : Hp} {Q : VK}, Q (.str (sOf (sgnL r.s))) H → if decide (r.s ≠ 0) = true then tC (.str (Str.ofString "-")) σ H Q else tC (.str (Str.ofString "")) σ H Q := fun {σ H Q} q => by
    refine s_if (fun e => ?_) (fun e => ?_)
    · have e := of_decide_eq_true e
      refine s_c ?_
      rw [show sgnL r.s = [45] from by unfold sgnL; rw [if_pos (by omega)]] at q
      rw [show Str.ofString "-" = sOf [45] from by decide +kernel]
      exact q
    · have e := of_decide_eq_false e
      refine s_c ?_
      rw [show sgnL r.s = [] from by unfold sgnL; rw [if_neg (by omega)]] at q
      rw [show Str.ofString "" = sOf [] from by decide +kernel]
      exact q
  repeat walk_at "st"
  refine e ?_
  repeat walk_at "st"
  have sl : (sgnL r.s).length ≤ 1 := by unfold sgnL; split <;> simp
  refine ⟨_, r, n, rfl, ⟨p, rfl, hp⟩, hn, ?_⟩
  repeat walk_at "st"
  exact k
end
end Kq

set_option Elab.async false
set_option linter.all false
set_option maxHeartbeats 4000000
/-! gates; the tableau -/
namespace Kq
open XG
def bm (c : Bool) (k : Nat) : Nat := if c then 2 ^ k else 0
theorem bm_shl (c : Bool) (k : Nat) : c.toNat <<< k = bm c k := by
  cases c
  · simp [bm]
  · show 1 <<< k = 2 ^ k; rw [Nat.shiftLeft_eq, Nat.one_mul]
theorem bm_bit (c : Bool) (k j : Nat) : (bm c k).testBit j = (c && decide (k = j)) := by
  cases c
  · simp [bm]
  · show (2 ^ k).testBit j = _; rw [Nat.testBit_two_pow]; simp
theorem par_bm (x k : Nat) (c : Bool) : par x (bm c k) = (c && x.testBit k).toNat := by
  cases c
  · show par x 0 = _; rw [par_zero']; simp
  · show par x (2 ^ k) = _; rw [par_pow]; simp
theorem par_bm' (x k : Nat) (c : Bool) : par (bm c k) x = (c && x.testBit k).toNat := by rw [par_comm, par_bm]
theorem bm_lt {c : Bool} {k n : Nat} (h : k < n) : bm c k < 2 ^ n := by
  cases c
  · exact Nat.two_pow_pos n
  · exact Nat.pow_lt_pow_right (by decide) h
theorem xor_toNat (a b : Bool) : a.toNat ^^^ b.toNat = (a ^^ b).toNat := by cases a <;> cases b <;> rfl
/-- what a gate does with letters: 0 none, 1 h, 2 s, 3 cx, 4 cz, else swap -/
def gateV (kd a b : Nat) (v : V2) : V2 :=
  match kd with
  | 0 => v
  | 1 => (v.1 ^^^ bm (v.1.testBit a ^^ v.2.testBit a) a, v.2 ^^^ bm (v.1.testBit a ^^ v.2.testBit a) a)
  | 2 => (v.1, v.2 ^^^ bm (v.1.testBit a) a)
  | 3 => (v.1 ^^^ bm (v.1.testBit a) b, v.2 ^^^ bm (v.2.testBit b) a)
  | 4 => (v.1, (v.2 ^^^ bm (v.1.testBit b) a) ^^^ bm (v.1.testBit a) b)
  | _ => ((v.1 ^^^ bm (v.1.testBit a ^^ v.1.testBit b) a) ^^^ bm (v.1.testBit a ^^ v.1.testBit b) b, (v.2 ^^^ bm (v.2.testBit a ^^ v.2.testBit b) a) ^^^ bm (v.2.testBit a ^^ v.2.testBit b) b)
theorem gateV_lt {kd a b n : Nat} {v : V2} (h : Lt2 n v) (ha : a < n) (hb : 3 ≤ kd → b < n) : Lt2 n (gateV kd a b v) := by
  obtain ⟨h1, h2⟩ := h
  have X := @Nat.xor_lt_two_pow
  match kd, hb with
  | 0, _ => exact ⟨h1, h2⟩
  | 1, _ => exact ⟨X h1 (bm_lt ha), X h2 (bm_lt ha)⟩
  | 2, _ => exact ⟨h1, X h2 (bm_lt ha)⟩
  | 3, hb => exact ⟨X h1 (bm_lt (hb (by decide))), X h2 (bm_lt ha)⟩
  | 4, hb => exact ⟨h1, X (X h2 (bm_lt ha)) (bm_lt (hb (by decide)))⟩
  | k + 5, hb => exact ⟨X (X h1 (bm_lt ha)) (bm_lt (hb (by omega))), X (X h2 (bm_lt ha)) (bm_lt (hb (by omega)))⟩
theorem gateV_cr {kd a b : Nat} (hab : 3 ≤ kd → a ≠ b) (v w : V2) : cr2 (gateV kd a b v) (gateV kd a b w) = cr2 v w := by
  obtain ⟨x1, z1⟩ := v
  obtain ⟨x2, z2⟩ := w
  have p1 := par_lt x1 z2
  have p2 := par_lt z1 x2
  match kd, hab with
  | 0, _ => rfl
  | 1, _ =>
    unfold gateV cr2
    simp only [par_xor, par_xor', par_bm, par_bm', Nat.testBit_xor, bm_bit, decide_true, Bool.and_true]
    generalize par x1 z2 = P1 at p1 ⊢
    generalize par z1 x2 = P2 at p2 ⊢
    cases x1.testBit a <;> cases z1.testBit a <;> cases x2.testBit a <;> cases z2.testBit a <;> simp <;> omega
  | 2, _ =>
    unfold gateV cr2
    simp only [par_xor, par_xor', par_bm, par_bm', Nat.testBit_xor, bm_bit, decide_true, Bool.and_true]
    generalize par x1 z2 = P1 at p1 ⊢
    generalize par z1 x2 = P2 at p2 ⊢
    cases x1.testBit a <;> cases x2.testBit a <;> simp <;> omega
  | 3, hab =>
    have hab := hab (by decide)
    have hba : ¬ b = a := fun z => hab z.symm
    unfold gateV cr2
    simp only [par_xor, par_xor', par_bm, par_bm', Nat.testBit_xor, bm_bit, decide_true, Bool.and_true, decide_eq_false hab, decide_eq_false hba, Bool.and_false]
    generalize par x1 z2 = P1 at p1 ⊢
    generalize par z1 x2 = P2 at p2 ⊢
    cases x1.testBit a <;> cases x2.testBit a <;> cases z1.testBit b <;> cases z2.testBit b <;> simp <;> omega
  | 4, hab =>
    have hab := hab (by decide)
    have hba : ¬ b = a := fun z => hab z.symm
    unfold gateV cr2
    simp only [par_xor, par_xor', par_bm, par_bm', Nat.testBit_xor, bm_bit, decide_true, Bool.and_true, decide_eq_false hab, decide_eq_false hba, Bool.and_false]
    generalize par x1 z2 = P1 at p1 ⊢
    generalize par z1 x2 = P2 at p2 ⊢
    cases x1.testBit a <;> cases x2.testBit a <;> cases x1.testBit b <;> cases x2.testBit b <;> simp <;> omega
  | k + 5, hab =>
    have hab := hab (by omega)
    have hba : ¬ b = a := fun z => hab z.symm
    unfold gateV cr2
    simp only [par_xor, par_xor', par_bm, par_bm', bm_bit, Nat.testBit_xor, decide_true, Bool.and_true, decide_eq_false hab, decide_eq_false hba, Bool.and_false, Bool.xor_false]
    generalize par x1 z2 = P1 at p1 ⊢
    generalize par z1 x2 = P2 at p2 ⊢
    cases x1.testBit a <;> cases x2.testBit a <;> cases x1.testBit b <;> cases x2.testBit b <;> cases z1.testBit a <;> cases z2.testBit a <;> cases z1.testBit b <;> cases z2.testBit b <;> simp <;> omega
/-- n pairs of opposites -/
structure Tab (n : Nat) (A B : Nat → V2) : Prop where
  la : ∀ i, i < n → Lt2 n (A i)
  lb : ∀ i, i < n → Lt2 n (B i)
  aa : ∀ i j, i < n → j < n → cr2 (A i) (A j) = 0
  bb : ∀ i j, i < n → j < n → cr2 (B i) (B j) = 0
  ab : ∀ i j, i < n → j < n → cr2 (A i) (B j) = if i = j then 1 else 0
theorem Tab.gate {n kd a b : Nat} {A B : Nat → V2} (h : Tab n A B) (ha : a < n) (hb : 3 ≤ kd → b < n ∧ a ≠ b) : Tab n (fun i => gateV kd a b (A i)) (fun i => gateV kd a b (B i)) :=
  ⟨fun i hi => gateV_lt (h.la i hi) ha fun z => (hb z).1, fun i hi => gateV_lt (h.lb i hi) ha fun z => (hb z).1,
    fun i j hi hj => by rw [gateV_cr fun z => (hb z).2]; exact h.aa i j hi hj, fun i j hi hj => by rw [gateV_cr fun z => (hb z).2]; exact h.bb i j hi hj, fun i j hi hj => by rw [gateV_cr fun z => (hb z).2]; exact h.ab i j hi hj⟩
theorem Tab.init (n : Nat) : Tab n (fun k => (0, 2 ^ k)) (fun k => (2 ^ k, 0)) := by
  refine ⟨fun i hi => ⟨Nat.two_pow_pos n, Nat.pow_lt_pow_right (by decide) hi⟩, fun i hi => ⟨Nat.pow_lt_pow_right (by decide) hi, Nat.two_pow_pos n⟩, fun i j _ _ => ?_, fun i j _ _ => ?_, fun i j _ _ => ?_⟩
  · unfold cr2; simp [par_zero, par_zero']
  · unfold cr2; simp [par_zero, par_zero']
  · unfold cr2
    show (par 0 0 + par (2 ^ i) (2 ^ j)) % 2 = _
    rw [par_zero, par_pow, Nat.testBit_two_pow]
    by_cases e : i = j
    · subst e; simp
    · simp [e]
end Kq

set_option Elab.async false
set_option linter.all false
set_option maxRecDepth 100000
set_option maxHeartbeats 4000000
/-! more steps -/
namespace Kq
open PySem PySem.Spec PyProof.Rows L2
section
variable {K : PySem.W.Frag} {σ : L2.St} {H : Hp} {Q : VK} {D : Ends}
theorem s_disp {trs : List (TE × TE)} (h : ∀ p, H p = none → tPairs trs σ (upd H p (.dK [])) fun ps H2 => H2 p = some (.dK []) ∧ ∃ kvs : List (Key × V), ps = kvs.map (fun kv => (kV kv.1, kv.2)) ∧ kvs.length ≤ 15 ∧ Q (.ref p) (upd H2 p (.dK (mergeK [] kvs)))) : tDisp trs σ H Q := h
theorem s_pcons {tk tv : TE} {r : List (TE × TE)} {R : List (V × V) → Hp → Prop} (h : tk σ H fun x H1 => tv σ H1 fun y H2 => tPairs r σ H2 fun ps H3 => R ((x, y) :: ps) H3) : tPairs ((tk, tv) :: r) σ H R := h
theorem s_pnil {R : List (V × V) → Hp → Prop} (h : R [] H) : tPairs [] σ H R := h
theorem valV_m3 {a b c : Str} {x y z : V} (k : Str) (h1 : a ≠ b) (h2 : a ≠ c) (h3 : b ≠ c) : valV (mergeK [] [(.inr a, x), (.inr b, y), (.inr c, z)]) (.inr k) = if k = c then some z else if k = b then some y else if k = a then some x else none := by
  unfold mergeK
  rw [List.foldl_cons, List.foldl_cons, List.foldl_cons, List.foldl_nil, valV_put, valV_put, valV_put, valV_nil]
  have e : ∀ u v : Str, ((Sum.inr u : Key) = .inr v) = (u = v) := fun u v => propext ⟨fun h => Sum.inr.inj h, fun h => by rw [h]⟩
  simp only [e]
end
end Kq

set_option Elab.async false
set_option linter.all false
set_option maxRecDepth 100000
set_option maxHeartbeats 4000000
/-! the law's texts and gates walked -/
namespace Kq
open PySem PySem.Spec PyProof.Rows L2 XG
local macro_rules | `(tactic| walk_at "st") => `(tactic| first
  | with_reducible refine s_seq ?_
  | ((with_reducible refine' s_var ?h1 ?h2); (case h1 => rfl))
  | with_reducible refine s_c ?_
  | with_reducible refine s_op ?_
  | with_reducible refine s_asg ?_
  | with_reducible refine s_name ?_
  | with_reducible refine s_cons ?_
  | with_reducible refine s_nil ?_
  | with_reducible refine s_call ?_
  | with_reducible refine s_CB ?_
  | with_reducible refine s_add ?_
  | ((with_reducible refine' s_sub ?h1 ?h2); (case h1 => omega))
  | ((with_reducible refine' s_mul ?h1 ?h2); (case h1 => omega))
  | ((with_reducible refine' s_mod ?h1 ?h2); (case h1 => omega))
  | ((with_reducible refine' s_div ?h1 ?h2); (case h1 => omega))
  | ((with_reducible refine' s_shl ?h1 ?h2); (case h1 => omega))
  | with_reducible refine s_shr ?_
  | with_reducible refine s_and ?_
  | with_reducible refine s_or ?_
  | with_reducible refine s_xor ?_
  | with_reducible refine s_lt ?_
  | with_reducible refine s_le ?_
  | with_reducible refine s_gt ?_
  | with_reducible refine s_ge ?_
  | with_reducible refine s_eqN ?_
  | with_reducible refine s_neN ?_
  | with_reducible refine s_eqS ?_
  | with_reducible refine s_neS ?_
  | with_reducible refine s_I0 ?_
  | with_reducible refine s_un ?_
  | with_reducible refine s_neg ?_
  | with_reducible refine s_test ?_
  | with_reducible refine s_B ?_
  | with_reducible refine s_bl ?_
  | with_reducible refine s_ifS ?_
  | with_reducible refine s_ifE ?_
  | with_reducible refine s_not ?_
  | with_reducible refine s_and2 ?_
  | with_reducible refine s_or2 ?_
  | with_reducible refine s_andV ?_
  | with_reducible refine s_orV ?_
  | with_reducible refine s_notV ?_
  | with_reducible refine s_tru ?_
  | with_reducible refine s_par ?_
  | with_reducible refine s_two ?_
  | with_reducible refine s_par3 ?_
  | with_reducible refine s_three ?_
  | with_reducible refine s_lst ?_
  | with_reducible refine s_tup ?_
  | ((with_reducible refine' s_size ?h1 ?h2); (case h1 => exact Nat.le_of_ble_eq_true rfl))
  | with_reducible refine s_fld ?_
  | with_reducible refine s_gcons ?_
  | with_reducible refine s_gnil ?_
  | with_reducible refine s_intN ?_
  | with_reducible refine s_intI ?_
  | with_reducible refine s_tTru ?_
  | with_reducible refine s_tBL ?_
  | with_reducible refine s_sign ?_
  | with_reducible refine s_min ?_
  | with_reducible refine s_sfld ?_
  | with_reducible refine s_gfld ?_
  | with_reducible refine s_intB ?_
  | with_reducible refine s_next ?_
  | with_reducible refine s_ret ?_
  | with_reducible refine s_drop ?_
  | with_reducible refine s_for ?_
  | with_reducible refine s_lc ?_
  | with_reducible refine s_yes ?_
  | with_reducible refine s_bits ?_
  | with_reducible refine s_bitsV ?_
  | ((with_reducible refine' s_own ?h1 ?h2); (case h1 => assumption))
  | ((with_reducible refine' s_len ?h1 ?h2); (case h1 => assumption))
  | ((with_reducible refine' s_lenT ?h1 ?h2); (case h1 => assumption))
  | with_reducible refine s_iTup ?_
  | with_reducible refine s_iList ?_
  | with_reducible refine s_iStr ?_
  | with_reducible refine s_iRng1 ?_
  | with_reducible refine s_iRng2 ?_
  | with_reducible refine s_iEnum ?_
  | with_reducible refine s_iEnumT ?_
  | with_reducible refine s_iEnumS ?_
  | with_reducible refine s_iZip ?_
  | with_reducible refine s_iZipM ?_
  | with_reducible refine s_srcS ?_
  | with_reducible refine s_srcES ?_
  | ((with_reducible refine' s_srcT ?h1 ?h2); (case h1 => assumption))
  | ((with_reducible refine' s_srcL ?h1 ?h2); (case h1 => assumption))
  | ((with_reducible refine' s_srcE ?h1 ?h2); (case h1 => assumption))
  | ((with_reducible refine' s_srcET ?h1 ?h2); (case h1 => assumption))
  | ((with_reducible refine' s_rng1 ?h1 ?h2); (case h1 => omega))
  | ((with_reducible refine' s_rng2 ?h1 ?h2); (case h1 => omega))
  | with_reducible refine s_ckw ?_
  | ((with_reducible refine' s_sorted ?h1 ?h2); (case h1 => assumption))
  | ((with_reducible refine' s_inN ?h1 ?h2); (case h1 => assumption))
  | ((with_reducible refine' s_ninN ?h1 ?h2); (case h1 => assumption))
  | ((with_reducible refine' s_tupL ?h1 ?h2); (case h1 => assumption))
  | ((with_reducible refine' s_tupT ?h1 ?h2); (case h1 => assumption))
  | ((with_reducible refine' s_lstL ?h1 ?h2); (case h1 => assumption))
  | ((with_reducible refine' s_lstT ?h1 ?h2); (case h1 => assumption))
  | ((with_reducible refine' s_addS2 ?h1 ?h2); (case h1 => (simp only [List.length_append, letL_len]; omega)); (rw [sOf_add]))
  | with_reducible refine s_sl ?_
  | with_reducible refine s_part ?_
  | with_reducible refine s_partV ?_
  | with_reducible refine s_nopart ?_
  | ((with_reducible refine' s_cutTake ?h1 ?h2); (case h1 => assumption))
  | ((with_reducible refine' s_cutDrop ?h1 ?h2); (case h1 => assumption))
  | with_reducible refine s_isiII ?_
  | with_reducible refine s_isiIB ?_
  | with_reducible refine s_isiSS ?_
  | ((with_reducible refine' s_isiTT ?h1 ?h2); (case h1 => assumption))
  | ((with_reducible refine' s_aug ?h1 ?h2); (case h1 => rfl))
  | with_reducible refine s_ipN ?_
  | with_reducible refine s_ip ?_
  | with_reducible refine s_gsub ?_
  | with_reducible refine s_wh ?_
  | with_reducible refine s_join ?_
  | ((with_reducible refine' s_ixT ?h1 ?h2 ?h3); (case h1 => assumption); (case h2 => rfl))
  | ((with_reducible refine' s_at ?h1 ?h2 ?h3); (case h1 => assumption); (case h2 => assumption))
  | with_reducible refine s_make ?_
  | with_reducible refine s_dgetK ?_
  | with_reducible refine s_dput ?_
  | with_reducible refine s_chain ?_
  | with_reducible refine s_eqI ?_
  | with_reducible refine s_pcons ?_
  | with_reducible refine s_pnil ?_)

section
variable {P : Program} {w : World} {K : PySem.W.Frag} {mg : Str → Option Value} {base : Heap}
theorem lstrip_none {ls : List Nat} (h : ∀ c ∈ ls, c ∈ [73, 88, 89, 90]) : Txt.lstripChars (sOf ls) (Str.ofString "+-") = sOf ls := by
  unfold Txt.lstripChars Txt.stripBy
  rw [if_pos]
  unfold stripSame stripLo stripHi
  rw [if_pos rfl, if_neg Bool.false_ne_true]
  rw [Bool.and_eq_true]
  refine ⟨?_, by simp⟩
  rw [sOf_list]
  cases ls with
  | nil => rfl
  | cons c l =>
    have hc := h c List.mem_cons_self
    rw [List.takeWhile_cons]
    have : (Str.ofString "+-").cps.contains c = false := by
      simp only [List.mem_cons, List.not_mem_nil, or_false] at hc
      rcases hc with rfl | rfl | rfl | rfl <;> decide +kernel
    rw [this]; rfl
theorem mod_succ (x i : Nat) : x % 2 ^ (i + 1) = x % 2 ^ i + (1 <<< i) * (x.testBit i).toNat := by
  rw [Nat.mod_pow_succ, Nat.shiftLeft_eq, Nat.one_mul, ← bit_mod, Nat.shiftRight_eq_div_pow]
def sp_law_of_text : Sp := fun vs H Q _ => ∃ x z n, vs = [.str (sOf (letL n x z))] ∧ 1 ≤ n ∧ n ≤ 60 ∧ x < 2 ^ n ∧ z < 2 ^ n ∧ ∀ v' H', Same H H' → isRow H' v' ⟨x, z, 0⟩ → Q v' H'
theorem ok_law_of_text (T : Tx K mg) : FnOk P w K mg base CX0 1 (He.fAd K ("_law_of_text", none)) T.fd_law_of_text ["_law_text_here"] (sp_law_of_text) := by
  refine okD T.F_law_of_text sc_law_of_text (fun vs H Q E h => by obtain ⟨a, _, _, rfl, _⟩ := h; rfl) (fun cdv A outer s H vs Q E hr h => ?_)
  obtain ⟨x, z, n, rfl, h1, hn, hx, hz, k⟩ := h
  refine ⟨_, (pss_cons (ps_par (by rfl) sc_law_of_text.nd (i := 1) (j := 2) rfl rfl (by decide) rfl rfl (pa_cons (pe_callTy xc_intB (by rfl) T.n_int (by decide +kernel) (pa_cons (pe_cmpR on_eqS (pe_slice sl_str (pv 0) po_none (po_some (pe_nat 1))) pe_str (nomark _)) pa_nil)) (pa_cons (pe_bm PySem.F.plainAttrs_str PySem.F.slot_str_lstrip PySem.F.type_str_lstrip mt_lstripChars (pv 0) (pa_cons pe_str pa_nil)) pa_nil)) (by rfl))
  (pss_cons (ps_asg (pe_tup (pa_cons (pe_nat 0) (pa_cons (pe_nat 0) pa_nil))) (xg_tup (n := 2) rfl (pgs_cons (pg_name (i := 3) sc_law_of_text.nd rfl (.inl rfl)) (pgs_cons (pg_name (i := 4) sc_law_of_text.nd rfl (.inl rfl)) pgs_nil))))
  (pss_cons (ps_for PassesOwn.never rfl (pi_range1 rfl T.n_range (pa_cons (pe_callB xc_lenS (by rfl) T.n_len (by decide +kernel) (pa_cons (pv 2) pa_nil)) pa_nil)) (pg_name (i := 5) sc_law_of_text.nd rfl (.inl rfl))
  (pss_cons (ps_set (i := 3) sc_law_of_text.nd rfl (.inl rfl) (pe_op on_add (pv 3) (pe_op on_mul (pe_op on_shl (pe_nat 1) (pv 5)) (pe_callTy xc_intB (by rfl) T.n_int (by decide +kernel) (pa_cons (pe_cmpR xo_inS (pe_ix xi_str (pv 2) (pv 5) (fun _ _ => rfl)) pe_str (by rfl)) pa_nil)))))
  (pss_one (ps_set (i := 4) sc_law_of_text.nd rfl (.inl rfl) (pe_op on_add (pv 4) (pe_op on_mul (pe_op on_shl (pe_nat 1) (pv 5)) (pe_callTy xc_intB (by rfl) T.n_int (by decide +kernel) (pa_cons (pe_cmpR xo_inS (pe_ix xi_str (pv 2) (pv 5) (fun _ _ => rfl)) pe_str (by rfl)) pa_nil))))))))
  (pss_one (ps_ret (pe_tup (pa_cons (pv 3) (pa_cons (pv 4) (pa_cons (pv 1) pa_nil))))))))), ?_⟩
  have ll := letL_len n x z
  have hmem : ∀ c ∈ letL n x z, c ∈ [73, 88, 89, 90] := fun c hc => by
    unfold letL at hc
    obtain ⟨k, _, rfl⟩ := List.mem_map.mp hc
    exact chr4_mem _ _
  have e0 : decide (sOf ((letL n x z).take 1) = Str.ofString "-") = false := decide_eq_false fun e => by
    have e2 : sOf ((letL n x z).take 1) = sOf [45] := e.trans (by decide +kernel)
    have e2 := sOf_inj.mp e2
    have : (45 : Nat) ∈ letL n x z := List.mem_of_mem_take (i := 1) (by rw [e2]; simp)
    exact absurd (hmem 45 this) (by decide)
  repeat walk_at "st"
  refine s_take (by omega) ?_
  repeat walk_at "st"
  rw [e0]
  refine ⟨V.str (sOf (letL n x z)), rfl, rfl, ?_⟩
  repeat walk_at "st"
  refine ⟨_, _, rfl, rfl, by rw [sOf_len]; exact Nat.le_trans (show _ ≤ 100000 by omega) (by decide), ?_⟩
  rw [lstrip_none hmem]
  repeat walk_at "st"
  intro t0 ht0
  refine s_gtup upd_same rfl ?_
  have s0 := same_new (o := .tup [nV 0, nV 0]) ht0
  generalize upd H t0 (.tup [nV 0, nV 0]) = H0 at s0
  repeat walk_at "st"
  refine s_lenS (by rw [sOf_len]; omega) ?_
  rw [sOf_len, ll]
  repeat walk_at "st"
  refine for_it (n := n) walk_rg0 (fun i σ' H' => H' = H0 ∧ ∃ o, σ' = [some (.str (sOf (letL n x z))), some (nV 0), some (.str (sOf (letL n x z))), some (nV (x % 2 ^ i)), some (nV (z % 2 ^ i)), o]) ?_ (fun _ _ _ _ _ => trivial) ?_ ?_
  · rw [Nat.pow_zero, Nat.mod_one, Nat.mod_one]
    exact ⟨rfl, _, rfl⟩
  · rintro i y σ' H1 H1' hin ⟨rfl, o, rfl⟩ ⟨rfl, rfl⟩
    have ec : (sOf (letL n x z)).cps[i]? = some (chr4 (x.testBit i) (z.testBit i)) := by
      have := letL_at (x := x) (z := z) hin
      have e5 : (letL n x z).toArray[i]? = some (chr4 (x.testBit i) (z.testBit i)) := by simpa using this
      exact e5
    repeat walk_at "st"
    refine s_ixS (by rw [sOf_len]; omega) ec ?_
    repeat walk_at "st"
    rw [Bool.false_xor, show (Str.ofString "XY").cps.toList = [88, 89] from by decide +kernel, chr4_x]
    have hb1 : (x.testBit i).toNat < 2 := Bool.toNat_lt _
    have hb2 : (z.testBit i).toNat < 2 := Bool.toNat_lt _
    repeat walk_at "st"
    refine s_ixS (by rw [sOf_len]; omega) ec ?_
    repeat walk_at "st"
    rw [Bool.false_xor, show (Str.ofString "ZY").cps.toList = [90, 89] from by decide +kernel, chr4_z]
    repeat walk_at "st"
    rw [mod_succ, mod_succ]
    exact ⟨rfl, _, rfl⟩
  · rintro σ' H1 ⟨rfl, o, rfl⟩
    rw [Nat.mod_eq_of_lt hx, Nat.mod_eq_of_lt hz]
    repeat walk_at "st"
    intro p hp
    exact k _ _ (Same.nw s0 hp) ⟨p, rfl, upd_same⟩
/-- the kinds of gates -/
def kindOf (kd : Str) : Nat :=
  if kd = Str.ofString "x" ∨ kd = Str.ofString "z" then 0 else if kd = Str.ofString "h" then 1 else if kd = Str.ofString "s" then 2 else if kd = Str.ofString "cx" then 3 else if kd = Str.ofString "cz" then 4 else 5
def sp_law_gate : Sp := fun vs H Q _ => ∃ (v : V) (r : Row) (kd : Str) (p : Addr) (pl : List Nat), vs = [v, .str kd, .ref p] ∧ isRow H v r ∧ r.s < 2 ∧ H p = some (.lst (pl.map nV)) ∧ kd ∈ ["h", "s", "cx", "cz", "swap", "x", "z"].map Str.ofString ∧ (∀ q ∈ pl, q ≤ 60) ∧ 0 < pl.length ∧ (3 ≤ kindOf kd → 2 ≤ pl.length) ∧
  ∀ v' H' r', Same H H' → isRow H' v' r' → r'.xz = gateV (kindOf kd) (pl.getD 0 0) (pl.getD 1 0) r.xz → r'.s < 2 → Q v' H'
theorem ok_law_gate (T : Tx K mg) : FnOk P w K mg base CX0 1 (He.fAd K ("_law_gate", none)) T.fd_law_gate ["_law_string", "_law_kind", "_law_places"] (sp_law_gate) := by
  refine okD T.F_law_gate sc_law_gate (fun vs H Q E h => by obtain ⟨a, _, _, _, _, rfl, _⟩ := h; rfl) (fun cdv A outer s H vs Q E hr h => ?_)
  have hu0 := hr.units
  have hu : (A.deeper (envOfC "_law_gate" (defScope s_law_gate) s.heap.objs.size (He.fAd K ("_law_gate", none)) cdv)).units + 1 < cLine := by omega
  obtain ⟨v, r, kd, p, pl, rfl, ⟨q, rfl, hq⟩, hs, hp, hkd, hle, h0, h2, k⟩ := h
  refine ⟨_, (pss_cons (ps_asg (pv 0) (xg_tup (n := 3) rfl (pgs_cons (pg_name (i := 3) sc_law_gate.nd rfl (.inl rfl)) (pgs_cons (pg_name (i := 4) sc_law_gate.nd rfl (.inl rfl)) (pgs_cons (pg_name (i := 5) sc_law_gate.nd rfl (.inl rfl)) pgs_nil)))))
  (pss_cons (ps_set (i := 6) sc_law_gate.nd rfl (.inl rfl) (pe_ix xi_list (pv 2) (pe_nat 0) (fun _ _ => rfl)))
  (pss_cons (ps_par (by rfl) sc_law_gate.nd (i := 7) (j := 8) rfl rfl (by decide) rfl rfl (pa_cons (pe_op on_mod (pe_callTy xc_intN (by rfl) T.n_int (by decide +kernel) (pa_cons (pe_op on_shr (pv 3) (pv 6)) pa_nil)) (pe_nat 2)) (pa_cons (pe_op on_mod (pe_callTy xc_intN (by rfl) T.n_int (by decide +kernel) (pa_cons (pe_op on_shr (pv 4) (pv 6)) pa_nil)) (pe_nat 2)) pa_nil)) (by rfl))
  (pss_cons (ps_if (pt_cmpR xo_inL (pv 1) (pe_lst (pa_cons pe_str (pa_cons pe_str (pa_cons pe_str pa_nil)))) (by rfl)) (pss_one (ps_ret (pe_tup (pa_cons (pv 3) (pa_cons (pv 4) (pa_cons (pe_op on_xor (pv 5) (pe_dget hu (pe_disp (pps_cons pe_str (pv 8) (pps_cons pe_str (pe_op on_xor (pv 7) (pv 8)) (pps_cons pe_str (pv 7) pps_nil))) (by rfl) (by rfl) (fun z => by cases z) (by decide)) (pv 1) (fun _ _ => rfl))) pa_nil)))))) pss_nil)
  (pss_cons (ps_if (pt_cmpR xo_inL (pv 1) (pe_lst (pa_cons pe_str (pa_cons pe_str pa_nil))) (by rfl)) (pss_cons (ps_set (i := 9) sc_law_gate.nd rfl (.inl rfl) (pe_op on_shl (pe_op on_xor (pv 7) (pv 8)) (pv 6)))
  (pss_one (ps_ret (pe_ifExp (pt_cmpR on_eqS (pv 1) pe_str (nomark _)) (pe_tup (pa_cons (pe_op on_xor (pv 3) (pv 9)) (pa_cons (pe_op on_xor (pv 4) (pv 9)) (pa_cons (pe_op on_xor (pv 5) (pe_op on_mul (pv 7) (pv 8))) pa_nil)))) (pe_tup (pa_cons (pv 3) (pa_cons (pe_op on_xor (pv 4) (pe_op on_shl (pv 7) (pv 6))) (pa_cons (pe_op on_xor (pv 5) (pe_op on_mul (pv 7) (pv 8))) pa_nil)))))))) pss_nil)
  (pss_cons (ps_set (i := 10) sc_law_gate.nd rfl (.inl rfl) (pe_ix xi_list (pv 2) (pe_nat 1) (fun _ _ => rfl)))
  (pss_cons (ps_par (by rfl) sc_law_gate.nd (i := 11) (j := 12) rfl rfl (by decide) rfl rfl (pa_cons (pe_op on_mod (pe_callTy xc_intN (by rfl) T.n_int (by decide +kernel) (pa_cons (pe_op on_shr (pv 3) (pv 10)) pa_nil)) (pe_nat 2)) (pa_cons (pe_op on_mod (pe_callTy xc_intN (by rfl) T.n_int (by decide +kernel) (pa_cons (pe_op on_shr (pv 4) (pv 10)) pa_nil)) (pe_nat 2)) pa_nil)) (by rfl))
  (pss_cons (ps_if (pt_cmpR on_eqS (pv 1) pe_str (nomark _)) (pss_one (ps_ret (pe_tup (pa_cons (pe_op on_xor (pv 3) (pe_op on_shl (pv 7) (pv 10))) (pa_cons (pe_op on_xor (pv 4) (pe_op on_shl (pv 12) (pv 6))) (pa_cons (pe_op on_xor (pv 5) (pe_op on_mul (pe_op on_mul (pv 7) (pv 12)) (pe_op on_sub (pe_nat 1) (pe_op on_xor (pv 11) (pv 8))))) pa_nil)))))) pss_nil)
  (pss_cons (ps_if (pt_cmpR on_eqS (pv 1) pe_str (nomark _)) (pss_one (ps_ret (pe_tup (pa_cons (pv 3) (pa_cons (pe_op on_xor (pe_op on_xor (pv 4) (pe_op on_shl (pv 11) (pv 6))) (pe_op on_shl (pv 7) (pv 10))) (pa_cons (pe_op on_xor (pv 5) (pe_op on_mul (pe_op on_mul (pv 7) (pv 11)) (pe_op on_xor (pv 8) (pv 12)))) pa_nil)))))) pss_nil)
  (pss_cons (ps_par (by rfl) sc_law_gate.nd (i := 9) (j := 13) rfl rfl (by decide) rfl rfl (pa_cons (pe_op on_xor (pv 7) (pv 11)) (pa_cons (pe_op on_xor (pv 8) (pv 12)) pa_nil)) (by rfl))
  (pss_one (ps_ret (pe_tup (pa_cons (pe_op on_xor (pe_op on_xor (pv 3) (pe_op on_shl (pv 9) (pv 6))) (pe_op on_shl (pv 9) (pv 10))) (pa_cons (pe_op on_xor (pe_op on_xor (pv 4) (pe_op on_shl (pv 13) (pv 6))) (pe_op on_shl (pv 13) (pv 10))) (pa_cons (pv 5) pa_nil)))))))))))))))), ?_⟩
  obtain ⟨a, pl', rfl⟩ : ∃ a l, pl = a :: l := by
    cases pl with
    | nil => simp at h0
    | cons a l => exact ⟨a, l, rfl⟩
  have ha := hle a List.mem_cons_self
  refine s_seq ?_
  refine s_asg ?_
  refine s_var rfl ?_
  refine s_gtup hq rfl ?_
  unfold Row.vs
  repeat walk_at "st"
  refine s_ixL (j := 0) (v := nV a) hp rfl ?_
  repeat walk_at "st"
  rw [bit_mod, bit_mod]
  have b1 : (r.x.testBit a).toNat < 2 := Bool.toNat_lt _
  have b2 : (r.z.testBit a).toNat < 2 := Bool.toNat_lt _
  have xlt : ∀ u v : Nat, u < 2 → v < 2 → u ^^^ v < 2 := fun u v h1 h2 => by
    have := Nat.xor_lt_two_pow (n := 1) h1 h2
    exact this
  have mlt : ∀ u v : Nat, u < 2 → v < 2 → u * v < 2 := fun u v h1 h2 => by
    rcases (by omega : u = 0 ∨ u = 1) with rfl | rfl <;> simp <;> omega
  have x12 := xlt _ _ b1 b2
  intro l1 hl1
  have s1 := same_new (o := .lst [.str (Str.ofString "x"), .str (Str.ofString "y"), .str (Str.ofString "z")]) hl1
  simp only [List.map_cons, List.map_nil, List.mem_cons, List.not_mem_nil, or_false] at hkd
  have two : 3 ≤ kindOf kd → ∃ b pl'', pl' = b :: pl'' ∧ b ≤ 60 := fun z => by
    have := h2 z
    cases pl' with
    | nil => simp at this
    | cons b l => exact ⟨b, l, rfl, hle b (by simp)⟩
  by_cases h3 : kd = Str.ofString "x" ∨ kd = Str.ofString "z"
  · have ek : kindOf kd = 0 := by unfold kindOf; rw [if_pos h3]
    refine ⟨l1, _, rfl, upd_same, rfl, rfl, ?_⟩
    refine s_bl ?_
    refine s_ifT (by rcases h3 with rfl | rfl <;> decide +kernel) ?_
    repeat walk_at "st"
    intro dp hdp
    have s2 := Same.nw (o := .dK []) s1 hdp
    repeat walk_at "st"
    refine ⟨upd_same, [(.inr (Str.ofString "x"), nV (r.z.testBit a).toNat), (.inr (Str.ofString "y"), nV ((r.x.testBit a).toNat ^^^ (r.z.testBit a).toNat)), (.inr (Str.ofString "z"), nV (r.x.testBit a).toNat)], rfl, by simp, ?_⟩
    repeat walk_at "st"
    obtain ⟨c, hc, hc2⟩ : ∃ c : Nat, c < 2 ∧ valV (mergeK [] [(.inr (Str.ofString "x"), nV (r.z.testBit a).toNat), (.inr (Str.ofString "y"), nV ((r.x.testBit a).toNat ^^^ (r.z.testBit a).toNat)), (.inr (Str.ofString "z"), nV (r.x.testBit a).toNat)]) (.inr kd) = some (nV c) := by
      rw [valV_m3 kd (by decide +kernel) (by decide +kernel) (by decide +kernel)]
      rcases h3 with rfl | rfl
      · exact ⟨_, b2, by rw [if_neg (by decide +kernel), if_neg (by decide +kernel), if_pos rfl]⟩
      · exact ⟨_, b1, by rw [if_pos rfl]⟩
    refine ⟨dp, nV c, rfl, getS upd_same hc2, ?_⟩
    repeat walk_at "st"
    intro t3 ht3
    refine k _ _ ⟨r.x, r.z, r.s ^^^ c⟩ (Same.nw (same_mut s2 (s1.free hdp)) ht3) ⟨t3, rfl, upd_same⟩ ?_ (xlt _ _ hs hc)
    rw [ek]; rfl
  · refine ⟨l1, _, rfl, upd_same, rfl, rfl, ?_⟩
    refine s_bl ?_
    refine s_ifF (by rcases hkd with rfl | rfl | rfl | rfl | rfl | rfl | rfl <;> first | (exfalso; exact h3 (.inl rfl)) | (exfalso; exact h3 (.inr rfl)) | decide +kernel) ?_
    repeat walk_at "st"
    intro l2 hl2
    have s2 := Same.nw (o := .lst [.str (Str.ofString "h"), .str (Str.ofString "s")]) s1 hl2
    by_cases h4 : kd = Str.ofString "h" ∨ kd = Str.ofString "s"
    · refine ⟨l2, _, rfl, upd_same, rfl, rfl, ?_⟩
      refine s_bl ?_
      refine s_ifT (by rcases h4 with rfl | rfl <;> decide +kernel) ?_
      repeat walk_at "st"
      rcases h4 with rfl | rfl
      · have ek : kindOf (Str.ofString "h") = 1 := by decide +kernel
        refine s_ifT (by simp) ?_
        repeat walk_at "st"
        intro t3 ht3
        refine k _ _ ⟨_, _, _⟩ (Same.nw s2 ht3) ⟨t3, rfl, upd_same⟩ ?_ (xlt _ _ hs (mlt _ _ b1 b2))
        rw [ek, xor_toNat, bm_shl]; rfl
      · have ek : kindOf (Str.ofString "s") = 2 := by decide +kernel
        refine s_ifF (by decide +kernel) ?_
        repeat walk_at "st"
        intro t3 ht3
        refine k _ _ ⟨_, _, _⟩ (Same.nw s2 ht3) ⟨t3, rfl, upd_same⟩ ?_ (xlt _ _ hs (mlt _ _ b1 b2))
        rw [ek, bm_shl]; rfl
    · have hk3 : kd = Str.ofString "cx" ∨ kd = Str.ofString "cz" ∨ kd = Str.ofString "swap" := by
        rcases hkd with h | h | h | h | h | h | h
        · exact absurd (.inl h) h4
        · exact absurd (.inr h) h4
        · exact .inl h
        · exact .inr (.inl h)
        · exact .inr (.inr h)
        · exact absurd (.inl h) h3
        · exact absurd (.inr h) h3
      refine ⟨l2, _, rfl, upd_same, rfl, rfl, ?_⟩
      refine s_bl ?_
      refine s_ifF (by rcases hk3 with rfl | rfl | rfl <;> decide +kernel) ?_
      obtain ⟨b, pl'', rfl, hb60⟩ := two (by rcases hk3 with rfl | rfl | rfl <;> decide +kernel)
      have hp2 := s2 _ _ hp
      repeat walk_at "st"
      refine s_ixL (j := 1) (v := nV b) hp2 rfl ?_
      repeat walk_at "st"
      rw [bit_mod, bit_mod]
      have b3 : (r.x.testBit b).toNat < 2 := Bool.toNat_lt _
      have b4 : (r.z.testBit b).toNat < 2 := Bool.toNat_lt _
      have x34 := xlt _ _ b3 b2
      rcases hk3 with rfl | rfl | rfl
      · have ek : kindOf (Str.ofString "cx") = 3 := by decide +kernel
        refine s_ifT (by simp) ?_
        have m12 := mlt _ _ b1 b4
        repeat walk_at "st"
        intro t3 ht3
        refine k _ _ ⟨_, _, _⟩ (Same.nw s2 ht3) ⟨t3, rfl, upd_same⟩ ?_ (xlt _ _ hs (mlt _ _ m12 (by omega)))
        rw [ek, bm_shl, bm_shl]; rfl
      · have ek : kindOf (Str.ofString "cz") = 4 := by decide +kernel
        refine s_ifF (by decide +kernel) ?_
        repeat walk_at "st"
        refine s_ifT (by simp) ?_
        have m12 := mlt _ _ b1 b3
        have x4 := xlt _ _ b2 b4
        repeat walk_at "st"
        intro t3 ht3
        refine k _ _ ⟨_, _, _⟩ (Same.nw s2 ht3) ⟨t3, rfl, upd_same⟩ ?_ (xlt _ _ hs (mlt _ _ m12 x4))
        rw [ek, bm_shl, bm_shl]; rfl
      · have ek : kindOf (Str.ofString "swap") = 5 := by decide +kernel
        refine s_ifF (by decide +kernel) ?_
        repeat walk_at "st"
        refine s_ifF (by decide +kernel) ?_
        have x1 := xlt _ _ b1 b3
        have x2 := xlt _ _ b2 b4
        repeat walk_at "st"
        intro t3 ht3
        refine k _ _ ⟨_, _, _⟩ (Same.nw s2 ht3) ⟨t3, rfl, upd_same⟩ ?_ hs
        rw [ek, xor_toNat, xor_toNat, bm_shl, bm_shl, bm_shl, bm_shl]; rfl
end
end Kq

set_option Elab.async false
set_option linter.all false
set_option maxHeartbeats 4000000
/-! signs of commuting rows -/
namespace Kq
open XG
def phF (a : Row) : Nat := pc (a.x &&& a.z) + 2 * a.s
theorem cr_par (a b : Row) : cr a b = (par a.x b.z + par a.z b.x) % 2 := rfl
theorem phF_rp {a b : Row} (h : cr a b = 0) : phF (rp a b) % 4 = (phF a + phF b + 2 * par a.z b.x) % 4 := by
  have hx : pc ((a.x ^^^ b.x) &&& (a.z ^^^ b.z)) % 2 = (pc (a.x &&& a.z) + pc (b.x &&& b.z)) % 2 := by
    have e : par (a.x ^^^ b.x) (a.z ^^^ b.z) = (pc (a.x &&& a.z) + pc (b.x &&& b.z)) % 2 := by
      rw [par_xor, par_xor', par_xor']
      rw [cr_par, par_comm a.z] at h
      have h1 : par a.x a.z = pc (a.x &&& a.z) % 2 := rfl
      have h2 : par b.x b.z = pc (b.x &&& b.z) % 2 := rfl
      omega
    exact e
  have hs : ((rp a b).s : Int) = rpI a b / 2 % 2 := (rp_s a b).symm
  have hI : rpI a b = ((pc (a.x &&& a.z) + pc (b.x &&& b.z) : Nat) : Int) - ((pc ((a.x ^^^ b.x) &&& (a.z ^^^ b.z)) : Nat) : Int) + ((2 * (pc (a.z &&& b.x) + a.s + b.s) : Nat) : Int) := rfl
  have hp : par a.z b.x = pc (a.z &&& b.x) % 2 := rfl
  have hF : phF (rp a b) = pc ((a.x ^^^ b.x) &&& (a.z ^^^ b.z)) + 2 * (rp a b).s := rfl
  have hFa : phF a = pc (a.x &&& a.z) + 2 * a.s := rfl
  have hFb : phF b = pc (b.x &&& b.z) + 2 * b.s := rfl
  rw [hF, hFa, hFb, hp]
  generalize pc ((a.x ^^^ b.x) &&& (a.z ^^^ b.z)) = p at hx hI ⊢
  generalize pc (a.x &&& a.z) = q at hx hI ⊢
  generalize pc (b.x &&& b.z) = r at hx hI ⊢
  generalize pc (a.z &&& b.x) = t at hI ⊢
  generalize (rp a b).s = u at hs ⊢
  generalize rpI a b = i at hs hI
  omega
theorem row_eq {a b : Row} (hx : a.xz = b.xz) (hF : phF a % 4 = phF b % 4) (ha : a.s < 2) (hb : b.s < 2) : a = b := by
  obtain ⟨ax, az, as⟩ := a
  obtain ⟨bx, bz, bs⟩ := b
  have h1 : ax = bx := congrArg Prod.fst hx
  have h2 : az = bz := congrArg Prod.snd hx
  subst h1 h2
  have h3 : (pc (ax &&& az) + 2 * as) % 4 = (pc (ax &&& az) + 2 * bs) % 4 := hF
  have : as = bs := by
    simp only at ha hb
    omega
  rw [this]
theorem rp_s2 (a b : Row) : (rp a b).s < 2 := by show (rpI a b / 2 % 2).toNat < 2; omega
theorem rp_comm {a b : Row} (h : cr a b = 0) : rp a b = rp b a := by
  refine row_eq (by rw [rp_xz, rp_xz, XG.comm]) ?_ (rp_s2 _ _) (rp_s2 _ _)
  rw [phF_rp h, phF_rp (by rw [cr_comm']; exact h)]
  rw [cr_par] at h
  have h1 := par_lt a.x b.z
  have h2 := par_lt a.z b.x
  rw [par_comm b.z a.x]
  omega
where
  cr_comm' : cr b a = cr a b := cr2_comm _ _
theorem crC (a b : Row) : cr a b = cr b a := cr2_comm _ _
theorem cr_rp (a b c : Row) : cr (rp a b) c = (cr a c + cr b c) % 2 := cr2_xo a.xz b.xz c.xz
theorem cr_rp' (a b c : Row) : cr a (rp b c) = (cr a b + cr a c) % 2 := cr2_xo' a.xz b.xz c.xz
theorem rp_assoc {a b c : Row} (hab : cr a b = 0) (hac : cr a c = 0) (hbc : cr b c = 0) : rp (rp a b) c = rp a (rp b c) := by
  refine row_eq (by rw [rp_xz, rp_xz, rp_xz, rp_xz, XG.assoc]) ?_ (rp_s2 _ _) (rp_s2 _ _)
  rw [phF_rp (by rw [cr_rp, hac, hbc]), phF_rp (by rw [cr_rp', hab, hac])]
  have e1 := phF_rp hab
  have e2 := phF_rp hbc
  have e3 : par (rp a b).z c.x = (par a.z c.x + par b.z c.x) % 2 := par_xor _ _ _
  have e4 : par a.z (rp b c).x = (par a.z b.x + par a.z c.x) % 2 := par_xor' _ _ _
  rw [e3, e4]
  have h1 := par_lt a.z c.x
  have h2 := par_lt b.z c.x
  have h3 := par_lt a.z b.x
  omega
def oneR : Row := ⟨0, 0, 0⟩
theorem rp_self (a : Row) : rp a a = oneR := by
  refine row_eq (by rw [rp_xz, XG.self]; rfl) ?_ (rp_s2 _ _) (by show 0 < 2; decide)
  rw [phF_rp (cr2_self _)]
  have h : par a.z a.x = pc (a.x &&& a.z) % 2 := by rw [par_comm]; rfl
  have hF : phF a = pc (a.x &&& a.z) + 2 * a.s := rfl
  have h1 : phF oneR = 0 := by show pc (0 &&& 0) + 2 * 0 = 0; simp [pc_zero]
  rw [h, hF, h1]
  omega
theorem rp_one {a : Row} (h : a.s < 2) : rp a oneR = a := by
  have c : cr a oneR = 0 := cr2_ze' _
  refine row_eq (by rw [rp_xz]; exact XG.zr _) ?_ (rp_s2 _ _) h
  rw [phF_rp c]
  have h1 : phF oneR = 0 := by show pc (0 &&& 0) + 2 * 0 = 0; simp [pc_zero]
  have h2 : par a.z oneR.x = 0 := par_zero' _
  rw [h1, h2]; omega
/-- a closed set of commuting signed rows -/
structure SgnC (S : Row → Prop) : Prop extends SgnSet S where
  unit : S oneR
  s2 : ∀ a, S a → a.s < 2
  com : ∀ a b, S a → S b → cr a b = 0
theorem SgnC.init : SgnC (fun a => a = oneR) :=
  ⟨⟨fun a b ha hb => by rw [ha, hb]; exact rp_self _, fun r hr _ => by rw [hr]; rfl⟩, rfl, fun a ha => by rw [ha]; show 0 < 2; decide, fun a b ha hb => by rw [ha, hb]; exact cr2_self _⟩
theorem SgnC.ext {S : Row → Prop} (h : SgnC S) {v : Row} (hv : v.s < 2) (hc : ∀ a, S a → cr a v = 0) (hn : ∀ a, S a → a.xz ≠ v.xz) : SgnC (fun q => S q ∨ ∃ p, S p ∧ q = rp p v) := by
  have c1 : ∀ p q, S p → S q → rp (rp p v) q = rp (rp p q) v := fun p q hp hq => by
    rw [rp_assoc (hc p hp) (h.com p q hp hq) (by rw [crC]; exact hc q hq), rp_comm (a := v) (b := q) (by rw [crC]; exact hc q hq), ← rp_assoc (h.com p q hp hq) (hc p hp) (hc q hq)]
  refine ⟨⟨?_, ?_⟩, .inl h.unit, ?_, ?_⟩
  · rintro a b (ha | ⟨p, hp, rfl⟩) (hb | ⟨q, hq, rfl⟩)
    · exact .inl (h.mul a b ha hb)
    · exact .inr ⟨rp a q, h.mul a q ha hq, (rp_assoc (h.com a q ha hq) (hc a ha) (hc q hq)).symm⟩
    · exact .inr ⟨rp p b, h.mul p b hp hb, c1 p b hp hb⟩
    · refine .inl ?_
      have e : rp (rp p v) (rp q v) = rp p q := by
        have k1 : cr v (rp q v) = 0 := by
          rw [cr_rp']
          have z1 : cr v q = 0 := by rw [crC]; exact hc q hq
          have z2 : cr v v = 0 := cr2_self _
          rw [z1, z2]
        rw [rp_assoc (hc p hp) (by rw [cr_rp', h.com p q hp hq, hc p hp]) k1, rp_comm k1, rp_assoc (hc q hq) (hc q hq) (cr2_self _), rp_self, rp_one (h.s2 q hq)]
      rw [e]
      exact h.mul p q hp hq
  · rintro r (hr | ⟨p, hp, rfl⟩) hz
    · exact h.one r hr hz
    · rw [rp_xz] at hz
      exact absurd (xo_ze hz) (hn p hp)
  · rintro a (ha | ⟨p, hp, rfl⟩)
    · exact h.s2 a ha
    · exact rp_s2 _ _
  · rintro a b (ha | ⟨p, hp, rfl⟩) (hb | ⟨q, hq, rfl⟩)
    · exact h.com a b ha hb
    · rw [cr_rp', h.com a q ha hq, hc a ha]
    · rw [cr_rp, h.com p b hp hb, crC, hc b hb]
    · have e1 : cr p (rp q v) = 0 := by rw [cr_rp', h.com p q hp hq, hc p hp]
      have e2 : cr v (rp q v) = 0 := by
        rw [cr_rp']
        have z1 : cr v q = 0 := by rw [crC]; exact hc q hq
        have z2 : cr v v = 0 := cr2_self _
        rw [z1, z2]
      rw [cr_rp, e1, e2]
theorem SgnC.extV {S : Row → Prop} (h : SgnC S) {v : Row} (hv : v.s < 2) : S v ∨ ∃ p, S p ∧ v = rp p v := by
  refine .inr ⟨oneR, h.unit, ?_⟩
  rw [rp_comm (a := oneR) (b := v) (cr2_ze _), rp_one hv]
end Kq

set_option Elab.async false
set_option linter.all false
set_option maxHeartbeats 4000000
/-! drawn codes -/
namespace Kq
open XG
/-- what a drawn code keeps: A marks, B their opposites; r of the group, gd gauged -/
structure DC (n r gd : Nat) (A B : Nat → V2) (rows ga : List Row) (hid : List (Row × Row)) : Prop where
  tab : Tab n A B
  le : r + gd ≤ n
  okr : ∀ q ∈ rows, q.ok n
  span : ∀ x, Sn (rows.map Row.xz) x ↔ Sn ((List.range r).map A) x
  sgn : ∃ S, SgnC S ∧ ∀ q ∈ rows, S q
  oka : ∀ q ∈ ga, q.ok n
  gin : ∀ q ∈ ga, ∃ j, j < gd ∧ (q.xz = A (r + j) ∨ q.xz = B (r + j))
  gal : ∀ j, j < gd → (∃ q ∈ ga, q.xz = A (r + j)) ∧ ∃ q ∈ ga, q.xz = B (r + j)
  hlen : hid.length = n - r - gd
  hin : ∀ (j : Nat) p, hid[j]? = some p → p.1.xz = B (r + gd + j) ∧ p.2.xz = A (r + gd + j) ∧ p.1.ok n ∧ p.2.ok n
/-- the marks' sums hold no further mark -/
theorem Tab.fresh {n i : Nat} {A B : Nat → V2} (t : Tab n A B) (hi : i < n) : ¬ Sn ((List.range i).map A) (A i) := fun h => by
  have h0 : cr2 (A i) (B i) = 0 := cr2_span' (L := (List.range i).map A) (fun b hb => by
    obtain ⟨j, hj, rfl⟩ := List.mem_map.mp hb
    have hj := List.mem_range.mp hj
    rw [t.ab j i (by omega) hi, if_neg (by omega)]) h
  rw [t.ab i i hi hi, if_pos rfl] at h0
  cases h0
theorem Tab.comm {n i : Nat} {A B : Nat → V2} (t : Tab n A B) (hi : i ≤ n) {x y : V2} (hx : Sn ((List.range i).map A) x) (hy : Sn ((List.range i).map A) y) : cr2 x y = 0 :=
  cr2_span (fun b hb => by
    obtain ⟨j, hj, rfl⟩ := List.mem_map.mp hb
    have hj := List.mem_range.mp hj
    exact cr2_span' (fun c hc => by
      obtain ⟨l, hl, rfl⟩ := List.mem_map.mp hc
      have hl := List.mem_range.mp hl
      exact t.aa l j (by omega) (by omega)) hx) hy
end Kq

set_option Elab.async false
set_option linter.all false
set_option maxRecDepth 100000
set_option maxHeartbeats 4000000
/-! more steps -/
namespace Kq
open PySem PySem.Spec PyProof.Rows L2 XG
section
variable {K : PySem.W.Frag} {σ : L2.St} {H : Hp} {Q : VK} {D : Ends} {ta : TE}
theorem s_ifJ {c : TT} {t u : TS} (J : L2.St → Hp → Prop) (h2 : ∀ σ H, J σ H → t D σ H) (h1 : (∀ σ H, J σ H → t D σ H) → c σ H fun b H1 => if b = true then t D σ H1 else u D σ H1) : tIfS c t u D σ H := h1 h2
theorem s_lrg {te : L2.St → Hp → (Int → Int → Hp → Prop) → Prop} (h : te σ H fun a b H1 => RgOk a b ∧ ∀ q, H1 q = none → Q (.ref q) (upd H1 q (.lst (rgV a b)))) : tLstRg te σ H Q := h
theorem s_rg1 {R : Int → Int → Hp → Prop} (h : ta σ H fun x H1 => ∃ n, x = .int n ∧ R 0 n H1) : tRg1 ta σ H R := h
theorem s_rgV {m : Nat} {R : Int → Prop} (h : R (m : Int)) : ∃ n, nV m = .int n ∧ R n := ⟨_, rfl, h⟩
theorem rgV_nat (m : Nat) : rgV 0 (m : Int) = (List.range m).map nV := by
  unfold rgV
  simp
theorem rgOk_nat {m : Nat} (h : m ≤ 1000) : RgOk 0 (m : Int) := by
  exact RgOk.of_le (by omega) (by omega) (by omega) (by omega)
theorem s_rgD {m : Nat} {R : List V → Prop} (h : m ≤ 1000) (q : R ((List.range m).map nV)) : RgOk 0 (m : Int) ∧ R (rgV 0 (m : Int)) := ⟨rgOk_nat h, by rw [rgV_nat]; exact q⟩
end
theorem mulI : ∀ k : Nat, k < 6 → Txt.mul (Str.ofString "I") (k : Int) ++ Str.ofString "Z" = sOf (letL (k + 1) 0 (2 ^ k)) ∧ Txt.mul (Str.ofString "I") (k : Int) ++ Str.ofString "X" = sOf (letL (k + 1) (2 ^ k) 0) ∧ (Txt.mul (Str.ofString "I") (k : Int)).length = k := by decide +kernel
end Kq

set_option Elab.async false
set_option linter.all false
set_option maxRecDepth 100000
set_option maxHeartbeats 4000000
/-! the drawn code walked -/
namespace Kq
open PySem PySem.Spec PyProof.Rows L2 XG
local macro_rules | `(tactic| walk_at "st") => `(tactic| first
  | with_reducible refine s_seq ?_
  | ((with_reducible refine' s_var ?h1 ?h2); (case h1 => rfl))
  | with_reducible refine s_c ?_
  | with_reducible refine s_op ?_
  | with_reducible refine s_asg ?_
  | with_reducible refine s_name ?_
  | with_reducible refine s_cons ?_
  | with_reducible refine s_nil ?_
  | with_reducible refine s_call ?_
  | with_reducible refine s_CB ?_
  | with_reducible refine s_add ?_
  | ((with_reducible refine' s_sub ?h1 ?h2); (case h1 => omega))
  | ((with_reducible refine' s_mul ?h1 ?h2); (case h1 => omega))
  | ((with_reducible refine' s_mod ?h1 ?h2); (case h1 => omega))
  | ((with_reducible refine' s_div ?h1 ?h2); (case h1 => omega))
  | ((with_reducible refine' s_shl ?h1 ?h2); (case h1 => omega))
  | with_reducible refine s_shr ?_
  | with_reducible refine s_and ?_
  | with_reducible refine s_or ?_
  | with_reducible refine s_xor ?_
  | with_reducible refine s_lt ?_
  | with_reducible refine s_le ?_
  | with_reducible refine s_gt ?_
  | with_reducible refine s_ge ?_
  | with_reducible refine s_eqN ?_
  | with_reducible refine s_neN ?_
  | with_reducible refine s_eqS ?_
  | with_reducible refine s_neS ?_
  | with_reducible refine s_I0 ?_
  | with_reducible refine s_un ?_
  | with_reducible refine s_neg ?_
  | with_reducible refine s_test ?_
  | with_reducible refine s_B ?_
  | with_reducible refine s_bl ?_
  | with_reducible refine s_ifS ?_
  | with_reducible refine s_ifE ?_
  | with_reducible refine s_not ?_
  | with_reducible refine s_and2 ?_
  | with_reducible refine s_or2 ?_
  | with_reducible refine s_andV ?_
  | with_reducible refine s_orV ?_
  | with_reducible refine s_notV ?_
  | with_reducible refine s_tru ?_
  | with_reducible refine s_par ?_
  | with_reducible refine s_two ?_
  | with_reducible refine s_par3 ?_
  | with_reducible refine s_three ?_
  | with_reducible refine s_lst ?_
  | with_reducible refine s_tup ?_
  | ((with_reducible refine' s_size ?h1 ?h2); (case h1 => exact Nat.le_of_ble_eq_true rfl))
  | with_reducible refine s_fld ?_
  | with_reducible refine s_gcons ?_
  | with_reducible refine s_gnil ?_
  | with_reducible refine s_intN ?_
  | with_reducible refine s_intI ?_
  | with_reducible refine s_tTru ?_
  | with_reducible refine s_tBL ?_
  | with_reducible refine s_sign ?_
  | with_reducible refine s_min ?_
  | with_reducible refine s_sfld ?_
  | with_reducible refine s_gfld ?_
  | with_reducible refine s_intB ?_
  | with_reducible refine s_next ?_
  | with_reducible refine s_ret ?_
  | with_reducible refine s_drop ?_
  | with_reducible refine s_for ?_
  | with_reducible refine s_lc ?_
  | with_reducible refine s_yes ?_
  | with_reducible refine s_bits ?_
  | with_reducible refine s_bitsV ?_
  | ((with_reducible refine' s_own ?h1 ?h2); (case h1 => assumption))
  | ((with_reducible refine' s_len ?h1 ?h2); (case h1 => assumption))
  | ((with_reducible refine' s_lenT ?h1 ?h2); (case h1 => assumption))
  | with_reducible refine s_iTup ?_
  | with_reducible refine s_iList ?_
  | with_reducible refine s_iStr ?_
  | with_reducible refine s_iRng1 ?_
  | with_reducible refine s_iRng2 ?_
  | with_reducible refine s_iEnum ?_
  | with_reducible refine s_iEnumT ?_
  | with_reducible refine s_iEnumS ?_
  | with_reducible refine s_iZip ?_
  | with_reducible refine s_iZipM ?_
  | with_reducible refine s_srcS ?_
  | with_reducible refine s_srcES ?_
  | ((with_reducible refine' s_srcT ?h1 ?h2); (case h1 => assumption))
  | ((with_reducible refine' s_srcL ?h1 ?h2); (case h1 => assumption))
  | ((with_reducible refine' s_srcE ?h1 ?h2); (case h1 => assumption))
  | ((with_reducible refine' s_srcET ?h1 ?h2); (case h1 => assumption))
  | ((with_reducible refine' s_rng1 ?h1 ?h2); (case h1 => omega))
  | ((with_reducible refine' s_rng2 ?h1 ?h2); (case h1 => omega))
  | with_reducible refine s_ckw ?_
  | ((with_reducible refine' s_sorted ?h1 ?h2); (case h1 => assumption))
  | ((with_reducible refine' s_inN ?h1 ?h2); (case h1 => assumption))
  | ((with_reducible refine' s_ninN ?h1 ?h2); (case h1 => assumption))
  | ((with_reducible refine' s_tupL ?h1 ?h2); (case h1 => assumption))
  | ((with_reducible refine' s_tupT ?h1 ?h2); (case h1 => assumption))
  | ((with_reducible refine' s_lstL ?h1 ?h2); (case h1 => assumption))
  | ((with_reducible refine' s_lstT ?h1 ?h2); (case h1 => assumption))
  | ((with_reducible refine' s_addS2 ?h1 ?h2); (case h1 => (simp only [List.length_append, letL_len]; omega)); (rw [sOf_add]))
  | with_reducible refine s_sl ?_
  | with_reducible refine s_part ?_
  | with_reducible refine s_partV ?_
  | with_reducible refine s_nopart ?_
  | ((with_reducible refine' s_cutTake ?h1 ?h2); (case h1 => assumption))
  | ((with_reducible refine' s_cutDrop ?h1 ?h2); (case h1 => assumption))
  | with_reducible refine s_isiII ?_
  | with_reducible refine s_isiIB ?_
  | with_reducible refine s_isiSS ?_
  | ((with_reducible refine' s_isiTT ?h1 ?h2); (case h1 => assumption))
  | ((with_reducible refine' s_aug ?h1 ?h2); (case h1 => rfl))
  | with_reducible refine s_ipN ?_
  | with_reducible refine s_ip ?_
  | with_reducible refine s_gsub ?_
  | with_reducible refine s_wh ?_
  | with_reducible refine s_join ?_
  | ((with_reducible refine' s_ixT ?h1 ?h2 ?h3); (case h1 => assumption); (case h2 => rfl))
  | ((with_reducible refine' s_at ?h1 ?h2 ?h3); (case h1 => assumption); (case h2 => assumption))
  | with_reducible refine s_make ?_
  | with_reducible refine s_dgetK ?_
  | with_reducible refine s_dput ?_
  | with_reducible refine s_chain ?_
  | with_reducible refine s_eqI ?_
  | with_reducible refine s_pcons ?_
  | with_reducible refine s_pnil ?_
  | with_reducible refine s_lrg ?_
  | with_reducible refine s_rg1 ?_
  | with_reducible refine s_rgV ?_)

def kinds8 : List Str := [Str.ofString "h", Str.ofString "s", Str.ofString "cx", Str.ofString "cx", Str.ofString "cz", Str.ofString "swap", Str.ofString "x", Str.ofString "z"]
def kinds3 : List Str := [Str.ofString "cx", Str.ofString "cz", Str.ofString "swap"]
theorem kind3 {kd : Str} (h : kd ∈ kinds8) : inV (.str kd) [.str (Str.ofString "cx"), .str (Str.ofString "cz"), .str (Str.ofString "swap")] = decide (3 ≤ kindOf kd) := by
  have : ∀ k ∈ kinds8, inV (.str k) [.str (Str.ofString "cx"), .str (Str.ofString "cz"), .str (Str.ofString "swap")] = decide (3 ≤ kindOf k) := by decide +kernel
  exact this kd h
theorem kind7 {kd : Str} (h : kd ∈ kinds8) : kd ∈ ["h", "s", "cx", "cz", "swap", "x", "z"].map Str.ofString := by
  have : ∀ k ∈ kinds8, k ∈ ["h", "s", "cx", "cz", "swap", "x", "z"].map Str.ofString := by decide +kernel
  exact this kd h
/-- a gate's kind and places -/
def GateOk (n : Nat) (kd : Str) (pl : List Nat) : Prop := kd ∈ kinds8 ∧ (∀ q ∈ pl, q < n) ∧ pl.Nodup ∧ 0 < pl.length ∧ (3 ≤ kindOf kd → 2 ≤ pl.length)
/-- the gates' list; gp and a may change -/
def GatesAt (gp a : Addr) (n : Nat) (H : Hp) (gvs : List V) : Prop := ∀ (i : Nat) (v : V), gvs[i]? = some v → ∃ (p q : Addr) (kd : Str) (pl : List Nat), v = V.ref p ∧ H p = some (.tup [.str kd, .ref q]) ∧ H q = some (.lst (pl.map nV)) ∧ q ≠ gp ∧ q ≠ a ∧ GateOk n kd pl
theorem GatesAt.keep {gp a : Addr} {n : Nat} {H H' : Hp} {gvs : List V} (h : GatesAt gp a n H gvs) (s : ∀ b o, b ≠ gp → b ≠ a → H b = some o → H' b = some o) (hg : ∃ xs, H gp = some (.lst xs)) (ha : ∃ xs, H a = some (.dK xs)) : GatesAt gp a n H' gvs := fun i v e => by
  obtain ⟨p, q, kd, pl, h1, h2, h3, h4, h5, h6⟩ := h i v e
  obtain ⟨xs, hg⟩ := hg
  obtain ⟨ys, ha⟩ := ha
  exact ⟨p, q, kd, pl, h1, s _ _ (fun z => by rw [z, hg] at h2; cases h2) (fun z => by rw [z, ha] at h2; cases h2) h2, s _ _ h4 h5 h3, h4, h5, h6⟩
theorem isPen.dict {H : Hp} {a cp : Addr} {k : Nat} (h : isPen H a cp k) : ∃ xs, H a = some (.dK xs) := by
  obtain ⟨kvs, cells, at_, c, d, f, h1, h2, h3, r⟩ := h
  exact ⟨_, h1⟩
/-- marks and pairs as rows -/
def MarksOf (n r : Nat) (A : Nat → V2) (ms : List Row) : Prop := ms.length = r ∧ ∀ (k : Nat) q, ms[k]? = some q → q.xz = A k ∧ q.s < 2
def PairsOf (n r : Nat) (A B : Nat → V2) (ps : List (Row × Row)) : Prop := ps.length = n - r ∧ ∀ (k : Nat) p, ps[k]? = some p → p.1.xz = B (r + k) ∧ p.2.xz = A (r + k) ∧ p.1.s < 2 ∧ p.2.s < 2
def isRP : Rp (Row × Row) := isPr isRow isRow
theorem monoRP : MonoS isRP := monoPr monoRow monoRow
theorem perm_nats {ys : List V} {l : List Nat} (p : ys.Perm (l.map nV)) : ∃ pl : List Nat, ys = pl.map nV ∧ pl.Perm l := by
  let f : V → Nat := fun v => match v with | .int i => i.toNat | _ => 0
  have hf : ∀ n : Nat, f (nV n) = n := fun n => Int.toNat_natCast n
  refine ⟨ys.map f, ?_, ?_⟩
  · rw [List.map_map]
    have h : ∀ x ∈ ys, (nV ∘ f) x = x := fun x hx => by
      obtain ⟨n, _, rfl⟩ := List.mem_map.mp (p.mem_iff.mp hx)
      show nV (f (nV n)) = nV n
      rw [hf]
    exact ((List.map_congr_left h).trans (List.map_id' ys)).symm
  · have := p.map f
    rw [List.map_map, show f ∘ nV = id from funext hf, List.map_id] at this
    exact this
theorem s_if21 {σ : L2.St} {H : Hp} {Q : VK} {b : Bool} (q : Q (nV (if b = true then 2 else 1)) H) : if b = true then tC (nV 2) σ H Q else tC (nV 1) σ H Q := by
  cases b
  · exact q
  · exact q
/-- a row, by its letters -/
def isRV : Rp V2 := fun H v x => ∃ r, isRow H v r ∧ r.xz = x ∧ r.s < 2
theorem monoRV : MonoS isRV := fun _ _ _ _ s ⟨r, h, e⟩ => ⟨r, monoRow _ _ _ _ s h, e⟩
def isPV : Rp (V2 × V2) := isPr isRV isRV
theorem monoPV : MonoS isPV := monoPr monoRV monoRV
theorem Itm.imp {α β : Type} {R : Rp α} {S : Rp β} {H : Hp} {f : α → β} : ∀ {vs : List V} {l : List α}, (∀ v x, x ∈ l → R H v x → S H v (f x)) → Itm R H vs l → Itm S H vs (l.map f)
  | _, _, _, .nil => .nil
  | _, _, h, .cons r t => .cons (h _ _ List.mem_cons_self r) (Itm.imp (fun v x hx => h v x (List.mem_cons_of_mem _ hx)) t)
theorem row_ok {n : Nat} {q : Row} {v : V2} (h : Lt2 n v) (e : q.xz = v) (s : q.s < 2) : q.ok n := by subst e; exact ⟨h.1, h.2, s⟩
theorem pv_rows {H : Hp} : ∀ {vs : List V} {l : List (V2 × V2)}, Itm isPV H vs l → ∃ hid : List (Row × Row), Itm isRP H vs hid ∧ hid.length = l.length ∧ ∀ (j : Nat) p, hid[j]? = some p → ∃ c, l[j]? = some c ∧ p.1.xz = c.1 ∧ p.2.xz = c.2 ∧ p.1.s < 2 ∧ p.2.s < 2
  | _, _, .nil => ⟨[], .nil, rfl, fun j p e => by simp at e⟩
  | _, _, .cons r t => by
    obtain ⟨hid, h1, h2, h3⟩ := pv_rows t
    obtain ⟨tp, x, z, e1, e2, ⟨xr, hx, ex, sx⟩, ⟨zr, hz, ez, sz⟩⟩ := r
    refine ⟨(xr, zr) :: hid, .cons ⟨tp, x, z, e1, e2, hx, hz⟩ h1, by simp [h2], fun j p e => ?_⟩
    cases j with
    | zero =>
      simp at e
      subst e
      exact ⟨_, rfl, ex, ez, sx, sz⟩
    | succ j =>
      obtain ⟨c, hc⟩ := h3 j p (by simpa using e)
      exact ⟨c, by simpa using hc.1, hc.2⟩
theorem Itm.permute {α : Type} {R : Rp α} {H : Hp} {vs vs' : List V} (p : vs'.Perm vs) : ∀ {l : List α}, Itm R H vs l → ∃ l' : List α, l'.Perm l ∧ Itm R H vs' l' := by
  induction p with
  | nil => intro l h; exact ⟨l, .refl _, h⟩
  | cons x _ ih =>
    intro l h
    cases h with
    | @cons _ a _ l r t =>
      obtain ⟨l', p, h⟩ := ih t
      exact ⟨a :: l', p.cons a, .cons r h⟩
  | swap x y l =>
    intro l h
    cases h with
    | @cons _ a _ _ r t =>
      cases t with
      | @cons _ b _ l r2 t =>
        exact ⟨b :: a :: l, .swap _ _ _, .cons r2 (.cons r t)⟩
  | trans _ _ ih1 ih2 =>
    intro l h
    obtain ⟨l1, p1, h1⟩ := ih2 h
    obtain ⟨l2, p2, h2⟩ := ih1 h1
    exact ⟨l2, p2.trans p1, h2⟩
/-- the dict of a code -/
structure CdK (kvs : List (Key × V)) (n : Nat) (rv gv hv : V) : Prop where
  len : kvs.length ≤ 5
  k1 : valV kvs (.inr (Str.ofString "size")) = some (nV n)
  k2 : valV kvs (.inr (Str.ofString "rows")) = some rv
  k3 : valV kvs (.inr (Str.ofString "gauge")) = some gv
  k4 : valV kvs (.inr (Str.ofString "hidden")) = some hv
section
variable {P : Program} {w : World} {K : PySem.W.Frag} {mg : Str → Option Value} {base : Heap}
def sp_law_drawn_code : Sp := fun vs H Q _ => ∃ a cp n r gd k, vs = [.ref a, nV n, nV r, nV gd] ∧ isPen H a cp k ∧ k ≤ 10000 ∧ 1 ≤ n ∧ n ≤ 5 ∧ r + gd ≤ n ∧
  ∀ dp kvs rv gv hv H' A B rows ga hid, SameX a H H' → isPen H' a cp (k + 400) → H dp = none → H' dp = some (.dK kvs) → CdK kvs n rv gv hv → isL isRow H' rv rows → isL isRow H' gv ga → isL isRP H' hv hid → DC n r gd A B rows ga hid → rows.length = r → ga.length ≤ 10 → Q (.ref dp) H'
theorem ok_law_drawn_code (T : Tx K mg) : FnOk P w K mg base CX0 3 (He.fAd K ("_law_drawn_code", none)) T.fd_law_drawn_code ["_law_pen_here", "_law_size", "_law_rank", "_law_gauged"] (sp_law_drawn_code) := by
  have G_law_draw := ok_law_draw (P := P) (w := w) (base := base) T
  have G_law_pick := ok_law_pick (P := P) (w := w) (base := base) T
  have G_law_shuffled := ok_law_shuffled (P := P) (w := w) (base := base) T
  have G_law_of_text := ok_law_of_text (P := P) (w := w) (base := base) T
  have G_law_product := ok_law_product (P := P) (w := w) (base := base) T
  have G_law_gate := ok_law_gate (P := P) (w := w) (base := base) T
  refine okD T.F_law_drawn_code sc_law_drawn_code (fun vs H Q E h => by obtain ⟨a, _, _, _, _, _, rfl, _⟩ := h; rfl) (fun cdv A outer s H vs Q E hr h => ?_)
  obtain ⟨a, cp, n, r, gd, k, rfl, hpen, hk, hn1, hn, hrg, kk⟩ := h
  refine ⟨_, (pss_cons (ps_setLc (own := [("_law_k", 16)]) (i := 4) rfl sc_law_drawn_code.nd rfl rfl (sw_true rfl rfl rfl (by decide +kernel)) (pi_range1 rfl T.n_range (pa_cons (pv 2) pa_nil)) (blkOk_by (N := ["_law_pen_here", "_law_size", "_law_rank", "_law_gauged", "_law_marks", "_law_pairs", "_law_gates", "_law_lap", "_law_kind", "_law_places", "_law_rows", "_law_string", "_law_other", "_law_gauge", "_law_x", "_law_z", "_law_k"]) (sc := defScope s_law_drawn_code) (by decide +kernel)) (fun _ _ _ _ _ => (pg_name (i := 16) sc_law_drawn_code.nd rfl (.inl rfl))) (fun _ _ _ _ _ => pts_nil) (fun _ _ _ _ _ => (pe_call G_law_of_text (hr.mono (by decide)) (by rfl) T.m_law_of_text T.F_law_of_text.kp T.b_law_of_text .nil pass0 (pa_cons (pe_op op_add_str (pe_op on_mulS pe_str (pv 16)) pe_str) pa_nil))))
  (pss_cons (ps_setLc (own := [("_law_k", 16)]) (i := 5) rfl sc_law_drawn_code.nd rfl rfl (sw_true rfl rfl rfl (by decide +kernel)) (pi_range2 rfl T.n_range (pa_cons (pv 2) (pa_cons (pv 1) pa_nil))) (blkOk_by (N := ["_law_pen_here", "_law_size", "_law_rank", "_law_gauged", "_law_marks", "_law_pairs", "_law_gates", "_law_lap", "_law_kind", "_law_places", "_law_rows", "_law_string", "_law_other", "_law_gauge", "_law_x", "_law_z", "_law_k"]) (sc := defScope s_law_drawn_code) (by decide +kernel)) (fun _ _ _ _ _ => (pg_name (i := 16) sc_law_drawn_code.nd rfl (.inl rfl))) (fun _ _ _ _ _ => pts_nil) (fun _ _ _ _ _ => (pe_tup (pa_cons (pe_call G_law_of_text (hr.mono (by decide)) (by rfl) T.m_law_of_text T.F_law_of_text.kp T.b_law_of_text .nil pass0 (pa_cons (pe_op op_add_str (pe_op on_mulS pe_str (pv 16)) pe_str) pa_nil)) (pa_cons (pe_call G_law_of_text (hr.mono (by decide)) (by rfl) T.m_law_of_text T.F_law_of_text.kp T.b_law_of_text .nil pass0 (pa_cons (pe_op op_add_str (pe_op on_mulS pe_str (pv 16)) pe_str) pa_nil)) pa_nil)))))
  (pss_cons (ps_set (i := 6) sc_law_drawn_code.nd rfl (.inl rfl) (pe_lst pa_nil))
  (pss_cons (ps_for PassesOwn.never rfl (pi_range1 rfl T.n_range (pa_cons (pe_op on_add (pe_nat 2) (pe_call G_law_draw (hr.mono (by decide)) (by rfl) T.m_law_draw T.F_law_draw.kp T.b_law_draw .nil pass0 (pa_cons (pv 0) (pa_cons (pe_op on_mul (pe_nat 5) (pv 1)) pa_nil)))) pa_nil)) (pg_name (i := 7) sc_law_drawn_code.nd rfl (.inl rfl))
  (pss_cons (ps_set (i := 8) sc_law_drawn_code.nd rfl (.inr rfl) (pe_call G_law_pick (hr.mono (by decide)) (by rfl) T.m_law_pick T.F_law_pick.kp T.b_law_pick .nil pass0 (pa_cons (pv 0) (pa_cons (pe_lst (pa_cons pe_str (pa_cons pe_str (pa_cons pe_str (pa_cons pe_str (pa_cons pe_str (pa_cons pe_str (pa_cons pe_str (pa_cons pe_str pa_nil))))))))) pa_nil))))
  (pss_cons (ps_set (i := 9) sc_law_drawn_code.nd rfl (.inr rfl) (pe_slice xl_list (pe_call G_law_shuffled (hr.mono (by decide)) (by rfl) T.m_law_shuffled T.F_law_shuffled.kp T.b_law_shuffled .nil pass0 (pa_cons (pv 0) (pa_cons (pe_listRg rfl (by rfl) T.n_list (prg_1 (by rfl) T.n_range (pv 1))) pa_nil))) po_none (po_some (pe_ifExp (pt_cmpR xo_inL (pv 8) (pe_lst (pa_cons pe_str (pa_cons pe_str (pa_cons pe_str pa_nil)))) (by rfl)) (pe_nat 2) (pe_nat 1)))))
  (pss_one (ps_if (PW.pt (pw_or (pt_cmpR on_gt (pe_callB xc_lenL (by rfl) T.n_len (by decide +kernel) (pa_cons (pv 9) pa_nil)) (pe_nat 1) (nomark _)) (pw_or1 (pt_cmpR xo_ninL (pv 8) (pe_lst (pa_cons pe_str (pa_cons pe_str (pa_cons pe_str pa_nil)))) (by rfl))))) (pss_one (ps_expr (xe_bl PySem.F.slot_list_append PySem.F.type_list_append mt_append (pv 6) (pa_cons (pe_tup (pa_cons (pv 8) (pa_cons (pv 9) pa_nil))) pa_nil)))) pss_nil)))))
  (pss_cons (ps_for PassesOwn.never rfl (pi_list (pv 6)) (xg_tup (n := 2) rfl (pgs_cons (pg_name (i := 8) sc_law_drawn_code.nd rfl (.inr rfl)) (pgs_cons (pg_name (i := 9) sc_law_drawn_code.nd rfl (.inr rfl)) pgs_nil)))
  (pss_cons (ps_setLc (own := [("_law_string", 11)]) (i := 4) rfl sc_law_drawn_code.nd rfl rfl (sw_true rfl rfl rfl (by decide +kernel)) (pi_list (pv 4)) (blkOk_by (N := ["_law_pen_here", "_law_size", "_law_rank", "_law_gauged", "_law_marks", "_law_pairs", "_law_gates", "_law_lap", "_law_kind", "_law_places", "_law_rows", "_law_string", "_law_other", "_law_gauge", "_law_x", "_law_z", "_law_k"]) (sc := defScope s_law_drawn_code) (by decide +kernel)) (fun _ _ _ _ _ => (pg_name (i := 11) sc_law_drawn_code.nd rfl (.inl rfl))) (fun _ _ _ _ _ => pts_nil) (fun _ _ _ _ _ => (pe_call G_law_gate (hr.mono (by decide)) (by rfl) T.m_law_gate T.F_law_gate.kp T.b_law_gate .nil pass0 (pa_cons (pv 11) (pa_cons (pv 8) (pa_cons (pv 9) pa_nil))))))
  (pss_one (ps_setLc (own := [("_law_x", 14), ("_law_z", 15)]) (i := 5) rfl sc_law_drawn_code.nd rfl rfl (sw_true rfl rfl rfl (by decide +kernel)) (pi_list (pv 5)) (blkOk_by (N := ["_law_pen_here", "_law_size", "_law_rank", "_law_gauged", "_law_marks", "_law_pairs", "_law_gates", "_law_lap", "_law_kind", "_law_places", "_law_rows", "_law_string", "_law_other", "_law_gauge", "_law_x", "_law_z", "_law_k"]) (sc := defScope s_law_drawn_code) (by decide +kernel)) (fun _ _ _ _ _ => (xg_tup (n := 2) rfl (pgs_cons (pg_name (i := 14) sc_law_drawn_code.nd rfl (.inl rfl)) (pgs_cons (pg_name (i := 15) sc_law_drawn_code.nd rfl (.inl rfl)) pgs_nil)))) (fun _ _ _ _ _ => pts_nil) (fun _ _ _ _ _ => (pe_tup (pa_cons (pe_call G_law_gate (hr.mono (by decide)) (by rfl) T.m_law_gate T.F_law_gate.kp T.b_law_gate .nil pass0 (pa_cons (pv 14) (pa_cons (pv 8) (pa_cons (pv 9) pa_nil)))) (pa_cons (pe_call G_law_gate (hr.mono (by decide)) (by rfl) T.m_law_gate T.F_law_gate.kp T.b_law_gate .nil pass0 (pa_cons (pv 15) (pa_cons (pv 8) (pa_cons (pv 9) pa_nil)))) pa_nil))))))))
  (pss_cons (ps_set (i := 10) sc_law_drawn_code.nd rfl (.inl rfl) (pe_lst pa_nil))
  (pss_cons (ps_for PassesOwn.never rfl (pi_list (pv 4)) (pg_name (i := 11) sc_law_drawn_code.nd rfl (.inl rfl))
  (pss_cons (ps_for PassesOwn.never rfl (pi_list (pe_slice xl_list (pe_call G_law_shuffled (hr.mono (by decide)) (by rfl) T.m_law_shuffled T.F_law_shuffled.kp T.b_law_shuffled .nil pass0 (pa_cons (pv 0) (pa_cons (pv 10) pa_nil))) po_none (po_some (pe_call G_law_draw (hr.mono (by decide)) (by rfl) T.m_law_draw T.F_law_draw.kp T.b_law_draw .nil pass0 (pa_cons (pv 0) (pa_cons (pe_nat 2) pa_nil)))))) (pg_name (i := 12) sc_law_drawn_code.nd rfl (.inl rfl))
  (pss_one (ps_set (i := 11) sc_law_drawn_code.nd rfl (.inl rfl) (pe_call G_law_product (hr.mono (by decide)) (by rfl) T.m_law_product T.F_law_product.kp T.b_law_product .nil pass0 (pa_cons (pv 11) (pa_cons (pv 12) pa_nil))))))
  (pss_one (ps_expr (xe_bl PySem.F.slot_list_append PySem.F.type_list_append mt_append (pv 10) (pa_cons (pe_tup (pa_cons (pe_ix xi_tup (pv 11) (pe_nat 0) (fun _ _ => rfl)) (pa_cons (pe_ix xi_tup (pv 11) (pe_nat 1) (fun _ _ => rfl)) (pa_cons (pe_call G_law_draw (hr.mono (by decide)) (by rfl) T.m_law_draw T.F_law_draw.kp T.b_law_draw .nil pass0 (pa_cons (pv 0) (pa_cons (pe_nat 2) pa_nil))) pa_nil)))) pa_nil))))))
  (pss_cons (ps_set (i := 13) sc_law_drawn_code.nd rfl (.inl rfl) (pe_lst pa_nil))
  (pss_cons (ps_for PassesOwn.never rfl (pi_list (pe_slice xl_list (pv 5) po_none (po_some (pv 3)))) (xg_tup (n := 2) rfl (pgs_cons (pg_name (i := 14) sc_law_drawn_code.nd rfl (.inl rfl)) (pgs_cons (pg_name (i := 15) sc_law_drawn_code.nd rfl (.inl rfl)) pgs_nil)))
  (pss_one (ps_set (i := 13) sc_law_drawn_code.nd rfl (.inl rfl) (pe_op op_cat (pv 13) (pe_lst (pa_cons (pv 14) (pa_cons (pv 15) pa_nil)))))))
  (pss_one (ps_ret (pe_disp (pps_cons pe_str (pv 1) (pps_cons pe_str (pe_call G_law_shuffled (hr.mono (by decide)) (by rfl) T.m_law_shuffled T.F_law_shuffled.kp T.b_law_shuffled .nil pass0 (pa_cons (pv 0) (pa_cons (pv 10) pa_nil))) (pps_cons pe_str (pv 13) (pps_cons pe_str (pe_slice xl_list (pv 5) (po_some (pv 3)) po_none) pps_nil)))) (by rfl) (by rfl) (fun z => by cases z) (by decide))))))))))))), ?_⟩
  repeat walk_at "st"
  -- marks
  refine lcM (n := r) walk_rg0 (List.range r) (fun i => (⟨0, 2 ^ i, 0⟩ : Row)) isRow monoRow (by simp) (by omega) (fun _ _ => trivial) (fun _ _ _ _ y => yfn_same y) ?_ ?_
  · rintro i d x H1 H2 hd s1 ⟨rfl, rfl⟩ Qc qc
    obtain ⟨hi, rfl⟩ := List.getElem?_eq_some_iff.mp hd
    rw [List.length_range] at hi
    rw [List.getElem_range] at qc
    obtain ⟨m1, m2, m3⟩ := mulI i (by omega)
    walk_at "st"
    refine ⟨rfl, ?_⟩
    repeat walk_at "st"
    refine ⟨_, i, rfl, rfl, rfl, by omega, ?_⟩
    repeat walk_at "st"
    refine ⟨_, _, rfl, rfl, by rw [m3]; exact Nat.le_trans (show i + 1 ≤ 100 by omega) (by decide), ?_⟩
    rw [m1]
    repeat walk_at "st"
    exact ⟨0, 2 ^ i, i + 1, rfl, by omega, by omega, Nat.two_pow_pos _, Nat.pow_lt_pow_right (by decide) (by omega), fun v' H3 s3 h3 => qc _ _ s3 h3⟩
  intro mp ms H1 hmp s1 h1 hi1
  repeat walk_at "st"
  -- pairs
  refine lcM (walk_rgN (a := r) (b := n)) (List.range (n - r)) (fun i => ((⟨2 ^ (r + i), 0, 0⟩, ⟨0, 2 ^ (r + i), 0⟩) : Row × Row)) isRP monoRP (by simp) (by omega) (fun _ _ => trivial) (fun _ _ _ _ y => yfn_same y) ?_ ?_
  · rintro i d x H2 H3 hd s2 ⟨rfl, rfl⟩ Qc qc
    obtain ⟨hi, rfl⟩ := List.getElem?_eq_some_iff.mp hd
    rw [List.length_range] at hi
    rw [List.getElem_range] at qc
    obtain ⟨m1, m2, m3⟩ := mulI (r + i) (by omega)
    walk_at "st"
    refine ⟨rfl, ?_⟩
    repeat walk_at "st"
    refine ⟨_, r + i, rfl, rfl, rfl, by omega, ?_⟩
    repeat walk_at "st"
    refine ⟨_, _, rfl, rfl, by rw [m3]; exact Nat.le_trans (show r + i + 1 ≤ 100 by omega) (by decide), ?_⟩
    rw [m2]
    repeat walk_at "st"
    refine ⟨2 ^ (r + i), 0, r + i + 1, rfl, by omega, by omega, Nat.pow_lt_pow_right (by decide) (by omega), Nat.two_pow_pos _, fun v3 H4 s4 h4 => ?_⟩
    repeat walk_at "st"
    refine ⟨_, r + i, rfl, rfl, rfl, by omega, ?_⟩
    repeat walk_at "st"
    refine ⟨_, _, rfl, rfl, by rw [m3]; exact Nat.le_trans (show r + i + 1 ≤ 100 by omega) (by decide), ?_⟩
    rw [m1]
    repeat walk_at "st"
    refine ⟨0, 2 ^ (r + i), r + i + 1, rfl, by omega, by omega, Nat.two_pow_pos _, Nat.pow_lt_pow_right (by decide) (by omega), fun v5 H5 s5 h5 => ?_⟩
    repeat walk_at "st"
    intro t6 ht6
    have s6 := same_new (o := .tup [v3, v5]) ht6
    exact qc _ _ ((s4.trans s5).trans s6) ⟨t6, v3, v5, rfl, upd_same, monoRow _ _ _ _ (Sol.of (s5.trans s6)) h4, monoRow _ _ _ _ (Sol.of s6) h5⟩
  intro pp ps H2 hpp s2 h2 hi2
  repeat walk_at "st"
  intro gp hgp
  have s3 := same_new (o := .lst []) hgp
  have s03 := (s1.trans s2).trans s3
  have hgp0 : H gp = none := (s1.trans s2).free hgp
  have hpen3 := hpen.same s03
  have nga : gp ≠ a := fun z => by obtain ⟨o, e⟩ := hpen.got; rw [z, e] at hgp0; cases hgp0
  have hm3 : isL isRow (upd H2 gp (.lst [])) (.ref mp) ((List.range r).map fun i => (⟨0, 2 ^ i, 0⟩ : Row)) := ⟨mp, ms, rfl, s3 _ _ (s2 _ _ h1), hi1.mono monoRow (Sol.of (s2.trans s3))⟩
  have hp3 : isL isRP (upd H2 gp (.lst [])) (.ref pp) ((List.range (n - r)).map fun i => ((⟨2 ^ (r + i), 0, 0⟩, ⟨0, 2 ^ (r + i), 0⟩) : Row × Row)) := ⟨pp, ps, rfl, s3 _ _ h2, hi2.mono monoRP (Sol.of s3)⟩
  have hg3 : (upd H2 gp (.lst [])) gp = some (.lst []) := upd_same
  have nmg : mp ≠ gp := fun z => by rw [← z, s2 _ _ h1] at hgp; cases hgp
  have npg : pp ≠ gp := fun z => by rw [← z, h2] at hgp; cases hgp
  generalize upd H2 gp (.lst []) = H3 at s03 hpen3 hm3 hp3 hg3
  clear s1 s2 s3 h1 h2 hi1 hi2 hmp hpp hgp
  repeat walk_at "st"
  refine ⟨a, cp, 5 * n, k, rfl, hpen3, by omega, by omega, by omega, fun d H4 hd sx4 hpen4 => ?_⟩
  repeat walk_at "st"
  have sx04 : SameX a H H4 := (SameX.of s03).trans sx4
  have hm4 := hm3.sameX monoRow hpen3 sx4
  have hp4 := hp3.sameX monoRP hpen3 sx4
  have hg4 := sx4 _ _ nga hg3
  have nma : mp ≠ a := fun z => by obtain ⟨q, vs, e, h1, _⟩ := hm3; cases e; exact (hpen3.ne h1) z
  have npa : pp ≠ a := fun z => by obtain ⟨q, vs, e, h1, _⟩ := hp3; cases e; exact (hpen3.ne h1) z
  have ncg : cp ≠ gp := fun z => by obtain ⟨o, e⟩ := hpen.cells; rw [z, hgp0] at e; cases e
  clear hm3 hp3 hg3 hpen3 sx4 s03
  refine for_it (n := 2 + d) walk_rg0 (fun i σ' H' => ∃ gvs o7 o8 o9, σ' = [some (.ref a), some (nV n), some (nV r), some (nV gd), some (.ref mp), some (.ref pp), some (.ref gp), o7, o8, o9, none, none, none, none, none, none, none] ∧ (∀ b o, b ≠ gp → b ≠ a → H4 b = some o → H' b = some o) ∧
    isPen H' a cp (k + 1 + 6 * i) ∧ H' gp = some (.lst gvs) ∧ gvs.length ≤ i ∧ GatesAt gp a n H' gvs) ⟨[], _, _, _, rfl, fun _ _ _ _ h => h, hpen4, hg4, Nat.le_refl _, fun i v e => by simp at e⟩ (fun _ _ _ _ _ => trivial) ?_ ?_
  · rintro i x σ' H5 H5' hin ⟨gvs, o7, o8, o9, rfl, keep5, hpen5, hg5, hgl5, hga5⟩ ⟨rfl, rfl⟩
    repeat walk_at "st"
    intro l8 hl8
    have s6 := same_new (o := .lst (kinds8.map V.str)) hl8
    have n8 : l8 ≠ gp := fun z => by rw [z, hg5] at hl8; cases hl8
    repeat walk_at "st"
    refine ⟨a, cp, l8, kinds8.map V.str, _, rfl, hpen5.same s6, upd_same, by decide, by decide, by omega, fun kv H7 hkv sx7 hpen7 => ?_⟩
    obtain ⟨kd, hkd, rfl⟩ := List.mem_map.mp hkv
    have sx57 := (SameX.of (a := a) s6).trans sx7
    repeat walk_at "st"
    refine ⟨rgOk_nat (m := n) (by omega), ?_⟩
    rw [rgV_nat]
    intro rq hrq
    have s8 := same_new (o := .lst ((List.range n).map nV)) hrq
    repeat walk_at "st"
    refine ⟨a, cp, rq, _, _, rfl, hpen7.same s8, upd_same, by simp; omega, by simp; omega, fun sq ys H9 hperm hsq0 sx9 hsq hpen9 => ?_⟩
    obtain ⟨pl, rfl, hpl⟩ := perm_nats hperm
    have sx59 := (sx57.trans (SameX.of s8)).trans sx9
    repeat walk_at "st"
    intro l10 hl10
    have s10 := same_new (o := .lst [.str (Str.ofString "cx"), .str (Str.ofString "cz"), .str (Str.ofString "swap")]) hl10
    repeat walk_at "st"
    refine ⟨l10, _, rfl, upd_same, rfl, rfl, ?_⟩
    refine s_bl ?_
    rw [if_neg Bool.false_ne_true, kind3 hkd]
    refine s_if21 ?_
    have hsq10 := s10 _ _ hsq
    have sx510 := sx59.trans (SameX.of s10)
    have hpen10 := hpen9.same s10
    generalize upd H9 l10 (.lst [.str (Str.ofString "cx"), .str (Str.ofString "cz"), .str (Str.ofString "swap")]) = H10 at hsq10 sx510 hpen10
    obtain ⟨mt, emt⟩ : ∃ mt, mt = if decide (3 ≤ kindOf kd) = true then 2 else 1 := ⟨_, rfl⟩
    rw [← emt]
    have hpll : pl.length = n := by rw [hpl.length_eq, List.length_range]
    repeat walk_at "st"
    intro l11 hl11
    have s11 := same_new (o := .lst ((pl.map nV).take mt)) hl11
    have h11 : (upd H10 l11 (.lst ((pl.map nV).take mt))) l11 = some (.lst ((pl.take mt).map nV)) := by rw [upd_same, List.map_take]
    have sx511 := sx510.trans (SameX.of s11)
    have hpen11 := hpen10.same s11
    have nl11 : l11 ≠ a := fun z => by obtain ⟨xs, e⟩ := hpen10.dict; rw [← z, hl11] at e; cases e
    have ng5 : gp ≠ a := nga
    have nl11g : l11 ≠ gp := fun z => by rw [z, sx510 _ _ nga hg5] at hl11; cases hl11
    generalize upd H10 l11 (.lst ((pl.map nV).take mt)) = H11 at h11 sx511 hpen11
    clear s11 hl11 sx510 hpen10 hsq10 s10 hl10 hpen9 hsq sx9 sx59 hsq0 s8 hrq sx57 hpen7 sx7 s6 hl8
    have hg11 := sx511 _ _ nga hg5
    have hga11 : GatesAt gp a n H11 gvs := hga5.keep (fun b o _ h2 h => sx511 b o h2 h) ⟨_, hg5⟩ hpen5.dict
    have keep11 : ∀ b o, b ≠ gp → b ≠ a → H4 b = some o → H11 b = some o := fun b o h1 h2 h => sx511 _ _ h2 (keep5 b o h1 h2 h)
    have hpenS : isPen H11 a cp (k + 1 + 6 * (i + 1)) := hpen11.le (by rw [List.length_map, List.length_range]; omega)
    have hlen : ((pl.take mt).map nV).length = min mt n := by rw [List.length_map, List.length_take, hpll]
    walk_at "st"
    with_reducible refine s_ifJ (fun σ' H12 => Same H11 H12 ∧ (1 < min mt n ∨ ¬ 3 ≤ kindOf kd) ∧ σ' = [some (.ref a), some (nV n), some (nV r), some (nV gd), some (.ref mp), some (.ref pp), some (.ref gp), some (nV i), some (.str kd), some (.ref l11), none, none, none, none, none, none, none]) ?_ (fun body => ?_)
    · rintro σ' H12 ⟨s12, hc, rfl⟩
      have hg12 := s12 _ _ hg11
      repeat walk_at "st"
      intro tq htq
      have s13 := Same.nw (o := .tup [.str kd, .ref l11]) s12 htq
      have hg13 := s13 _ _ hg11
      repeat walk_at "st"
      refine s_append hg13 (by omega) ?_
      have ntg : tq ≠ gp := fun z => by rw [z, hg12] at htq; cases htq
      have nca : cp ≠ gp := ncg
      refine ⟨gvs ++ [.ref tq], _, _, _, rfl, fun b o h1 h2 h => by rw [upd_ne h1]; exact s13 _ _ (keep11 b o h1 h2 h), (hpenS.same s13).keep (by rw [upd_ne (Ne.symm nga)]) (by rw [upd_ne ncg]), upd_same, by simp; omega, fun j v ej => ?_⟩
      rcases Nat.lt_or_ge j gvs.length with hj | hj
      · rw [List.getElem?_append_left hj] at ej
        exact (hga11.keep (fun b o h1 _ h => by rw [upd_ne h1]; exact s13 _ _ h) ⟨_, hg11⟩ hpen11.dict) j v ej
      · rw [List.getElem?_append_right hj] at ej
        have : j - gvs.length = 0 := by
          apply Classical.byContradiction
          intro z
          rw [List.getElem?_eq_none (by simp; omega)] at ej
          cases ej
        rw [this] at ej
        cases ej
        refine ⟨tq, l11, kd, pl.take mt, rfl, by rw [upd_ne ntg]; exact upd_same, by rw [upd_ne nl11g]; exact s13 _ _ h11, nl11g, nl11, hkd, fun q hq => List.mem_range.mp (hpl.mem_iff.mp (List.mem_of_mem_take hq)), ?_, ?_, fun h3 => ?_⟩
        · exact (List.take_sublist mt pl).nodup (hpl.nodup_iff.mpr List.nodup_range)
        · rw [List.length_take, hpll, emt]; split <;> omega
        · rw [List.length_take, hpll]
          rcases hc with hc | hc
          · omega
          · exact absurd h3 hc
    · repeat walk_at "st"
      rw [hlen]
      refine s_if (fun e => ?_) (fun e => ?_)
      · exact body _ _ ⟨Same.refl _, .inl (of_decide_eq_true e), rfl⟩
      · repeat walk_at "st"
        intro l12 hl12
        have s12 := same_new (o := .lst [.str (Str.ofString "cx"), .str (Str.ofString "cz"), .str (Str.ofString "swap")]) hl12
        repeat walk_at "st"
        refine ⟨l12, _, rfl, upd_same, rfl, rfl, ?_⟩
        refine s_bl ?_
        rw [if_pos rfl, kind3 hkd]
        refine s_if (fun e => ?_) (fun e => ?_)
        · exact body _ _ ⟨s12, .inr (by simpa using e), rfl⟩
        · repeat walk_at "st"
          exact ⟨gvs, _, _, _, rfl, fun b o h1 h2 h => s12 _ _ (keep11 b o h1 h2 h), hpenS.same s12, s12 _ _ hg11, by omega, hga11.keep (fun b o _ _ h => s12 _ _ h) ⟨_, hg11⟩ hpen11.dict⟩
  rintro σ' H5 ⟨gvs, o7, o8, o9, rfl, keep5, hpen5, hg5, hgl5, hga5⟩
  have sol45 : Sol H4 H5 := fun b o e so => keep5 b o (fun z => by rw [z, hg4] at e; cases e; exact so) (fun z => by obtain ⟨xs, e2⟩ := hpen4.dict; rw [z, e2] at e; cases e; exact so) e
  have hm5 : isL isRV H5 (.ref mp) ((List.range r).map fun k => ((0, 2 ^ k) : V2)) := by
    obtain ⟨q, vs, e, h1, h2⟩ := hm4
    cases e
    refine ⟨mp, vs, rfl, keep5 _ _ nmg nma h1, ?_⟩
    have := Itm.imp (S := isRV) (f := Row.xz) (fun v x hx hr => ⟨x, hr, rfl, by obtain ⟨i, _, rfl⟩ := List.mem_map.mp hx; show 0 < 2; decide⟩) (h2.mono monoRow sol45)
    rw [List.map_map] at this
    exact this
  have hp5 : isL isPV H5 (.ref pp) ((List.range (n - r)).map fun k => (((2 ^ (r + k), 0), (0, 2 ^ (r + k))) : V2 × V2)) := by
    obtain ⟨q, vs, e, h1, h2⟩ := hp4
    cases e
    refine ⟨pp, vs, rfl, keep5 _ _ npg npa h1, ?_⟩
    have := Itm.imp (S := isPV) (f := fun p : Row × Row => (p.1.xz, p.2.xz)) (fun v x hx hr => by
      obtain ⟨i, _, rfl⟩ := List.mem_map.mp hx
      obtain ⟨t, u, w', e1, e2, e3, e4⟩ := hr
      exact ⟨t, u, w', e1, e2, ⟨_, e3, rfl, by show 0 < 2; decide⟩, ⟨_, e4, rfl, by show 0 < 2; decide⟩⟩) (h2.mono monoRP sol45)
    rw [List.map_map] at this
    exact this
  have sx5 : SameX a H H5 := fun b o h1 h => keep5 _ _ (fun z => by rw [z, hgp0] at h; cases h) h1 (sx04 _ _ h1 h)
  clear hm4 hp4 sol45 keep5 sx04 hg4 hpen4
  repeat walk_at "st"
  -- the gates act
  refine for_it (n := gvs.length) (walk_list (K := K) (xs := gvs)) (fun i σ' H' => ∃ mp pp A B o7 o8 o9, σ' = [some (.ref a), some (nV n), some (nV r), some (nV gd), some (.ref mp), some (.ref pp), some (.ref gp), o7, o8, o9, none, none, none, none, none, none, none] ∧ Same H5 H' ∧ Tab n A B ∧ isL isRV H' (.ref mp) ((List.range r).map A) ∧ isL isPV H' (.ref pp) ((List.range (n - r)).map fun k => (B (r + k), A (r + k)))) ⟨mp, pp, _, _, _, _, _, rfl, Same.refl _, Tab.init n, hm5, hp5⟩ (fun _ _ _ _ h => by obtain ⟨_, _, _, _, _, _, _, _, s, _⟩ := h; exact SqL.of (s _ _ hg5)) ?_ ?_
  · rintro i x σ' Hx H6 hin ⟨mp, pp, A, B, o7, o8, o9, rfl, s6, tab, ⟨mp', ms, e, hm6, hmi6⟩, ⟨pp', ps, e', hp6, hpi6⟩⟩ ⟨rfl, y⟩
    cases e
    cases e'
    obtain ⟨tp, q, kd, pl, rfl, htp, hq, _, _, hkd, hlt, hnd, hl0, hl3⟩ := hga5 i x y
    have hml := hmi6.len
    have hpl := hpi6.len
    rw [List.length_map, List.length_range] at hml hpl
    have hq6 := s6 _ _ hq
    have hgate : ∀ (H7 : Hp) (v : V) (x : V2), Same H6 H7 → isRV H7 v x → ∀ Q : VK, (∀ v' H', Same H7 H' → isRV H' v' (gateV (kindOf kd) (pl.getD 0 0) (pl.getD 1 0) x) → Q v' H') → sp_law_gate ([v, .str kd, .ref q] ++ []) H7 Q E0 := fun H7 v x s7 ⟨rr, hrr, erx, ers⟩ Q qq =>
      ⟨v, rr, kd, q, pl, rfl, hrr, ers, s7 _ _ hq6, kind7 hkd, fun z hz => by have := hlt z hz; omega, hl0, hl3, fun v' H' r' s8 h8 e8 hs8 => qq v' H' s8 ⟨r', h8, by rw [e8, erx], hs8⟩⟩
    refine s_gtup (s6 _ _ htp) rfl ?_
    repeat walk_at "st"
    refine lcM (walk_list (K := K) (xs := ms)) ((List.range r).map A) (gateV (kindOf kd) (pl.getD 0 0) (pl.getD 1 0)) isRV monoRV (by simp; omega) (by omega) (fun _ s => SqL.of (s _ _ hm6)) (fun _ _ _ _ y => yat_same y) ?_ ?_
    · rintro j d2 x H7 H8 hd2 s7 ⟨rfl, y2⟩ Qc qc
      have hx := monoRV _ _ _ _ (Sol.of s7) (hmi6.at y2 hd2)
      walk_at "st"
      refine ⟨rfl, ?_⟩
      repeat walk_at "st"
      exact hgate _ _ _ s7 hx _ fun v' H' s h => qc v' H' s h
    intro mp2 ms2 H7 hmp2 s7 hm7 hmi7
    have hp7 := s7 _ _ hp6
    repeat walk_at "st"
    refine lcM (walk_list (K := K) (xs := ps)) ((List.range (n - r)).map fun k => (B (r + k), A (r + k))) (fun p => (gateV (kindOf kd) (pl.getD 0 0) (pl.getD 1 0) p.1, gateV (kindOf kd) (pl.getD 0 0) (pl.getD 1 0) p.2)) isPV monoPV (by simp; omega) (by omega) (fun _ s => SqL.of (s _ _ hp7)) (fun _ _ _ _ y => yat_same y) ?_ ?_
    · rintro j d2 x H8 H9 hd2 s8 ⟨rfl, y2⟩ Qc qc
      obtain ⟨t8, xv, zv, rfl, ht8, hxv, hzv⟩ := monoPV _ _ _ _ (Sol.of (s7.trans s8)) (hpi6.at y2 hd2)
      refine s_gtup ht8 rfl ?_
      repeat walk_at "st"
      refine ⟨rfl, ?_⟩
      repeat walk_at "st"
      refine hgate _ _ _ (s7.trans s8) hxv _ fun v9 H9 s9 h9 => ?_
      repeat walk_at "st"
      refine hgate _ _ _ ((s7.trans s8).trans s9) (monoRV _ _ _ _ (Sol.of s9) hzv) _ fun v10 H10 s10 h10 => ?_
      repeat walk_at "st"
      intro t11 ht11
      have s11 := same_new (o := .tup [v9, v10]) ht11
      exact qc _ _ ((s9.trans s10).trans s11) ⟨t11, v9, v10, rfl, upd_same, monoRV _ _ _ _ (Sol.of (s10.trans s11)) h9, monoRV _ _ _ _ (Sol.of s11) h10⟩
    intro pp2 ps2 H8 hpp2 s8 hp8 hpi8
    repeat walk_at "st"
    have hp0 : pl.getD 0 0 < n := by
      cases pl with
      | nil => simp at hl0
      | cons z l => exact hlt z List.mem_cons_self
    have hp1 : 3 ≤ kindOf kd → pl.getD 1 0 < n ∧ pl.getD 0 0 ≠ pl.getD 1 0 := fun h3 => by
      have := hl3 h3
      match pl, this with
      | z :: z2 :: l, _ =>
        refine ⟨hlt z2 (by simp), fun e => ?_⟩
        rw [List.nodup_cons] at hnd
        exact hnd.1 (by have e : z = z2 := e; rw [e]; exact List.mem_cons_self)
      | [z], h => simp at h
      | [], h => simp at h
    rw [List.map_map] at hmi7 hpi8
    exact ⟨mp2, pp2, _, _, _, _, _, rfl, (s6.trans s7).trans s8, tab.gate hp0 hp1, ⟨mp2, ms2, rfl, s8 _ _ hm7, Itm.mono monoRV (Sol.of s8) hmi7⟩, ⟨pp2, ps2, rfl, hp8, hpi8⟩⟩
  rintro σ' H6 ⟨mp, pp, A, B, o7, o8, o9, rfl, s6, tab, ⟨mp', ms, e, hm6, hmi6⟩, ⟨pp', ps, e', hp6, hpi6⟩⟩
  cases e
  cases e'
  have sx6 := sx5.trans (SameX.of s6)
  have hpen6 := hpen5.same s6
  clear hm5 hp5 sx5 hg5 hga5 hgl5 hpen5 s6
  have hml := hmi6.len
  have hpl := hpi6.len
  rw [List.length_map, List.length_range] at hml hpl
  repeat walk_at "st"
  intro rp' hrp
  have s7 := same_new (o := .lst []) hrp
  have hpen7 := hpen6.same s7
  have sx7 := sx6.trans (SameX.of s7)
  have hmi7 := hmi6.mono monoRV (Sol.of s7)
  have hpi7 := hpi6.mono monoPV (Sol.of s7)
  have hm7 := s7 _ _ hm6
  have hp7 := s7 _ _ hp6
  have nmr : mp ≠ rp' := fun z => by rw [z, hrp] at hm6; cases hm6
  have npr : pp ≠ rp' := fun z => by rw [z, hrp] at hp6; cases hp6
  have nra : rp' ≠ a := fun z => by obtain ⟨xs, e⟩ := hpen6.dict; rw [← z, hrp] at e; cases e
  have ncr : cp ≠ rp' := fun z => by obtain ⟨xs, e⟩ := hpen6.cells; rw [z, hrp] at e; cases e
  have hrH : H rp' = none := by
    cases e : H rp' with
    | none => rfl
    | some o => have := sx6 _ _ nra e; rw [hrp] at this; cases this
  have nma6 := hpen6.ne hm6
  have npa6 := hpen6.ne hp6
  have hr7 : (upd H6 rp' (.lst [])) rp' = some (.lst []) := upd_same
  generalize upd H6 rp' (.lst []) = H7 at s7 hpen7 sx7 hmi7 hpi7 hm7 hp7 hr7
  clear hpen6 sx6 hmi6 hpi6 hm6 hp6 s7 hrp
  obtain ⟨k7, ek7⟩ : ∃ k7, k7 = k + 1 + 6 * (2 + d) := ⟨_, rfl⟩
  rw [← ek7] at hpen7
  repeat walk_at "st"
  -- the rows
  have hA : ∀ (i : Nat) v, ms[i]? = some v → i < r ∧ isRV H7 v (A i) := fun i v e => by
    obtain ⟨x, ex, hx⟩ := hmi7.get e
    have hi := (List.getElem?_eq_some_iff.mp e).1
    rw [List.getElem?_map, List.getElem?_range (by omega)] at ex
    cases ex
    exact ⟨by omega, hx⟩
  refine for_it (n := ms.length) (walk_list (K := K) (xs := ms)) (fun i σ' H' => ∃ rvs rs o11 o12, σ' = [some (.ref a), some (nV n), some (nV r), some (nV gd), some (.ref mp), some (.ref pp), some (.ref gp), o7, o8, o9, some (.ref rp'), o11, o12, none, none, none, none] ∧ (∀ b o, b ≠ rp' → b ≠ a → H7 b = some o → H' b = some o) ∧
    isPen H' a cp (k7 + 10 * i) ∧ H' rp' = some (.lst rvs) ∧ Itm isRow H' rvs rs ∧ rs.length = i ∧ (∀ q ∈ rs, q.ok n) ∧ (∃ S, SgnC S ∧ (∀ q ∈ rs, S q) ∧ ∀ a, S a → Sn ((List.range i).map A) a.xz) ∧ ∀ x, Sn (rs.map Row.xz) x ↔ Sn ((List.range i).map A) x) ⟨[], [], _, _, rfl, fun _ _ _ _ h => h, hpen7, hr7, .nil, rfl, fun q hq => (by cases hq), ⟨_, SgnC.init, fun q hq => (by cases hq), fun a ha => by rw [ha]; exact .zero⟩, fun x => Iff.rfl⟩ (fun _ _ _ _ h => by obtain ⟨_, _, _, _, _, s, _⟩ := h; exact SqL.of (s _ _ nmr nma6 hm7)) ?_ ?_
  · rintro i x σ' Hx H8 hin ⟨rvs, rs, o11, o12, rfl, keep8, hpen8, hr8, hri8, hrl8, hrok8, ⟨S, hS, hSr, hSs⟩, hrs8⟩ ⟨rfl, y⟩
    obtain ⟨hir, hAi⟩ := hA i x y
    have sol78 : Sol H7 H8 := fun b o e so => keep8 b o (fun z => by rw [z, hr7] at e; cases e; exact so) (fun z => by obtain ⟨xs, e2⟩ := hpen7.dict; rw [z, e2] at e; cases e; exact so) e
    obtain ⟨m, hm8, em, hms⟩ := monoRV _ _ _ _ sol78 hAi
    have lti : Lt2 n (A i) := tab.la i (by omega)
    have mok : m.ok n := ⟨by have := lti.1; rw [← em] at this; exact this, by have := lti.2; rw [← em] at this; exact this, hms⟩
    have hrvl := hri8.len
    repeat walk_at "st"
    refine ⟨a, cp, rp', rvs, _, rfl, hpen8, hr8, by omega, by omega, fun sq ys H9 hperm hsq0 sx9 hsq hpen9 => ?_⟩
    repeat walk_at "st"
    refine ⟨a, cp, 2, _, rfl, hpen9, by omega, by omega, by omega, fun d2 H10 hd2 sx10 hpen10 => ?_⟩
    have nsa : sq ≠ a := hpen9.ne hsq
    have hsq10 := sx10 _ _ nsa hsq
    have sx810 := sx9.trans sx10
    have hr10 := sx810 _ _ nra hr8
    have sol810 := hpen8.sol sx810
    have hri10 := hri8.mono monoRow sol810
    have hm10 := monoRow _ _ _ _ sol810 hm8
    repeat walk_at "st"
    intro l11 hl11
    have s11 := same_new (o := .lst (ys.take d2)) hl11
    have hl11' : (upd H10 l11 (.lst (ys.take d2))) l11 = some (.lst (ys.take d2)) := upd_same
    have hpen11 := hpen10.same s11
    have sx811 := sx810.trans (SameX.of s11)
    have hr11 := s11 _ _ hr10
    have hri11 := hri10.mono monoRow (Sol.of s11)
    have hm11 := monoRow _ _ _ _ (Sol.of s11) hm10
    generalize upd H10 l11 (.lst (ys.take d2)) = H11 at s11 hl11' hpen11 sx811 hr11 hri11 hm11
    clear hm10 hri10 sol810 hr10 sx810 hsq10 hpen10 sx10 hpen9 hsq sx9 hsq0
    repeat walk_at "st"
    refine for_it (n := (ys.take d2).length) (walk_list (K := K) (xs := ys.take d2)) (fun j σ' H' => ∃ sv sr o12, σ' = [some (.ref a), some (nV n), some (nV r), some (nV gd), some (.ref mp), some (.ref pp), some (.ref gp), o7, o8, o9, some (.ref rp'), some sv, o12, none, none, none, none] ∧ Same H11 H' ∧ isRow H' sv sr ∧ sr.ok n ∧ ∃ o, Sn (rs.map Row.xz) o ∧ sr.xz = XG.xo (A i) o) ⟨x, m, _, rfl, Same.refl _, hm11, mok, ze, .zero, by rw [XG.zr]; exact em⟩ (fun _ _ _ _ h => by obtain ⟨_, _, _, _, s, _⟩ := h; exact SqL.of (s _ _ hl11')) ?_ ?_
    · rintro j y2 σ' Hy H12 hj ⟨sv, sr, o12, rfl, s12, hsr, srok, o, ho, eo⟩ ⟨rfl, y3⟩
      have hyin : y2 ∈ rvs := hperm.mem_iff.mp (List.mem_of_mem_take (mem_idx y3))
      obtain ⟨jj, hjj⟩ := List.getElem?_of_mem hyin
      obtain ⟨q, eq, hq⟩ := hri11.get hjj
      have qok := hrok8 q (mem_idx eq)
      repeat walk_at "st"
      refine ⟨_, _, sr, q, rfl, hsr, monoRow _ _ _ _ (Sol.of s12) hq, srok.small (by omega), qok.small (by omega), fun v13 H13 s13 h13 => ?_⟩
      repeat walk_at "st"
      exact ⟨v13, rp sr q, _, rfl, s12.trans s13, h13, rp_ok srok qok, XG.xo o q.xz, ho.xo (Sn.mem (List.mem_map_of_mem (mem_idx eq))), by rw [rp_xz, eo, XG.assoc]⟩
    · rintro σ' H12 ⟨sv, sr, o12, rfl, s12, ⟨sp, rfl, hsp⟩, srok, o, ho, eo⟩
      have hr12 := s12 _ _ hr11
      have hpen12 := hpen11.same s12
      repeat walk_at "st"
      refine ⟨a, cp, 2, _, rfl, hpen12, by omega, by omega, by rw [hrvl, hrl8]; omega, fun d3 H13 hd3 sx13 hpen13 => ?_⟩
      have hr13 := sx13 _ _ nra hr12
      repeat walk_at "st"
      intro t14 ht14
      have s14 := same_new (o := .tup [nV sr.x, nV sr.z, nV d3]) ht14
      have hr14 := s14 _ _ hr13
      repeat walk_at "st"
      refine s_append hr14 (by omega) ?_
      have so15 := Sol.updL (o := .lst (rvs ++ [.ref t14])) hr14
      have sx814 := (sx811.trans (SameX.of s12)).trans (sx13.trans (SameX.of s14))
      have sol1115 : Sol H11 (upd (upd H13 t14 (.tup [nV sr.x, nV sr.z, nV d3])) rp' (.lst (rvs ++ [.ref t14]))) := (Sol.of s12).trans ((hpen12.sol (sx13.trans (SameX.of s14))).trans so15)
      have ntr : t14 ≠ rp' := fun z => by rw [z, hr13] at ht14; cases ht14
      refine ⟨rvs ++ [.ref t14], rs ++ [⟨sr.x, sr.z, d3⟩], _, _, rfl, fun b o h1 h2 h => by rw [upd_ne h1]; exact sx814 _ _ h2 (keep8 b o h1 h2 h), ?_, upd_same, (hri11.mono monoRow sol1115).app (Itm.one ⟨t14, rfl, by rw [upd_ne ntr]; exact upd_same⟩), by simp [hrl8], fun q hq => ?_, ?_, fun x => ?_⟩
      · have hh := (hpen13.same s14).le (k' := k7 + 10 * (i + 1)) (by rw [hrvl, hrl8]; omega)
        exact hh.keep (by rw [upd_ne (Ne.symm nra)]) (by rw [upd_ne ncr])
      · rcases List.mem_append.mp hq with hq | hq
        · exact hrok8 q hq
        · rw [List.mem_singleton.mp hq]; exact ⟨srok.1, srok.2.1, hd3⟩
      · have ho' : Sn ((List.range i).map A) o := (hrs8 o).mp ho
        have ev : (⟨sr.x, sr.z, d3⟩ : Row).xz = XG.xo (A i) o := eo
        have up : ∀ x, Sn ((List.range i).map A) x → Sn ((List.range (i + 1)).map A) x := fun x hx => hx.mono fun c hc => by
          rw [List.range_succ, List.map_append]; exact List.mem_append_left _ hc
        have hvv : Sn ((List.range (i + 1)).map A) (⟨sr.x, sr.z, d3⟩ : Row).xz := by
          rw [ev]
          refine Sn.xo (Sn.mem ?_) (up _ ho')
          rw [List.range_succ, List.map_append]; exact List.mem_append_right _ (List.mem_singleton.mpr rfl)
        have hE := hS.ext (v := ⟨sr.x, sr.z, d3⟩) hd3 (fun c hc => tab.comm (i := i + 1) (by omega) (up _ (hSs c hc)) hvv) (fun c hc e => by
          rw [ev] at e
          have := (hSs c hc).xo ho'
          rw [e, xo_cancel] at this
          exact tab.fresh (by omega) this)
        refine ⟨_, hE, fun q hq => ?_, fun c hc => ?_⟩
        · rcases List.mem_append.mp hq with hq | hq
          · exact .inl (hSr q hq)
          · rw [List.mem_singleton.mp hq]; exact hS.extV hd3
        · rcases hc with hc | ⟨p, hp, rfl⟩
          · exact up _ (hSs c hc)
          · rw [rp_xz]; exact (up _ (hSs p hp)).xo hvv
      · have ex : (⟨sr.x, sr.z, d3⟩ : Row).xz = XG.xo (A i) o := eo
        rw [List.map_append, List.map_singleton, ex, List.range_succ, List.map_append, List.map_singleton, Sn.app1, Sn.app1, hrs8, hrs8]
        have ho' : Sn ((List.range i).map A) o := (hrs8 o).mp ho
        refine or_congr Iff.rfl ⟨fun h => ?_, fun h => ?_⟩
        · have := h.xo ho'
          rw [← XG.assoc, XG.assoc, XG.self, XG.zr] at this
          exact this
        · have := h.xo ho'
          rw [XG.assoc] at this
          exact this
  rintro σ' H8 ⟨rvs, rs, o11, o12, rfl, keep8, hpen8, hr8, hri8, hrl8, hrok8, ⟨S, hS, hSr, hSs⟩, hrs8⟩
  rw [hml] at hrl8 hpen8 hrs8 hSs
  have sol78 : Sol H7 H8 := fun b o e so => keep8 b o (fun z => by rw [z, hr7] at e; cases e; exact so) (fun z => by obtain ⟨xs, e2⟩ := hpen7.dict; rw [z, e2] at e; cases e; exact so) e
  have hp8 := keep8 _ _ npr npa6 hp7
  have hpi8 := hpi7.mono monoPV sol78
  have sx8 : SameX a H H8 := fun b o h1 h => keep8 _ _ (fun z => by rw [z, hrH] at h; cases h) h1 (sx7 _ _ h1 h)
  clear sol78 keep8 hpi7 hp7 hmi7 hm7 hr7 hpen7 sx7 hA
  repeat walk_at "st"
  intro g0 hg0
  have s9 := same_new (o := .lst []) hg0
  have hg9 : (upd H8 g0 (.lst [])) g0 = some (.lst []) := upd_same
  have hp9 := s9 _ _ hp8
  have hpi9 := hpi8.mono monoPV (Sol.of s9)
  have hr9 := s9 _ _ hr8
  have hri9 := hri8.mono monoRow (Sol.of s9)
  have hpen9 := hpen8.same s9
  have sx9 := sx8.trans (SameX.of s9)
  generalize upd H8 g0 (.lst []) = H9 at s9 hg9 hp9 hpi9 hr9 hri9 hpen9 sx9
  clear hg0 s9 hp8 hpi8 hr8 hri8 hpen8 sx8
  repeat walk_at "st"
  intro l10 hl10
  have s10 := same_new (o := .lst (ps.take gd)) hl10
  have h10 : (upd H9 l10 (.lst (ps.take gd))) l10 = some (.lst (ps.take gd)) := upd_same
  generalize upd H9 l10 (.lst (ps.take gd)) = H10 at s10 h10
  repeat walk_at "st"
  refine for_it (n := (ps.take gd).length) (walk_list (K := K) (xs := ps.take gd)) (fun i σ' H' => ∃ gv gvs ga o14 o15, σ' = [some (.ref a), some (nV n), some (nV r), some (nV gd), some (.ref mp), some (.ref pp), some (.ref gp), o7, o8, o9, some (.ref rp'), o11, o12, some (.ref gv), o14, o15, none] ∧ Same H10 H' ∧
    H' gv = some (.lst gvs) ∧ Itm isRow H' gvs ga ∧ ga.length = 2 * i ∧ (∀ q ∈ ga, q.ok n ∧ ∃ j, j < i ∧ (q.xz = A (r + j) ∨ q.xz = B (r + j))) ∧ ∀ j, j < i → (∃ q ∈ ga, q.xz = A (r + j)) ∧ ∃ q ∈ ga, q.xz = B (r + j)) ⟨g0, [], [], _, _, rfl, Same.refl _, s10 _ _ hg9, .nil, rfl, fun q hq => (by cases hq), fun j hj => by omega⟩ (fun _ _ _ _ h => by obtain ⟨_, _, _, _, _, _, s, _⟩ := h; exact SqL.of (s _ _ h10)) ?_ ?_
  · rintro i x σ' Hx H11 hin ⟨gv, gvs, ga, o14, o15, rfl, s11, hgv, hgi, hgl, hgin, hgal⟩ ⟨rfl, y⟩
    have hi : i < gd := by rw [List.length_take] at hin; omega
    rw [List.getElem?_take_of_lt hi] at y
    obtain ⟨p, ep, hpv⟩ := hpi9.get y
    rw [List.getElem?_map, List.getElem?_range (by omega)] at ep
    cases ep
    obtain ⟨tp, xv, zv, rfl, htp, hxv, hzv⟩ := monoPV _ _ _ _ (Sol.of (s10.trans s11)) hpv
    obtain ⟨xr, hxr, exr, sxr⟩ := hxv
    obtain ⟨zr', hzr, ezr, szr⟩ := hzv
    have exr : xr.xz = B (r + i) := exr
    have ezr : zr'.xz = A (r + i) := ezr
    have okx : xr.ok n := row_ok (tab.lb (r + i) (by omega)) exr sxr
    have okz : zr'.ok n := row_ok (tab.la (r + i) (by omega)) ezr szr
    have hgvl := hgi.len
    refine s_gtup htp rfl ?_
    repeat walk_at "st"
    intro l12 hl12
    have s12 := same_new (o := .lst [xv, zv]) hl12
    refine s_cat (s12 _ _ hgv) upd_same (by simp; omega) fun g13 hg13 => ?_
    have s13 := same_new (o := .lst (gvs ++ [xv, zv])) hg13
    have s1113 := s12.trans s13
    refine ⟨g13, gvs ++ [xv, zv], ga ++ [xr, zr'], _, _, rfl, s11.trans s1113, upd_same, (hgi.mono monoRow (Sol.of s1113)).app (.cons (monoRow _ _ _ _ (Sol.of s1113) hxr) (.cons (monoRow _ _ _ _ (Sol.of s1113) hzr) .nil)), by simp; omega, fun q hq => ?_, fun j hj => ?_⟩
    · rcases List.mem_append.mp hq with hq | hq
      · obtain ⟨z1, j, z2, z3⟩ := hgin q hq
        exact ⟨z1, j, by omega, z3⟩
      · rcases List.mem_cons.mp hq with rfl | hq
        · exact ⟨okx, i, by omega, .inr exr⟩
        · rw [List.mem_singleton.mp hq]; exact ⟨okz, i, by omega, .inl ezr⟩
    · by_cases ej : j = i
      · subst ej
        exact ⟨⟨zr', by simp, ezr⟩, ⟨xr, by simp, exr⟩⟩
      · obtain ⟨⟨q1, m1, e1⟩, ⟨q2, m2, e2⟩⟩ := hgal j (by omega)
        exact ⟨⟨q1, List.mem_append_left _ m1, e1⟩, ⟨q2, List.mem_append_left _ m2, e2⟩⟩
  rintro σ' H11 ⟨gv, gvs, ga, o14, o15, rfl, s11, hgv, hgi, hgl, hgin, hgal⟩
  have hgd : (ps.take gd).length = gd := by rw [List.length_take]; omega
  rw [hgd] at hgl hgin hgal
  have s911 := s10.trans s11
  have hp11 := s911 _ _ hp9
  have hpi11 := hpi9.mono monoPV (Sol.of s911)
  have hr11 := s911 _ _ hr9
  have hri11 := hri9.mono monoRow (Sol.of s911)
  have hpen11 := hpen9.same s911
  have sx11 := sx9.trans (SameX.of s911)
  have hrvl := hri11.len
  repeat walk_at "st"
  refine s_disp ?_
  intro dp hdp
  have hdpH : H dp = none := by
    have nda : dp ≠ a := fun z => by obtain ⟨xs, e⟩ := hpen11.dict; rw [← z, hdp] at e; cases e
    cases e : H dp with
    | none => rfl
    | some o => have := sx11 _ _ nda e; rw [hdp] at this; cases this
  have nda : dp ≠ a := fun z => by obtain ⟨xs, e⟩ := hpen11.dict; rw [← z, hdp] at e; cases e
  have s12 := same_new (o := .dK []) hdp
  repeat walk_at "st"
  refine ⟨a, cp, rp', rvs, _, rfl, hpen11.same s12, s12 _ _ hr11, by omega, by omega, fun sq ys H13 hperm hsq0 sx13 hsq hpen13 => ?_⟩
  have sx1113 := (SameX.of (a := a) s12).trans sx13
  have hp13 := sx1113 _ _ npa6 hp11
  have hd13 := sx13 _ _ nda upd_same
  have sol1113 := hpen11.sol sx1113
  repeat walk_at "st"
  intro hq hhq
  have s14 := same_new (o := .lst (ps.drop gd)) hhq
  have h14 : (upd H13 hq (.lst (ps.drop gd))) hq = some (.lst (ps.drop gd)) := upd_same
  have hd14 := s14 _ _ hd13
  have sol1114 := sol1113.trans (Sol.of s14)
  have hgvd : gv ≠ a := fun z => by obtain ⟨xs, e⟩ := hpen11.dict; rw [← z, hgv] at e; cases e
  have hgv14 := s14 _ _ (sx1113 _ _ hgvd hgv)
  have hsq14 := s14 _ _ hsq
  have hpen14 := hpen13.same s14
  have sx14 := (sx11.trans sx1113).trans (SameX.of s14)
  generalize upd H13 hq (.lst (ps.drop gd)) = H14 at s14 h14 hd14 sol1114 hgv14 hsq14 hpen14 sx14
  repeat walk_at "st"
  refine ⟨hd14, [(.inr (Str.ofString "size"), nV n), (.inr (Str.ofString "rows"), .ref sq), (.inr (Str.ofString "gauge"), .ref gv), (.inr (Str.ofString "hidden"), .ref hq)], rfl, by simp, ?_⟩
  have cdk : CdK (mergeK [] [(.inr (Str.ofString "size"), nV n), (.inr (Str.ofString "rows"), V.ref sq), (.inr (Str.ofString "gauge"), .ref gv), (.inr (Str.ofString "hidden"), .ref hq)]) n (.ref sq) (.ref gv) (.ref hq) := by
    unfold mergeK
    rw [List.foldl_cons, List.foldl_cons, List.foldl_cons, List.foldl_cons, List.foldl_nil]
    dsimp only
    refine ⟨?_, ?_, ?_, ?_, ?_⟩
    · have hl : ∀ (kvs : List (Key × V)) (k : Key) (v : V), (putK kvs k v).length ≤ kvs.length + 1 := fun kvs k v => by
        unfold putK
        split
        · rw [List.length_map]; omega
        · rw [List.length_append, List.length_singleton]; omega
      have h1 := hl [] (.inr (Str.ofString "size")) (nV n)
      have h2 := hl (putK [] (.inr (Str.ofString "size")) (nV n)) (.inr (Str.ofString "rows")) (.ref sq)
      have h3 := hl (putK (putK [] (.inr (Str.ofString "size")) (nV n)) (.inr (Str.ofString "rows")) (.ref sq)) (.inr (Str.ofString "gauge")) (.ref gv)
      have h4 := hl (putK (putK (putK [] (.inr (Str.ofString "size")) (nV n)) (.inr (Str.ofString "rows")) (.ref sq)) (.inr (Str.ofString "gauge")) (.ref gv)) (.inr (Str.ofString "hidden")) (.ref hq)
      simp only [List.length_nil] at h1
      exact Nat.le_trans h4 (by omega)
    · rw [valV_put, if_neg (inr_ne (by decide +kernel)), valV_put, if_neg (inr_ne (by decide +kernel)), valV_put, if_neg (inr_ne (by decide +kernel)), valV_put, if_pos rfl]
    · rw [valV_put, if_neg (inr_ne (by decide +kernel)), valV_put, if_neg (inr_ne (by decide +kernel)), valV_put, if_pos rfl]
    · rw [valV_put, if_neg (inr_ne (by decide +kernel)), valV_put, if_pos rfl]
    · rw [valV_put, if_pos rfl]
  have so15 : Sol H14 (upd H14 dp (.dK (mergeK [] [(.inr (Str.ofString "size"), nV n), (.inr (Str.ofString "rows"), V.ref sq), (.inr (Str.ofString "gauge"), .ref gv), (.inr (Str.ofString "hidden"), .ref hq)]))) := Sol.upd' hd14 (fun z => z)
  generalize mergeK [] [(.inr (Str.ofString "size"), nV n), (.inr (Str.ofString "rows"), V.ref sq), (.inr (Str.ofString "gauge"), .ref gv), (.inr (Str.ofString "hidden"), .ref hq)] = kvs at cdk so15
  have nsd : sq ≠ dp := fun z => by rw [z, hd14] at hsq14; cases hsq14
  have ngd : gv ≠ dp := fun z => by rw [z, hd14] at hgv14; cases hgv14
  have nhd : hq ≠ dp := fun z => by rw [z, hd14] at h14; cases h14
  have ncd : cp ≠ dp := fun z => by obtain ⟨xs, e⟩ := hpen14.cells; rw [z, hd14] at e; cases e
  obtain ⟨rows, hperm2, hrows⟩ := Itm.permute hperm (hri11.mono monoRow (sol1114.trans so15))
  obtain ⟨hid, hhid, hhl, hhin⟩ := pv_rows ((hpi11.mono monoPV (sol1114.trans so15)).drop gd)
  have hmemr : ∀ q, q ∈ rows ↔ q ∈ rs := fun q => hperm2.mem_iff
  rw [List.length_drop, List.length_map, List.length_range] at hhl
  have hgi15 := hgi.mono monoRow (((Sol.of s12).trans (hpen11.same s12 |>.sol sx13)).trans ((Sol.of s14).trans so15))
  refine kk dp kvs (.ref sq) (.ref gv) (.ref hq) _ A B rows ga hid (fun b o h1 h => by rw [upd_ne (fun z => by rw [z, hdpH] at h; cases h)]; exact sx14 b o h1 h) ?_ hdpH upd_same cdk ⟨sq, ys, rfl, by rw [upd_ne nsd]; exact hsq14, hrows⟩ ⟨gv, gvs, rfl, by rw [upd_ne ngd]; exact hgv14, hgi15⟩ ⟨hq, ps.drop gd, rfl, by rw [upd_ne nhd]; exact h14, hhid⟩ ?_ (by rw [hperm2.length_eq, hrl8]) (by omega)
  · refine (hpen14.le (k' := k + 400) ?_).keep (by rw [upd_ne (Ne.symm nda)]) (by rw [upd_ne ncd])
    omega
  · refine ⟨tab, hrg, fun q hq => hrok8 q ((hmemr q).mp hq), fun x => ?_, ⟨S, hS, fun q hq => hSr q ((hmemr q).mp hq)⟩, fun q hq => (hgin q hq).1, fun q hq => (hgin q hq).2, hgal, by omega, fun j p ep => ?_⟩
    · rw [← hrs8]
      exact Sn.mems (fun c => by
        rw [List.mem_map, List.mem_map]
        exact ⟨fun ⟨q, hq, e⟩ => ⟨q, (hmemr q).mp hq, e⟩, fun ⟨q, hq, e⟩ => ⟨q, (hmemr q).mpr hq, e⟩⟩) x
    · obtain ⟨c, ec, e1, e2, e3, e4⟩ := hhin j p ep
      have hj := (List.getElem?_eq_some_iff.mp ec).1
      rw [List.length_drop, List.length_map, List.length_range] at hj
      rw [List.getElem?_drop, List.getElem?_map, List.getElem?_range (by omega)] at ec
      cases ec
      have e1 : p.1.xz = B (r + (gd + j)) := e1
      have e2 : p.2.xz = A (r + (gd + j)) := e2
      rw [← Nat.add_assoc] at e1 e2
      exact ⟨e1, e2, row_ok (tab.lb (r + gd + j) (by omega)) e1 e3, row_ok (tab.la (r + gd + j) (by omega)) e2 e4⟩
end
end Kq

set_option Elab.async false
set_option linter.all false
set_option maxHeartbeats 4000000
/-! a drawn code with more strings is fit -/
namespace Kq
open XG
/-- what may be added to the rows -/
structure MoreR (rows rows2 : List Row) : Prop where
  sub : ∀ q ∈ rows, q ∈ rows2
  of : ∀ q ∈ rows2, q ∈ rows ∨ (∃ a b, a ∈ rows ∧ b ∈ rows ∧ q = rp a b) ∨ (q = oneR ∧ rows ≠ [])
structure MoreG (n : Nat) (rows ga ga2 : List Row) : Prop where
  sub : ∀ q ∈ ga, q ∈ ga2
  ok : ∀ q ∈ ga2, q.ok n
  of : ∀ q ∈ ga2, Sn ((ga ++ rows).map Row.xz) q.xz
theorem MoreR.refl (rows : List Row) : MoreR rows rows := ⟨fun _ h => h, fun _ h => .inl h⟩
theorem MoreR.span {rows rows2 : List Row} (m : MoreR rows rows2) (x : V2) : Sn (rows2.map Row.xz) x ↔ Sn (rows.map Row.xz) x := by
  constructor
  · refine Sn.sub fun a ha => ?_
    obtain ⟨q, hq, rfl⟩ := List.mem_map.mp ha
    rcases m.of q hq with h | ⟨a, b, h1, h2, rfl⟩ | ⟨rfl, _⟩
    · exact Sn.mem (List.mem_map_of_mem h)
    · rw [rp_xz]; exact (Sn.mem (List.mem_map_of_mem h1)).xo (Sn.mem (List.mem_map_of_mem h2))
    · exact .zero
  · refine Sn.mono fun a ha => ?_
    obtain ⟨q, hq, rfl⟩ := List.mem_map.mp ha
    exact List.mem_map_of_mem (m.sub q hq)
theorem MoreR.all {rows rows2 : List Row} (m : MoreR rows rows2) {S : Row → Prop} (hS : SgnC S) (h : ∀ q ∈ rows, S q) : ∀ q ∈ rows2, S q := fun q hq => by
  rcases m.of q hq with h1 | ⟨a, b, h1, h2, rfl⟩ | ⟨rfl, _⟩
  · exact h q h1
  · exact hS.mul a b (h a h1) (h b h2)
  · exact hS.unit
theorem MoreR.ok {n : Nat} {rows rows2 : List Row} (m : MoreR rows rows2) (h : ∀ q ∈ rows, q.ok n) : ∀ q ∈ rows2, q.ok n := fun q hq => by
  rcases m.of q hq with h1 | ⟨a, b, h1, h2, rfl⟩ | ⟨rfl, _⟩
  · exact h q h1
  · exact rp_ok (h a h1) (h b h2)
  · exact ⟨Nat.two_pow_pos n, Nat.two_pow_pos n, by show 0 < 2; decide⟩
/-- opposites show that none is a sum of the others -/
theorem ind_dual : ∀ {L : List V2} (d : V2 → V2 → Prop), (∀ v, v ∈ L → ∃ w, d v w) → L.Pairwise (fun v u => ∀ w, d v w → cr2 u w = 0) → (∀ v w, v ∈ L → d v w → cr2 v w = 1) → Ind L
  | [], _, _, _, _ => trivial
  | v :: L, d, h1, h2, h3 => by
    rw [List.pairwise_cons] at h2
    obtain ⟨w, hw⟩ := h1 v List.mem_cons_self
    refine ⟨fun hs => ?_, ind_dual d (fun u hu => h1 u (List.mem_cons_of_mem _ hu)) h2.2 fun u w hu => h3 u w (List.mem_cons_of_mem _ hu)⟩
    have := cr2_span' (fun u hu => h2.1 u hu w hw) hs
    rw [h3 v w List.mem_cons_self hw] at this
    cases this
section
variable {n r gd : Nat} {A B : Nat → V2} {rows ga rows2 ga2 : List Row} {hid : List (Row × Row)}
/-- the gauge's vectors -/
def gvec (r gd : Nat) (A B : Nat → V2) : List V2 := (List.range gd).map (fun j => A (r + j)) ++ (List.range gd).map (fun j => B (r + j))
theorem DC.gspan (h : DC n r gd A B rows ga hid) (x : V2) : Sn (ga.map Row.xz) x ↔ Sn (gvec r gd A B) x := by
  constructor
  · refine Sn.mono fun a ha => ?_
    obtain ⟨q, hq, rfl⟩ := List.mem_map.mp ha
    obtain ⟨j, hj, e | e⟩ := h.gin q hq
    · rw [e]; exact List.mem_append_left _ (List.mem_map_of_mem (f := fun j => A (r + j)) (List.mem_range.mpr hj))
    · rw [e]; exact List.mem_append_right _ (List.mem_map_of_mem (f := fun j => B (r + j)) (List.mem_range.mpr hj))
  · refine Sn.mono fun a ha => ?_
    rcases List.mem_append.mp ha with ha | ha
    · obtain ⟨j, hj, rfl⟩ := List.mem_map.mp ha
      obtain ⟨⟨q, hq, e⟩, _⟩ := h.gal j (List.mem_range.mp hj)
      rw [← e]; exact List.mem_map_of_mem hq
    · obtain ⟨j, hj, rfl⟩ := List.mem_map.mp ha
      obtain ⟨_, ⟨q, hq, e⟩⟩ := h.gal j (List.mem_range.mp hj)
      rw [← e]; exact List.mem_map_of_mem hq
theorem DC.ga2span (h : DC n r gd A B rows ga hid) (g : MoreG n rows ga ga2) (x : V2) : Sn ((ga2 ++ rows).map Row.xz) x ↔ Sn ((ga ++ rows).map Row.xz) x := by
  constructor
  · refine Sn.sub fun a ha => ?_
    obtain ⟨q, hq, rfl⟩ := List.mem_map.mp ha
    rcases List.mem_append.mp hq with hq | hq
    · exact g.of q hq
    · exact Sn.mem (List.mem_map_of_mem (List.mem_append_right _ hq))
  · refine Sn.mono fun a ha => ?_
    obtain ⟨q, hq, rfl⟩ := List.mem_map.mp ha
    rcases List.mem_append.mp hq with hq | hq
    · exact List.mem_map_of_mem (List.mem_append_left _ (g.sub q hq))
    · exact List.mem_map_of_mem (List.mem_append_right _ hq)
/-- rows commute with what commutes with the marks -/
theorem DC.rcom (h : DC n r gd A B rows ga hid) {y : V2} (hy : ∀ i, i < r → cr2 (A i) y = 0) {x : V2} (hx : Sn (rows.map Row.xz) x) : cr2 x y = 0 :=
  cr2_span' (fun b hb => by
    obtain ⟨i, hi, rfl⟩ := List.mem_map.mp hb
    exact hy i (List.mem_range.mp hi)) ((h.span x).mp hx)
theorem DC.gcom0 (h : DC n r gd A B rows ga hid) {x y : V2} (hx : Sn (rows.map Row.xz) x) (hy : Sn (ga.map Row.xz) y) : cr2 x y = 0 :=
  cr2_span (fun b hb => by
    have hle := h.le
    rcases List.mem_append.mp hb with hb | hb
    · obtain ⟨j, hj, rfl⟩ := List.mem_map.mp hb
      have hj := List.mem_range.mp hj
      exact h.rcom (fun i hi => h.tab.aa i (r + j) (by omega) (by omega)) hx
    · obtain ⟨j, hj, rfl⟩ := List.mem_map.mp hb
      have hj := List.mem_range.mp hj
      exact h.rcom (fun i hi => by rw [h.tab.ab i (r + j) (by omega) (by omega), if_neg (by omega)]) hx) ((h.gspan y).mp hy)
theorem DC.rr0 (h : DC n r gd A B rows ga hid) {x y : V2} (hx : Sn (rows.map Row.xz) x) (hy : Sn (rows.map Row.xz) y) : cr2 x y = 0 :=
  h.tab.comm (i := r) (by have := h.le; omega) ((h.span x).mp hx) ((h.span y).mp hy)
/-- marks and gauge pairs, one by one -/
def Wl (r : Nat) (A B : Nat → V2) : Nat → List V2
  | 0 => (List.range r).map A
  | g + 1 => (Wl r A B g ++ [A (r + g)]) ++ [B (r + g)]
theorem Wl_len (r : Nat) (A B : Nat → V2) : ∀ g, (Wl r A B g).length = r + 2 * g
  | 0 => by simp [Wl]
  | g + 1 => by unfold Wl; rw [List.length_append, List.length_append, Wl_len r A B g]; simp; omega
theorem Wl_mem {r : Nat} {A B : Nat → V2} : ∀ {g : Nat} {x : V2}, x ∈ Wl r A B g ↔ (∃ i, i < r + g ∧ x = A i) ∨ ∃ j, j < g ∧ x = B (r + j)
  | 0, x => by
    unfold Wl
    rw [List.mem_map]
    constructor
    · rintro ⟨i, hi, rfl⟩; exact .inl ⟨i, List.mem_range.mp hi, rfl⟩
    · rintro (⟨i, hi, rfl⟩ | ⟨j, hj, _⟩)
      · exact ⟨i, List.mem_range.mpr hi, rfl⟩
      · omega
  | g + 1, x => by
    unfold Wl
    rw [List.mem_append, List.mem_append, Wl_mem, List.mem_singleton, List.mem_singleton]
    constructor
    · rintro ((h | h) | h)
      · rcases h with ⟨i, hi, e⟩ | ⟨j, hj, e⟩
        · exact .inl ⟨i, by omega, e⟩
        · exact .inr ⟨j, by omega, e⟩
      · exact .inl ⟨r + g, by omega, h⟩
      · exact .inr ⟨g, by omega, h⟩
    · rintro (⟨i, hi, e⟩ | ⟨j, hj, e⟩)
      · by_cases z : i = r + g
        · subst z; exact .inl (.inr e)
        · exact .inl (.inl (.inl ⟨i, by omega, e⟩))
      · by_cases z : j = g
        · subst z; exact .inr e
        · exact .inl (.inl (.inr ⟨j, by omega, e⟩))
theorem marks_ind {n : Nat} {A B : Nat → V2} (t : Tab n A B) : ∀ i, i ≤ n → Ind ((List.range i).map A)
  | 0, _ => trivial
  | i + 1, h => by
    rw [List.range_succ, List.map_append]
    exact ind_app1 (marks_ind t i (by omega)) (t.fresh (by omega))
theorem Tab.ba {n i j : Nat} {A B : Nat → V2} (t : Tab n A B) (hi : i < n) (hj : j < n) : cr2 (B i) (A j) = if i = j then 1 else 0 := by
  rw [cr2_comm, t.ab j i hj hi]
  by_cases e : i = j
  · rw [if_pos e, if_pos e.symm]
  · rw [if_neg e, if_neg (fun z => e z.symm)]
theorem Wl_ind {n r : Nat} {A B : Nat → V2} (t : Tab n A B) : ∀ g, r + g ≤ n → Ind (Wl r A B g)
  | 0, h => marks_ind t r (by omega)
  | g + 1, h => by
    have ih : Ind (Wl r A B g) := Wl_ind t g (by omega)
    have h1 : ¬ Sn (Wl r A B g) (A (r + g)) := fun z => by
      have := cr2_span' (a := B (r + g)) (fun b hb => by
        rcases Wl_mem.mp hb with ⟨i, hi, rfl⟩ | ⟨j, hj, rfl⟩
        · rw [t.ab i (r + g) (by omega) (by omega), if_neg (by omega)]
        · exact t.bb (r + j) (r + g) (by omega) (by omega)) z
      rw [t.ab (r + g) (r + g) (by omega) (by omega), if_pos rfl] at this
      cases this
    refine ind_app1 (ind_app1 ih h1) fun z => ?_
    have := cr2_span' (a := A (r + g)) (fun b hb => by
      rcases List.mem_append.mp hb with hb | hb
      · rcases Wl_mem.mp hb with ⟨i, hi, rfl⟩ | ⟨j, hj, rfl⟩
        · exact t.aa i (r + g) (by omega) (by omega)
        · rw [t.ba (i := r + j) (j := r + g) (by omega) (by omega), if_neg (by omega)]
      · rw [List.mem_singleton.mp hb]; exact cr2_self _) z
    rw [t.ba (i := r + g) (j := r + g) (by omega) (by omega), if_pos rfl] at this
    cases this
/-- what commutes with the gauge pairs lies among the marks -/
theorem Wl_down {n r : Nat} {A B : Nat → V2} (t : Tab n A B) : ∀ (g : Nat), r + g ≤ n → ∀ x, Sn (Wl r A B g) x → (∀ j, j < g → cr2 x (A (r + j)) = 0 ∧ cr2 x (B (r + j)) = 0) → Sn ((List.range r).map A) x
  | 0, _, x, hx, _ => hx
  | g + 1, h, x, hx, hc => by
    obtain ⟨cA, cB⟩ := hc g (by omega)
    have lowB : ∀ y, Sn (Wl r A B g) y → cr2 y (B (r + g)) = 0 := fun y hy => cr2_span' (fun b hb => by
      rcases Wl_mem.mp hb with ⟨i, hi, rfl⟩ | ⟨j, hj, rfl⟩
      · rw [t.ab i (r + g) (by omega) (by omega), if_neg (by omega)]
      · exact t.bb (r + j) (r + g) (by omega) (by omega)) hy
    have lowA : ∀ y, Sn (Wl r A B g) y → cr2 y (A (r + g)) = 0 := fun y hy => cr2_span' (fun b hb => by
      rcases Wl_mem.mp hb with ⟨i, hi, rfl⟩ | ⟨j, hj, rfl⟩
      · exact t.aa i (r + g) (by omega) (by omega)
      · rw [t.ba (i := r + j) (j := r + g) (by omega) (by omega), if_neg (by omega)]) hy
    have ab := t.ab (r + g) (r + g) (by omega) (by omega)
    have ba := t.ba (i := r + g) (j := r + g) (by omega) (by omega)
    rw [if_pos rfl] at ab ba
    have down : Sn (Wl r A B g) x := by
      have hx : Sn ((Wl r A B g ++ [A (r + g)]) ++ [B (r + g)]) x := hx
      rcases Sn.app1.mp hx with h1 | h1 <;> rcases Sn.app1.mp h1 with h2 | h2
      · exact h2
      · exfalso
        have := lowB _ h2
        rw [cr2_xo, cB, ab] at this; cases this
      · exfalso
        have := lowA _ h2
        rw [cr2_xo, cA, ba] at this; cases this
      · exfalso
        have := lowB _ h2
        rw [cr2_xo, cr2_xo, cB, ab, t.bb (r + g) (r + g) (by omega) (by omega)] at this; cases this
    exact Wl_down t g (by omega) x down fun j hj => hc j (by omega)
theorem DC.wspan (h : DC n r gd A B rows ga hid) (x : V2) : Sn ((ga ++ rows).map Row.xz) x ↔ Sn (Wl r A B gd) x := by
  constructor
  · refine Sn.sub fun a ha => ?_
    obtain ⟨q, hq, rfl⟩ := List.mem_map.mp ha
    rcases List.mem_append.mp hq with hq | hq
    · obtain ⟨j, hj, e | e⟩ := h.gin q hq
      · rw [e]; exact Sn.mem (Wl_mem.mpr (.inl ⟨r + j, by omega, rfl⟩))
      · rw [e]; exact Sn.mem (Wl_mem.mpr (.inr ⟨j, hj, rfl⟩))
    · refine ((h.span _).mp (Sn.mem (List.mem_map_of_mem hq))).mono fun c hc => ?_
      obtain ⟨i, hi, rfl⟩ := List.mem_map.mp hc
      exact Wl_mem.mpr (.inl ⟨i, by have := List.mem_range.mp hi; omega, rfl⟩)
  · refine Sn.sub fun a ha => ?_
    have hl : ∀ y, Sn (rows.map Row.xz) y → Sn ((ga ++ rows).map Row.xz) y := fun y hy => hy.mono fun c hc => by rw [List.map_append]; exact List.mem_append_right _ hc
    rcases Wl_mem.mp ha with ⟨i, hi, rfl⟩ | ⟨j, hj, rfl⟩
    · by_cases z : i < r
      · exact hl _ ((h.span _).mpr (Sn.mem (List.mem_map_of_mem (List.mem_range.mpr z))))
      · obtain ⟨⟨q, hq, e⟩, _⟩ := h.gal (i - r) (by omega)
        rw [show r + (i - r) = i by omega] at e
        rw [← e]; exact Sn.mem (List.mem_map_of_mem (List.mem_append_left _ hq))
    · obtain ⟨_, ⟨q, hq, e⟩⟩ := h.gal j hj
      rw [← e]; exact Sn.mem (List.mem_map_of_mem (List.mem_append_left _ hq))
theorem map_swap (a b : List Row) (x : V2) : Sn ((a ++ b).map Row.xz) x ↔ Sn ((b ++ a).map Row.xz) x := Sn.perm (List.perm_append_comm.map _)
/-- the code's strings are fit -/
theorem DC.code (h : DC n r gd A B rows ga hid) (m : MoreR rows rows2) (g : MoreG n rows ga ga2) : CodeOk n rows2 ga2 hid := by
  obtain ⟨S, hS, hSr⟩ := h.sgn
  have hle := h.le
  have wsp2 : ∀ x, Sn ((rows2 ++ ga2).map Row.xz) x ↔ Sn (Wl r A B gd) x := fun x => by
    rw [map_app_span (ga := ga2) (rows := rows) (g := rows2) m.span x, map_swap, h.ga2span g, h.wspan]
  have gain : ∀ q ∈ ga2, Sn (Wl r A B gd) q.xz := fun q hq => (wsp2 _).mp (Sn.mem (List.mem_map_of_mem (List.mem_append_right _ hq)))
  have rwl : ∀ x, Sn (rows.map Row.xz) x → ∀ y, Sn (Wl r A B gd) y → cr2 x y = 0 := fun x hx y hy => cr2_span (fun b hb => by
    rcases Wl_mem.mp hb with ⟨i, hi, rfl⟩ | ⟨j, hj, rfl⟩
    · exact h.rcom (fun l hl => h.tab.aa l i (by omega) (by omega)) hx
    · exact h.rcom (fun l hl => by rw [h.tab.ab l (r + j) (by omega) (by omega), if_neg (by omega)]) hx) hy
  have rin : ∀ q ∈ rows2, Sn (rows.map Row.xz) q.xz := fun q hq => (m.span _).mp (Sn.mem (List.mem_map_of_mem hq))
  have hidw : ∀ (j : Nat) p, hid[j]? = some p → ∀ y, Sn (Wl r A B gd) y → cr2 p.1.xz y = 0 ∧ cr2 p.2.xz y = 0 := fun j p ep y hy => by
    obtain ⟨e1, e2, _⟩ := h.hin j p ep
    have hj := (List.getElem?_eq_some_iff.mp ep).1
    rw [h.hlen] at hj
    constructor
    · refine cr2_span (fun b hb => ?_) hy
      rw [e1]
      rcases Wl_mem.mp hb with ⟨i, hi, rfl⟩ | ⟨l, hl, rfl⟩
      · rw [h.tab.ba (by omega) (by omega), if_neg (by omega)]
      · exact h.tab.bb _ _ (by omega) (by omega)
    · refine cr2_span (fun b hb => ?_) hy
      rw [e2]
      rcases Wl_mem.mp hb with ⟨i, hi, rfl⟩ | ⟨l, hl, rfl⟩
      · exact h.tab.aa _ _ (by omega) (by omega)
      · rw [h.tab.ab _ _ (by omega) (by omega), if_neg (by omega)]
  refine ⟨m.ok h.okr, g.ok, ⟨S, hS.toSgnSet, m.all hS hSr⟩, fun a ha b hb => hS.com a b (m.all hS hSr a ha) (m.all hS hSr b hb), fun b hb a ha => ?_, fun x hx hq => ?_, ⟨fun p hp q hq => ?_, fun i j p q hji ep eq => ?_, fun p hp => ?_⟩, ?_⟩
  · rw [crC]; exact rwl _ (rin a ha) _ (gain b hb)
  · rw [m.span, h.span]
    refine Wl_down h.tab gd hle x (hx.sub fun c hc => ?_) fun j hj => ?_
    · obtain ⟨q, hq, rfl⟩ := List.mem_map.mp hc
      exact gain q hq
    · obtain ⟨⟨q1, h1, e1⟩, ⟨q2, h2, e2⟩⟩ := h.gal j hj
      rw [← e1, ← e2]
      exact ⟨hq q1 (g.sub q1 h1), hq q2 (g.sub q2 h2)⟩
  · obtain ⟨j, hj⟩ := List.getElem?_of_mem hp
    exact hidw j p hj _ ((wsp2 _).mp (Sn.mem (List.mem_map_of_mem hq)))
  · obtain ⟨e1, e2, _⟩ := h.hin i p ep
    obtain ⟨f1, f2, _⟩ := h.hin j q eq
    have hi := (List.getElem?_eq_some_iff.mp ep).1
    have hj := (List.getElem?_eq_some_iff.mp eq).1
    rw [h.hlen] at hi hj
    show cr2 p.1.xz q.1.xz = 0 ∧ cr2 p.1.xz q.2.xz = 0 ∧ cr2 p.2.xz q.1.xz = 0 ∧ cr2 p.2.xz q.2.xz = 0
    rw [e1, e2, f1, f2]
    exact ⟨h.tab.bb _ _ (by omega) (by omega), by rw [h.tab.ba (by omega) (by omega), if_neg (by omega)], by rw [h.tab.ab _ _ (by omega) (by omega), if_neg (by omega)], h.tab.aa _ _ (by omega) (by omega)⟩
  · obtain ⟨i, ep⟩ := List.getElem?_of_mem hp
    obtain ⟨e1, e2, _⟩ := h.hin i p ep
    have hi := (List.getElem?_eq_some_iff.mp ep).1
    rw [h.hlen] at hi
    show cr2 p.1.xz p.2.xz ≠ 0
    rw [e1, e2, h.tab.ba (by omega) (by omega), if_pos rfl]; decide
  · exact ⟨(List.range r).map A, Wl r A B gd, r, gd, marks_ind h.tab r (by omega), fun x => by rw [m.span, h.span], by simp, Wl_ind h.tab gd hle, fun x => (wsp2 x).symm, Wl_len r A B gd, by have := h.hlen; omega⟩
end
end Kq

set_option Elab.async false
set_option linter.all false
set_option maxRecDepth 100000
set_option maxHeartbeats 4000000
/-! the law's codes walked -/
namespace Kq
open PySem PySem.Spec PyProof.Rows L2 XG
local macro_rules | `(tactic| walk_at "st") => `(tactic| first
  | with_reducible refine s_seq ?_
  | ((with_reducible refine' s_var ?h1 ?h2); (case h1 => rfl))
  | with_reducible refine s_c ?_
  | with_reducible refine s_op ?_
  | with_reducible refine s_asg ?_
  | with_reducible refine s_name ?_
  | with_reducible refine s_cons ?_
  | with_reducible refine s_nil ?_
  | with_reducible refine s_call ?_
  | with_reducible refine s_CB ?_
  | with_reducible refine s_add ?_
  | ((with_reducible refine' s_sub ?h1 ?h2); (case h1 => omega))
  | ((with_reducible refine' s_mul ?h1 ?h2); (case h1 => omega))
  | ((with_reducible refine' s_mod ?h1 ?h2); (case h1 => omega))
  | ((with_reducible refine' s_div ?h1 ?h2); (case h1 => omega))
  | ((with_reducible refine' s_shl ?h1 ?h2); (case h1 => omega))
  | with_reducible refine s_shr ?_
  | with_reducible refine s_and ?_
  | with_reducible refine s_or ?_
  | with_reducible refine s_xor ?_
  | with_reducible refine s_lt ?_
  | with_reducible refine s_le ?_
  | with_reducible refine s_gt ?_
  | with_reducible refine s_ge ?_
  | with_reducible refine s_eqN ?_
  | with_reducible refine s_neN ?_
  | with_reducible refine s_eqS ?_
  | with_reducible refine s_neS ?_
  | with_reducible refine s_I0 ?_
  | with_reducible refine s_un ?_
  | with_reducible refine s_neg ?_
  | with_reducible refine s_test ?_
  | with_reducible refine s_B ?_
  | with_reducible refine s_bl ?_
  | with_reducible refine s_ifS ?_
  | with_reducible refine s_ifE ?_
  | with_reducible refine s_not ?_
  | with_reducible refine s_and2 ?_
  | with_reducible refine s_or2 ?_
  | with_reducible refine s_andV ?_
  | with_reducible refine s_orV ?_
  | with_reducible refine s_notV ?_
  | with_reducible refine s_tru ?_
  | with_reducible refine s_par ?_
  | with_reducible refine s_two ?_
  | with_reducible refine s_par3 ?_
  | with_reducible refine s_three ?_
  | with_reducible refine s_lst ?_
  | with_reducible refine s_tup ?_
  | ((with_reducible refine' s_size ?h1 ?h2); (case h1 => exact Nat.le_of_ble_eq_true rfl))
  | with_reducible refine s_fld ?_
  | with_reducible refine s_gcons ?_
  | with_reducible refine s_gnil ?_
  | with_reducible refine s_intN ?_
  | with_reducible refine s_intI ?_
  | with_reducible refine s_tTru ?_
  | with_reducible refine s_tBL ?_
  | with_reducible refine s_sign ?_
  | with_reducible refine s_min ?_
  | with_reducible refine s_sfld ?_
  | with_reducible refine s_gfld ?_
  | with_reducible refine s_intB ?_
  | with_reducible refine s_next ?_
  | with_reducible refine s_ret ?_
  | with_reducible refine s_drop ?_
  | with_reducible refine s_for ?_
  | with_reducible refine s_lc ?_
  | with_reducible refine s_yes ?_
  | with_reducible refine s_bits ?_
  | with_reducible refine s_bitsV ?_
  | ((with_reducible refine' s_own ?h1 ?h2); (case h1 => assumption))
  | ((with_reducible refine' s_len ?h1 ?h2); (case h1 => assumption))
  | ((with_reducible refine' s_lenT ?h1 ?h2); (case h1 => assumption))
  | with_reducible refine s_iTup ?_
  | with_reducible refine s_iList ?_
  | with_reducible refine s_iStr ?_
  | with_reducible refine s_iRng1 ?_
  | with_reducible refine s_iRng2 ?_
  | with_reducible refine s_iEnum ?_
  | with_reducible refine s_iEnumT ?_
  | with_reducible refine s_iEnumS ?_
  | with_reducible refine s_iZip ?_
  | with_reducible refine s_iZipM ?_
  | with_reducible refine s_srcS ?_
  | with_reducible refine s_srcES ?_
  | ((with_reducible refine' s_srcT ?h1 ?h2); (case h1 => assumption))
  | ((with_reducible refine' s_srcL ?h1 ?h2); (case h1 => assumption))
  | ((with_reducible refine' s_srcE ?h1 ?h2); (case h1 => assumption))
  | ((with_reducible refine' s_srcET ?h1 ?h2); (case h1 => assumption))
  | ((with_reducible refine' s_rng1 ?h1 ?h2); (case h1 => omega))
  | ((with_reducible refine' s_rng2 ?h1 ?h2); (case h1 => omega))
  | with_reducible refine s_ckw ?_
  | ((with_reducible refine' s_sorted ?h1 ?h2); (case h1 => assumption))
  | ((with_reducible refine' s_inN ?h1 ?h2); (case h1 => assumption))
  | ((with_reducible refine' s_ninN ?h1 ?h2); (case h1 => assumption))
  | ((with_reducible refine' s_tupL ?h1 ?h2); (case h1 => assumption))
  | ((with_reducible refine' s_tupT ?h1 ?h2); (case h1 => assumption))
  | ((with_reducible refine' s_lstL ?h1 ?h2); (case h1 => assumption))
  | ((with_reducible refine' s_lstT ?h1 ?h2); (case h1 => assumption))
  | ((with_reducible refine' s_addS2 ?h1 ?h2); (case h1 => (simp only [List.length_append, letL_len]; omega)); (rw [sOf_add]))
  | with_reducible refine s_sl ?_
  | with_reducible refine s_part ?_
  | with_reducible refine s_partV ?_
  | with_reducible refine s_nopart ?_
  | ((with_reducible refine' s_cutTake ?h1 ?h2); (case h1 => assumption))
  | ((with_reducible refine' s_cutDrop ?h1 ?h2); (case h1 => assumption))
  | with_reducible refine s_isiII ?_
  | with_reducible refine s_isiIB ?_
  | with_reducible refine s_isiSS ?_
  | ((with_reducible refine' s_isiTT ?h1 ?h2); (case h1 => assumption))
  | ((with_reducible refine' s_aug ?h1 ?h2); (case h1 => rfl))
  | with_reducible refine s_ipN ?_
  | with_reducible refine s_ip ?_
  | with_reducible refine s_gsub ?_
  | with_reducible refine s_wh ?_
  | with_reducible refine s_join ?_
  | ((with_reducible refine' s_ixT ?h1 ?h2 ?h3); (case h1 => assumption); (case h2 => rfl))
  | ((with_reducible refine' s_at ?h1 ?h2 ?h3); (case h1 => assumption); (case h2 => assumption))
  | with_reducible refine s_make ?_
  | with_reducible refine s_dgetK ?_
  | with_reducible refine s_dput ?_
  | with_reducible refine s_chain ?_
  | with_reducible refine s_eqI ?_
  | with_reducible refine s_pcons ?_
  | with_reducible refine s_pnil ?_
  | with_reducible refine s_lrg ?_
  | with_reducible refine s_rg1 ?_
  | with_reducible refine s_rgV ?_)

section
variable {P : Program} {w : World} {K : PySem.W.Frag} {mg : Str → Option Value} {base : Heap}
def sp_law_pauli (K : PySem.W.Frag) : Sp := fun vs H Q _ => ∃ v n r, vs = [v, nV n] ∧ isRow H v r ∧ 1 ≤ n ∧ n ≤ 100 ∧ r.ok n ∧ ∀ v' H', Same H H' → isP K n H' v' r → Q v' H'
theorem ok_law_pauli (T : Tx K mg) : FnOk P w K mg base CX0 4 (He.fAd K ("_law_pauli", none)) T.fd_law_pauli ["_law_string", "_law_size"] (sp_law_pauli K) := by
  have G_law_text := ok_law_text (P := P) (w := w) (base := base) T
  have G_Pauli_init := ok_Pauli_init (P := P) (w := w) (base := base) T
  refine okD T.F_law_pauli sc_law_pauli (fun vs H Q E h => by obtain ⟨v, n, r, rfl, _⟩ := h; rfl) (fun cdv A outer s H vs Q E hr h => ?_)
  obtain ⟨v, n, r, rfl, hrow, hn1, hn, rok, k⟩ := h
  refine ⟨_, (pss_one (ps_ret (pe_make T.k_Pauli G_Pauli_init (hr.mono (by decide)) (by rfl) T.m_Pauli T.b_Pauli_init .nil pass0 (pa_cons (pe_call G_law_text (hr.mono (by decide)) (by rfl) T.m_law_text T.F_law_text.kp T.b_law_text .nil pass0 (pa_cons (pv 0) (pa_cons (pv 1) pa_nil))) pa_nil)))), ?_⟩
  repeat walk_at "st"
  refine ⟨_, r, n, rfl, hrow, hn, rok.2.2, ?_⟩
  repeat walk_at "st"
  intro x dx hx hdx hne
  refine ⟨x, dx, upd H dx (.own x), n, r, rfl, by rw [upd_ne (Ne.symm hne)]; exact hx, rfl, hn1, hn, rok, fun H' s2 hP => ⟨rfl, ?_⟩⟩
  exact k _ _ (Same.trans (same_new hdx) s2) hP
def sp_law_code (K : PySem.W.Frag) : Sp := fun vs H Q _ => ∃ d kvs n rv gv hv rows ga hid, vs = [.ref d] ∧ H d = some (.dK kvs) ∧ CdK kvs n rv gv hv ∧ isL isRow H rv rows ∧ isL isRow H gv ga ∧ isL isRP H hv hid ∧ 1 ≤ n ∧ n ≤ 50 ∧ rows.length ≤ 50 ∧ ga.length ≤ 50 ∧ hid.length ≤ 50 ∧
  CodeOk n rows ga hid ∧ (∀ p ∈ hid, p.1.ok n ∧ p.2.ok n) ∧ ∀ v' H' g, Same H H' → isC K n H' v' (g, ga) → (∀ x, Sn (g.map Row.xz) x ↔ Sn (rows.map Row.xz) x) → g.length ≤ rows.length → Q v' H'
theorem ok_law_code (T : Tx K mg) : FnOk P w K mg base CX0 9 (He.fAd K ("_law_code", none)) T.fd_law_code ["_law_code_here"] (sp_law_code K) := by
  have G_law_pauli := ok_law_pauli (P := P) (w := w) (base := base) T
  have G_Code_init := ok_Code_init (P := P) (w := w) (base := base) T
  refine okD T.F_law_code sc_law_code (fun vs H Q E h => by obtain ⟨v, n, r, _, _, _, _, _, _, rfl, _⟩ := h; rfl) (fun cdv A outer s H vs Q E hr h => ?_)
  have hu0 := hr.units
  have hu : (A.deeper (envOfC "_law_code" (defScope s_law_code) s.heap.objs.size (He.fAd K ("_law_code", none)) cdv)).units + 1 < cLine := by omega
  obtain ⟨d, kvs, n, rv, gv, hv, rows, ga, hid, rfl, hd, cd, ⟨rp', rs, rfl, hrp, hri⟩, ⟨gp, gs, rfl, hgp, hgi⟩, ⟨hp, hs, rfl, hhp, hhi⟩, hn1, hn, hrl, hgl, hhl, co, hok, k⟩ := h
  refine ⟨_, (pss_cons (ps_set (i := 1) sc_law_code.nd rfl (.inr rfl) (pe_dget hu (pv 0) pe_str (fun _ _ => rfl)))
  (pss_cons (ps_setLc (own := [("_law_string", 4)]) (i := 2) rfl sc_law_code.nd rfl rfl (sw_true rfl rfl rfl (by decide +kernel)) (pi_list (pe_dget hu (pv 0) pe_str (fun _ _ => rfl))) (blkOk_by (N := ["_law_code_here", "_law_size", "_law_rows", "_law_gauge", "_law_string", "_law_x", "_law_z"]) (sc := defScope s_law_code) (by decide +kernel)) (fun _ _ _ _ _ => (pg_name (i := 4) sc_law_code.nd rfl (.inl rfl))) (fun _ _ _ _ _ => pts_nil) (fun _ _ _ _ _ => (pe_call G_law_pauli (hr.mono (by decide)) (by rfl) T.m_law_pauli T.F_law_pauli.kp T.b_law_pauli .nil pass0 (pa_cons (pv 4) (pa_cons (pv 1) pa_nil)))))
  (pss_cons (ps_setLc (own := [("_law_string", 4)]) (i := 3) rfl sc_law_code.nd rfl rfl (sw_true rfl rfl rfl (by decide +kernel)) (pi_list (pe_dget hu (pv 0) pe_str (fun _ _ => rfl))) (blkOk_by (N := ["_law_code_here", "_law_size", "_law_rows", "_law_gauge", "_law_string", "_law_x", "_law_z"]) (sc := defScope s_law_code) (by decide +kernel)) (fun _ _ _ _ _ => (pg_name (i := 4) sc_law_code.nd rfl (.inl rfl))) (fun _ _ _ _ _ => pts_nil) (fun _ _ _ _ _ => (pe_call G_law_pauli (hr.mono (by decide)) (by rfl) T.m_law_pauli T.F_law_pauli.kp T.b_law_pauli .nil pass0 (pa_cons (pv 4) (pa_cons (pv 1) pa_nil)))))
  (pss_one (ps_ret (pe_make T.k_Code G_Code_init (hr.mono (by decide)) (by rfl) T.m_Code T.b_Code_init .nil pass0 (pa_cons (pv 1) (pa_cons (pv 2) (pa_cons (pv 3) (pa_cons (pe_lc (own := [("_law_x", 5), ("_law_z", 6)]) rfl sc_law_code.nd (pi_list (pe_dget hu (pv 0) pe_str (fun _ _ => rfl))) (blkOk_by (N := ["_law_code_here", "_law_size", "_law_rows", "_law_gauge", "_law_string", "_law_x", "_law_z"]) (sc := defScope s_law_code) (by decide +kernel)) (fun _ _ _ _ _ => (xg_tup (n := 2) rfl (pgs_cons (pg_name (i := 5) sc_law_code.nd rfl (.inl rfl)) (pgs_cons (pg_name (i := 6) sc_law_code.nd rfl (.inl rfl)) pgs_nil)))) (fun _ _ _ _ _ => pts_nil) (fun _ _ _ _ _ => (pe_tup (pa_cons (pe_call G_law_pauli (hr.mono (by decide)) (by rfl) T.m_law_pauli T.F_law_pauli.kp T.b_law_pauli .nil pass0 (pa_cons (pv 5) (pa_cons (pv 1) pa_nil))) (pa_cons (pe_call G_law_pauli (hr.mono (by decide)) (by rfl) T.m_law_pauli T.F_law_pauli.kp T.b_law_pauli .nil pass0 (pa_cons (pv 6) (pa_cons (pv 1) pa_nil))) pa_nil))))) pa_nil)))))))))), ?_⟩
  have e1 := hri.len
  have e2 := hgi.len
  have e3 := hhi.len
  repeat walk_at "st"
  refine ⟨d, nV n, rfl, getS hd cd.k1, ?_⟩
  repeat walk_at "st"
  refine ⟨d, .ref rp', rfl, getS hd cd.k2, ?_⟩
  repeat walk_at "st"
  refine lcM (walk_list (K := K) (xs := rs)) rows id (isP K n) monoP e1.symm (by omega) (fun _ s => SqL.of (s _ _ hrp)) (fun _ _ _ _ y => yat_same y) ?_ ?_
  · rintro i q y H3 H4 hq s3 ⟨rfl, y⟩ Qc qc
    have hx := monoRow _ _ _ _ (Sol.of s3) (hri.at y hq)
    walk_at "st"
    refine ⟨rfl, ?_⟩
    repeat walk_at "st"
    exact ⟨_, n, q, rfl, hx, hn1, by omega, co.okr q (mem_idx hq), fun v' H5 s5 h5 => qc _ _ s5 h5⟩
  intro D1 vs1 H1 hD1 s1 h1 hi1
  rw [List.map_id] at hi1
  have hd1 := s1 _ _ hd
  have hgp1 := s1 _ _ hgp
  repeat walk_at "st"
  refine ⟨d, .ref gp, rfl, getS hd1 cd.k3, ?_⟩
  repeat walk_at "st"
  refine lcM (walk_list (K := K) (xs := gs)) ga id (isP K n) monoP e2.symm (by omega) (fun _ s => SqL.of (s _ _ hgp1)) (fun _ _ _ _ y => yat_same y) ?_ ?_
  · rintro i q y H3 H4 hq s3 ⟨rfl, y⟩ Qc qc
    have hx := monoRow _ _ _ _ (Sol.of (s1.trans s3)) (hgi.at y hq)
    walk_at "st"
    refine ⟨rfl, ?_⟩
    repeat walk_at "st"
    exact ⟨_, n, q, rfl, hx, hn1, by omega, co.oka q (mem_idx hq), fun v' H5 s5 h5 => qc _ _ s5 h5⟩
  intro D2 vs2 H2 hD2 s2 h2 hi2
  rw [List.map_id] at hi2
  have s12 := s1.trans s2
  have hd2 := s12 _ _ hd
  have hhp2 := s12 _ _ hhp
  repeat walk_at "st"
  refine ⟨d, .ref hp, rfl, getS hd2 cd.k4, ?_⟩
  repeat walk_at "st"
  refine lcM (walk_list (K := K) (xs := hs)) hid id (isPr (isP K n) (isP K n)) (monoPr monoP monoP) e3.symm (by omega) (fun _ s => SqL.of (s _ _ hhp2)) (fun _ _ _ _ y => yat_same y) ?_ ?_
  · rintro i q y H3 H4 hq s3 ⟨rfl, y⟩ Qc qc
    obtain ⟨tp, xv, zv, rfl, htp, hxv, hzv⟩ := monoRP _ _ _ _ (Sol.of (s12.trans s3)) (hhi.at y hq)
    obtain ⟨o1, o2⟩ := hok q (mem_idx hq)
    refine s_gtup htp rfl ?_
    repeat walk_at "st"
    refine ⟨rfl, ?_⟩
    repeat walk_at "st"
    refine ⟨_, n, q.1, rfl, hxv, hn1, by omega, o1, fun v5 H5 s5 h5 => ?_⟩
    repeat walk_at "st"
    refine ⟨_, n, q.2, rfl, monoRow _ _ _ _ (Sol.of s5) hzv, hn1, by omega, o2, fun v6 H6 s6 h6 => ?_⟩
    repeat walk_at "st"
    intro t7 ht7
    have s7 := same_new (o := .tup [v5, v6]) ht7
    exact qc _ _ ((s5.trans s6).trans s7) ⟨t7, v5, v6, rfl, upd_same, monoP _ _ _ _ (Sol.of (s6.trans s7)) h5, monoP _ _ _ _ (Sol.of s7) h6⟩
  intro D3 vs3 H3 hD3 s3 h3 hi3
  rw [List.map_id] at hi3
  repeat walk_at "st"
  intro x dx hx hdx hne
  have s4 := same_new (o := .own x) hdx
  have s24 := s3.trans s4
  refine ⟨x, dx, upd H3 dx (.own x), n, _, _, _, rows, ga, hid, rfl, by rw [upd_ne (Ne.symm hne)]; exact hx, rfl, ⟨D1, vs1, rfl, s24 _ _ (s2 _ _ h1), hi1.mono monoP (Sol.of (s2.trans s24))⟩, ⟨D2, vs2, rfl, s24 _ _ h2, hi2.mono monoP (Sol.of s24)⟩, ⟨D3, vs3, rfl, s4 _ _ h3, hi3.mono (monoPr monoP monoP) (Sol.of s4)⟩, hn1, by omega, by omega, by omega, by omega, co, fun H' g s5 hC hg hgl => ⟨rfl, ?_⟩⟩
  exact k _ _ g ((s12.trans s24).trans s5) hC hg hgl
end
end Kq

set_option Elab.async false
set_option linter.all false
set_option maxRecDepth 100000
set_option maxHeartbeats 4000000
/-! the law's products of letters walked -/
namespace Kq
open PySem PySem.Spec PyProof.Rows L2 XG
local macro_rules | `(tactic| walk_at "st") => `(tactic| first
  | with_reducible refine s_seq ?_
  | ((with_reducible refine' s_var ?h1 ?h2); (case h1 => rfl))
  | with_reducible refine s_c ?_
  | with_reducible refine s_op ?_
  | with_reducible refine s_asg ?_
  | with_reducible refine s_name ?_
  | with_reducible refine s_cons ?_
  | with_reducible refine s_nil ?_
  | with_reducible refine s_call ?_
  | with_reducible refine s_CB ?_
  | with_reducible refine s_add ?_
  | ((with_reducible refine' s_sub ?h1 ?h2); (case h1 => omega))
  | ((with_reducible refine' s_mul ?h1 ?h2); (case h1 => omega))
  | ((with_reducible refine' s_mod ?h1 ?h2); (case h1 => omega))
  | ((with_reducible refine' s_div ?h1 ?h2); (case h1 => omega))
  | ((with_reducible refine' s_shl ?h1 ?h2); (case h1 => omega))
  | with_reducible refine s_shr ?_
  | with_reducible refine s_and ?_
  | with_reducible refine s_or ?_
  | with_reducible refine s_xor ?_
  | with_reducible refine s_lt ?_
  | with_reducible refine s_le ?_
  | with_reducible refine s_gt ?_
  | with_reducible refine s_ge ?_
  | with_reducible refine s_eqN ?_
  | with_reducible refine s_neN ?_
  | with_reducible refine s_eqS ?_
  | with_reducible refine s_neS ?_
  | with_reducible refine s_I0 ?_
  | with_reducible refine s_un ?_
  | with_reducible refine s_neg ?_
  | with_reducible refine s_test ?_
  | with_reducible refine s_B ?_
  | with_reducible refine s_bl ?_
  | with_reducible refine s_ifS ?_
  | with_reducible refine s_ifE ?_
  | with_reducible refine s_not ?_
  | with_reducible refine s_and2 ?_
  | with_reducible refine s_or2 ?_
  | with_reducible refine s_andV ?_
  | with_reducible refine s_orV ?_
  | with_reducible refine s_notV ?_
  | with_reducible refine s_tru ?_
  | with_reducible refine s_par ?_
  | with_reducible refine s_two ?_
  | with_reducible refine s_par3 ?_
  | with_reducible refine s_three ?_
  | with_reducible refine s_lst ?_
  | with_reducible refine s_tup ?_
  | ((with_reducible refine' s_size ?h1 ?h2); (case h1 => exact Nat.le_of_ble_eq_true rfl))
  | with_reducible refine s_fld ?_
  | with_reducible refine s_gcons ?_
  | with_reducible refine s_gnil ?_
  | with_reducible refine s_intN ?_
  | with_reducible refine s_intI ?_
  | with_reducible refine s_tTru ?_
  | with_reducible refine s_tBL ?_
  | with_reducible refine s_sign ?_
  | with_reducible refine s_min ?_
  | with_reducible refine s_sfld ?_
  | with_reducible refine s_gfld ?_
  | with_reducible refine s_intB ?_
  | with_reducible refine s_next ?_
  | with_reducible refine s_ret ?_
  | with_reducible refine s_drop ?_
  | with_reducible refine s_for ?_
  | with_reducible refine s_lc ?_
  | with_reducible refine s_yes ?_
  | with_reducible refine s_bits ?_
  | with_reducible refine s_bitsV ?_
  | ((with_reducible refine' s_own ?h1 ?h2); (case h1 => assumption))
  | ((with_reducible refine' s_len ?h1 ?h2); (case h1 => assumption))
  | ((with_reducible refine' s_lenT ?h1 ?h2); (case h1 => assumption))
  | with_reducible refine s_iTup ?_
  | with_reducible refine s_iList ?_
  | with_reducible refine s_iStr ?_
  | with_reducible refine s_iRng1 ?_
  | with_reducible refine s_iRng2 ?_
  | with_reducible refine s_iEnum ?_
  | with_reducible refine s_iEnumT ?_
  | with_reducible refine s_iEnumS ?_
  | with_reducible refine s_iZip ?_
  | with_reducible refine s_iZipM ?_
  | with_reducible refine s_srcS ?_
  | with_reducible refine s_srcES ?_
  | ((with_reducible refine' s_srcT ?h1 ?h2); (case h1 => assumption))
  | ((with_reducible refine' s_srcL ?h1 ?h2); (case h1 => assumption))
  | ((with_reducible refine' s_srcE ?h1 ?h2); (case h1 => assumption))
  | ((with_reducible refine' s_srcET ?h1 ?h2); (case h1 => assumption))
  | ((with_reducible refine' s_rng1 ?h1 ?h2); (case h1 => omega))
  | ((with_reducible refine' s_rng2 ?h1 ?h2); (case h1 => omega))
  | with_reducible refine s_ckw ?_
  | ((with_reducible refine' s_sorted ?h1 ?h2); (case h1 => assumption))
  | ((with_reducible refine' s_inN ?h1 ?h2); (case h1 => assumption))
  | ((with_reducible refine' s_ninN ?h1 ?h2); (case h1 => assumption))
  | ((with_reducible refine' s_tupL ?h1 ?h2); (case h1 => assumption))
  | ((with_reducible refine' s_tupT ?h1 ?h2); (case h1 => assumption))
  | ((with_reducible refine' s_lstL ?h1 ?h2); (case h1 => assumption))
  | ((with_reducible refine' s_lstT ?h1 ?h2); (case h1 => assumption))
  | ((with_reducible refine' s_addS2 ?h1 ?h2); (case h1 => (simp only [List.length_append, letL_len]; omega)); (rw [sOf_add]))
  | with_reducible refine s_sl ?_
  | with_reducible refine s_part ?_
  | with_reducible refine s_partV ?_
  | with_reducible refine s_nopart ?_
  | ((with_reducible refine' s_cutTake ?h1 ?h2); (case h1 => assumption))
  | ((with_reducible refine' s_cutDrop ?h1 ?h2); (case h1 => assumption))
  | with_reducible refine s_isiII ?_
  | with_reducible refine s_isiIB ?_
  | with_reducible refine s_isiSS ?_
  | ((with_reducible refine' s_isiTT ?h1 ?h2); (case h1 => assumption))
  | ((with_reducible refine' s_aug ?h1 ?h2); (case h1 => rfl))
  | with_reducible refine s_ipN ?_
  | with_reducible refine s_ip ?_
  | with_reducible refine s_gsub ?_
  | with_reducible refine s_wh ?_
  | with_reducible refine s_join ?_
  | ((with_reducible refine' s_ixT ?h1 ?h2 ?h3); (case h1 => assumption); (case h2 => rfl))
  | ((with_reducible refine' s_at ?h1 ?h2 ?h3); (case h1 => assumption); (case h2 => assumption))
  | with_reducible refine s_make ?_
  | with_reducible refine s_dgetK ?_
  | with_reducible refine s_dput ?_
  | with_reducible refine s_chain ?_
  | with_reducible refine s_eqI ?_
  | with_reducible refine s_pcons ?_
  | with_reducible refine s_pnil ?_
  | with_reducible refine s_lrg ?_
  | with_reducible refine s_rg1 ?_
  | with_reducible refine s_rgV ?_)

theorem valV_merge {Pv : V → Prop} : ∀ {more : List (Key × V)} {kvs : List (Key × V)}, (∀ p ∈ more, Pv p.2) → (∀ k v, valV kvs k = some v → Pv v) → ∀ k v, valV (mergeK kvs more) k = some v → Pv v
  | [], kvs, _, h, k, v, e => h k v e
  | p :: more, kvs, hm, h, k, v, e => by
    refine valV_merge (more := more) (kvs := putK kvs p.1 p.2) (fun q hq => hm q (List.mem_cons_of_mem _ hq)) (fun k v e => ?_) k v e
    rw [valV_put] at e
    split at e
    · cases e; exact hm p List.mem_cons_self
    · exact h k v e
section
variable {P : Program} {w : World} {K : PySem.W.Frag} {mg : Str → Option Value} {base : Heap}
theorem s_dget2 {td ty tx : TE} {σ : L2.St} {H : Hp} {Q : VK} (h : td σ H fun x H1 => ∃ a, x = .ref a ∧ IsD H1 a ∧ ty σ H1 fun y H2 => tx σ H2 fun z H3 => ∃ o, DGet H3 a y o ∧ Q (o.getD z) H3) : tDGet2 td ty tx σ H Q := h
def sp_law_times : Sp := fun vs H Q _ => ∃ v u a b, vs = [v, u] ∧ isRow H v a ∧ isRow H u b ∧ Small a ∧ Small b ∧ ∀ p q m H', Same H H' → H' p = some (.tup [.ref q, nV m]) → H' q = some (.tup [nV (a.x ^^^ b.x), nV (a.z ^^^ b.z)]) → Q (.ref p) H'
theorem ok_law_times (T : Tx K mg) : FnOk P w K mg base CX0 1 (He.fAd K ("_law_times", none)) T.fd_law_times ["_law_one", "_law_two"] (sp_law_times) := by
  refine okD T.F_law_times sc_law_times (fun vs H Q E h => by obtain ⟨v, n, r, _, rfl, _⟩ := h; rfl) (fun cdv A outer s H vs Q E hr h => ?_)
  have hu0 := hr.units
  have hu : (A.deeper (envOfC "_law_times" (defScope s_law_times) s.heap.objs.size (He.fAd K ("_law_times", none)) cdv)).units + 1 < cLine := by omega
  obtain ⟨v, u, a, b, rfl, ⟨p, rfl, hp⟩, ⟨q, rfl, hq⟩, sa, sb, k⟩ := h
  refine ⟨_, (pss_cons (ps_par3 (by rfl) sc_law_times.nd (i := 2) (j := 3) (l := 4) rfl rfl rfl (by decide) (by decide) (by decide) rfl rfl rfl (pa_cons (pe_op on_xor (pe_ix xi_tup (pv 0) (pe_nat 0) (fun _ _ => rfl)) (pe_ix xi_tup (pv 1) (pe_nat 0) (fun _ _ => rfl))) (pa_cons (pe_op on_xor (pe_ix xi_tup (pv 0) (pe_nat 1) (fun _ _ => rfl)) (pe_ix xi_tup (pv 1) (pe_nat 1) (fun _ _ => rfl))) (pa_cons (pe_op on_mul (pe_nat 2) (pe_op on_add (pe_ix xi_tup (pv 0) (pe_nat 2) (fun _ _ => rfl)) (pe_ix xi_tup (pv 1) (pe_nat 2) (fun _ _ => rfl)))) pa_nil))) (by rfl))
  (pss_cons (ps_for PassesOwn.never rfl (pi_range1 rfl T.n_range (pa_cons (pe_bits (pe_callB (xc_max rfl) (by rfl) T.n_max (by decide +kernel) (pa_cons (pe_lst (pa_cons (pe_ix xi_tup (pv 0) (pe_nat 0) (fun _ _ => rfl)) (pa_cons (pe_ix xi_tup (pv 0) (pe_nat 1) (fun _ _ => rfl)) (pa_cons (pe_ix xi_tup (pv 1) (pe_nat 0) (fun _ _ => rfl)) (pa_cons (pe_ix xi_tup (pv 1) (pe_nat 1) (fun _ _ => rfl)) (pa_cons (pe_nat 1) pa_nil)))))) pa_nil))) pa_nil)) (pg_name (i := 5) sc_law_times.nd rfl (.inl rfl))
  (pss_cons (ps_set (i := 6) sc_law_times.nd rfl (.inl rfl) (pe_ix xi_str pe_str (pe_op on_add (pe_op on_mod (pe_callTy xc_intN (by rfl) T.n_int (by decide +kernel) (pa_cons (pe_op on_shr (pe_ix xi_tup (pv 0) (pe_nat 0) (fun _ _ => rfl)) (pv 5)) pa_nil)) (pe_nat 2)) (pe_op on_mul (pe_nat 2) (pe_op on_mod (pe_callTy xc_intN (by rfl) T.n_int (by decide +kernel) (pa_cons (pe_op on_shr (pe_ix xi_tup (pv 0) (pe_nat 1) (fun _ _ => rfl)) (pv 5)) pa_nil)) (pe_nat 2)))) (fun _ _ => rfl)))
  (pss_cons (ps_set (i := 7) sc_law_times.nd rfl (.inl rfl) (pe_ix xi_str pe_str (pe_op on_add (pe_op on_mod (pe_callTy xc_intN (by rfl) T.n_int (by decide +kernel) (pa_cons (pe_op on_shr (pe_ix xi_tup (pv 1) (pe_nat 0) (fun _ _ => rfl)) (pv 5)) pa_nil)) (pe_nat 2)) (pe_op on_mul (pe_nat 2) (pe_op on_mod (pe_callTy xc_intN (by rfl) T.n_int (by decide +kernel) (pa_cons (pe_op on_shr (pe_ix xi_tup (pv 1) (pe_nat 1) (fun _ _ => rfl)) (pv 5)) pa_nil)) (pe_nat 2)))) (fun _ _ => rfl)))
  (pss_one (ps_set (i := 4) sc_law_times.nd rfl (.inl rfl) (pe_op on_add (pv 4) (pe_dget2 hu (pe_disp (pps_cons pe_str (pe_nat 1) (pps_cons pe_str (pe_nat 1) (pps_cons pe_str (pe_nat 1) (pps_cons pe_str (pe_nat 3) (pps_cons pe_str (pe_nat 3) (pps_cons pe_str (pe_nat 3) pps_nil)))))) (by rfl) (by rfl) (fun z => by cases z) (by decide)) (pe_op op_add_str (pv 6) (pv 7)) (pe_nat 0) ⟨rfl, rfl, rfl, rfl⟩)))))))
  (pss_one (ps_ret (pe_tup (pa_cons (pe_tup (pa_cons (pv 2) (pa_cons (pv 3) pa_nil))) (pa_cons (pe_op on_mod (pe_callTy xc_intN (by rfl) T.n_int (by decide +kernel) (pa_cons (pv 4) pa_nil)) (pe_nat 4)) pa_nil))))))), ?_⟩
  repeat walk_at "st"
  intro l1 hl1
  have s1 := same_new (o := .lst [nV a.x, nV a.z, nV b.x, nV b.z, nV 1]) hl1
  repeat walk_at "st"
  refine s_max (ns := [a.x, a.z, b.x, b.z, 1]) upd_same (by simp) fun m hm hle => ?_
  have hm60 : m < 2 ^ 60 := by
    simp only [List.mem_cons, List.not_mem_nil, or_false] at hm
    rcases hm with rfl | rfl | rfl | rfl | rfl
    · exact sa.1
    · exact sa.2
    · exact sb.1
    · exact sb.2
    · decide
  have hm0 : m ≠ 0 := by have := hle 1 (by simp); omega
  have hlog : m.log2 < 60 := (Nat.log2_lt hm0).mpr hm60
  have eb := bitsN hm0
  have hp1 := s1 _ _ hp
  have hq1 := s1 _ _ hq
  generalize upd H l1 (.lst [nV a.x, nV a.z, nV b.x, nV b.z, nV 1]) = H1 at s1 hp1 hq1
  repeat walk_at "st"
  rw [eb]
  repeat walk_at "st"
  refine for_it (n := m.log2 + 1) walk_rg0 (fun i σ' H' => Same H1 H' ∧ ∃ pw o5 o6 o7, σ' = [some (.ref p), some (.ref q), some (nV (a.x ^^^ b.x)), some (nV (a.z ^^^ b.z)), some (nV pw), o5, o6, o7]) ⟨Same.refl _, _, _, _, _, rfl⟩ (fun _ _ _ _ _ => trivial) ?_ ?_
  · rintro i x σ' H2 H2' hin ⟨s2, pw, o5, o6, o7, rfl⟩ ⟨rfl, rfl⟩
    have hp2 := s2 _ _ hp1
    have hq2 := s2 _ _ hq1
    repeat walk_at "st"
    rw [bit_mod, bit_mod]
    refine s_ixS (c := chr4 (a.x.testBit i) (a.z.testBit i)) (by decide +kernel) (four_at _ _) ?_
    repeat walk_at "st"
    rw [bit_mod, bit_mod]
    refine s_ixS (c := chr4 (b.x.testBit i) (b.z.testBit i)) (by decide +kernel) (four_at _ _) ?_
    repeat walk_at "st"
    refine s_dget2 ?_
    refine s_disp ?_
    intro dp hdp
    have s3 := same_new (o := .dK []) hdp
    repeat walk_at "st"
    refine ⟨upd_same, [(.inr (Str.ofString "XY"), nV 1), (.inr (Str.ofString "YZ"), nV 1), (.inr (Str.ofString "ZX"), nV 1), (.inr (Str.ofString "YX"), nV 3), (.inr (Str.ofString "ZY"), nV 3), (.inr (Str.ofString "XZ"), nV 3)], rfl, by decide, ?_⟩
    refine ⟨dp, rfl, .inl ⟨_, .inl upd_same⟩, ?_⟩
    repeat walk_at "st"
    refine ⟨_, _, rfl, rfl, by show 1 + 1 ≤ sizeLine; decide, ?_⟩
    repeat walk_at "st"
    refine ⟨_, DGet.k (k := .inr (⟨#[chr4 (a.x.testBit i) (a.z.testBit i)]⟩ ++ ⟨#[chr4 (b.x.testBit i) (b.z.testBit i)]⟩)) upd_same, ?_⟩
    obtain ⟨c, hc⟩ : ∃ c : Nat, (valV (mergeK [] [(.inr (Str.ofString "XY"), nV 1), (.inr (Str.ofString "YZ"), nV 1), (.inr (Str.ofString "ZX"), nV 1), (.inr (Str.ofString "YX"), nV 3), (.inr (Str.ofString "ZY"), nV 3), (.inr (Str.ofString "XZ"), nV 3)]) (.inr (⟨#[chr4 (a.x.testBit i) (a.z.testBit i)]⟩ ++ ⟨#[chr4 (b.x.testBit i) (b.z.testBit i)]⟩) : Key)).getD (nV 0) = nV c := by
      cases e : valV (mergeK [] [(.inr (Str.ofString "XY"), nV 1), (.inr (Str.ofString "YZ"), nV 1), (.inr (Str.ofString "ZX"), nV 1), (.inr (Str.ofString "YX"), nV 3), (.inr (Str.ofString "ZY"), nV 3), (.inr (Str.ofString "XZ"), nV 3)]) (.inr (⟨#[chr4 (a.x.testBit i) (a.z.testBit i)]⟩ ++ ⟨#[chr4 (b.x.testBit i) (b.z.testBit i)]⟩) : Key) with
      | none => exact ⟨0, rfl⟩
      | some v =>
        obtain ⟨c, rfl⟩ := valV_merge (Pv := fun v => ∃ c : Nat, v = nV c) (fun p hp => by
          simp only [List.mem_cons, List.not_mem_nil, or_false] at hp
          rcases hp with rfl | rfl | rfl | rfl | rfl | rfl
          · exact ⟨1, rfl⟩
          · exact ⟨1, rfl⟩
          · exact ⟨1, rfl⟩
          · exact ⟨3, rfl⟩
          · exact ⟨3, rfl⟩
          · exact ⟨3, rfl⟩) (fun k v e => by cases e) _ _ e
        exact ⟨c, rfl⟩
    rw [hc]
    repeat walk_at "st"
    exact ⟨same_mut (Same.trans s2 s3) (s2.free hdp), _, _, _, _, rfl⟩
  · rintro σ' H2 ⟨s2, pw, o5, o6, o7, rfl⟩
    repeat walk_at "st"
    intro t1 ht1
    have s3 := same_new (o := .tup [nV (a.x ^^^ b.x), nV (a.z ^^^ b.z)]) ht1
    repeat walk_at "st"
    intro t2 ht2
    have s4 := same_new (o := .tup [.ref t1, nV (pw % 4)]) ht2
    exact k t2 t1 (pw % 4) _ (((s1.trans s2).trans s3).trans s4) upd_same (s4 _ _ upd_same)
end
end Kq

set_option Elab.async false
set_option linter.all false
set_option maxRecDepth 100000
set_option maxHeartbeats 4000000
/-! more strings walked -/
namespace Kq
open PySem PySem.Spec PyProof.Rows L2 XG
local macro_rules | `(tactic| walk_at "st") => `(tactic| first
  | with_reducible refine s_seq ?_
  | ((with_reducible refine' s_var ?h1 ?h2); (case h1 => rfl))
  | with_reducible refine s_c ?_
  | with_reducible refine s_op ?_
  | with_reducible refine s_asg ?_
  | with_reducible refine s_name ?_
  | with_reducible refine s_cons ?_
  | with_reducible refine s_nil ?_
  | with_reducible refine s_call ?_
  | with_reducible refine s_CB ?_
  | with_reducible refine s_add ?_
  | ((with_reducible refine' s_sub ?h1 ?h2); (case h1 => omega))
  | ((with_reducible refine' s_mul ?h1 ?h2); (case h1 => omega))
  | ((with_reducible refine' s_mod ?h1 ?h2); (case h1 => omega))
  | ((with_reducible refine' s_div ?h1 ?h2); (case h1 => omega))
  | ((with_reducible refine' s_shl ?h1 ?h2); (case h1 => omega))
  | with_reducible refine s_shr ?_
  | with_reducible refine s_and ?_
  | with_reducible refine s_or ?_
  | with_reducible refine s_xor ?_
  | with_reducible refine s_lt ?_
  | with_reducible refine s_le ?_
  | with_reducible refine s_gt ?_
  | with_reducible refine s_ge ?_
  | with_reducible refine s_eqN ?_
  | with_reducible refine s_neN ?_
  | with_reducible refine s_eqS ?_
  | with_reducible refine s_neS ?_
  | with_reducible refine s_I0 ?_
  | with_reducible refine s_un ?_
  | with_reducible refine s_neg ?_
  | with_reducible refine s_test ?_
  | with_reducible refine s_B ?_
  | with_reducible refine s_bl ?_
  | with_reducible refine s_ifS ?_
  | with_reducible refine s_ifE ?_
  | with_reducible refine s_not ?_
  | with_reducible refine s_and2 ?_
  | with_reducible refine s_or2 ?_
  | with_reducible refine s_andV ?_
  | with_reducible refine s_orV ?_
  | with_reducible refine s_notV ?_
  | with_reducible refine s_tru ?_
  | with_reducible refine s_par ?_
  | with_reducible refine s_two ?_
  | with_reducible refine s_par3 ?_
  | with_reducible refine s_three ?_
  | with_reducible refine s_lst ?_
  | with_reducible refine s_tup ?_
  | ((with_reducible refine' s_size ?h1 ?h2); (case h1 => exact Nat.le_of_ble_eq_true rfl))
  | with_reducible refine s_fld ?_
  | with_reducible refine s_gcons ?_
  | with_reducible refine s_gnil ?_
  | with_reducible refine s_intN ?_
  | with_reducible refine s_intI ?_
  | with_reducible refine s_tTru ?_
  | with_reducible refine s_tBL ?_
  | with_reducible refine s_sign ?_
  | with_reducible refine s_min ?_
  | with_reducible refine s_sfld ?_
  | with_reducible refine s_gfld ?_
  | with_reducible refine s_intB ?_
  | with_reducible refine s_next ?_
  | with_reducible refine s_ret ?_
  | with_reducible refine s_drop ?_
  | with_reducible refine s_for ?_
  | with_reducible refine s_lc ?_
  | with_reducible refine s_yes ?_
  | with_reducible refine s_bits ?_
  | with_reducible refine s_bitsV ?_
  | ((with_reducible refine' s_own ?h1 ?h2); (case h1 => assumption))
  | ((with_reducible refine' s_len ?h1 ?h2); (case h1 => assumption))
  | ((with_reducible refine' s_lenT ?h1 ?h2); (case h1 => assumption))
  | with_reducible refine s_iTup ?_
  | with_reducible refine s_iList ?_
  | with_reducible refine s_iStr ?_
  | with_reducible refine s_iRng1 ?_
  | with_reducible refine s_iRng2 ?_
  | with_reducible refine s_iEnum ?_
  | with_reducible refine s_iEnumT ?_
  | with_reducible refine s_iEnumS ?_
  | with_reducible refine s_iZip ?_
  | with_reducible refine s_iZipM ?_
  | with_reducible refine s_srcS ?_
  | with_reducible refine s_srcES ?_
  | ((with_reducible refine' s_srcT ?h1 ?h2); (case h1 => assumption))
  | ((with_reducible refine' s_srcL ?h1 ?h2); (case h1 => assumption))
  | ((with_reducible refine' s_srcE ?h1 ?h2); (case h1 => assumption))
  | ((with_reducible refine' s_srcET ?h1 ?h2); (case h1 => assumption))
  | ((with_reducible refine' s_rng1 ?h1 ?h2); (case h1 => omega))
  | ((with_reducible refine' s_rng2 ?h1 ?h2); (case h1 => omega))
  | with_reducible refine s_ckw ?_
  | ((with_reducible refine' s_sorted ?h1 ?h2); (case h1 => assumption))
  | ((with_reducible refine' s_inN ?h1 ?h2); (case h1 => assumption))
  | ((with_reducible refine' s_ninN ?h1 ?h2); (case h1 => assumption))
  | ((with_reducible refine' s_tupL ?h1 ?h2); (case h1 => assumption))
  | ((with_reducible refine' s_tupT ?h1 ?h2); (case h1 => assumption))
  | ((with_reducible refine' s_lstL ?h1 ?h2); (case h1 => assumption))
  | ((with_reducible refine' s_lstT ?h1 ?h2); (case h1 => assumption))
  | ((with_reducible refine' s_addS2 ?h1 ?h2); (case h1 => (simp only [List.length_append, letL_len]; omega)); (rw [sOf_add]))
  | with_reducible refine s_sl ?_
  | with_reducible refine s_part ?_
  | with_reducible refine s_partV ?_
  | with_reducible refine s_nopart ?_
  | ((with_reducible refine' s_cutTake ?h1 ?h2); (case h1 => assumption))
  | ((with_reducible refine' s_cutDrop ?h1 ?h2); (case h1 => assumption))
  | with_reducible refine s_isiII ?_
  | with_reducible refine s_isiIB ?_
  | with_reducible refine s_isiSS ?_
  | ((with_reducible refine' s_isiTT ?h1 ?h2); (case h1 => assumption))
  | ((with_reducible refine' s_aug ?h1 ?h2); (case h1 => rfl))
  | with_reducible refine s_ipN ?_
  | with_reducible refine s_ip ?_
  | with_reducible refine s_gsub ?_
  | with_reducible refine s_wh ?_
  | with_reducible refine s_join ?_
  | ((with_reducible refine' s_ixT ?h1 ?h2 ?h3); (case h1 => assumption); (case h2 => rfl))
  | ((with_reducible refine' s_at ?h1 ?h2 ?h3); (case h1 => assumption); (case h2 => assumption))
  | with_reducible refine s_make ?_
  | with_reducible refine s_dgetK ?_
  | with_reducible refine s_dput ?_
  | with_reducible refine s_chain ?_
  | with_reducible refine s_eqI ?_
  | with_reducible refine s_pcons ?_
  | with_reducible refine s_pnil ?_
  | with_reducible refine s_lrg ?_
  | with_reducible refine s_rg1 ?_
  | with_reducible refine s_rgV ?_)

theorem CdK.setRows {kvs : List (Key × V)} {n : Nat} {rv gv hv : V} (h : CdK kvs n rv gv hv) (x : V) : CdK (putK kvs (.inr (Str.ofString "rows")) x) n x gv hv :=
  ⟨by rw [putK_len (by rw [h.k2]; rfl)]; exact h.len, by rw [valV_put, if_neg (inr_ne (by decide +kernel))]; exact h.k1, by rw [valV_put, if_pos rfl], by rw [valV_put, if_neg (inr_ne (by decide +kernel))]; exact h.k3, by rw [valV_put, if_neg (inr_ne (by decide +kernel))]; exact h.k4⟩
theorem CdK.setGauge {kvs : List (Key × V)} {n : Nat} {rv gv hv : V} (h : CdK kvs n rv gv hv) (x : V) : CdK (putK kvs (.inr (Str.ofString "gauge")) x) n rv x hv :=
  ⟨by rw [putK_len (by rw [h.k3]; rfl)]; exact h.len, by rw [valV_put, if_neg (inr_ne (by decide +kernel))]; exact h.k1, by rw [valV_put, if_neg (inr_ne (by decide +kernel))]; exact h.k2, by rw [valV_put, if_pos rfl], by rw [valV_put, if_neg (inr_ne (by decide +kernel))]; exact h.k4⟩
theorem MoreR.perm {rows rows2 rows3 : List Row} (m : MoreR rows rows2) (p : rows3.Perm rows2) : MoreR rows rows3 := ⟨fun q hq => p.mem_iff.mpr (m.sub q hq), fun q hq => m.of q (p.mem_iff.mp hq)⟩
section
variable {P : Program} {w : World} {K : PySem.W.Frag} {mg : Str → Option Value} {base : Heap}
def sp_law_with_more : Sp := fun vs H Q _ => ∃ a cp d kvs n rv gv hv rows ga hid r gd A B k, vs = [.ref a, .ref d] ∧ isPen H a cp k ∧ k ≤ 20000 ∧ H d = some (.dK kvs) ∧ d ≠ a ∧ CdK kvs n rv gv hv ∧ isL isRow H rv rows ∧ isL isRow H gv ga ∧ isL isRP H hv hid ∧ DC n r gd A B rows ga hid ∧ n ≤ 5 ∧ rows.length ≤ 10 ∧ ga.length ≤ 10 ∧
  ∀ kvs2 rv2 gv2 H' rows2 ga2, (∀ b o, b ≠ a → b ≠ d → H b = some o → H' b = some o) → isPen H' a cp (k + 100) → H' d = some (.dK kvs2) → CdK kvs2 n rv2 gv2 hv → isL isRow H' rv2 rows2 → isL isRow H' gv2 ga2 → isL isRP H' hv hid → MoreR rows rows2 → MoreG n rows ga ga2 → rows2.length ≤ 11 → ga2.length ≤ 20 → Q (.ref d) H'
theorem ok_law_with_more (T : Tx K mg) : FnOk P w K mg base CX0 3 (He.fAd K ("_law_with_more", none)) T.fd_law_with_more ["_law_pen_here", "_law_code_here"] (sp_law_with_more) := by
  have G_law_draw := ok_law_draw (P := P) (w := w) (base := base) T
  have G_law_pick := ok_law_pick (P := P) (w := w) (base := base) T
  have G_law_shuffled := ok_law_shuffled (P := P) (w := w) (base := base) T
  have G_law_product := ok_law_product (P := P) (w := w) (base := base) T
  have G_law_times := ok_law_times (P := P) (w := w) (base := base) T
  refine okD T.F_law_with_more sc_law_with_more (fun vs H Q E h => by obtain ⟨a, cp, d, _, _, _, _, _, _, _, _, _, _, _, _, _, rfl, _⟩ := h; rfl) (fun cdv A outer s H vs Q E hr h => ?_)
  have hu64 := hr.units
  have hu : (A.deeper (envOfC "_law_with_more" (defScope s_law_with_more) s.heap.objs.size (He.fAd K ("_law_with_more", none)) cdv)).units + 1 < cLine := by omega
  obtain ⟨a, cp, d, kvs, n, rv, gv, hv, rows, ga, hid, r, gd, A, B, k, rfl, hpen, hk, hd, nda, cd, ⟨rp', rs, rfl, hrp, hri⟩, ⟨gp, gs, rfl, hgp, hgi⟩, ⟨hp, hs, rfl, hhp, hhi⟩, dc, hn, hrl, hgl, kk⟩ := h
  refine ⟨_, (pss_cons (ps_par (by rfl) sc_law_with_more.nd (i := 2) (j := 3) rfl rfl (by decide) rfl rfl (pa_cons (pe_callTy xc_lstL (by rfl) T.n_list (by decide +kernel) (pa_cons (pe_dget hu (pv 1) pe_str (fun _ _ => rfl)) pa_nil)) (pa_cons (pe_callTy xc_lstL (by rfl) T.n_list (by decide +kernel) (pa_cons (pe_dget hu (pv 1) pe_str (fun _ _ => rfl)) pa_nil)) pa_nil)) (by rfl))
  (pss_cons (ps_if (PW.pt (pw_and (pt_cmpR (xo_neNil hu64) (pv 2) (pe_lst pa_nil) (nomark _)) (pw_and1 (pt_cmpR on_eq (pe_call G_law_draw (hr.mono (by decide)) (by rfl) T.m_law_draw T.F_law_draw.kp T.b_law_draw .nil pass0 (pa_cons (pv 0) (pa_cons (pe_nat 3) pa_nil))) (pe_nat 0) (nomark _))))) (pss_cons (ps_expr (xe_bl PySem.F.slot_list_append PySem.F.type_list_append mt_append (pv 2) (pa_cons (pe_call G_law_pick (hr.mono (by decide)) (by rfl) T.m_law_pick T.F_law_pick.kp T.b_law_pick .nil pass0 (pa_cons (pv 0) (pa_cons (pe_lst (pa_cons (pe_call G_law_product (hr.mono (by decide)) (by rfl) T.m_law_product T.F_law_product.kp T.b_law_product .nil pass0 (pa_cons (pe_ix xi_list (pv 2) (pe_nat 0) (fun _ _ => rfl)) (pa_cons (pe_ix xi_last (pv 2) (pe_un un_neg pe_int) (fun _ _ => rfl)) pa_nil))) (pa_cons (pe_ix xi_list (pv 2) (pe_nat 0) (fun _ _ => rfl)) (pa_cons (pe_tup (pa_cons (pe_nat 0) (pa_cons (pe_nat 0) (pa_cons (pe_nat 0) pa_nil)))) pa_nil)))) pa_nil))) pa_nil)))
  (pss_one (ps_dput hu (pv 1) pe_str (pe_call G_law_shuffled (hr.mono (by decide)) (by rfl) T.m_law_shuffled T.F_law_shuffled.kp T.b_law_shuffled .nil pass0 (pa_cons (pv 0) (pa_cons (pv 2) pa_nil))) rfl))) pss_nil)
  (pss_cons (ps_if (PW.pt (pw_and (pt_cmpR (xo_neNil hu64) (pv 3) (pe_lst pa_nil) (nomark _)) (pw_and1 (pt_cmpR on_eq (pe_call G_law_draw (hr.mono (by decide)) (by rfl) T.m_law_draw T.F_law_draw.kp T.b_law_draw .nil pass0 (pa_cons (pv 0) (pa_cons (pe_nat 2) pa_nil))) (pe_nat 0) (nomark _))))) (pss_cons (ps_set (i := 4) sc_law_with_more.nd rfl (.inl rfl) (pe_ix xi_tup (pe_call G_law_times (hr.mono (by decide)) (by rfl) T.m_law_times T.F_law_times.kp T.b_law_times .nil pass0 (pa_cons (pe_ix xi_list (pv 3) (pe_nat 0) (fun _ _ => rfl)) (pa_cons (pe_ix xi_last (pv 3) (pe_un un_neg pe_int) (fun _ _ => rfl)) pa_nil))) (pe_nat 0) (fun _ _ => rfl)))
  (pss_cons (ps_set (i := 3) sc_law_with_more.nd rfl (.inl rfl) (pe_op op_cat (pe_op op_cat (pe_op op_cat (pv 3) (pe_lst (pa_cons (pe_tup (pa_cons (pe_ix xi_tup (pv 4) (pe_nat 0) (fun _ _ => rfl)) (pa_cons (pe_ix xi_tup (pv 4) (pe_nat 1) (fun _ _ => rfl)) (pa_cons (pe_nat 0) pa_nil)))) pa_nil))) (pe_slice xl_list (pv 3) po_none (po_some (pe_call G_law_draw (hr.mono (by decide)) (by rfl) T.m_law_draw T.F_law_draw.kp T.b_law_draw .nil pass0 (pa_cons (pv 0) (pa_cons (pe_nat 2) pa_nil)))))) (pe_slice xl_list (pv 2) po_none (po_some (pe_call G_law_draw (hr.mono (by decide)) (by rfl) T.m_law_draw T.F_law_draw.kp T.b_law_draw .nil pass0 (pa_cons (pv 0) (pa_cons (pe_nat 2) pa_nil)))))))
  (pss_one (ps_dput hu (pv 1) pe_str (pe_call G_law_shuffled (hr.mono (by decide)) (by rfl) T.m_law_shuffled T.F_law_shuffled.kp T.b_law_shuffled .nil pass0 (pa_cons (pv 0) (pa_cons (pv 3) pa_nil))) rfl)))) pss_nil)
  (pss_one (ps_ret (pv 1)))))), ?_⟩
  have e1 := hri.len
  have e2 := hgi.len
  repeat walk_at "st"
  refine ⟨d, .ref rp', rfl, getS hd cd.k2, ?_⟩
  repeat walk_at "st"
  intro rl hrl0
  have s1 := same_new (o := .lst rs) hrl0
  repeat walk_at "st"
  refine ⟨d, .ref gp, rfl, getS (s1 _ _ hd) cd.k3, ?_⟩
  have hgp1 := s1 _ _ hgp
  repeat walk_at "st"
  intro gl hgl0
  have s2 := same_new (o := .lst gs) hgl0
  have s12 := s1.trans s2
  have h2r : (upd (upd H rl (.lst rs)) gl (.lst gs)) rl = some (.lst rs) := s2 _ _ upd_same
  have h2g : (upd (upd H rl (.lst rs)) gl (.lst gs)) gl = some (.lst gs) := upd_same
  have hglH : H gl = none := s1.free hgl0
  have ngr : gl ≠ rl := fun z => by rw [z, upd_same] at hgl0; cases hgl0
  generalize upd (upd H rl (.lst rs)) gl (.lst gs) = H2 at s12 h2r h2g
  clear s1 s2 hgl0 hgp1
  have hpen2 := hpen.same s12
  have nra : rl ≠ a := fun z => by obtain ⟨o, e⟩ := hpen.got; rw [z, e] at hrl0; cases hrl0
  have nrc : rl ≠ cp := fun z => by obtain ⟨o, e⟩ := hpen.cells; rw [z, e] at hrl0; cases hrl0
  have nrd : rl ≠ d := fun z => by rw [z, hd] at hrl0; cases hrl0
  have nga : gl ≠ a := fun z => by obtain ⟨o, e⟩ := hpen.got; rw [z, e] at hglH; cases hglH
  have ngd : gl ≠ d := fun z => by rw [z, hd] at hglH; cases hglH
  have hd2 := s12 _ _ hd
  have ngpa := hpen.ne hgp
  have nrpa := hpen.ne hrp
  have nhpa := hpen.ne hhp
  have ncd : cp ≠ d := fun z => by obtain ⟨o, e⟩ := hpen.cells; rw [z, hd] at e; cases e
  have notd : ∀ {p : Addr} {xs : List V}, H p = some (.lst xs) → p ≠ d := fun h z => by rw [z, hd] at h; cases h
  have notr : ∀ {p : Addr} {o : HO}, H p = some o → p ≠ rl := fun h z => by rw [z, hrl0] at h; cases h
  refine s_nil ?_
  refine s_two ?_
  have hok0 := dc.okr
  with_reducible refine s_seqT (fun σ' H3 => ∃ kvs1 rv1 rs1 rowsU rows1, σ' = [some (.ref a), some (.ref d), some (.ref rl), some (.ref gl), none] ∧ (∀ b o, b ≠ a → b ≠ d → b ≠ rl → H2 b = some o → H3 b = some o) ∧ isPen H3 a cp (k + 30) ∧ H3 rl = some (.lst rs1) ∧ Itm isRow H3 rs1 rowsU ∧ MoreR rows rowsU ∧ rowsU.length ≤ 11 ∧
    H3 d = some (.dK kvs1) ∧ CdK kvs1 n rv1 (.ref gp) (.ref hp) ∧ isL isRow H3 rv1 rows1 ∧ MoreR rows rows1 ∧ rows1.length ≤ 11) ?_ (fun tail => ?_)
  · rintro σ' H3 ⟨kvs1, rv1, rs1, rowsU, rows1, rfl, keep3, hpen3, h3r, h3ri, mU, lU, hd3, cd3, hrv3, m1, l1⟩
    have sol23 : Sol H2 H3 := fun b o e so => keep3 b o (fun z => by obtain ⟨xs, e2⟩ := hpen2.dict; rw [z, e2] at e; cases e; exact so) (fun z => by rw [z, hd2] at e; cases e; exact so) (fun z => by rw [z, h2r] at e; cases e; exact so) e
    have solH3 : Sol H H3 := (Sol.of s12).trans sol23
    have keepH : ∀ b o, b ≠ a → b ≠ d → H b = some o → H3 b = some o := fun b o h1 h2 h => keep3 b o h1 h2 (notr h) (s12 _ _ h)
    have h3g := keep3 _ _ nga ngd ngr h2g
    have h3gi := hgi.mono monoRow solH3
    have hgp3 := keepH _ _ ngpa (notd hgp) hgp
    have hhp3 := keepH _ _ nhpa (notd hhp) hhp
    have hhi3 := hhi.mono monoRP solH3
    have okU := mU.ok hok0
    have done3 : ∀ kvs4 gv4 ga4 H4, (∀ b o, b ≠ a → b ≠ d → H3 b = some o → H4 b = some o) → isPen H4 a cp (k + 100) → H4 d = some (.dK kvs4) → CdK kvs4 n rv1 gv4 (.ref hp) → isL isRow H4 gv4 ga4 → MoreG n rows ga ga4 → ga4.length ≤ 20 → Q (.ref d) H4 := fun kvs4 gv4 ga4 H4 keep4 hpen4 hd4 cd4 hgv4 mg lg => by
      have sol34 : Sol H3 H4 := fun b o e so => keep4 b o (fun z => by obtain ⟨xs, e2⟩ := hpen3.dict; rw [z, e2] at e; cases e; exact so) (fun z => by rw [z, hd3] at e; cases e; exact so) e
      obtain ⟨rq, rqs, erv, hrq, hrqi⟩ := hrv3
      have nrqa := hpen3.ne hrq
      have nrqd : rq ≠ d := fun z => by rw [z, hd3] at hrq; cases hrq
      exact kk kvs4 rv1 gv4 H4 rows1 ga4 (fun b o h1 h2 h => keep4 b o h1 h2 (keepH b o h1 h2 h)) hpen4 hd4 cd4 ⟨rq, rqs, erv, keep4 _ _ nrqa nrqd hrq, hrqi.mono monoRow sol34⟩ hgv4 ⟨hp, hs, rfl, keep4 _ _ nhpa (notd hhp) hhp3, hhi3.mono monoRP sol34⟩ m1 mg l1 lg
    have hgok : ∀ q ∈ ga, q.ok n := dc.oka
    have mg0 : MoreG n rows ga ga := ⟨fun _ h => h, hgok, fun q hq => Sn.mem (List.mem_map_of_mem (List.mem_append_left _ hq))⟩
    have skip : ∀ H4, SameX a H3 H4 → isPen H4 a cp (k + 60) → Q (.ref d) H4 := fun H4 sx hp4 =>
      done3 kvs1 (.ref gp) ga H4 (fun b o h1 _ h => sx b o h1 h) (hp4.le (by omega)) (sx _ _ nda hd3) cd3 ⟨gp, gs, rfl, sx _ _ ngpa hgp3, h3gi.mono monoRow (hpen3.sol sx)⟩ mg0 (by omega)
    repeat walk_at "st"
    intro n4 hn4
    have s4 := same_new (o := .lst []) hn4
    refine s_neNilR (s4 _ _ h3g) (h3gi.mono monoRow (Sol.of s4)) upd_same ?_
    refine s_bl ?_
    generalize upd H3 n4 (.lst []) = H4 at s4
    have hpen4 := hpen3.same s4
    have h4g := s4 _ _ h3g
    have h4gi := h3gi.mono monoRow (Sol.of s4)
    refine s_if (fun e => ?_) (fun e => ?_)
    · obtain ⟨q0, ga', ega⟩ : ∃ q l, ga = q :: l := by
        cases hr0 : ga with
        | nil => rw [hr0] at e; cases e
        | cons q l => exact ⟨q, l, rfl⟩
      repeat walk_at "st"
      refine ⟨a, cp, 2, k + 30, rfl, hpen4, by omega, by omega, by omega, fun d1 H5 hd1 sx5 hpen5 => ?_⟩
      have sx35 := (SameX.of (a := a) s4).trans sx5
      repeat walk_at "st"
      refine s_if (fun e => ?_) (fun e => ?_)
      · have h5g := sx5 _ _ nga h4g
        have sol45 := hpen4.sol sx5
        have h5gi := h4gi.mono monoRow sol45
        obtain ⟨v0, ev0, hv0⟩ := h5gi.get' (i := 0) (a := q0) (by rw [ega]; rfl)
        have hne : gs ≠ [] := fun z => by rw [z] at ev0; simp at ev0
        obtain ⟨gsI, vl, egs⟩ : ∃ xs v, gs = xs ++ [v] := ⟨gs.dropLast, gs.getLast hne, (List.dropLast_concat_getLast hne).symm⟩
        have evl : gs[gsI.length]? = some vl := by rw [egs]; simp
        obtain ⟨ql, eql, hvl⟩ := h5gi.get evl
        have hq0 : q0 ∈ ga := by rw [ega]; exact List.mem_cons_self
        have hql : ql ∈ ga := mem_idx eql
        repeat walk_at "st"
        refine s_ixL h5g ev0 ?_
        repeat walk_at "st"
        refine ⟨gl, gsI, vl, rfl, rfl, by rw [← egs]; exact h5g, ?_⟩
        repeat walk_at "st"
        refine ⟨_, _, q0, ql, rfl, hv0, hvl, (hgok q0 hq0).small (by omega), (hgok ql hql).small (by omega), fun tp tq tm H6 s6 h6 h6q => ?_⟩
        refine s_ixT (j := 0) (v := .ref tq) h6 rfl ?_
        repeat walk_at "st"
        intro t7 ht7
        have s7 := same_new (o := .tup [nV (q0.x ^^^ ql.x), nV (q0.z ^^^ ql.z), nV 0]) ht7
        repeat walk_at "st"
        intro l8 hl8
        have s8 := same_new (o := .lst [.ref t7]) hl8
        have s58 := (s6.trans s7).trans s8
        refine s_cat (s58 _ _ h5g) upd_same (by simp; omega) fun c9 hc9 => ?_
        have s9 := same_new (o := .lst (gs ++ [.ref t7])) hc9
        have s59 := s58.trans s9
        have hpen9 := hpen5.same s59
        have h9c : (upd (upd (upd H6 t7 (.tup [nV (q0.x ^^^ ql.x), nV (q0.z ^^^ ql.z), nV 0])) l8 (.lst [.ref t7])) c9 (.lst (gs ++ [.ref t7]))) c9 = some (.lst (gs ++ [.ref t7])) := upd_same
        have h9t : (upd (upd (upd H6 t7 (.tup [nV (q0.x ^^^ ql.x), nV (q0.z ^^^ ql.z), nV 0])) l8 (.lst [.ref t7])) c9 (.lst (gs ++ [.ref t7]))) t7 = some (.tup [nV (q0.x ^^^ ql.x), nV (q0.z ^^^ ql.z), nV 0]) := s9 _ _ (s8 _ _ upd_same)
        generalize upd (upd (upd H6 t7 (.tup [nV (q0.x ^^^ ql.x), nV (q0.z ^^^ ql.z), nV 0])) l8 (.lst [.ref t7])) c9 (.lst (gs ++ [.ref t7])) = H9 at s59 hpen9 h9c h9t
        clear s9 s8 s7 s6 s58 hc9 hl8 ht7
        have qs : Row := addR q0 ql
        have h9gi : Itm isRow H9 (gs ++ [.ref t7]) (ga ++ [addR q0 ql]) := (h5gi.mono monoRow (Sol.of s59)).app (Itm.one ⟨t7, rfl, h9t⟩)
        have h9g := s59 _ _ h5g
        repeat walk_at "st"
        refine ⟨a, cp, 2, _, rfl, hpen9, by omega, by omega, by omega, fun d2 H10 hd2' sx10 hpen10 => ?_⟩
        have h10g := sx10 _ _ nga h9g
        have nc9a : c9 ≠ a := hpen9.ne h9c
        have h10c := sx10 _ _ nc9a h9c
        have h10gi := h9gi.mono monoRow (hpen9.sol sx10)
        have h10g0 := (h5gi.mono monoRow (Sol.of s59)).mono monoRow (hpen9.sol sx10)
        repeat walk_at "st"
        intro l11 hl11
        have s11 := same_new (o := .lst (gs.take d2)) hl11
        refine s_cat (s11 _ _ h10c) upd_same (by simp; omega) fun c12 hc12 => ?_
        have s12' := same_new (o := .lst ((gs ++ [.ref t7]) ++ gs.take d2)) hc12
        have s1012 := s11.trans s12'
        have h12c : (upd (upd H10 l11 (.lst (gs.take d2))) c12 (.lst ((gs ++ [.ref t7]) ++ gs.take d2))) c12 = some (.lst ((gs ++ [.ref t7]) ++ gs.take d2)) := upd_same
        have hpen12 := hpen10.same s1012
        generalize upd (upd H10 l11 (.lst (gs.take d2))) c12 (.lst ((gs ++ [.ref t7]) ++ gs.take d2)) = H12 at s1012 h12c hpen12
        have h12gi : Itm isRow H12 ((gs ++ [.ref t7]) ++ gs.take d2) ((ga ++ [addR q0 ql]) ++ ga.take d2) := (h10gi.mono monoRow (Sol.of s1012)).app ((h10g0.mono monoRow (Sol.of s1012)).take d2)
        have sx312 : SameX a H3 H12 := ((sx35.trans (SameX.of s59)).trans sx10).trans (SameX.of s1012)
        have h12r := sx312 _ _ nra h3r
        have h12ri := h3ri.mono monoRow (hpen3.sol sx312)
        have hUl := h3ri.len
        repeat walk_at "st"
        refine ⟨a, cp, 2, _, rfl, hpen12, by omega, by omega, by omega, fun d3 H13 hd3' sx13 hpen13 => ?_⟩
        have h13r := sx13 _ _ nra h12r
        have nc12a : c12 ≠ a := hpen12.ne h12c
        have h13c := sx13 _ _ nc12a h12c
        repeat walk_at "st"
        intro l14 hl14
        have s14 := same_new (o := .lst (rs1.take d3)) hl14
        refine s_cat (s14 _ _ h13c) upd_same (by simp; omega) fun c15 hc15 => ?_
        have s15 := same_new (o := .lst (((gs ++ [.ref t7]) ++ gs.take d2) ++ rs1.take d3)) hc15
        have s1315 := s14.trans s15
        have h15c : (upd (upd H13 l14 (.lst (rs1.take d3))) c15 (.lst (((gs ++ [.ref t7]) ++ gs.take d2) ++ rs1.take d3))) c15 = some (.lst (((gs ++ [.ref t7]) ++ gs.take d2) ++ rs1.take d3)) := upd_same
        have hpen15 := hpen13.same s1315
        generalize upd (upd H13 l14 (.lst (rs1.take d3))) c15 (.lst (((gs ++ [.ref t7]) ++ gs.take d2) ++ rs1.take d3)) = H15 at s1315 h15c hpen15
        have sol1215 := (hpen12.sol sx13).trans (Sol.of s1315)
        have h15gi : Itm isRow H15 (((gs ++ [.ref t7]) ++ gs.take d2) ++ rs1.take d3) (((ga ++ [addR q0 ql]) ++ ga.take d2) ++ rowsU.take d3) := (h12gi.mono monoRow sol1215).app ((h12ri.mono monoRow sol1215).take d3)
        have sx315 : SameX a H3 H15 := (sx312.trans sx13).trans (SameX.of s1315)
        have l15 := h15gi.len
        repeat walk_at "st"
        refine ⟨a, cp, c15, _, _, rfl, hpen15, h15c, by simp; omega, by simp; omega, fun sq ys H16 hperm hsq0 sx16 hsq hpen16 => ?_⟩
        have hd16 := sx16 _ _ nda (sx315 _ _ nda hd3)
        repeat walk_at "st"
        refine ⟨d, _, rfl, DPut.k (k := .inr (Str.ofString "gauge")) hd16 (Nat.lt_of_le_of_lt cd3.len (by decide)), ?_⟩
        repeat walk_at "st"
        have so17 : Sol H16 (upd H16 d (.dK (putK kvs1 (.inr (Str.ofString "gauge")) (.ref sq)))) := Sol.upd' hd16 (fun z => z)
        obtain ⟨ga4, hp4, hga4⟩ := Itm.permute hperm (h15gi.mono monoRow ((hpen15.sol sx16).trans so17))
        have nsd : sq ≠ d := fun z => by rw [z, hd16] at hsq; cases hsq
        have okS : (addR q0 ql).ok n := ⟨Nat.xor_lt_two_pow (hgok q0 hq0).1 (hgok ql hql).1, Nat.xor_lt_two_pow (hgok q0 hq0).2.1 (hgok ql hql).2.1, by show 0 < 2; decide⟩
        have gsn : ∀ q ∈ ga, Sn ((ga ++ rows).map Row.xz) q.xz := fun q hq => Sn.mem (List.mem_map_of_mem (List.mem_append_left _ hq))
        have rsn : ∀ q ∈ rowsU, Sn ((ga ++ rows).map Row.xz) q.xz := fun q hq => ((mU.span _).mp (Sn.mem (List.mem_map_of_mem hq))).mono fun c hc => by rw [List.map_append]; exact List.mem_append_right _ hc
        have cls : ∀ (Pq : Row → Prop), (∀ q ∈ ga, Pq q) → Pq (addR q0 ql) → (∀ q ∈ rowsU, Pq q) → ∀ q ∈ ga4, Pq q := fun Pq h1 h2 h3 q hq => by
          rcases List.mem_append.mp (hp4.mem_iff.mp hq) with hq | hq
          · rcases List.mem_append.mp hq with hq | hq
            · rcases List.mem_append.mp hq with hq | hq
              · exact h1 q hq
              · rw [List.mem_singleton.mp hq]; exact h2
            · exact h1 q (List.mem_of_mem_take hq)
          · exact h3 q (List.mem_of_mem_take hq)
        refine done3 _ (.ref sq) ga4 _ (fun b o h1 h2 h => by rw [upd_ne h2]; exact sx16 _ _ h1 (sx315 _ _ h1 h)) ((hpen16.le (by simp; omega)).keep (by rw [upd_ne (Ne.symm nda)]) (by rw [upd_ne ncd])) upd_same (cd3.setGauge _) ⟨sq, ys, rfl, by rw [upd_ne nsd]; exact hsq, hga4⟩ ⟨fun q hq => hp4.mem_iff.mpr (List.mem_append_left _ (List.mem_append_left _ (List.mem_append_left _ hq))), cls _ hgok okS okU, cls _ gsn (by rw [addR_xz]; exact (gsn q0 hq0).xo (gsn ql hql)) rsn⟩ (by rw [hp4.length_eq]; simp; omega)
      · repeat walk_at "st"
        exact skip _ sx35 (hpen5.le (by omega))
    · refine s_ifF rfl ?_
      repeat walk_at "st"
      exact skip _ (SameX.of s4) (hpen4.le (by omega))
  · repeat walk_at "st"
    intro n1 hn1
    have s3 := same_new (o := .lst []) hn1
    refine s_neNilR (s3 _ _ h2r) (hri.mono monoRow ((Sol.of s12).trans (Sol.of s3))) upd_same ?_
    refine s_bl ?_
    have hpen3 := hpen2.same s3
    have h3r := s3 _ _ h2r
    have h3ri := hri.mono monoRow (Sol.of (s12.trans s3))
    have hd3 := s3 _ _ hd2
    have hrp3 := s3 _ _ (s12 _ _ hrp)
    generalize upd H2 n1 (.lst []) = H3 at s3 hpen3 h3r h3ri hd3 hrp3
    have skip : ∀ H4, SameX a H3 H4 → isPen H4 a cp (k + 1) → ∃ kvs1 rv1 rs1 rowsU rows1, [some (V.ref a), some (.ref d), some (.ref rl), some (.ref gl), none] = [some (.ref a), some (.ref d), some (.ref rl), some (.ref gl), none] ∧ (∀ b o, b ≠ a → b ≠ d → b ≠ rl → H2 b = some o → H4 b = some o) ∧ isPen H4 a cp (k + 30) ∧ H4 rl = some (.lst rs1) ∧ Itm isRow H4 rs1 rowsU ∧ MoreR rows rowsU ∧ rowsU.length ≤ 11 ∧
      H4 d = some (.dK kvs1) ∧ CdK kvs1 n rv1 (.ref gp) (.ref hp) ∧ isL isRow H4 rv1 rows1 ∧ MoreR rows rows1 ∧ rows1.length ≤ 11 := fun H4 sx hp4 =>
      ⟨kvs, .ref rp', rs, rows, rows, rfl, fun b o h1 _ _ h => sx b o h1 (s3 _ _ h), hp4.le (by omega), sx _ _ nra h3r, h3ri.mono monoRow (hpen3.sol sx), MoreR.refl _, by omega, sx _ _ nda hd3, cd, ⟨rp', rs, rfl, sx _ _ nrpa hrp3, h3ri.mono monoRow (hpen3.sol sx)⟩, MoreR.refl _, by omega⟩
    refine s_if (fun e => ?_) (fun e => ?_)
    · obtain ⟨q0, rows', erows⟩ : ∃ q l, rows = q :: l := by
        cases hr0 : rows with
        | nil => rw [hr0] at e; cases e
        | cons q l => exact ⟨q, l, rfl⟩
      repeat walk_at "st"
      refine ⟨a, cp, 3, k, rfl, hpen3, by omega, by omega, by omega, fun d1 H4 hd1 sx4 hpen4 => ?_⟩
      repeat walk_at "st"
      refine s_if (fun e => ?_) (fun e => ?_)
      · have h4r := sx4 _ _ nra h3r
        have h4ri := h3ri.mono monoRow (hpen3.sol sx4)
        have hd4 := sx4 _ _ nda hd3
        obtain ⟨v0, ev0, hv0⟩ := h4ri.get' (i := 0) (a := q0) (by rw [erows]; rfl)
        have hne : rs ≠ [] := fun z => by rw [z] at ev0; simp at ev0
        obtain ⟨rsI, vl, ers⟩ : ∃ xs v, rs = xs ++ [v] := ⟨rs.dropLast, rs.getLast hne, (List.dropLast_concat_getLast hne).symm⟩
        have evl : rs[rsI.length]? = some vl := by rw [ers]; simp
        obtain ⟨ql, eql, hvl⟩ := h4ri.get evl
        have hq0 : q0 ∈ rows := by rw [erows]; exact List.mem_cons_self
        have hql : ql ∈ rows := mem_idx eql
        repeat walk_at "st"
        refine s_ixL h4r ev0 ?_
        repeat walk_at "st"
        refine ⟨rl, rsI, vl, rfl, rfl, by rw [← ers]; exact h4r, ?_⟩
        repeat walk_at "st"
        refine ⟨_, _, q0, ql, rfl, hv0, hvl, (hok0 q0 hq0).small (by omega), (hok0 ql hql).small (by omega), fun v5 H5 s5 h5 => ?_⟩
        have h5r := s5 _ _ h4r
        repeat walk_at "st"
        refine s_ixL h5r ev0 ?_
        repeat walk_at "st"
        intro t6 ht6
        have s6 := same_new (o := .tup [nV 0, nV 0, nV 0]) ht6
        repeat walk_at "st"
        intro l7 hl7
        have s7 := same_new (o := .lst [v5, v0, .ref t6]) hl7
        have s57 := (s5.trans s6).trans s7
        have hpen7 := hpen4.same s57
        repeat walk_at "st"
        refine ⟨a, cp, l7, [v5, v0, .ref t6], k + 1, rfl, hpen7, upd_same, by simp, by simp, by omega, fun x H8 hx sx8 hpen8 => ?_⟩
        have sx48 := (SameX.of (a := a) s57).trans sx8
        have sol48 := hpen4.sol sx48
        obtain ⟨qn, hqn, mU⟩ : ∃ qn, isRow H8 x qn ∧ MoreR rows (rows ++ [qn]) := by
          have base : ∀ qn, (qn ∈ rows ∨ (∃ a b, a ∈ rows ∧ b ∈ rows ∧ qn = rp a b) ∨ (qn = oneR ∧ rows ≠ [])) → MoreR rows (rows ++ [qn]) := fun qn h => ⟨fun q hq => List.mem_append_left _ hq, fun q hq => by
            rcases List.mem_append.mp hq with hq | hq
            · exact .inl hq
            · rw [List.mem_singleton.mp hq]; exact h⟩
          have sol78 := hpen7.sol sx8
          rcases List.mem_cons.mp hx with rfl | hx
          · exact ⟨rp q0 ql, monoRow _ _ _ _ ((Sol.of (s6.trans s7)).trans sol78) h5, base _ (.inr (.inl ⟨q0, ql, hq0, hql, rfl⟩))⟩
          · rcases List.mem_cons.mp hx with rfl | hx
            · exact ⟨q0, monoRow _ _ _ _ sol48 hv0, base _ (.inl hq0)⟩
            · rw [List.mem_singleton.mp hx]
              exact ⟨oneR, monoRow _ _ _ _ ((Sol.of s7).trans sol78) ⟨t6, rfl, upd_same⟩, base _ (.inr (.inr ⟨rfl, by rw [erows]; simp⟩))⟩
        have h8r := sx48 _ _ nra h4r
        have h8ri := h4ri.mono monoRow sol48
        have hd8 := sx48 _ _ nda hd4
        repeat walk_at "st"
        refine s_append h8r (by omega) ?_
        have so9 := Sol.updL (o := .lst (rs ++ [x])) h8r
        have h9r : (upd H8 rl (.lst (rs ++ [x]))) rl = some (.lst (rs ++ [x])) := upd_same
        have h9ri := (h8ri.mono monoRow so9).app (Itm.one (monoRow _ _ _ _ so9 hqn))
        have hpen9 : isPen (upd H8 rl (.lst (rs ++ [x]))) a cp (k + 2) := hpen8.keep (by rw [upd_ne (Ne.symm nra)]) (by rw [upd_ne (Ne.symm nrc)])
        have hd9 : (upd H8 rl (.lst (rs ++ [x]))) d = some (.dK kvs) := by rw [upd_ne (Ne.symm nrd)]; exact hd8
        have keep9 : ∀ b o, b ≠ a → b ≠ d → b ≠ rl → H2 b = some o → (upd H8 rl (.lst (rs ++ [x]))) b = some o := fun b o h1 h2 h3 h => by rw [upd_ne h3]; exact sx48 _ _ h1 (sx4 _ _ h1 (s3 _ _ h))
        generalize upd H8 rl (.lst (rs ++ [x])) = H9 at so9 h9r h9ri hpen9 hd9 keep9
        have hl9 := h9ri.len
        repeat walk_at "st"
        refine ⟨a, cp, rl, rs ++ [x], k + 2, rfl, hpen9, h9r, by simp; omega, by simp; omega, fun sq ys H10 hperm hsq0 sx10 hsq hpen10 => ?_⟩
        have hd10 := sx10 _ _ nda hd9
        repeat walk_at "st"
        refine ⟨d, _, rfl, DPut.k (k := .inr (Str.ofString "rows")) hd10 (Nat.lt_of_le_of_lt cd.len (by decide)), ?_⟩
        have sol910 := hpen9.sol sx10
        obtain ⟨rows1, hp1, hrows1⟩ := Itm.permute hperm (h9ri.mono monoRow sol910)
        have nsd : sq ≠ d := fun z => by rw [z, hd10] at hsq; cases hsq
        have so11 : Sol H10 (upd H10 d (.dK (putK kvs (.inr (Str.ofString "rows")) (.ref sq)))) := Sol.upd' hd10 (fun z => z)
        refine tail _ _ ⟨_, _, _, _, rows1, rfl, fun b o h1 h2 h3 h => by rw [upd_ne h2]; exact sx10 _ _ h1 (keep9 b o h1 h2 h3 h), (hpen10.le (by simp; omega)).keep (by rw [upd_ne (Ne.symm nda)]) (by rw [upd_ne ncd]), by rw [upd_ne nrd]; exact sx10 _ _ nra h9r, h9ri.mono monoRow (sol910.trans so11), mU, by simp; omega, upd_same, cd.setRows _, ⟨sq, ys, rfl, by rw [upd_ne nsd]; exact hsq, hrows1.mono monoRow so11⟩, mU.perm hp1, by rw [hp1.length_eq]; simp; omega⟩
      · exact tail _ _ (skip _ sx4 hpen4)
    · refine s_ifF rfl ?_
      exact tail _ _ (skip _ (SameX.refl _ _) (hpen3.le (by omega)))
end
end Kq

set_option Elab.async false
set_option linter.all false
set_option maxRecDepth 100000
set_option maxHeartbeats 4000000
/-! some code walked -/
namespace Kq
open PySem PySem.Spec PyProof.Rows L2 XG
local macro_rules | `(tactic| walk_at "st") => `(tactic| first
  | with_reducible refine s_seq ?_
  | ((with_reducible refine' s_var ?h1 ?h2); (case h1 => rfl))
  | with_reducible refine s_c ?_
  | with_reducible refine s_op ?_
  | with_reducible refine s_asg ?_
  | with_reducible refine s_name ?_
  | with_reducible refine s_cons ?_
  | with_reducible refine s_nil ?_
  | with_reducible refine s_call ?_
  | with_reducible refine s_CB ?_
  | with_reducible refine s_add ?_
  | ((with_reducible refine' s_sub ?h1 ?h2); (case h1 => omega))
  | ((with_reducible refine' s_mul ?h1 ?h2); (case h1 => omega))
  | ((with_reducible refine' s_mod ?h1 ?h2); (case h1 => omega))
  | ((with_reducible refine' s_div ?h1 ?h2); (case h1 => omega))
  | ((with_reducible refine' s_shl ?h1 ?h2); (case h1 => omega))
  | with_reducible refine s_shr ?_
  | with_reducible refine s_and ?_
  | with_reducible refine s_or ?_
  | with_reducible refine s_xor ?_
  | with_reducible refine s_lt ?_
  | with_reducible refine s_le ?_
  | with_reducible refine s_gt ?_
  | with_reducible refine s_ge ?_
  | with_reducible refine s_eqN ?_
  | with_reducible refine s_neN ?_
  | with_reducible refine s_eqS ?_
  | with_reducible refine s_neS ?_
  | with_reducible refine s_I0 ?_
  | with_reducible refine s_un ?_
  | with_reducible refine s_neg ?_
  | with_reducible refine s_test ?_
  | with_reducible refine s_B ?_
  | with_reducible refine s_bl ?_
  | with_reducible refine s_ifS ?_
  | with_reducible refine s_ifE ?_
  | with_reducible refine s_not ?_
  | with_reducible refine s_and2 ?_
  | with_reducible refine s_or2 ?_
  | with_reducible refine s_andV ?_
  | with_reducible refine s_orV ?_
  | with_reducible refine s_notV ?_
  | with_reducible refine s_tru ?_
  | with_reducible refine s_par ?_
  | with_reducible refine s_two ?_
  | with_reducible refine s_par3 ?_
  | with_reducible refine s_three ?_
  | with_reducible refine s_lst ?_
  | with_reducible refine s_tup ?_
  | ((with_reducible refine' s_size ?h1 ?h2); (case h1 => exact Nat.le_of_ble_eq_true rfl))
  | with_reducible refine s_fld ?_
  | with_reducible refine s_gcons ?_
  | with_reducible refine s_gnil ?_
  | with_reducible refine s_intN ?_
  | with_reducible refine s_intI ?_
  | with_reducible refine s_tTru ?_
  | with_reducible refine s_tBL ?_
  | with_reducible refine s_sign ?_
  | with_reducible refine s_min ?_
  | with_reducible refine s_sfld ?_
  | with_reducible refine s_gfld ?_
  | with_reducible refine s_intB ?_
  | with_reducible refine s_next ?_
  | with_reducible refine s_ret ?_
  | with_reducible refine s_drop ?_
  | with_reducible refine s_for ?_
  | with_reducible refine s_lc ?_
  | with_reducible refine s_yes ?_
  | with_reducible refine s_bits ?_
  | with_reducible refine s_bitsV ?_
  | ((with_reducible refine' s_own ?h1 ?h2); (case h1 => assumption))
  | ((with_reducible refine' s_len ?h1 ?h2); (case h1 => assumption))
  | ((with_reducible refine' s_lenT ?h1 ?h2); (case h1 => assumption))
  | with_reducible refine s_iTup ?_
  | with_reducible refine s_iList ?_
  | with_reducible refine s_iStr ?_
  | with_reducible refine s_iRng1 ?_
  | with_reducible refine s_iRng2 ?_
  | with_reducible refine s_iEnum ?_
  | with_reducible refine s_iEnumT ?_
  | with_reducible refine s_iEnumS ?_
  | with_reducible refine s_iZip ?_
  | with_reducible refine s_iZipM ?_
  | with_reducible refine s_srcS ?_
  | with_reducible refine s_srcES ?_
  | ((with_reducible refine' s_srcT ?h1 ?h2); (case h1 => assumption))
  | ((with_reducible refine' s_srcL ?h1 ?h2); (case h1 => assumption))
  | ((with_reducible refine' s_srcE ?h1 ?h2); (case h1 => assumption))
  | ((with_reducible refine' s_srcET ?h1 ?h2); (case h1 => assumption))
  | ((with_reducible refine' s_rng1 ?h1 ?h2); (case h1 => omega))
  | ((with_reducible refine' s_rng2 ?h1 ?h2); (case h1 => omega))
  | with_reducible refine s_ckw ?_
  | ((with_reducible refine' s_sorted ?h1 ?h2); (case h1 => assumption))
  | ((with_reducible refine' s_inN ?h1 ?h2); (case h1 => assumption))
  | ((with_reducible refine' s_ninN ?h1 ?h2); (case h1 => assumption))
  | ((with_reducible refine' s_tupL ?h1 ?h2); (case h1 => assumption))
  | ((with_reducible refine' s_tupT ?h1 ?h2); (case h1 => assumption))
  | ((with_reducible refine' s_lstL ?h1 ?h2); (case h1 => assumption))
  | ((with_reducible refine' s_lstT ?h1 ?h2); (case h1 => assumption))
  | ((with_reducible refine' s_addS2 ?h1 ?h2); (case h1 => (simp only [List.length_append, letL_len]; omega)); (rw [sOf_add]))
  | with_reducible refine s_sl ?_
  | with_reducible refine s_part ?_
  | with_reducible refine s_partV ?_
  | with_reducible refine s_nopart ?_
  | ((with_reducible refine' s_cutTake ?h1 ?h2); (case h1 => assumption))
  | ((with_reducible refine' s_cutDrop ?h1 ?h2); (case h1 => assumption))
  | with_reducible refine s_isiII ?_
  | with_reducible refine s_isiIB ?_
  | with_reducible refine s_isiSS ?_
  | ((with_reducible refine' s_isiTT ?h1 ?h2); (case h1 => assumption))
  | ((with_reducible refine' s_aug ?h1 ?h2); (case h1 => rfl))
  | with_reducible refine s_ipN ?_
  | with_reducible refine s_ip ?_
  | with_reducible refine s_gsub ?_
  | with_reducible refine s_wh ?_
  | with_reducible refine s_join ?_
  | ((with_reducible refine' s_ixT ?h1 ?h2 ?h3); (case h1 => assumption); (case h2 => rfl))
  | ((with_reducible refine' s_at ?h1 ?h2 ?h3); (case h1 => assumption); (case h2 => assumption))
  | with_reducible refine s_make ?_
  | with_reducible refine s_dgetK ?_
  | with_reducible refine s_dput ?_
  | with_reducible refine s_chain ?_
  | with_reducible refine s_eqI ?_
  | with_reducible refine s_pcons ?_
  | with_reducible refine s_pnil ?_
  | with_reducible refine s_lrg ?_
  | with_reducible refine s_rg1 ?_
  | with_reducible refine s_rgV ?_)

section
variable {P : Program} {w : World} {K : PySem.W.Frag} {mg : Str → Option Value} {base : Heap}
def sp_law_some_code : Sp := fun vs H Q _ => ∃ a cp k, vs = [.ref a, nV 5] ∧ isPen H a cp k ∧ k ≤ 1000 ∧
  ∀ d kvs n rv gv hv rows ga hid r gd A B rows2 ga2 H', SameX a H H' → isPen H' a cp (k + 1000) → H d = none → H' d = some (.dK kvs) → CdK kvs n rv gv hv → isL isRow H' rv rows2 → isL isRow H' gv ga2 → isL isRP H' hv hid → DC n r gd A B rows ga hid → MoreR rows rows2 → MoreG n rows ga ga2 → 2 ≤ n → n ≤ 5 → rows2.length ≤ 11 → ga2.length ≤ 20 → Q (.ref d) H'
theorem ok_law_some_code (T : Tx K mg) : FnOk P w K mg base CX0 4 (He.fAd K ("_law_some_code", none)) T.fd_law_some_code ["_law_pen_here", "_law_most"] (sp_law_some_code) := by
  have G_law_draw := ok_law_draw (P := P) (w := w) (base := base) T
  have G_law_drawn_code := ok_law_drawn_code (P := P) (w := w) (base := base) T
  have G_law_with_more := ok_law_with_more (P := P) (w := w) (base := base) T
  refine okD T.F_law_some_code sc_law_some_code (fun vs H Q E h => by obtain ⟨a, cp, k, rfl, _⟩ := h; rfl) (fun cdv A outer s H vs Q E hr h => ?_)
  obtain ⟨a, cp, k, rfl, hpen, hk, kk⟩ := h
  refine ⟨_, (pss_cons (ps_set (i := 2) sc_law_some_code.nd rfl (.inl rfl) (pe_op on_add (pe_nat 2) (pe_call G_law_draw (hr.mono (by decide)) (by rfl) T.m_law_draw T.F_law_draw.kp T.b_law_draw .nil pass0 (pa_cons (pv 0) (pa_cons (pe_op on_sub (pv 1) (pe_nat 1)) pa_nil)))))
  (pss_cons (ps_set (i := 3) sc_law_some_code.nd rfl (.inl rfl) (pe_call G_law_draw (hr.mono (by decide)) (by rfl) T.m_law_draw T.F_law_draw.kp T.b_law_draw .nil pass0 (pa_cons (pv 0) (pa_cons (pe_op on_add (pv 2) (pe_nat 1)) pa_nil))))
  (pss_cons (ps_set (i := 4) sc_law_some_code.nd rfl (.inl rfl) (pe_call G_law_draw (hr.mono (by decide)) (by rfl) T.m_law_draw T.F_law_draw.kp T.b_law_draw .nil pass0 (pa_cons (pv 0) (pa_cons (pe_op on_add (pe_callB (xc_min rfl) (by rfl) T.n_min (by decide +kernel) (pa_cons (pe_op on_sub (pv 2) (pv 3)) (pa_cons (pe_nat 2) pa_nil))) (pe_nat 1)) pa_nil))))
  (pss_one (ps_ret (pe_call G_law_with_more (hr.mono (by decide)) (by rfl) T.m_law_with_more T.F_law_with_more.kp T.b_law_with_more .nil pass0 (pa_cons (pv 0) (pa_cons (pe_call G_law_drawn_code (hr.mono (by decide)) (by rfl) T.m_law_drawn_code T.F_law_drawn_code.kp T.b_law_drawn_code .nil pass0 (pa_cons (pv 0) (pa_cons (pv 2) (pa_cons (pv 3) (pa_cons (pv 4) pa_nil))))) pa_nil)))))))), ?_⟩
  repeat walk_at "st"
  refine ⟨a, cp, 5 - 1, k, rfl, hpen, by omega, by omega, by omega, fun d1 H1 hd1 sx1 hpen1 => ?_⟩
  repeat walk_at "st"
  refine ⟨a, cp, 2 + d1 + 1, k + 1, rfl, hpen1, by omega, by omega, by omega, fun r H2 hr2 sx2 hpen2 => ?_⟩
  repeat walk_at "st"
  refine ⟨a, cp, min (2 + d1 - r) 2 + 1, k + 1 + 1, rfl, hpen2, by omega, by omega, by omega, fun gd H3 hgd sx3 hpen3 => ?_⟩
  repeat walk_at "st"
  refine ⟨a, cp, 2 + d1, r, gd, k + 1 + 1 + 1, rfl, hpen3, by omega, by omega, by omega, by omega, fun dp kvs rv gv hv H4 A B rows ga hid sx4 hpen4 hdp hdp4 cd hrv hgv hhv dc hrl hgl => ?_⟩
  repeat walk_at "st"
  have nda : dp ≠ a := fun z => by obtain ⟨o, e⟩ := hpen3.got; rw [z, e] at hdp; cases hdp
  have sx03 := (sx1.trans sx2).trans sx3
  have hdpH : H dp = none := by
    cases e : H dp with
    | none => rfl
    | some o => have := sx03 _ _ nda e; rw [hdp] at this; cases this
  refine ⟨a, cp, dp, kvs, 2 + d1, rv, gv, hv, rows, ga, hid, r, gd, A, B, _, rfl, hpen4, by omega, hdp4, nda, cd, hrv, hgv, hhv, dc, by omega, by omega, hgl, fun kvs2 rv2 gv2 H5 rows2 ga2 keep5 hpen5 hd5 cd5 hrv5 hgv5 hhv5 mr mg lr lg => ?_⟩
  exact kk dp kvs2 (2 + d1) rv2 gv2 hv rows ga hid r gd A B rows2 ga2 H5 (fun b o h1 h => keep5 b o h1 (fun z => by rw [z, hdpH] at h; cases h) (sx4 _ _ h1 (sx03 _ _ h1 h))) (hpen5.le (by omega)) hdpH hd5 cd5 hrv5 hgv5 hhv5 dc mr mg (by omega) (by omega) lr lg
end
end Kq

set_option Elab.async false
set_option linter.all false
set_option maxRecDepth 100000
set_option maxHeartbeats 4000000
/-! the law's last small defs walked -/
namespace Kq
open PySem PySem.Spec PyProof.Rows L2 XG
local macro_rules | `(tactic| walk_at "st") => `(tactic| first
  | with_reducible refine s_seq ?_
  | ((with_reducible refine' s_var ?h1 ?h2); (case h1 => rfl))
  | with_reducible refine s_c ?_
  | with_reducible refine s_op ?_
  | with_reducible refine s_asg ?_
  | with_reducible refine s_name ?_
  | with_reducible refine s_cons ?_
  | with_reducible refine s_nil ?_
  | with_reducible refine s_call ?_
  | with_reducible refine s_CB ?_
  | with_reducible refine s_add ?_
  | ((with_reducible refine' s_sub ?h1 ?h2); (case h1 => omega))
  | ((with_reducible refine' s_mul ?h1 ?h2); (case h1 => omega))
  | ((with_reducible refine' s_mod ?h1 ?h2); (case h1 => omega))
  | ((with_reducible refine' s_div ?h1 ?h2); (case h1 => omega))
  | ((with_reducible refine' s_shl ?h1 ?h2); (case h1 => omega))
  | with_reducible refine s_shr ?_
  | with_reducible refine s_and ?_
  | with_reducible refine s_or ?_
  | with_reducible refine s_xor ?_
  | with_reducible refine s_lt ?_
  | with_reducible refine s_le ?_
  | with_reducible refine s_gt ?_
  | with_reducible refine s_ge ?_
  | with_reducible refine s_eqN ?_
  | with_reducible refine s_neN ?_
  | with_reducible refine s_eqS ?_
  | with_reducible refine s_neS ?_
  | with_reducible refine s_I0 ?_
  | with_reducible refine s_un ?_
  | with_reducible refine s_neg ?_
  | with_reducible refine s_test ?_
  | with_reducible refine s_B ?_
  | with_reducible refine s_bl ?_
  | with_reducible refine s_ifS ?_
  | with_reducible refine s_ifE ?_
  | with_reducible refine s_not ?_
  | with_reducible refine s_and2 ?_
  | with_reducible refine s_or2 ?_
  | with_reducible refine s_andV ?_
  | with_reducible refine s_orV ?_
  | with_reducible refine s_notV ?_
  | with_reducible refine s_tru ?_
  | with_reducible refine s_par ?_
  | with_reducible refine s_two ?_
  | with_reducible refine s_par3 ?_
  | with_reducible refine s_three ?_
  | with_reducible refine s_lst ?_
  | with_reducible refine s_tup ?_
  | ((with_reducible refine' s_size ?h1 ?h2); (case h1 => exact Nat.le_of_ble_eq_true rfl))
  | with_reducible refine s_fld ?_
  | with_reducible refine s_gcons ?_
  | with_reducible refine s_gnil ?_
  | with_reducible refine s_intN ?_
  | with_reducible refine s_intI ?_
  | with_reducible refine s_tTru ?_
  | with_reducible refine s_tBL ?_
  | with_reducible refine s_sign ?_
  | with_reducible refine s_min ?_
  | with_reducible refine s_sfld ?_
  | with_reducible refine s_gfld ?_
  | with_reducible refine s_intB ?_
  | with_reducible refine s_next ?_
  | with_reducible refine s_ret ?_
  | with_reducible refine s_drop ?_
  | with_reducible refine s_for ?_
  | with_reducible refine s_lc ?_
  | with_reducible refine s_yes ?_
  | with_reducible refine s_bits ?_
  | with_reducible refine s_bitsV ?_
  | ((with_reducible refine' s_own ?h1 ?h2); (case h1 => assumption))
  | ((with_reducible refine' s_len ?h1 ?h2); (case h1 => assumption))
  | ((with_reducible refine' s_lenT ?h1 ?h2); (case h1 => assumption))
  | with_reducible refine s_iTup ?_
  | with_reducible refine s_iList ?_
  | with_reducible refine s_iStr ?_
  | with_reducible refine s_iRng1 ?_
  | with_reducible refine s_iRng2 ?_
  | with_reducible refine s_iEnum ?_
  | with_reducible refine s_iEnumT ?_
  | with_reducible refine s_iEnumS ?_
  | with_reducible refine s_iZip ?_
  | with_reducible refine s_iZipM ?_
  | with_reducible refine s_srcS ?_
  | with_reducible refine s_srcES ?_
  | ((with_reducible refine' s_srcT ?h1 ?h2); (case h1 => assumption))
  | ((with_reducible refine' s_srcL ?h1 ?h2); (case h1 => assumption))
  | ((with_reducible refine' s_srcE ?h1 ?h2); (case h1 => assumption))
  | ((with_reducible refine' s_srcET ?h1 ?h2); (case h1 => assumption))
  | ((with_reducible refine' s_rng1 ?h1 ?h2); (case h1 => omega))
  | ((with_reducible refine' s_rng2 ?h1 ?h2); (case h1 => omega))
  | with_reducible refine s_ckw ?_
  | ((with_reducible refine' s_sorted ?h1 ?h2); (case h1 => assumption))
  | ((with_reducible refine' s_inN ?h1 ?h2); (case h1 => assumption))
  | ((with_reducible refine' s_ninN ?h1 ?h2); (case h1 => assumption))
  | ((with_reducible refine' s_tupL ?h1 ?h2); (case h1 => assumption))
  | ((with_reducible refine' s_tupT ?h1 ?h2); (case h1 => assumption))
  | ((with_reducible refine' s_lstL ?h1 ?h2); (case h1 => assumption))
  | ((with_reducible refine' s_lstT ?h1 ?h2); (case h1 => assumption))
  | ((with_reducible refine' s_addS2 ?h1 ?h2); (case h1 => (simp only [List.length_append, letL_len]; omega)); (rw [sOf_add]))
  | with_reducible refine s_sl ?_
  | with_reducible refine s_part ?_
  | with_reducible refine s_partV ?_
  | with_reducible refine s_nopart ?_
  | ((with_reducible refine' s_cutTake ?h1 ?h2); (case h1 => assumption))
  | ((with_reducible refine' s_cutDrop ?h1 ?h2); (case h1 => assumption))
  | with_reducible refine s_isiII ?_
  | with_reducible refine s_isiIB ?_
  | with_reducible refine s_isiSS ?_
  | ((with_reducible refine' s_isiTT ?h1 ?h2); (case h1 => assumption))
  | ((with_reducible refine' s_aug ?h1 ?h2); (case h1 => rfl))
  | with_reducible refine s_ipN ?_
  | with_reducible refine s_ip ?_
  | with_reducible refine s_gsub ?_
  | with_reducible refine s_wh ?_
  | with_reducible refine s_join ?_
  | ((with_reducible refine' s_ixT ?h1 ?h2 ?h3); (case h1 => assumption); (case h2 => rfl))
  | ((with_reducible refine' s_at ?h1 ?h2 ?h3); (case h1 => assumption); (case h2 => assumption))
  | with_reducible refine s_make ?_
  | with_reducible refine s_dgetK ?_
  | with_reducible refine s_dput ?_
  | with_reducible refine s_chain ?_
  | with_reducible refine s_eqI ?_
  | with_reducible refine s_pcons ?_
  | with_reducible refine s_pnil ?_
  | with_reducible refine s_lrg ?_
  | with_reducible refine s_rg1 ?_
  | with_reducible refine s_rgV ?_)

section
variable {P : Program} {w : World} {K : PySem.W.Frag} {mg : Str → Option Value} {base : Heap}
def sp_law_told (K : PySem.W.Frag) : Sp := fun vs H Q _ => ∃ v n r, vs = [v, nV n] ∧ isP K n H v r ∧ 1 ≤ n ∧ n ≤ 50 ∧ ∀ v' H', Same H H' → isRow H' v' r → Q v' H'
theorem ok_law_told (T : Tx K mg) : FnOk P w K mg base CX0 2 (He.fAd K ("_law_told", none)) T.fd_law_told ["_law_value", "_law_size"] (sp_law_told K) := by
  have G_law_of_text := ok_law_of_text (P := P) (w := w) (base := base) T
  refine okD T.F_law_told sc_law_told (fun vs H Q E h => by obtain ⟨v, n, r, rfl, _⟩ := h; rfl) (fun cdv A outer s H vs Q E hr h => ?_)
  obtain ⟨v, n, r, rfl, ⟨a, dx, fs, rfl, ha, l1, l2, l3, rok, _⟩, hn1, hn, k⟩ := h
  refine ⟨_, (pss_cons (ps_if (PW.pt (pw_or (pt_not (pt_val (pe_callB call_isi (by rfl) T.n_isinstance (by decide +kernel) (pa_cons (pv 0) (pa_cons (pe_glob (v := .ref (He.ga K "Pauli")) (by rfl) T.m_Pauli rfl) pa_nil))))) (pw_or (pt_cmpR on_ne (xe_fld T.c_Pauli T.a_Pauli_size (pv 0)) (pv 1) (nomark _)) (pw_or1 (pt_cmpR xo_ninL (xe_fld T.c_Pauli T.a_Pauli_phase (pv 0)) (pe_lst (pa_cons (pe_nat 0) (pa_cons (pe_nat 2) pa_nil))) (by rfl)))))) (pss_one (ps_ret pe_non)) pss_nil)
  (pss_cons (ps_set (i := 2) sc_law_told.nd rfl (.inl rfl) (pe_call G_law_of_text (hr.mono (by decide)) (by rfl) T.m_law_of_text T.F_law_of_text.kp T.b_law_of_text .nil pass0 (pa_cons (xe_fld T.c_Pauli T.a_Pauli_letters (pv 0)) pa_nil)))
  (pss_one (ps_ret (pe_tup (pa_cons (pe_ix xi_tup (pv 2) (pe_nat 0) (fun _ _ => rfl)) (pa_cons (pe_ix xi_tup (pv 2) (pe_nat 1) (fun _ _ => rfl)) (pa_cons (pe_op on_div (xe_fld T.c_Pauli T.a_Pauli_phase (pv 0)) (pe_nat 2)) pa_nil)))))))), ?_⟩
  repeat walk_at "st"
  refine s_isiC T.c_Pauli T.i_Pauli ha ?_
  refine s_bl ?_
  refine s_ifF rfl ?_
  repeat walk_at "st"
  refine s_ifF (by simp) ?_
  repeat walk_at "st"
  intro l5 hl5
  have s5 := same_new (o := .lst [nV 0, nV 2]) hl5
  have ha5 := s5 _ _ ha
  refine ⟨l5, _, rfl, upd_same, rfl, rfl, ?_⟩
  rw [if_pos rfl, inV_02 rok.2.2]
  refine s_bl ?_
  refine s_ifF rfl ?_
  generalize upd H l5 (.lst [nV 0, nV 2]) = H5 at s5 ha5
  repeat walk_at "st"
  refine ⟨r.x, r.z, n, rfl, hn1, by omega, rok.1, rok.2.1, fun v6 H6 s6 h6 => ?_⟩
  obtain ⟨p6, rfl, hp6⟩ := h6
  have ha6 := s6 _ _ ha5
  repeat walk_at "st"
  intro t7 ht7
  refine k _ _ (Same.nw (s5.trans s6) ht7) ⟨t7, rfl, ?_⟩
  rw [upd_same, show 2 * r.s / 2 = r.s by omega]
  rfl
def halv : Nat → Nat → Nat
  | 0, _ => 0
  | f + 1, n => if n ≤ 1 then 0 else halv f (n / 2) + 1
theorem halv_pow : ∀ (k f : Nat), k ≤ f → halv f (2 ^ k) = k
  | 0, 0, _ => rfl
  | 0, f + 1, _ => by unfold halv; rw [if_pos (by decide)]
  | k + 1, f + 1, h => by
    unfold halv
    have h2 := Nat.two_pow_pos k
    rw [if_neg (by rw [Nat.pow_succ]; omega), show 2 ^ (k + 1) / 2 = 2 ^ k by rw [Nat.pow_succ]; omega, halv_pow k f (by omega)]
def sp_law_halvings : Sp := fun vs H Q _ => ∃ n, vs = [nV n] ∧ Q (nV (halv 200 n)) H
theorem ok_law_halvings (T : Tx K mg) : FnOk P w K mg base CX0 1 (He.fAd K ("_law_halvings", none)) T.fd_law_halvings ["_law_number"] (sp_law_halvings) := by
  refine okD T.F_law_halvings sc_law_halvings (fun vs H Q E h => by obtain ⟨n, rfl, _⟩ := h; rfl) (fun cdv A outer s H vs Q E hr h => ?_)
  obtain ⟨n, rfl, k⟩ := h
  refine ⟨_, (pss_cons (ps_set (i := 1) sc_law_halvings.nd rfl (.inl rfl) (pe_nat 0))
  (pss_cons (ps_for PassesOwn.never rfl (pi_range1 rfl T.n_range (pa_cons (pe_nat 200) pa_nil)) (pg_name (i := 2) sc_law_halvings.nd rfl (.inl rfl))
  (pss_cons (ps_if (pt_cmpR on_le (pv 0) (pe_nat 1) (nomark _)) (pss_one ps_break) pss_nil)
  (pss_one (ps_par (by rfl) sc_law_halvings.nd (i := 0) (j := 1) rfl rfl (by decide) rfl rfl (pa_cons (pe_op on_div (pv 0) (pe_nat 2)) (pa_cons (pe_op on_add (pv 1) (pe_nat 1)) pa_nil)) (by rfl)))))
  (pss_one (ps_ret (pv 1))))), ?_⟩
  repeat walk_at "st"
  refine for_it (n := 200) walk_rg0 (fun i σ' H' => H' = H ∧ ∃ m c o, σ' = [some (nV m), some (nV c), o] ∧ c + halv (200 - i) m = halv 200 n) ⟨rfl, n, 0, _, rfl, by simp⟩ (fun _ _ _ _ _ => trivial) ?_ ?_
  · rintro i x σ' H1 H1' hin ⟨rfl, m, c, o, rfl, e⟩ ⟨rfl, rfl⟩
    rw [show 200 - i = (200 - (i + 1)) + 1 by omega] at e
    unfold halv at e
    repeat walk_at "st"
    refine s_if (fun z => ?_) (fun z => ?_)
    · have z := of_decide_eq_true z
      rw [if_pos z] at e
      show tRet (tVar 1) _ _ _
      repeat walk_at "st"
      rw [show c = halv 200 n by have e' : c + 0 = halv 200 n := e; omega]
      exact k
    · have z := of_decide_eq_false z
      rw [if_neg z] at e
      repeat walk_at "st"
      exact ⟨rfl, _, _, _, rfl, by have e' : c + (halv (200 - (i + 1)) (m / 2) + 1) = halv 200 n := e; omega⟩
  · rintro σ' H1 ⟨rfl, m, c, o, rfl, e⟩
    repeat walk_at "st"
    rw [show c = halv 200 n by have e' : c + 0 = halv 200 n := e; omega]
    exact k
/-- the sum of the places' powers -/
def maskOf (l : List Nat) : Nat := (l.map fun p => 1 <<< p).sum
theorem mask_bits {n : Nat} : ∀ (l : List Nat), l.Pairwise (· < ·) → (∀ p ∈ l, p < n) → maskOf l < 2 ^ n ∧ ∀ q, (maskOf l).testBit q = decide (q ∈ l) := by
  intro l
  induction l using snoc_ind generalizing n with
  | h0 => intro _ _; exact ⟨Nat.two_pow_pos n, fun q => by simp [maskOf]⟩
  | h1 l p ih =>
    intro hp hn
    rw [List.pairwise_append] at hp
    obtain ⟨h1, h2⟩ := ih (n := p) hp.1 fun q hq => hp.2.2 q hq p (List.mem_singleton.mpr rfl)
    have hpn := hn p (List.mem_append_right _ (List.mem_singleton.mpr rfl))
    have e : maskOf (l ++ [p]) = 2 ^ p ||| maskOf l := by
      unfold maskOf
      rw [List.map_append, List.sum_append]
      have := Nat.two_pow_add_eq_or_of_lt h1 1
      unfold maskOf at this
      rw [Nat.mul_one] at this
      rw [← this, List.map_singleton, Nat.shiftLeft_eq, Nat.one_mul]
      simp [Nat.add_comm]
    rw [e]
    refine ⟨?_, fun q => ?_⟩
    · refine Nat.or_lt_two_pow (Nat.pow_lt_pow_right (by decide) hpn) (Nat.lt_of_lt_of_le h1 (Nat.pow_le_pow_right (by decide) (by omega)))
    · rw [Nat.testBit_or, Nat.testBit_two_pow, h2]
      by_cases z : p = q
      · subst z; simp
      · have z' : ¬ q = p := fun y => z y.symm
        simp [z, z']
/-- within a lot -/
theorem mask_within {n : Nat} {l : List Nat} (h : Up n l) (v : V2) : (v.1 ||| v.2) &&& maskOf l = v.1 ||| v.2 ↔ Within l v := by
  have hm := (mask_bits l h.1 h.2).2
  constructor
  · intro e p hp
    have e2 : ((v.1 ||| v.2) &&& maskOf l).testBit p = (v.1 ||| v.2).testBit p := by rw [e]
    have e3 : (v.1 ||| v.2).testBit p = true := by
      rw [Nat.testBit_or]
      rcases hp with hp | hp <;> rw [hp] <;> simp
    rw [Nat.testBit_and, e3, hm] at e2
    simpa using e2
  · intro hw
    apply Nat.eq_of_testBit_eq
    intro p
    rw [Nat.testBit_and, hm]
    cases e : (v.1 ||| v.2).testBit p
    · rfl
    · rw [Nat.testBit_or, Bool.or_eq_true] at e
      simp [hw p e]
def sp_law_is_within : Sp := fun vs H Q _ => ∃ v u r l n, vs = [v, u] ∧ isRow H v r ∧ isBits H u l ∧ Up n l ∧ l.length ≤ 100 ∧ n ≤ 60 ∧ ∀ H', Same H H' → Q (.bl (decide ((r.x ||| r.z) &&& maskOf l = r.x ||| r.z))) H'
theorem ok_law_is_within (T : Tx K mg) : FnOk P w K mg base CX0 1 (He.fAd K ("_law_is_within", none)) T.fd_law_is_within ["_law_string", "_law_lot"] (sp_law_is_within) := by
  refine okD T.F_law_is_within sc_law_is_within (fun vs H Q E h => by obtain ⟨v, n, r, _, _, rfl, _⟩ := h; rfl) (fun cdv A outer s H vs Q E hr h => ?_)
  obtain ⟨v, u, r, l, n, rfl, ⟨p, rfl, hp⟩, ⟨q, rfl, hq⟩, hup, hl, hn, k⟩ := h
  refine ⟨_, (pss_cons (ps_set (i := 2) sc_law_is_within.nd rfl (.inl rfl) (pe_callB (xc_sum rfl) (by rfl) T.n_sum (by decide +kernel) (pa_cons (pe_lc (own := [("_law_place", 3)]) rfl sc_law_is_within.nd (pi_tup (pv 1)) (blkOk_by (N := ["_law_string", "_law_lot", "_law_mask", "_law_place"]) (sc := defScope s_law_is_within) (by decide +kernel)) (fun _ _ _ _ _ => (pg_name (i := 3) sc_law_is_within.nd rfl (.inl rfl))) (fun _ _ _ _ _ => pts_nil) (fun _ _ _ _ _ => (pe_op on_shl (pe_nat 1) (pv 3)))) pa_nil)))
  (pss_one (ps_ret (pe_cmpR on_eq (pe_op on_and (pe_op on_or (pe_ix xi_tup (pv 0) (pe_nat 0) (fun _ _ => rfl)) (pe_ix xi_tup (pv 0) (pe_nat 1) (fun _ _ => rfl))) (pv 2)) (pe_op on_or (pe_ix xi_tup (pv 0) (pe_nat 0) (fun _ _ => rfl)) (pe_ix xi_tup (pv 0) (pe_nat 1) (fun _ _ => rfl))) (nomark _))))), ?_⟩
  repeat walk_at "st"
  refine lcM (walk_tup (K := K) (xs := l.map nV)) l (fun p => 1 <<< p) isN monoN (by simp) (by simp; omega) (fun _ s => SqT.of (s _ _ hq)) (fun _ _ _ _ y => yat_same y) ?_ ?_
  · rintro i d x H1 H2 hd s1 ⟨rfl, y⟩ Qc qc
    obtain ⟨m, hm, rfl⟩ := getN y
    rw [hd] at hm
    cases hm
    have := hup.2 d (mem_idx hd)
    walk_at "st"
    refine ⟨rfl, ?_⟩
    repeat walk_at "st"
    exact qc _ _ (Same.refl _) rfl
  intro D vs1 H1 hD s1 h1 hi1
  obtain rfl := hi1.eqN
  have hp1 := s1 _ _ hp
  repeat walk_at "st"
  refine s_sum h1 ?_
  repeat walk_at "st"
  exact k _ s1
end
end Kq

set_option Elab.async false
set_option linter.all false
set_option maxHeartbeats 4000000
/-! all sums, listed; counting -/
namespace Kq
open XG
def spStep (ks : List V2) (s : V2) : List V2 := if s ∈ ks then ks else ks ++ ks.map (fun k => xo k s)
def spanOf (L : List V2) : List V2 := L.foldl spStep [ze]
theorem spStep_ok {L ks : List V2} (hn : ks.Nodup) (hm : ∀ x, x ∈ ks ↔ Sn L x) (s : V2) : (spStep ks s).Nodup ∧ ∀ x, x ∈ spStep ks s ↔ Sn (L ++ [s]) x := by
  unfold spStep
  by_cases h : s ∈ ks
  · rw [if_pos h]
    refine ⟨hn, fun x => ?_⟩
    rw [hm, Sn.app1]
    exact ⟨.inl, fun z => z.elim id fun z => by have := z.xo ((hm s).mp h); rw [xo_cancel] at this; exact this⟩
  · rw [if_neg h]
    constructor
    · rw [List.nodup_append]
      refine ⟨hn, nodup_map_inj (fun a b e => ?_) hn, fun a ha b hb e => ?_⟩
      · rw [XG.comm a, XG.comm b] at e
        exact xo_inj e
      · subst e
        obtain ⟨c, hc, e⟩ := List.mem_map.mp hb
        have h1 := ((hm a).mp ha).xo ((hm c).mp hc)
        rw [← e, XG.comm c s, xo_cancel] at h1
        exact h ((hm s).mpr h1)
    · intro x
      rw [List.mem_append, List.mem_map, hm, Sn.app1]
      refine or_congr Iff.rfl ⟨?_, fun z => ⟨xo x s, (hm _).mpr z, xo_cancel _ _⟩⟩
      rintro ⟨c, hc, rfl⟩
      rw [xo_cancel]; exact (hm c).mp hc
theorem spanOf_ok (L : List V2) : (spanOf L).Nodup ∧ ∀ x, x ∈ spanOf L ↔ Sn L x := by
  induction L using snoc_ind with
  | h0 => exact ⟨by simp [spanOf], fun x => by rw [Sn.nil]; simp [spanOf]⟩
  | h1 l a ih =>
    have e : spanOf (l ++ [a]) = spStep (spanOf l) a := by unfold spanOf; rw [List.foldl_append]; rfl
    rw [e]
    exact spStep_ok ih.1 ih.2 a
theorem spanOf_len {L : List V2} (h : Ind L) : (spanOf L).length = 2 ^ L.length := by
  rw [nodup_len (spanOf_ok L).1 (sums_nodup h) fun a => by rw [(spanOf_ok L).2, mem_sums], sums_length]
theorem nodup_flat {α β : Type} {f : α → List β} : ∀ {l : List α}, (∀ a ∈ l, (f a).Nodup) → l.Pairwise (fun a b => ∀ x, x ∈ f a → x ∈ f b → False) → (l.flatMap f).Nodup
  | [], _, _ => List.nodup_nil
  | a :: l, h1, h2 => by
    rw [List.pairwise_cons] at h2
    rw [List.flatMap_cons, List.nodup_append]
    refine ⟨h1 a List.mem_cons_self, nodup_flat (fun b hb => h1 b (List.mem_cons_of_mem _ hb)) h2.2, fun x hx y hy e => ?_⟩
    subst e
    obtain ⟨b, hb, hxb⟩ := List.mem_flatMap.mp hy
    exact h2.1 b hb x hx hxb
/-- counting by a sum of two parts that share nothing -/
theorem count_split {all : List V2} (hall : all.Nodup) {C E : V2 → Bool} {F : List V2} (hF : Ind F)
    (hmem : ∀ x, C x = true → x ∈ all) (hFC : ∀ f, Sn F f → C f = true) (hxo : ∀ a b, C a = true → C b = true → C (xo a b) = true)
    (hdis : ∀ x, Sn F x → E x = true → x = ze) (hE : ∀ a b, E a = true → E b = true → E (xo a b) = true)
    (hsp : ∀ x, C x = true → ∃ e f, E e = true ∧ Sn F f ∧ x = xo e f) :
    (all.filter C).length = (all.filter fun x => C x && E x).length * 2 ^ F.length := by
  have hprod : ((all.filter fun x => C x && E x).flatMap fun e => (sums F).map fun f => xo e f).Nodup := by
    refine nodup_flat (fun e _ => nodup_map_inj (fun a b z => xo_inj z) (sums_nodup hF)) ?_
    refine List.Pairwise.imp_of_mem ?_ (hall.filter _)
    intro e e' he he' hne
    intro x hx hx'
    obtain ⟨f, hf, rfl⟩ := List.mem_map.mp hx
    obtain ⟨f', hf', z⟩ := List.mem_map.mp hx'
    have he2 := (List.mem_filter.mp he).2
    have he2' := (List.mem_filter.mp he').2
    rw [Bool.and_eq_true] at he2 he2'
    have hee : xo e e' = xo f f' := by
      have h1 : xo (xo e f) (xo e' f') = ze := by rw [z, XG.self]
      rw [xo_swap] at h1
      exact xo_ze h1
    have := hdis (xo f f') ((mem_sums.mp hf).xo (mem_sums.mp hf')) (by rw [← hee]; exact hE e e' he2.2 he2'.2)
    rw [this] at hee
    exact hne (xo_ze hee)
  have hlen : ((all.filter fun x => C x && E x).flatMap fun e => (sums F).map fun f => xo e f).length = (all.filter fun x => C x && E x).length * 2 ^ F.length := by
    rw [List.length_flatMap]
    have : ((all.filter fun x => C x && E x).map fun e => ((sums F).map fun f => xo e f).length) = (all.filter fun x => C x && E x).map fun _ => 2 ^ F.length := List.map_congr_left fun e _ => by rw [List.length_map, sums_length]
    rw [this]
    generalize (all.filter fun x => C x && E x) = l
    induction l with
    | nil => simp
    | cons a l ih => rw [List.map_cons, List.sum_cons, ih, List.length_cons, Nat.add_mul, Nat.one_mul, Nat.add_comm]
  rw [← hlen]
  refine nodup_len (hall.filter _) hprod fun x => ?_
  rw [List.mem_filter, List.mem_flatMap]
  constructor
  · rintro ⟨_, hx⟩
    obtain ⟨e, f, he, hf, rfl⟩ := hsp x hx
    have hce : C e = true := by
      have := hxo _ _ hx (hFC f hf)
      rw [xo_cancel] at this; exact this
    exact ⟨e, List.mem_filter.mpr ⟨hmem e hce, by rw [hce, he]; rfl⟩, List.mem_map.mpr ⟨f, mem_sums.mpr hf, rfl⟩⟩
  · rintro ⟨e, he, hx⟩
    obtain ⟨f, hf, rfl⟩ := List.mem_map.mp hx
    have he2 := (List.mem_filter.mp he).2
    rw [Bool.and_eq_true] at he2
    have := hxo _ _ he2.1 (hFC f (mem_sums.mp hf))
    exact ⟨hmem _ this, this⟩
end Kq

set_option Elab.async false
set_option linter.all false
set_option maxRecDepth 100000
set_option maxHeartbeats 4000000
/-! the pen and the lots walked -/
namespace Kq
open PySem PySem.Spec PyProof.Rows L2 XG
local macro_rules | `(tactic| walk_at "st") => `(tactic| first
  | with_reducible refine s_seq ?_
  | ((with_reducible refine' s_var ?h1 ?h2); (case h1 => rfl))
  | with_reducible refine s_c ?_
  | with_reducible refine s_op ?_
  | with_reducible refine s_asg ?_
  | with_reducible refine s_name ?_
  | with_reducible refine s_cons ?_
  | with_reducible refine s_nil ?_
  | with_reducible refine s_call ?_
  | with_reducible refine s_CB ?_
  | with_reducible refine s_add ?_
  | ((with_reducible refine' s_sub ?h1 ?h2); (case h1 => omega))
  | ((with_reducible refine' s_mul ?h1 ?h2); (case h1 => omega))
  | ((with_reducible refine' s_mod ?h1 ?h2); (case h1 => omega))
  | ((with_reducible refine' s_div ?h1 ?h2); (case h1 => omega))
  | ((with_reducible refine' s_shl ?h1 ?h2); (case h1 => omega))
  | with_reducible refine s_shr ?_
  | with_reducible refine s_and ?_
  | with_reducible refine s_or ?_
  | with_reducible refine s_xor ?_
  | with_reducible refine s_lt ?_
  | with_reducible refine s_le ?_
  | with_reducible refine s_gt ?_
  | with_reducible refine s_ge ?_
  | with_reducible refine s_eqN ?_
  | with_reducible refine s_neN ?_
  | with_reducible refine s_eqS ?_
  | with_reducible refine s_neS ?_
  | with_reducible refine s_I0 ?_
  | with_reducible refine s_un ?_
  | with_reducible refine s_neg ?_
  | with_reducible refine s_test ?_
  | with_reducible refine s_B ?_
  | with_reducible refine s_bl ?_
  | with_reducible refine s_ifS ?_
  | with_reducible refine s_ifE ?_
  | with_reducible refine s_not ?_
  | with_reducible refine s_and2 ?_
  | with_reducible refine s_or2 ?_
  | with_reducible refine s_andV ?_
  | with_reducible refine s_orV ?_
  | with_reducible refine s_notV ?_
  | with_reducible refine s_tru ?_
  | with_reducible refine s_par ?_
  | with_reducible refine s_two ?_
  | with_reducible refine s_par3 ?_
  | with_reducible refine s_three ?_
  | with_reducible refine s_lst ?_
  | with_reducible refine s_tup ?_
  | ((with_reducible refine' s_size ?h1 ?h2); (case h1 => exact Nat.le_of_ble_eq_true rfl))
  | with_reducible refine s_fld ?_
  | with_reducible refine s_gcons ?_
  | with_reducible refine s_gnil ?_
  | with_reducible refine s_intN ?_
  | with_reducible refine s_intI ?_
  | with_reducible refine s_tTru ?_
  | with_reducible refine s_tBL ?_
  | with_reducible refine s_sign ?_
  | with_reducible refine s_min ?_
  | with_reducible refine s_sfld ?_
  | with_reducible refine s_gfld ?_
  | with_reducible refine s_intB ?_
  | with_reducible refine s_next ?_
  | with_reducible refine s_ret ?_
  | with_reducible refine s_drop ?_
  | with_reducible refine s_for ?_
  | with_reducible refine s_lc ?_
  | with_reducible refine s_yes ?_
  | with_reducible refine s_bits ?_
  | with_reducible refine s_bitsV ?_
  | ((with_reducible refine' s_own ?h1 ?h2); (case h1 => assumption))
  | ((with_reducible refine' s_len ?h1 ?h2); (case h1 => assumption))
  | ((with_reducible refine' s_lenT ?h1 ?h2); (case h1 => assumption))
  | with_reducible refine s_iTup ?_
  | with_reducible refine s_iList ?_
  | with_reducible refine s_iStr ?_
  | with_reducible refine s_iRng1 ?_
  | with_reducible refine s_iRng2 ?_
  | with_reducible refine s_iEnum ?_
  | with_reducible refine s_iEnumT ?_
  | with_reducible refine s_iEnumS ?_
  | with_reducible refine s_iZip ?_
  | with_reducible refine s_iZipM ?_
  | with_reducible refine s_srcS ?_
  | with_reducible refine s_srcES ?_
  | ((with_reducible refine' s_srcT ?h1 ?h2); (case h1 => assumption))
  | ((with_reducible refine' s_srcL ?h1 ?h2); (case h1 => assumption))
  | ((with_reducible refine' s_srcE ?h1 ?h2); (case h1 => assumption))
  | ((with_reducible refine' s_srcET ?h1 ?h2); (case h1 => assumption))
  | ((with_reducible refine' s_rng1 ?h1 ?h2); (case h1 => omega))
  | ((with_reducible refine' s_rng2 ?h1 ?h2); (case h1 => omega))
  | with_reducible refine s_ckw ?_
  | ((with_reducible refine' s_sorted ?h1 ?h2); (case h1 => assumption))
  | ((with_reducible refine' s_inN ?h1 ?h2); (case h1 => assumption))
  | ((with_reducible refine' s_ninN ?h1 ?h2); (case h1 => assumption))
  | ((with_reducible refine' s_tupL ?h1 ?h2); (case h1 => assumption))
  | ((with_reducible refine' s_tupT ?h1 ?h2); (case h1 => assumption))
  | ((with_reducible refine' s_lstL ?h1 ?h2); (case h1 => assumption))
  | ((with_reducible refine' s_lstT ?h1 ?h2); (case h1 => assumption))
  | ((with_reducible refine' s_addS2 ?h1 ?h2); (case h1 => (simp only [List.length_append, letL_len]; omega)); (rw [sOf_add]))
  | with_reducible refine s_sl ?_
  | with_reducible refine s_part ?_
  | with_reducible refine s_partV ?_
  | with_reducible refine s_nopart ?_
  | ((with_reducible refine' s_cutTake ?h1 ?h2); (case h1 => assumption))
  | ((with_reducible refine' s_cutDrop ?h1 ?h2); (case h1 => assumption))
  | with_reducible refine s_isiII ?_
  | with_reducible refine s_isiIB ?_
  | with_reducible refine s_isiSS ?_
  | ((with_reducible refine' s_isiTT ?h1 ?h2); (case h1 => assumption))
  | ((with_reducible refine' s_aug ?h1 ?h2); (case h1 => rfl))
  | with_reducible refine s_ipN ?_
  | with_reducible refine s_ip ?_
  | with_reducible refine s_gsub ?_
  | with_reducible refine s_wh ?_
  | with_reducible refine s_join ?_
  | ((with_reducible refine' s_ixT ?h1 ?h2 ?h3); (case h1 => assumption); (case h2 => rfl))
  | ((with_reducible refine' s_at ?h1 ?h2 ?h3); (case h1 => assumption); (case h2 => assumption))
  | with_reducible refine s_make ?_
  | with_reducible refine s_dgetK ?_
  | with_reducible refine s_dput ?_
  | with_reducible refine s_chain ?_
  | with_reducible refine s_eqI ?_
  | with_reducible refine s_pcons ?_
  | with_reducible refine s_pnil ?_
  | with_reducible refine s_lrg ?_
  | with_reducible refine s_rg1 ?_
  | with_reducible refine s_rgV ?_)

section
variable {P : Program} {w : World} {K : PySem.W.Frag} {mg : Str → Option Value} {base : Heap}
def lotOf (n i : Nat) : List Nat := (List.range n).filter fun p => i.testBit p
theorem lot_up (n i : Nat) : Up n (lotOf n i) := ⟨(List.pairwise_lt_range (n := n)).filter _, fun p hp => List.mem_range.mp (List.mem_filter.mp hp).1⟩
theorem lot_len (n i : Nat) : (lotOf n i).length ≤ n := Nat.le_trans (List.length_filter_le ..) (by simp)
def sp_law_lots : Sp := fun vs H Q _ => ∃ n, vs = [nV n] ∧ n ≤ 10 ∧ ∀ v' H', Same H H' → isL isBits H' v' ((List.range (2 ^ n)).map (lotOf n)) → Q v' H'
theorem ok_law_lots (T : Tx K mg) : FnOk P w K mg base CX0 1 (He.fAd K ("_law_lots", none)) T.fd_law_lots ["_law_size"] (sp_law_lots) := by
  refine okD T.F_law_lots sc_law_lots (fun vs H Q E h => by obtain ⟨n, rfl, _⟩ := h; rfl) (fun cdv A outer s H vs Q E hr h => ?_)
  obtain ⟨n, rfl, hn, k⟩ := h
  refine ⟨_, (pss_cons (ps_set (i := 1) sc_law_lots.nd rfl (.inl rfl) (pe_lst pa_nil))
  (pss_cons (ps_for PassesOwn.never rfl (pi_range1 rfl T.n_range (pa_cons (pe_op on_shl (pe_nat 1) (pv 0)) pa_nil)) (pg_name (i := 2) sc_law_lots.nd rfl (.inr rfl))
  (pss_one (ps_expr (xe_bl PySem.F.slot_list_append PySem.F.type_list_append mt_append (pv 1) (pa_cons (pe_callTy xc_tupL (by rfl) T.n_tuple (by decide +kernel) (pa_cons (pe_lc (own := [("_law_place", 3)]) rfl sc_law_lots.nd (pi_range1 rfl T.n_range (pa_cons (pv 0) pa_nil)) (blkOk_by (N := ["_law_size", "_law_found", "_law_index", "_law_place"]) (sc := defScope s_law_lots) (by decide +kernel)) (fun _ _ _ _ _ => (pg_name (i := 3) sc_law_lots.nd rfl (.inl rfl))) (fun _ _ _ _ _ => (pts_one (pt_cmpR on_eq (pe_op on_mod (pe_callTy xc_intN (by rfl) T.n_int (by decide +kernel) (pa_cons (pe_op on_shr (pv 2) (pv 3)) pa_nil)) (pe_nat 2)) (pe_nat 1) (nomark _)))) (fun _ _ _ _ _ => (pv 3))) pa_nil)) pa_nil)))))
  (pss_one (ps_ret (pv 1))))), ?_⟩
  have h2n : 2 ^ n ≤ 1024 := Nat.pow_le_pow_right (n := 2) (by decide) (show n ≤ 10 from hn)
  repeat walk_at "st"
  intro fp hfp
  have e1 : 1 <<< n = 2 ^ n := by rw [Nat.shiftLeft_eq, Nat.one_mul]
  repeat walk_at "st"
  rw [e1]
  repeat walk_at "st"
  refine for_it (n := 2 ^ n) walk_rg0 (fun i σ' H' => ∃ xs o2, σ' = [some (nV n), some (.ref fp), o2, none] ∧ Same H H' ∧ H' fp = some (.lst xs) ∧ Itm isBits H' xs ((List.range i).map (lotOf n))) ⟨[], _, rfl, same_new hfp, upd_same, .nil⟩ (fun _ _ _ _ _ => trivial) ?_ ?_
  · rintro i x σ' H1 H1' hin ⟨xs, o2, rfl, s1, h1, hi1⟩ ⟨rfl, rfl⟩
    have hxl := hi1.len
    rw [List.length_map, List.length_range] at hxl
    repeat walk_at "st"
    refine lcF (n := n) walk_rg0 (List.range n) id (fun p => decide (i >>> p % 2 = 1)) isN monoN (by simp) (by omega) (fun _ _ => trivial) (fun _ _ _ _ y => yfn_same y) ?_ ?_
    · rintro j d y H3 H4 hd s3 ⟨rfl, rfl⟩ Qc Qn qc qn
      obtain ⟨hj, rfl⟩ := List.getElem?_eq_some_iff.mp hd
      rw [List.getElem_range] at qc qn
      walk_at "st"
      refine ⟨rfl, ?_⟩
      repeat walk_at "st"
      refine s_if (fun e => ?_) (fun e => ?_)
      · repeat walk_at "st"
        exact qc _ _ e (Same.refl _) rfl
      · exact qn _ e (Same.refl _)
    intro D vs3 H3 hD s3 h3 hi3
    rw [List.map_id, show (List.range n).filter (fun p => decide (i >>> p % 2 = 1)) = lotOf n i from by
      unfold lotOf
      congr 1
      funext p
      rw [bit_mod]; cases i.testBit p <;> rfl] at hi3
    obtain rfl := hi3.eqN
    have h13 := s3 _ _ h1
    repeat walk_at "st"
    intro t4 ht4
    have s4 := same_new (o := .tup ((lotOf n i).map nV)) ht4
    have h14 := s4 _ _ h13
    repeat walk_at "st"
    refine s_append h14 (by omega) ?_
    have so := Sol.updL (o := .lst (xs ++ [.ref t4])) h14
    have nt : t4 ≠ fp := fun z => by rw [z, h13] at ht4; cases ht4
    refine ⟨xs ++ [.ref t4], _, rfl, same_mut ((s1.trans s3).trans s4) hfp, upd_same, ?_⟩
    rw [List.range_succ, List.map_append]
    exact (hi1.mono monoBits ((Sol.of (s3.trans s4)).trans so)).app (Itm.one ⟨t4, rfl, by rw [upd_ne nt]; exact upd_same⟩)
  · rintro σ' H1 ⟨xs, o2, rfl, s1, h1, hi1⟩
    repeat walk_at "st"
    exact k _ _ s1 ⟨fp, xs, rfl, h1, hi1⟩
def sp_law_pen (K : PySem.W.Frag) : Sp := fun vs H Q _ => ∃ (p : Addr) (cells : List Int), vs = [.ref p] ∧ SqL K H p (cells.map V.int) ∧ cells.length ≤ 1000 ∧ ∀ a cp H', Same H H' → H a = none → isPen H' a cp 0 → Q (.ref a) H'
theorem ok_law_pen (T : Tx K mg) : FnOk P w K mg base CX0 1 (He.fAd K ("_law_pen", none)) T.fd_law_pen ["_law_script"] (sp_law_pen K) := by
  refine okD T.F_law_pen sc_law_pen (fun vs H Q E h => by obtain ⟨n, _, rfl, _⟩ := h; rfl) (fun cdv A outer s H vs Q E hr h => ?_)
  obtain ⟨p, cells, rfl, hp, hl, k⟩ := h
  refine ⟨_, (pss_cons (ps_set (i := 1) sc_law_pen.nd rfl (.inl rfl) pe_int)
  (pss_cons (ps_for PassesOwn.never rfl (pi_list (pv 0)) (pg_name (i := 2) sc_law_pen.nd rfl (.inl rfl))
  (pss_one (ps_set (i := 1) sc_law_pen.nd rfl (.inl rfl) (pe_op op_mod (pe_callTy xc_intI (by rfl) T.n_int (by decide +kernel) (pa_cons (pe_op op_add (pe_op op_mul (pv 1) (pe_nat 43)) (pv 2)) pa_nil)) (pe_nat 1000000007)))))
  (pss_one (ps_ret (pe_disp (pps_cons pe_str (pe_callTy call_list_of (by rfl) T.n_list (by decide +kernel) (pa_cons (pv 0) pa_nil)) (pps_cons pe_str (pe_nat 0) (pps_cons pe_str (pe_nat 0) (pps_cons pe_str (pe_nat 0) (pps_cons pe_str (pv 1) pps_nil))))) (by rfl) (by rfl) (fun z => by cases z) (by decide)))))), ?_⟩
  repeat walk_at "st"
  refine ⟨p, rfl, ⟨_, hp⟩, ?_⟩
  refine for_it (n := (cells.map V.int).length) (walk_list (K := K) (xs := cells.map V.int)) (fun i σ' H' => H' = H ∧ ∃ f o, σ' = [some (.ref p), some (.int f), o] ∧ 0 ≤ f ∧ f < 2147483587) ⟨rfl, 0, _, rfl, by decide, by decide⟩ (fun _ _ _ _ h => by rw [h.1]; exact hp) ?_ ?_
  · rintro i x σ' H1 H1' hin ⟨rfl, f, o, rfl, h0, h1⟩ ⟨rfl, y⟩
    rw [List.getElem?_map] at y
    obtain ⟨c, hc⟩ : ∃ c, cells[i]? = some c := ⟨cells[i]'(by simpa using hin), by simp⟩
    rw [hc] at y
    cases y
    repeat walk_at "st"
    refine s_I (.inr (by decide)) ?_
    repeat walk_at "st"
    refine s_I (by decide) ?_
    repeat walk_at "st"
    exact ⟨rfl, _, _, rfl, Int.emod_nonneg _ (by decide), Int.lt_of_lt_of_le (Int.emod_lt_of_pos _ (by decide)) (by decide)⟩
  rintro σ' H1 ⟨rfl, f, o, rfl, h0, h1⟩
  repeat walk_at "st"
  refine s_disp ?_
  intro dp hdp
  have s1 := same_new (o := .dK []) hdp
  have hp1 := hp.ext s1
  repeat walk_at "st"
  refine ⟨p, cells.map V.int, rfl, .inl hp1, ?_⟩
  intro cp hcp
  have s2 := same_new (o := .lst (cells.map V.int)) hcp
  repeat walk_at "st"
  refine ⟨s2 _ _ upd_same, [(.inr (Str.ofString "cells"), .ref cp), (.inr (Str.ofString "at"), nV 0), (.inr (Str.ofString "digits"), nV 0), (.inr (Str.ofString "count"), nV 0), (.inr (Str.ofString "fold"), .int f)], rfl, by simp, ?_⟩
  have ncd : cp ≠ dp := fun z => by rw [z, upd_same] at hcp; cases hcp
  refine k dp cp _ (same_mut (s1.trans s2) hdp) hdp ⟨_, cells, 0, 0, 0, f, upd_same, ?_, by rw [upd_ne ncd]; exact upd_same, Nat.le_refl _, Int.le_refl _, h0, h1⟩
  unfold mergeK
  rw [List.foldl_cons, List.foldl_cons, List.foldl_cons, List.foldl_cons, List.foldl_cons, List.foldl_nil]
  dsimp only
  have hlp : ∀ (kvs : List (Key × V)) (k : Key) (v : V), (putK kvs k v).length ≤ kvs.length + 1 := fun kvs k v => by
    unfold putK
    split
    · rw [List.length_map]; omega
    · rw [List.length_append, List.length_singleton]; omega
  refine ⟨?_, ?_, ?_, ?_, ?_, ?_⟩
  · refine Nat.le_trans (hlp _ _ _) (Nat.succ_le_succ (Nat.le_trans (hlp _ _ _) (Nat.succ_le_succ (Nat.le_trans (hlp _ _ _) (Nat.succ_le_succ (Nat.le_trans (hlp _ _ _) (Nat.succ_le_succ (Nat.le_trans (hlp _ _ _) (by simp)))))))))
  · rw [valV_put, if_neg (inr_ne (by decide +kernel)), valV_put, if_neg (inr_ne (by decide +kernel)), valV_put, if_neg (inr_ne (by decide +kernel)), valV_put, if_neg (inr_ne (by decide +kernel)), valV_put, if_pos rfl]
  · rw [valV_put, if_neg (inr_ne (by decide +kernel)), valV_put, if_neg (inr_ne (by decide +kernel)), valV_put, if_neg (inr_ne (by decide +kernel)), valV_put, if_pos rfl]
  · rw [valV_put, if_neg (inr_ne (by decide +kernel)), valV_put, if_neg (inr_ne (by decide +kernel)), valV_put, if_pos rfl]; rfl
  · rw [valV_put, if_neg (inr_ne (by decide +kernel)), valV_put, if_pos rfl]
  · rw [valV_put, if_pos rfl]
end
end Kq

set_option Elab.async false
set_option linter.all false
set_option maxRecDepth 100000
set_option maxHeartbeats 4000000
/-! all sums walked -/
namespace Kq
open PySem PySem.Spec PyProof.Rows L2 XG
local macro_rules | `(tactic| walk_at "st") => `(tactic| first
  | with_reducible refine s_seq ?_
  | ((with_reducible refine' s_var ?h1 ?h2); (case h1 => rfl))
  | with_reducible refine s_c ?_
  | with_reducible refine s_op ?_
  | with_reducible refine s_asg ?_
  | with_reducible refine s_name ?_
  | with_reducible refine s_cons ?_
  | with_reducible refine s_nil ?_
  | with_reducible refine s_call ?_
  | with_reducible refine s_CB ?_
  | with_reducible refine s_add ?_
  | ((with_reducible refine' s_sub ?h1 ?h2); (case h1 => omega))
  | ((with_reducible refine' s_mul ?h1 ?h2); (case h1 => omega))
  | ((with_reducible refine' s_mod ?h1 ?h2); (case h1 => omega))
  | ((with_reducible refine' s_div ?h1 ?h2); (case h1 => omega))
  | ((with_reducible refine' s_shl ?h1 ?h2); (case h1 => omega))
  | with_reducible refine s_shr ?_
  | with_reducible refine s_and ?_
  | with_reducible refine s_or ?_
  | with_reducible refine s_xor ?_
  | with_reducible refine s_lt ?_
  | with_reducible refine s_le ?_
  | with_reducible refine s_gt ?_
  | with_reducible refine s_ge ?_
  | with_reducible refine s_eqN ?_
  | with_reducible refine s_neN ?_
  | with_reducible refine s_eqS ?_
  | with_reducible refine s_neS ?_
  | with_reducible refine s_I0 ?_
  | with_reducible refine s_un ?_
  | with_reducible refine s_neg ?_
  | with_reducible refine s_test ?_
  | with_reducible refine s_B ?_
  | with_reducible refine s_bl ?_
  | with_reducible refine s_ifS ?_
  | with_reducible refine s_ifE ?_
  | with_reducible refine s_not ?_
  | with_reducible refine s_and2 ?_
  | with_reducible refine s_or2 ?_
  | with_reducible refine s_andV ?_
  | with_reducible refine s_orV ?_
  | with_reducible refine s_notV ?_
  | with_reducible refine s_tru ?_
  | with_reducible refine s_par ?_
  | with_reducible refine s_two ?_
  | with_reducible refine s_par3 ?_
  | with_reducible refine s_three ?_
  | with_reducible refine s_lst ?_
  | with_reducible refine s_tup ?_
  | ((with_reducible refine' s_size ?h1 ?h2); (case h1 => exact Nat.le_of_ble_eq_true rfl))
  | with_reducible refine s_fld ?_
  | with_reducible refine s_gcons ?_
  | with_reducible refine s_gnil ?_
  | with_reducible refine s_intN ?_
  | with_reducible refine s_intI ?_
  | with_reducible refine s_tTru ?_
  | with_reducible refine s_tBL ?_
  | with_reducible refine s_sign ?_
  | with_reducible refine s_min ?_
  | with_reducible refine s_sfld ?_
  | with_reducible refine s_gfld ?_
  | with_reducible refine s_intB ?_
  | with_reducible refine s_next ?_
  | with_reducible refine s_ret ?_
  | with_reducible refine s_drop ?_
  | with_reducible refine s_for ?_
  | with_reducible refine s_lc ?_
  | with_reducible refine s_yes ?_
  | with_reducible refine s_bits ?_
  | with_reducible refine s_bitsV ?_
  | ((with_reducible refine' s_own ?h1 ?h2); (case h1 => assumption))
  | ((with_reducible refine' s_len ?h1 ?h2); (case h1 => assumption))
  | ((with_reducible refine' s_lenT ?h1 ?h2); (case h1 => assumption))
  | with_reducible refine s_iTup ?_
  | with_reducible refine s_iList ?_
  | with_reducible refine s_iStr ?_
  | with_reducible refine s_iRng1 ?_
  | with_reducible refine s_iRng2 ?_
  | with_reducible refine s_iEnum ?_
  | with_reducible refine s_iEnumT ?_
  | with_reducible refine s_iEnumS ?_
  | with_reducible refine s_iZip ?_
  | with_reducible refine s_iZipM ?_
  | with_reducible refine s_srcS ?_
  | with_reducible refine s_srcES ?_
  | ((with_reducible refine' s_srcT ?h1 ?h2); (case h1 => assumption))
  | ((with_reducible refine' s_srcL ?h1 ?h2); (case h1 => assumption))
  | ((with_reducible refine' s_srcE ?h1 ?h2); (case h1 => assumption))
  | ((with_reducible refine' s_srcET ?h1 ?h2); (case h1 => assumption))
  | ((with_reducible refine' s_rng1 ?h1 ?h2); (case h1 => omega))
  | ((with_reducible refine' s_rng2 ?h1 ?h2); (case h1 => omega))
  | with_reducible refine s_ckw ?_
  | ((with_reducible refine' s_sorted ?h1 ?h2); (case h1 => assumption))
  | ((with_reducible refine' s_inN ?h1 ?h2); (case h1 => assumption))
  | ((with_reducible refine' s_ninN ?h1 ?h2); (case h1 => assumption))
  | ((with_reducible refine' s_tupL ?h1 ?h2); (case h1 => assumption))
  | ((with_reducible refine' s_tupT ?h1 ?h2); (case h1 => assumption))
  | ((with_reducible refine' s_lstL ?h1 ?h2); (case h1 => assumption))
  | ((with_reducible refine' s_lstT ?h1 ?h2); (case h1 => assumption))
  | ((with_reducible refine' s_addS2 ?h1 ?h2); (case h1 => (simp only [List.length_append, letL_len]; omega)); (rw [sOf_add]))
  | with_reducible refine s_sl ?_
  | with_reducible refine s_part ?_
  | with_reducible refine s_partV ?_
  | with_reducible refine s_nopart ?_
  | ((with_reducible refine' s_cutTake ?h1 ?h2); (case h1 => assumption))
  | ((with_reducible refine' s_cutDrop ?h1 ?h2); (case h1 => assumption))
  | with_reducible refine s_isiII ?_
  | with_reducible refine s_isiIB ?_
  | with_reducible refine s_isiSS ?_
  | ((with_reducible refine' s_isiTT ?h1 ?h2); (case h1 => assumption))
  | ((with_reducible refine' s_aug ?h1 ?h2); (case h1 => rfl))
  | with_reducible refine s_ipN ?_
  | with_reducible refine s_ip ?_
  | with_reducible refine s_gsub ?_
  | with_reducible refine s_wh ?_
  | with_reducible refine s_join ?_
  | ((with_reducible refine' s_ixT ?h1 ?h2 ?h3); (case h1 => assumption); (case h2 => rfl))
  | ((with_reducible refine' s_at ?h1 ?h2 ?h3); (case h1 => assumption); (case h2 => assumption))
  | with_reducible refine s_make ?_
  | with_reducible refine s_dgetK ?_
  | with_reducible refine s_dput ?_
  | with_reducible refine s_chain ?_
  | with_reducible refine s_eqI ?_
  | with_reducible refine s_pcons ?_
  | with_reducible refine s_pnil ?_
  | with_reducible refine s_lrg ?_
  | with_reducible refine s_rg1 ?_
  | with_reducible refine s_rgV ?_)

def k2 (v : V2) : List Key := [.inl (v.1 : Int), .inl (v.2 : Int)]
theorem k2_inj {a b : V2} : k2 a = k2 b ↔ a = b := by
  constructor
  · intro h
    unfold k2 at h
    simp only [List.cons.injEq, Sum.inl.injEq, and_true] at h
    exact Prod.ext (Int.ofNat.inj h.1) (Int.ofNat.inj h.2)
  · intro h; rw [h]
/-- the dict of some vectors -/
def kvT (ks : List V2) : List (List Key × V) := ks.map fun k => (k2 k, V.bl true)
theorem valT (s : V2) : ∀ ks : List V2, valV (kvT ks) (k2 s) = if s ∈ ks then some (V.bl true) else none
  | [] => rfl
  | k :: ks => by
    show valV ((k2 k, V.bl true) :: kvT ks) (k2 s) = _
    by_cases h : k = s
    · subst h
      rw [valV_pos rfl, if_pos List.mem_cons_self]
    · rw [valV_neg (fun z => h (k2_inj.mp z)), valT s ks]
      by_cases h2 : s ∈ ks
      · rw [if_pos h2, if_pos (List.mem_cons_of_mem _ h2)]
      · rw [if_neg h2, if_neg (fun z => (List.mem_cons.mp z).elim (fun e => h e.symm) h2)]
theorem putT {ks : List V2} {s : V2} (h : s ∉ ks) : putK (kvT ks) (k2 s) (V.bl true) = kvT (ks ++ [s]) := by
  unfold putK
  rw [if_neg]
  · unfold kvT; rw [List.map_append]; rfl
  · rw [valV_any, valT, if_neg h]; simp
theorem keys_get {H : Hp} : ∀ {ks : List V2} {bs : List Addr} {j : Nat} {b : Addr}, IsKeys H (kvT ks) bs → bs[j]? = some b → ∃ c, ks[j]? = some c ∧ H b = some (.tup [nV c.1, nV c.2])
  | [], _, _, _, .nil, e => by simp at e
  | k :: ks, _, 0, _, .cons r _, e => by simp at e; subst e; exact ⟨k, rfl, r⟩
  | k :: ks, _, j + 1, b, .cons _ t, e => by
    obtain ⟨c, h1, h2⟩ := keys_get (ks := ks) (j := j) t (by simpa using e)
    exact ⟨c, by simpa using h1, h2⟩
theorem fresh_at {ks : List V2} {s c : V2} {j : Nat} (h : (ks ++ ks.map fun k => xo k s).Nodup) (hc : ks[j]? = some c) : xo c s ∉ ks ++ (ks.take j).map fun k => xo k s := by
  obtain ⟨hj, rfl⟩ := List.getElem?_eq_some_iff.mp hc
  have e : ks.map (fun k => xo k s) = (ks.take j).map (fun k => xo k s) ++ (xo ks[j] s :: (ks.drop (j + 1)).map fun k => xo k s) := by
    conv => lhs; rw [← List.take_append_drop j ks, List.drop_eq_getElem_cons hj]
    rw [List.map_append, List.map_cons]
  rw [e, ← List.append_assoc, List.nodup_append] at h
  intro hm
  exact h.2.2 _ hm _ List.mem_cons_self rfl
theorem s_dnotin {ty td : TE} {σ : L2.St} {H : Hp} {Q : VK} (h : ty σ H fun y H1 => td σ H1 fun x H2 => ∃ a o, x = .ref a ∧ DGet H2 a y o ∧ Q (.bl (!o.isSome)) H2) : tDNotIn ty td σ H Q := h
section
variable {P : Program} {w : World} {K : PySem.W.Frag} {mg : Str → Option Value} {base : Heap}
def sp_law_spanned : Sp := fun vs H Q _ => ∃ p xs rows, vs = [.ref p] ∧ H p = some (.lst xs) ∧ Itm isRow H xs rows ∧ (spanOf (rows.map Row.xz)).length ≤ 5000 ∧ (∀ l, l <+: rows → (spanOf (l.map Row.xz)).length ≤ 5000) ∧
  ∀ d H', Same H H' → H d = none → H' d = some (.dT (kvT (spanOf (rows.map Row.xz)))) → Q (.ref d) H'
theorem ok_law_spanned (T : Tx K mg) : FnOk P w K mg base CX0 1 (He.fAd K ("_law_spanned", none)) T.fd_law_spanned ["_law_strings"] (sp_law_spanned) := by
  refine okD T.F_law_spanned sc_law_spanned (fun vs H Q E h => by obtain ⟨n, _, _, rfl, _⟩ := h; rfl) (fun cdv A outer s H vs Q E hr h => ?_)
  have hu0 := hr.units0
  have hu1 := hr.units
  have hu : (A.deeper (envOfC "_law_spanned" (defScope s_law_spanned) s.heap.objs.size (He.fAd K ("_law_spanned", none)) cdv)).units + 1 < cLine := by omega
  obtain ⟨p, xs, rows, rfl, hp, hi, hz, hz2, k⟩ := h
  refine ⟨_, (pss_cons (ps_set (i := 1) sc_law_spanned.nd rfl (.inl rfl) (pe_dispT hu0 (pe_tup (pa_cons (pe_nat 0) (pa_cons (pe_nat 0) pa_nil))) pe_bl))
  (pss_cons (ps_for PassesOwn.never rfl (pi_list (pv 0)) (pg_name (i := 2) sc_law_spanned.nd rfl (.inl rfl))
  (pss_one (ps_if (pt_cmp (pc_dnotin hu (pe_tup (pa_cons (pe_ix xi_tup (pv 2) (pe_nat 0) (fun _ _ => rfl)) (pa_cons (pe_ix xi_tup (pv 2) (pe_nat 1) (fun _ _ => rfl)) pa_nil))) (pv 1))) (pss_one (ps_for PassesOwn.never rfl (pi_list (pe_callTy (call_list_dT rfl) (by rfl) T.n_list (by decide +kernel) (pa_cons (pv 1) pa_nil))) (xg_tup (n := 2) rfl (pgs_cons (pg_name (i := 3) sc_law_spanned.nd rfl (.inl rfl)) (pgs_cons (pg_name (i := 4) sc_law_spanned.nd rfl (.inl rfl)) pgs_nil)))
  (pss_one (ps_dput hu (pv 1) (pe_tup (pa_cons (pe_op on_xor (pv 3) (pe_ix xi_tup (pv 2) (pe_nat 0) (fun _ _ => rfl))) (pa_cons (pe_op on_xor (pv 4) (pe_ix xi_tup (pv 2) (pe_nat 1) (fun _ _ => rfl))) pa_nil))) pe_bl rfl)))) pss_nil)))
  (pss_one (ps_ret (pv 1))))), ?_⟩
  refine s_seq ?_
  refine s_asg ?_
  intro d hd
  repeat walk_at "st"
  intro t1 ht1
  repeat walk_at "st"
  have ntd : t1 ≠ d := fun z => by rw [z, upd_same] at ht1; cases ht1
  refine ⟨by rw [upd_ne (Ne.symm ntd)]; exact upd_same, t1, [.inl 0, .inl 0], rfl, upd_same, ?_⟩
  have s0 : Same H (upd (upd (upd H d (.dT [])) t1 (.tup [nV 0, nV 0])) d (.dT [([.inl 0, .inl 0], V.bl true)])) := same_mut (Same.nw (same_new hd) ht1) hd
  have h0 : (upd (upd (upd H d (.dT [])) t1 (.tup [nV 0, nV 0])) d (.dT [([.inl 0, .inl 0], V.bl true)])) d = some (.dT (kvT (spanOf []))) := upd_same
  generalize upd (upd (upd H d (.dT [])) t1 (.tup [nV 0, nV 0])) d (.dT [([.inl 0, .inl 0], V.bl true)]) = H1 at s0 h0
  have hp1 := s0 _ _ hp
  repeat walk_at "st"
  refine for_it (n := xs.length) (walk_list (K := K) (xs := xs)) (fun i σ' H' => ∃ o2 o3 o4, σ' = [some (.ref p), some (.ref d), o2, o3, o4] ∧ Same H H' ∧ H' d = some (.dT (kvT (spanOf ((rows.take i).map Row.xz))))) ⟨_, _, _, rfl, s0, by simpa using h0⟩ (fun _ _ _ _ h => by obtain ⟨_, _, _, _, s, _⟩ := h; exact SqL.of (s _ _ hp)) ?_ ?_
  · rintro i x σ' Hx H2 hin ⟨o2, o3, o4, rfl, s2, hd2⟩ ⟨rfl, y⟩
    obtain ⟨r, er, hr2⟩ := hi.get y
    obtain ⟨rp', rfl, hrp⟩ := monoRow _ _ _ _ (Sol.of s2) hr2
    have etk : (rows.take (i + 1)).map Row.xz = (rows.take i).map Row.xz ++ [r.xz] := by rw [List.take_add_one, er, List.map_append]; rfl
    have espan : spanOf ((rows.take (i + 1)).map Row.xz) = spStep (spanOf ((rows.take i).map Row.xz)) r.xz := by rw [etk]; unfold spanOf; rw [List.foldl_append]; rfl
    have hle := hz2 (rows.take (i + 1)) (List.take_prefix _ _)
    rw [espan] at hle ⊢
    have ok := spanOf_ok ((rows.take i).map Row.xz)
    have oks := spStep_ok ok.1 ok.2 r.xz
    generalize spanOf ((rows.take i).map Row.xz) = ks at hd2 hle ok oks
    refine s_name ?_
    refine s_ifS ?_
    refine s_B ?_
    refine s_dnotin ?_
    repeat walk_at "st"
    intro t3 ht3
    have s3 := same_new (o := .tup [nV r.x, nV r.z]) ht3
    repeat walk_at "st"
    refine ⟨d, _, rfl, DGet.t (k := k2 r.xz) (s3 _ _ hd2) upd_same, ?_⟩
    rw [valT]
    refine s_bl ?_
    have s23 := s2.trans s3
    have hd3 := s3 _ _ hd2
    have hr3 := s3 _ _ hrp
    generalize upd H2 t3 (.tup [nV r.x, nV r.z]) = H3 at s23 hd3 hr3
    unfold spStep at hle oks ⊢
    by_cases hin2 : r.xz ∈ ks
    · rw [if_pos hin2] at hle oks ⊢
      rw [if_pos hin2]
      refine s_ifF rfl ?_
      repeat walk_at "st"
      exact ⟨_, _, _, rfl, s23, hd3⟩
    · rw [if_neg hin2] at hle oks ⊢
      rw [if_neg hin2]
      refine s_ifT rfl ?_
      rw [List.length_append, List.length_map] at hle
      repeat walk_at "st"
      refine ⟨d, _, rfl, .inl hd3, fun l4 bs hl4 hk => ?_⟩
      have s4 := same_new (o := .lst (bs.map V.ref)) hl4
      have h4 : (upd H3 l4 (.lst (bs.map V.ref))) l4 = some (.lst (bs.map V.ref)) := upd_same
      have n4 : l4 ≠ d := fun z => by rw [z, hd3] at hl4; cases hl4
      have hbl : bs.length = ks.length := by
        have := hk.length
        unfold kvT at this
        rw [List.length_map] at this
        exact this.symm
      have hbs : ∀ (j : Nat) b, bs[j]? = some b → ∃ c, ks[j]? = some c ∧ H3 b = some (.tup [nV c.1, nV c.2]) := fun j b hb => keys_get hk hb
      have s24 := s23.trans s4
      have hd4 := s4 _ _ hd3
      have hr4 := s4 _ _ hr3
      generalize upd H3 l4 (.lst (bs.map V.ref)) = H4 at s4 h4 s24 hd4 hr4
      repeat walk_at "st"
      refine for_it (n := (bs.map V.ref).length) (walk_list (K := K) (xs := bs.map V.ref)) (fun j σ' H' => ∃ o3 o4, σ' = [some (.ref p), some (.ref d), some (.ref rp'), o3, o4] ∧ (∀ b o, b ≠ d → H4 b = some o → H' b = some o) ∧ H' d = some (.dT (kvT (ks ++ (ks.take j).map fun k => xo k r.xz)))) ⟨_, _, rfl, fun _ _ _ h => h, by simpa using hd4⟩ (fun _ _ _ _ h => by obtain ⟨_, _, _, s, _⟩ := h; exact SqL.of (s _ _ n4 h4)) ?_ ?_
      · rintro j v σ' Hx H5 hj ⟨o3, o4, rfl, keep5, hd5⟩ ⟨rfl, y5⟩
        rw [List.getElem?_map] at y5
        obtain ⟨b, hb⟩ : ∃ b, bs[j]? = some b := ⟨bs[j]'(by simpa using hj), by simp⟩
        rw [hb] at y5
        cases y5
        obtain ⟨c, hc, hb3⟩ := hbs j b hb
        have nbd : b ≠ d := fun z => by rw [z, hd3] at hb3; cases hb3
        have nrd : rp' ≠ d := fun z => by rw [z, hd4] at hr4; cases hr4
        have hr5 := keep5 _ _ nrd hr4
        refine s_gtup (keep5 _ _ nbd (s4 _ _ hb3)) rfl ?_
        repeat walk_at "st"
        intro t6 ht6
        have s6 := same_new (o := .tup [nV (c.1 ^^^ r.x), nV (c.2 ^^^ r.z)]) ht6
        refine ⟨d, _, rfl, DPut.t (k := k2 (xo c r.xz)) (s6 _ _ hd5) upd_same ?_, ?_⟩
        · unfold kvT
          rw [List.length_map, List.length_append, List.length_map, List.length_take]
          exact Nat.lt_of_lt_of_le (show _ < 100000 by omega) (by decide)
        · have hjl := (List.getElem?_eq_some_iff.mp hc).1
          have etk2 : (ks.take (j + 1)).map (fun k => xo k r.xz) = (ks.take j).map (fun k => xo k r.xz) ++ [xo c r.xz] := by rw [List.take_add_one, hc, List.map_append]; rfl
          have hnew : xo c r.xz ∉ ks ++ (ks.take j).map fun k => xo k r.xz := fresh_at oks.1 hc
          rw [putT hnew]
          repeat walk_at "st"
          exact ⟨_, _, rfl, fun b o h1 h => by rw [upd_ne h1]; exact s6 _ _ (keep5 b o h1 h), by rw [upd_same, etk2, List.append_assoc]⟩
      · rintro σ' H5 ⟨o3, o4, rfl, keep5, hd5⟩
        rw [List.take_of_length_le (by rw [List.length_map]; omega)] at hd5
        repeat walk_at "st"
        exact ⟨_, _, _, rfl, fun b o h => keep5 _ _ (fun z => by rw [z, hd] at h; cases h) (s24 _ _ h), hd5⟩
  · rintro σ' H2 ⟨o2, o3, o4, rfl, s2, hd2⟩
    have hl := hi.len
    rw [List.take_of_length_le (by omega)] at hd2
    repeat walk_at "st"
    exact k d H2 s2 hd hd2
end
end Kq

set_option Elab.async false
set_option linter.all false
set_option maxRecDepth 100000
set_option maxHeartbeats 4000000
/-! the kinds walked -/
namespace Kq
open PySem PySem.Spec PyProof.Rows L2 XG
local macro_rules | `(tactic| walk_at "st") => `(tactic| first
  | with_reducible refine s_seq ?_
  | ((with_reducible refine' s_var ?h1 ?h2); (case h1 => rfl))
  | with_reducible refine s_c ?_
  | with_reducible refine s_op ?_
  | with_reducible refine s_asg ?_
  | with_reducible refine s_name ?_
  | with_reducible refine s_cons ?_
  | with_reducible refine s_nil ?_
  | with_reducible refine s_call ?_
  | with_reducible refine s_CB ?_
  | with_reducible refine s_add ?_
  | ((with_reducible refine' s_sub ?h1 ?h2); (case h1 => omega))
  | ((with_reducible refine' s_mul ?h1 ?h2); (case h1 => omega))
  | ((with_reducible refine' s_mod ?h1 ?h2); (case h1 => omega))
  | ((with_reducible refine' s_div ?h1 ?h2); (case h1 => omega))
  | ((with_reducible refine' s_shl ?h1 ?h2); (case h1 => omega))
  | with_reducible refine s_shr ?_
  | with_reducible refine s_and ?_
  | with_reducible refine s_or ?_
  | with_reducible refine s_xor ?_
  | with_reducible refine s_lt ?_
  | with_reducible refine s_le ?_
  | with_reducible refine s_gt ?_
  | with_reducible refine s_ge ?_
  | with_reducible refine s_eqN ?_
  | with_reducible refine s_neN ?_
  | with_reducible refine s_eqS ?_
  | with_reducible refine s_neS ?_
  | with_reducible refine s_I0 ?_
  | with_reducible refine s_un ?_
  | with_reducible refine s_neg ?_
  | with_reducible refine s_test ?_
  | with_reducible refine s_B ?_
  | with_reducible refine s_bl ?_
  | with_reducible refine s_ifS ?_
  | with_reducible refine s_ifE ?_
  | with_reducible refine s_not ?_
  | with_reducible refine s_and2 ?_
  | with_reducible refine s_or2 ?_
  | with_reducible refine s_andV ?_
  | with_reducible refine s_orV ?_
  | with_reducible refine s_notV ?_
  | with_reducible refine s_tru ?_
  | with_reducible refine s_par ?_
  | with_reducible refine s_two ?_
  | with_reducible refine s_par3 ?_
  | with_reducible refine s_three ?_
  | with_reducible refine s_lst ?_
  | with_reducible refine s_tup ?_
  | ((with_reducible refine' s_size ?h1 ?h2); (case h1 => exact Nat.le_of_ble_eq_true rfl))
  | with_reducible refine s_fld ?_
  | with_reducible refine s_gcons ?_
  | with_reducible refine s_gnil ?_
  | with_reducible refine s_intN ?_
  | with_reducible refine s_intI ?_
  | with_reducible refine s_tTru ?_
  | with_reducible refine s_tBL ?_
  | with_reducible refine s_sign ?_
  | with_reducible refine s_min ?_
  | with_reducible refine s_sfld ?_
  | with_reducible refine s_gfld ?_
  | with_reducible refine s_intB ?_
  | with_reducible refine s_next ?_
  | with_reducible refine s_ret ?_
  | with_reducible refine s_drop ?_
  | with_reducible refine s_for ?_
  | with_reducible refine s_lc ?_
  | with_reducible refine s_yes ?_
  | with_reducible refine s_bits ?_
  | with_reducible refine s_bitsV ?_
  | ((with_reducible refine' s_own ?h1 ?h2); (case h1 => assumption))
  | ((with_reducible refine' s_len ?h1 ?h2); (case h1 => assumption))
  | ((with_reducible refine' s_lenT ?h1 ?h2); (case h1 => assumption))
  | with_reducible refine s_iTup ?_
  | with_reducible refine s_iList ?_
  | with_reducible refine s_iStr ?_
  | with_reducible refine s_iRng1 ?_
  | with_reducible refine s_iRng2 ?_
  | with_reducible refine s_iEnum ?_
  | with_reducible refine s_iEnumT ?_
  | with_reducible refine s_iEnumS ?_
  | with_reducible refine s_iZip ?_
  | with_reducible refine s_iZipM ?_
  | with_reducible refine s_srcS ?_
  | with_reducible refine s_srcES ?_
  | ((with_reducible refine' s_srcT ?h1 ?h2); (case h1 => assumption))
  | ((with_reducible refine' s_srcL ?h1 ?h2); (case h1 => assumption))
  | ((with_reducible refine' s_srcE ?h1 ?h2); (case h1 => assumption))
  | ((with_reducible refine' s_srcET ?h1 ?h2); (case h1 => assumption))
  | ((with_reducible refine' s_rng1 ?h1 ?h2); (case h1 => omega))
  | ((with_reducible refine' s_rng2 ?h1 ?h2); (case h1 => omega))
  | with_reducible refine s_ckw ?_
  | ((with_reducible refine' s_sorted ?h1 ?h2); (case h1 => assumption))
  | ((with_reducible refine' s_inN ?h1 ?h2); (case h1 => assumption))
  | ((with_reducible refine' s_ninN ?h1 ?h2); (case h1 => assumption))
  | ((with_reducible refine' s_tupL ?h1 ?h2); (case h1 => assumption))
  | ((with_reducible refine' s_tupT ?h1 ?h2); (case h1 => assumption))
  | ((with_reducible refine' s_lstL ?h1 ?h2); (case h1 => assumption))
  | ((with_reducible refine' s_lstT ?h1 ?h2); (case h1 => assumption))
  | ((with_reducible refine' s_addS2 ?h1 ?h2); (case h1 => (simp only [List.length_append, letL_len]; omega)); (rw [sOf_add]))
  | with_reducible refine s_sl ?_
  | with_reducible refine s_part ?_
  | with_reducible refine s_partV ?_
  | with_reducible refine s_nopart ?_
  | ((with_reducible refine' s_cutTake ?h1 ?h2); (case h1 => assumption))
  | ((with_reducible refine' s_cutDrop ?h1 ?h2); (case h1 => assumption))
  | with_reducible refine s_isiII ?_
  | with_reducible refine s_isiIB ?_
  | with_reducible refine s_isiSS ?_
  | ((with_reducible refine' s_isiTT ?h1 ?h2); (case h1 => assumption))
  | ((with_reducible refine' s_aug ?h1 ?h2); (case h1 => rfl))
  | with_reducible refine s_ipN ?_
  | with_reducible refine s_ip ?_
  | with_reducible refine s_gsub ?_
  | with_reducible refine s_wh ?_
  | with_reducible refine s_join ?_
  | ((with_reducible refine' s_ixT ?h1 ?h2 ?h3); (case h1 => assumption); (case h2 => rfl))
  | ((with_reducible refine' s_at ?h1 ?h2 ?h3); (case h1 => assumption); (case h2 => assumption))
  | with_reducible refine s_make ?_
  | with_reducible refine s_dgetK ?_
  | with_reducible refine s_dput ?_
  | with_reducible refine s_chain ?_
  | with_reducible refine s_eqI ?_
  | with_reducible refine s_pcons ?_
  | with_reducible refine s_pnil ?_
  | with_reducible refine s_lrg ?_
  | with_reducible refine s_rg1 ?_
  | with_reducible refine s_rgV ?_)

/-- commutes with all of some rows -/
def commB (rows : List Row) (v : V2) : Bool := (rows.filter fun r => decide (cr2 r.xz v ≠ 0)).isEmpty
theorem commB_iff {rows : List Row} {v : V2} : commB rows v = true ↔ ∀ r ∈ rows, cr2 r.xz v = 0 := by
  unfold commB
  rw [List.isEmpty_iff, List.filter_eq_nil_iff]
  constructor
  · intro h r hr; have := h r hr; simpa using this
  · intro h r hr; simpa using h r hr
def allV (n : Nat) : List V2 := (List.range (2 ^ n)).flatMap fun x => (List.range (2 ^ n)).map fun z => (x, z)
theorem allV_mem {n : Nat} {v : V2} : v ∈ allV n ↔ Lt2 n v := by
  unfold allV
  rw [List.mem_flatMap]
  constructor
  · rintro ⟨x, hx, h⟩
    obtain ⟨z, hz, rfl⟩ := List.mem_map.mp h
    exact ⟨List.mem_range.mp hx, List.mem_range.mp hz⟩
  · intro h
    exact ⟨v.1, List.mem_range.mpr h.1, List.mem_map.mpr ⟨v.2, List.mem_range.mpr h.2, rfl⟩⟩
theorem allV_nodup (n : Nat) : (allV n).Nodup := by
  refine nodup_flat (fun x _ => nodup_map_inj (fun a b e => congrArg Prod.snd e) List.nodup_range) ?_
  refine (List.nodup_range (n := 2 ^ n)).imp fun h x hx hy => ?_
  obtain ⟨z, _, rfl⟩ := List.mem_map.mp hx
  obtain ⟨z', _, e⟩ := List.mem_map.mp hy
  exact h (congrArg Prod.fst e).symm
theorem allV_len (n : Nat) : (allV n).length = 2 ^ n * 2 ^ n := by
  unfold allV
  rw [List.length_flatMap]
  have : ∀ (c : Nat) (l : List Nat), (l.map fun _ => c).sum = l.length * c := fun c l => by
    induction l with
    | nil => simp
    | cons a l ih => rw [List.map_cons, List.sum_cons, ih, List.length_cons, Nat.add_mul, Nat.one_mul, Nat.add_comm]
  simp only [List.length_map, List.length_range]
  rw [this, List.length_range]
theorem span_len {n : Nat} {rows : List Row} (h : ∀ r ∈ rows, r.ok n) (hn : n ≤ 5) : (spanOf (rows.map Row.xz)).length ≤ 1024 := by
  have ok := spanOf_ok (rows.map Row.xz)
  have hl : ∀ x, x ∈ spanOf (rows.map Row.xz) → x ∈ allV n := fun x hx => allV_mem.mpr (((ok.2 x).mp hx).all (p := Lt2 n) (Lt2.ze n) (fun _ _ h1 h2 => h1.xo h2) fun a ha => by
    obtain ⟨r, hr, rfl⟩ := List.mem_map.mp ha
    exact (h r hr).lt)
  have e := nodup_len ok.1 ((allV_nodup n).filter fun x => decide (x ∈ spanOf (rows.map Row.xz))) fun x => by
    rw [List.mem_filter, decide_eq_true_iff]
    exact ⟨fun z => ⟨hl x z, z⟩, fun z => z.2⟩
  rw [e]
  refine Nat.le_trans (List.length_filter_le ..) ?_
  rw [allV_len]
  have : 2 ^ n ≤ 32 := Nat.pow_le_pow_right (n := 2) (by decide) (show n ≤ 5 from hn)
  exact Nat.mul_le_mul this this
/-- what the law tells of a vector -/
def kindV (rows ga : List Row) (v : V2) : Bool × Bool × Bool := (decide (v ∈ spanOf ((rows ++ ga).map Row.xz)), commB ga v, decide (v ∈ spanOf (rows.map Row.xz)))
def isKd (f : V2 → Bool × Bool × Bool) : Hp → (List Key × V) → V2 → Prop := fun H kv k => kv.1 = k2 k ∧ ∃ t, kv.2 = .ref t ∧ H t = some (.tup [.bl (f k).1, .bl (f k).2.1, .bl (f k).2.2])
/-- the dict of kinds -/
theorem isKd_sol {f : V2 → Bool × Bool × Bool} {H H' : Hp} (s : Sol H H') {kvs : List (List Key × V)} {ks : List V2} (h : Paired (isKd f H) kvs ks) : Paired (isKd f H') kvs ks := Paired.mapP h fun kv k ⟨e, t, e2, h⟩ => ⟨e, t, e2, s t _ h trivial⟩
def isKinds (f : V2 → Bool × Bool × Bool) (H : Hp) (d : Addr) (ks : List V2) : Prop := ∃ kvs, H d = some (.dT kvs) ∧ Paired (isKd f H) kvs ks
theorem paired_app {α β : Type} {R : α → β → Prop} : ∀ {xs us : List α} {ys vs : List β}, Paired R xs ys → Paired R us vs → Paired R (xs ++ us) (ys ++ vs)
  | _, _, _, _, .nil, h => h
  | _, _, _, _, .cons r t, h => .cons r (paired_app t h)
theorem flat_len (m : Nat) : ∀ x : Nat, ((List.range x).flatMap fun x => (List.range m).map fun z => ((x, z) : V2)).length = x * m
  | 0 => by simp
  | x + 1 => by rw [List.range_succ, List.flatMap_append, List.length_append, flat_len m x]; simp [Nat.add_mul]
theorem flat_new {m x z : Nat} {p : V2 → Bool} : (x, z) ∉ ((List.range x).flatMap (fun x => (List.range m).map fun z => ((x, z) : V2)) ++ (List.range z).map fun z => ((x, z) : V2)).filter p := fun h => by
  have h := (List.mem_filter.mp h).1
  rcases List.mem_append.mp h with h | h
  · obtain ⟨y, hy, h⟩ := List.mem_flatMap.mp h
    obtain ⟨u, _, e⟩ := List.mem_map.mp h
    have e1 : y = x := congrArg Prod.fst e
    have := List.mem_range.mp hy
    omega
  · obtain ⟨u, hu, e⟩ := List.mem_map.mp h
    have e1 : u = z := congrArg Prod.snd e
    have := List.mem_range.mp hu
    omega
theorem s_din2 {ty td : TE} {σ : L2.St} {H : Hp} {Q : VK} (h : ty σ H fun y H1 => td σ H1 fun x H2 => ∃ a o, x = .ref a ∧ DGet H2 a y o ∧ Q (.bl o.isSome) H2) : tDIn ty td σ H Q := h
theorem valT_some (s : V2) (ks : List V2) : (valV (kvT ks) (k2 s)).isSome = decide (s ∈ ks) := by
  rw [valT]
  by_cases h : s ∈ ks
  · rw [if_pos h, decide_eq_true h]; rfl
  · rw [if_neg h, decide_eq_false h]; rfl
/-- a key that is not there yet -/
theorem valK {f : V2 → Bool × Bool × Bool} {H : Hp} {s : V2} : ∀ {kvs : List (List Key × V)} {ks : List V2}, Paired (isKd f H) kvs ks → s ∉ ks → valV kvs (k2 s) = none
  | _, _, .nil, _ => rfl
  | kv :: kvs, k :: ks, .cons r t, h => by
    rw [valV_neg (fun z => h (by rw [r.1] at z; rw [k2_inj.mp z]; exact List.mem_cons_self))]
    exact valK t fun z => h (List.mem_cons_of_mem _ z)
section
variable {P : Program} {w : World} {K : PySem.W.Frag} {mg : Str → Option Value} {base : Heap}
def sp_law_kinds : Sp := fun vs H Q _ => ∃ d kvs n rv gv hv rows ga, vs = [.ref d] ∧ H d = some (.dK kvs) ∧ CdK kvs n rv gv hv ∧ isL isRow H rv rows ∧ isL isRow H gv ga ∧ n ≤ 5 ∧ rows.length ≤ 50 ∧ ga.length ≤ 50 ∧ (∀ r ∈ rows, r.ok n) ∧ (∀ r ∈ ga, r.ok n) ∧
  ∀ q H', Same H H' → H q = none → isKinds (kindV rows ga) H' q ((allV n).filter (commB rows)) → Q (.ref q) H'
theorem ok_law_kinds (T : Tx K mg) : FnOk P w K mg base CX0 3 (He.fAd K ("_law_kinds", none)) T.fd_law_kinds ["_law_code_here"] (sp_law_kinds) := by
  have G_law_spanned := ok_law_spanned (P := P) (w := w) (base := base) T
  have G_law_crosses := ok_law_crosses (P := P) (w := w) (base := base) T
  refine okD T.F_law_kinds sc_law_kinds (fun vs H Q E h => by obtain ⟨n, _, _, _, _, _, _, _, rfl, _⟩ := h; rfl) (fun cdv A outer s H vs Q E hr h => ?_)
  have hu64 := hr.units
  have hu : (A.deeper (envOfC "_law_kinds" (defScope s_law_kinds) s.heap.objs.size (He.fAd K ("_law_kinds", none)) cdv)).units + 1 < cLine := by omega
  obtain ⟨d, kvs, n, rv, gv, hv, rows, ga, rfl, hd, cd, ⟨rp', rs, rfl, hrp, hri⟩, ⟨gp, gs, rfl, hgp, hgi⟩, hn, hrl, hgl, hrok, hgok, k⟩ := h
  refine ⟨_, (pss_cons (ps_par (by rfl) sc_law_kinds.nd (i := 1) (j := 2) rfl rfl (by decide) rfl rfl (pa_cons (pe_dget hu (pv 0) pe_str (fun _ _ => rfl)) (pa_cons pe_dnewT pa_nil)) (by rfl))
  (pss_cons (ps_set (i := 3) sc_law_kinds.nd rfl (.inl rfl) (pe_call G_law_spanned (hr.mono (by decide)) (by rfl) T.m_law_spanned T.F_law_spanned.kp T.b_law_spanned .nil pass0 (pa_cons (pe_op op_cat (pe_dget hu (pv 0) pe_str (fun _ _ => rfl)) (pe_dget hu (pv 0) pe_str (fun _ _ => rfl))) pa_nil)))
  (pss_cons (ps_set (i := 4) sc_law_kinds.nd rfl (.inl rfl) (pe_call G_law_spanned (hr.mono (by decide)) (by rfl) T.m_law_spanned T.F_law_spanned.kp T.b_law_spanned .nil pass0 (pa_cons (pe_dget hu (pv 0) pe_str (fun _ _ => rfl)) pa_nil)))
  (pss_cons (ps_for PassesOwn.never rfl (pi_range1 rfl T.n_range (pa_cons (pe_op on_shl (pe_nat 1) (pv 1)) pa_nil)) (pg_name (i := 5) sc_law_kinds.nd rfl (.inr rfl))
  (pss_one (ps_for PassesOwn.never rfl (pi_range1 rfl T.n_range (pa_cons (pe_op on_shl (pe_nat 1) (pv 1)) pa_nil)) (pg_name (i := 6) sc_law_kinds.nd rfl (.inr rfl))
  (pss_one (ps_if (pt_cmpR (xo_eqNil hu64) (pe_lc (own := [("_law_row", 8)]) rfl sc_law_kinds.nd (pi_list (pe_dget hu (pv 0) pe_str (fun _ _ => rfl))) (blkOk_by (N := ["_law_code_here", "_law_size", "_law_found", "_law_empty", "_law_group", "_law_x", "_law_z", "_law_bare", "_law_row"]) (sc := defScope s_law_kinds) (by decide +kernel)) (fun _ _ _ _ _ => (pg_name (i := 8) sc_law_kinds.nd rfl (.inl rfl))) (fun _ _ _ _ _ => (pts_one (xt_tru (pe_call G_law_crosses (hr.mono (by decide)) (by rfl) T.m_law_crosses T.F_law_crosses.kp T.b_law_crosses .nil pass0 (pa_cons (pv 8) (pa_cons (pe_tup (pa_cons (pv 5) (pa_cons (pv 6) (pa_cons (pe_nat 0) pa_nil)))) pa_nil)))))) (fun _ _ _ _ _ => (pv 8))) (pe_lst pa_nil) (nomark _)) (pss_cons (ps_set (i := 7) sc_law_kinds.nd rfl (.inl rfl) (pe_cmpR (xo_eqNil hu64) (pe_lc (own := [("_law_row", 8)]) rfl sc_law_kinds.nd (pi_list (pe_dget hu (pv 0) pe_str (fun _ _ => rfl))) (blkOk_by (N := ["_law_code_here", "_law_size", "_law_found", "_law_empty", "_law_group", "_law_x", "_law_z", "_law_bare", "_law_row"]) (sc := defScope s_law_kinds) (by decide +kernel)) (fun _ _ _ _ _ => (pg_name (i := 8) sc_law_kinds.nd rfl (.inl rfl))) (fun _ _ _ _ _ => (pts_one (xt_tru (pe_call G_law_crosses (hr.mono (by decide)) (by rfl) T.m_law_crosses T.F_law_crosses.kp T.b_law_crosses .nil pass0 (pa_cons (pv 8) (pa_cons (pe_tup (pa_cons (pv 5) (pa_cons (pv 6) (pa_cons (pe_nat 0) pa_nil)))) pa_nil)))))) (fun _ _ _ _ _ => (pv 8))) (pe_lst pa_nil) (nomark _)))
  (pss_one (ps_dput hu (pv 2) (pe_tup (pa_cons (pv 5) (pa_cons (pv 6) pa_nil))) (pe_tup (pa_cons (pe_cmp (pc_din hu (pe_tup (pa_cons (pv 5) (pa_cons (pv 6) pa_nil))) (pv 3))) (pa_cons (pv 7) (pa_cons (pe_cmp (pc_din hu (pe_tup (pa_cons (pv 5) (pa_cons (pv 6) pa_nil))) (pv 4))) pa_nil)))) rfl))) pss_nil)))))
  (pss_one (ps_ret (pv 2))))))), ?_⟩
  repeat walk_at "st"
  refine ⟨d, nV n, rfl, getS hd cd.k1, ?_⟩
  repeat walk_at "st"
  intro q hq
  have s1 := same_new (o := .dT []) hq
  repeat walk_at "st"
  have hd1 := s1 _ _ hd
  have hrp1 := s1 _ _ hrp
  have hgp1 := s1 _ _ hgp
  have hq1 : (upd H q (.dT [])) q = some (.dT []) := upd_same
  generalize upd H q (.dT []) = H1 at s1 hd1 hrp1 hgp1 hq1
  have e1 := hri.len
  have e2 := hgi.len
  refine ⟨d, .ref rp', rfl, getS hd1 cd.k2, ?_⟩
  repeat walk_at "st"
  refine ⟨d, .ref gp, rfl, getS hd1 cd.k3, ?_⟩
  refine s_cat hrp1 hgp1 (by omega) fun c2 hc2 => ?_
  have s2 := same_new (o := .lst (rs ++ gs)) hc2
  have s12 := s1.trans s2
  have hagok : ∀ r ∈ rows ++ ga, r.ok n := fun r hr => (List.mem_append.mp hr).elim (hrok r) (hgok r)
  repeat walk_at "st"
  refine ⟨c2, rs ++ gs, rows ++ ga, rfl, upd_same, (hri.app hgi).mono monoRow (Sol.of s12), Nat.le_trans (span_len hagok hn) (by decide), fun l hl => Nat.le_trans (span_len (fun r hr => hagok r (hl.subset hr)) hn) (by decide), fun de H3 s3 hde0 hde => ?_⟩
  have s13 := s12.trans s3
  have neq : de ≠ q := fun e => by rw [e, s2 _ _ hq1] at hde0; cases hde0
  have hd3 := s13 _ _ hd
  repeat walk_at "st"
  refine ⟨d, .ref rp', rfl, getS hd3 cd.k2, ?_⟩
  repeat walk_at "st"
  refine ⟨rp', rs, rows, rfl, s13 _ _ hrp, hri.mono monoRow (Sol.of s13), Nat.le_trans (span_len hrok hn) (by decide), fun l hl => Nat.le_trans (span_len (fun r hr => hrok r (hl.subset hr)) hn) (by decide), fun dg H4 s4 hdg0 hdg => ?_⟩
  have s14 := s13.trans s4
  have ngq2 : dg ≠ q := fun e => by rw [e, s3 _ _ (s2 _ _ hq1)] at hdg0; cases hdg0
  have hde4 := s4 _ _ hde
  have hq4 := (s2.trans (s3.trans s4)) _ _ hq1
  have hd4 := s14 _ _ hd
  have hrp4 := s14 _ _ hrp
  have hgp4 := s14 _ _ hgp
  have hri4 := hri.mono monoRow (Sol.of s14)
  have hgi4 := hgi.mono monoRow (Sol.of s14)
  clear s1 hd1 hrp1 hgp1 hq1 s2 s12 s3 s13 hd3 hde s4
  have h2n : 2 ^ n ≤ 32 := Nat.pow_le_pow_right (n := 2) (by decide) (show n ≤ 5 from hn)
  have e3 : 1 <<< n = 2 ^ n := by rw [Nat.shiftLeft_eq, Nat.one_mul]
  repeat walk_at "st"
  rw [e3]
  repeat walk_at "st"
  refine for_it (n := 2 ^ n) walk_rg0 (fun i σ' H' => ∃ o5 o6 o7, σ' = [some (.ref d), some (nV n), some (.ref q), some (.ref de), some (.ref dg), o5, o6, o7, none] ∧ (∀ b o, b ≠ q → H4 b = some o → H' b = some o) ∧ ∃ kvs, H' q = some (.dT kvs) ∧ Paired (isKd (kindV rows ga) H') kvs (((List.range i).flatMap fun x => (List.range (2 ^ n)).map fun z => ((x, z) : V2)).filter (commB rows))) ⟨_, _, _, rfl, fun _ _ _ h => h, [], hq4, .nil⟩ (fun _ _ _ _ _ => trivial) ?_ ?_
  · rintro x y σ' H5 H5' hx ⟨o5, o6, o7, rfl, keep5, kvs5, hq5, hk5⟩ ⟨rfl, rfl⟩
    repeat walk_at "st"
    rw [e3]
    repeat walk_at "st"
    refine for_it (n := 2 ^ n) walk_rg0 (fun j σ' H' => ∃ o6 o7, σ' = [some (.ref d), some (nV n), some (.ref q), some (.ref de), some (.ref dg), some (nV x), o6, o7, none] ∧ (∀ b o, b ≠ q → H4 b = some o → H' b = some o) ∧ ∃ kvs, H' q = some (.dT kvs) ∧ Paired (isKd (kindV rows ga) H') kvs (((List.range x).flatMap (fun x => (List.range (2 ^ n)).map fun z => ((x, z) : V2)) ++ (List.range j).map fun z => ((x, z) : V2)).filter (commB rows))) ⟨_, _, rfl, keep5, kvs5, hq5, by simpa using hk5⟩ (fun _ _ _ _ _ => trivial) ?_ ?_
    · rintro z y2 σ' H6 H6' hz ⟨o6, o7, rfl, keep6, kvs6, hq6, hk6⟩ ⟨rfl, rfl⟩
      have nrq : rp' ≠ q := fun e => by rw [e, hq] at hrp; cases hrp
      have ngq : gp ≠ q := fun e => by rw [e, hq] at hgp; cases hgp
      have ndq : d ≠ q := fun e => by rw [e, hq] at hd; cases hd
      have sol46 : Sol H4 H6' := fun b o e so => keep6 b o (fun e2 => by rw [e2, hq4] at e; cases e; exact so) e
      have hd6 := keep6 _ _ ndq hd4
      have hrp6 := keep6 _ _ nrq hrp4
      have hgp6 := keep6 _ _ ngq hgp4
      have hri6 := hri4.mono monoRow sol46
      have hgi6 := hgi4.mono monoRow sol46
      repeat walk_at "st"
      refine ⟨d, .ref rp', rfl, getS hd6 cd.k2, ?_⟩
      repeat walk_at "st"
      have zlt : (⟨x, z, 0⟩ : Row).ok n := ⟨hx, hz, by show 0 < 2; decide⟩
      refine lcF (walk_list (K := K) (xs := rs)) rows id (fun r => decide (cr2 r.xz (x, z) ≠ 0)) isRow monoRow e1.symm (by omega) (fun _ s => SqL.of (s _ _ hrp6)) (fun _ _ _ _ y => yat_same y) ?_ ?_
      · rintro i r v H7 H8 hr7 s7 ⟨rfl, y7⟩ Qc Qn qc qn
        have hx7 := monoRow _ _ _ _ (Sol.of s7) (hri6.at y7 hr7)
        walk_at "st"
        refine ⟨rfl, ?_⟩
        repeat walk_at "st"
        intro t8 ht8
        have s8 := same_new (o := .tup [nV x, nV z, nV 0]) ht8
        repeat walk_at "st"
        refine ⟨_, _, r, ⟨x, z, 0⟩, rfl, monoRow _ _ _ _ (Sol.of s8) hx7, ⟨t8, rfl, upd_same⟩, (hrok r (mem_idx hr7)).small (by omega), zlt.small (by omega), ?_⟩
        repeat walk_at "st"
        refine s_if (fun e => ?_) (fun e => ?_)
        · repeat walk_at "st"
          exact qc _ _ e s8 (monoRow _ _ _ _ (Sol.of s8) hx7)
        · exact qn _ e s8
      intro D vs7 H7 hD s7 h7 hi7
      rw [List.map_id] at hi7
      repeat walk_at "st"
      intro n8 hn8
      have s8 := same_new (o := .lst []) hn8
      refine s_eqNilR (s8 _ _ h7) (hi7.mono monoRow (Sol.of s8)) upd_same ?_
      refine s_bl ?_
      have s68 := s7.trans s8
      have hd8 := s68 _ _ hd6
      have hq8 := s68 _ _ hq6
      have hgp8 := s68 _ _ hgp6
      have hgi8 := hgi6.mono monoRow (Sol.of s68)
      have keep8 : ∀ b o, b ≠ q → H4 b = some o → (upd H7 n8 (.lst [])) b = some o := fun b o h1 h => s68 _ _ (keep6 b o h1 h)
      have hk8 := isKd_sol (Sol.of s68) hk6
      generalize upd H7 n8 (.lst []) = H8 at s68 hd8 hq8 hgp8 hgi8 keep8 hk8
      clear s7 h7 hi7 hD hn8 s8
      have etk : ((List.range x).flatMap (fun x => (List.range (2 ^ n)).map fun z => ((x, z) : V2)) ++ (List.range (z + 1)).map fun z => ((x, z) : V2)).filter (commB rows) = ((List.range x).flatMap (fun x => (List.range (2 ^ n)).map fun z => ((x, z) : V2)) ++ (List.range z).map fun z => ((x, z) : V2)).filter (commB rows) ++ (if commB rows (x, z) = true then [(x, z)] else []) := by
        rw [List.range_succ, List.map_append, ← List.append_assoc, List.filter_append]
        congr 1
        show List.filter (commB rows) [(x, z)] = _
        rw [List.filter_cons, List.filter_nil]
      refine s_if (fun e => ?_) (fun e => ?_)
      · have ec : commB rows (x, z) = true := e
        rw [if_pos ec] at etk
        repeat walk_at "st"
        refine ⟨d, .ref gp, rfl, getS hd8 cd.k3, ?_⟩
        repeat walk_at "st"
        refine lcF (walk_list (K := K) (xs := gs)) ga id (fun r => decide (cr2 r.xz (x, z) ≠ 0)) isRow monoRow e2.symm (by omega) (fun _ s => SqL.of (s _ _ hgp8)) (fun _ _ _ _ y => yat_same y) ?_ ?_
        · rintro i r v H9 H10 hr9 s9 ⟨rfl, y9⟩ Qc Qn qc qn
          have hx9 := monoRow _ _ _ _ (Sol.of s9) (hgi8.at y9 hr9)
          walk_at "st"
          refine ⟨rfl, ?_⟩
          repeat walk_at "st"
          intro t10 ht10
          have s10 := same_new (o := .tup [nV x, nV z, nV 0]) ht10
          repeat walk_at "st"
          refine ⟨_, _, r, ⟨x, z, 0⟩, rfl, monoRow _ _ _ _ (Sol.of s10) hx9, ⟨t10, rfl, upd_same⟩, (hgok r (mem_idx hr9)).small (by omega), zlt.small (by omega), ?_⟩
          repeat walk_at "st"
          refine s_if (fun e => ?_) (fun e => ?_)
          · repeat walk_at "st"
            exact qc _ _ e s10 (monoRow _ _ _ _ (Sol.of s10) hx9)
          · exact qn _ e s10
        intro D2 vs9 H9 hD2 s9 h9 hi9
        rw [List.map_id] at hi9
        repeat walk_at "st"
        intro n10 hn10
        have s10 := same_new (o := .lst []) hn10
        refine s_eqNilR (s10 _ _ h9) (hi9.mono monoRow (Sol.of s10)) upd_same ?_
        have s810 := s9.trans s10
        have hq10 := s810 _ _ hq8
        have hk10 := isKd_sol (Sol.of s810) hk8
        have keep10 : ∀ b o, b ≠ q → H4 b = some o → (upd H9 n10 (.lst [])) b = some o := fun b o h1 h => s810 _ _ (keep8 b o h1 h)
        have hde10 := keep10 _ _ neq hde4
        have hdg10 := keep10 _ _ ngq2 hdg
        generalize upd H9 n10 (.lst []) = H10 at s810 hq10 hk10 keep10 hde10 hdg10
        clear s9 s10 h9 hi9 hn10 hD2
        repeat walk_at "st"
        refine s_din2 ?_
        repeat walk_at "st"
        intro t11 ht11
        have s11 := same_new (o := .tup [nV x, nV z]) ht11
        repeat walk_at "st"
        refine ⟨de, _, rfl, DGet.t (k := k2 (x, z)) (s11 _ _ hde10) upd_same, ?_⟩
        rw [valT_some]
        repeat walk_at "st"
        refine s_din2 ?_
        repeat walk_at "st"
        intro t12 ht12
        have s12' := same_new (o := .tup [nV x, nV z]) ht12
        repeat walk_at "st"
        refine ⟨dg, _, rfl, DGet.t (k := k2 (x, z)) (s12' _ _ (s11 _ _ hdg10)) upd_same, ?_⟩
        rw [valT_some]
        repeat walk_at "st"
        intro t13 ht13
        have s13 := same_new (o := .tup [.bl (decide ((x, z) ∈ spanOf ((rows ++ ga).map Row.xz))), .bl (commB ga (x, z)), .bl (decide ((x, z) ∈ spanOf (rows.map Row.xz)))]) ht13
        repeat walk_at "st"
        intro t14 ht14
        have s14' := same_new (o := .tup [nV x, nV z]) ht14
        have s1014 := ((s11.trans s12').trans s13).trans s14'
        have hq14 := s1014 _ _ hq10
        repeat walk_at "st"
        have hnone := valK hk10 (flat_new (m := 2 ^ n) (x := x) (z := z) (p := commB rows))
        have hput : ∀ v : V, putK kvs6 (k2 (x, z)) v = kvs6 ++ [(k2 (x, z), v)] := fun v => by
          unfold putK
          rw [if_neg]
          rw [valV_any, hnone]; simp
        have hlen : kvs6.length ≤ 2000 := by
          rw [hk6.length]
          refine Nat.le_trans (List.length_filter_le ..) ?_
          rw [List.length_append, flat_len, List.length_map, List.length_range]
          have : x * 2 ^ n ≤ 32 * 32 := Nat.mul_le_mul (by omega) h2n
          omega
        refine ⟨q, _, rfl, DPut.t (k := k2 (x, z)) hq14 upd_same (Nat.lt_of_le_of_lt hlen (by decide)), ?_⟩
        rw [hput]
        have t13q : t13 ≠ q := fun e => by rw [e, ((s11.trans s12') _ _ hq10)] at ht13; cases ht13
        repeat walk_at "st"
        have so15 : Sol (upd (upd (upd (upd H10 t11 (.tup [nV x, nV z])) t12 (.tup [nV x, nV z])) t13 (.tup [.bl (decide ((x, z) ∈ spanOf ((rows ++ ga).map Row.xz))), .bl (commB ga (x, z)), .bl (decide ((x, z) ∈ spanOf (rows.map Row.xz)))])) t14 (.tup [nV x, nV z])) (upd (upd (upd (upd (upd H10 t11 (.tup [nV x, nV z])) t12 (.tup [nV x, nV z])) t13 (.tup [.bl (decide ((x, z) ∈ spanOf ((rows ++ ga).map Row.xz))), .bl (commB ga (x, z)), .bl (decide ((x, z) ∈ spanOf (rows.map Row.xz)))])) t14 (.tup [nV x, nV z])) q (.dT (kvs6 ++ [(k2 (x, z), .ref t13)]))) := Sol.upd' hq14 (fun z => z)
        refine ⟨_, _, rfl, fun b o h1 h => by rw [upd_ne h1]; exact s1014 _ _ (keep10 b o h1 h), _, upd_same, ?_⟩
        rw [etk]
        refine paired_app (isKd_sol ((Sol.of s1014).trans so15) hk10) (.cons ⟨rfl, t13, rfl, ?_⟩ .nil)
        rw [upd_ne t13q]
        exact s14' _ _ upd_same
      · have ec : ¬ commB rows (x, z) = true := by rw [show commB rows (x, z) = false from e]; simp
        rw [if_neg ec, List.append_nil] at etk
        repeat walk_at "st"
        exact ⟨_, _, rfl, keep8, kvs6, hq8, by rw [etk]; exact hk8⟩
    · rintro σ' H6 ⟨o6, o7, rfl, keep6, kvs6, hq6, hk6⟩
      refine ⟨_, _, _, rfl, keep6, kvs6, hq6, ?_⟩
      rw [List.range_succ, List.flatMap_append]
      simpa using hk6
  · rintro σ' H5 ⟨o5, o6, o7, rfl, keep5, kvs5, hq5, hk5⟩
    repeat walk_at "st"
    exact k q H5 (fun b o h => keep5 _ _ (fun z => by rw [z, hq] at h; cases h) (s14 _ _ h)) hq ⟨kvs5, hq5, hk5⟩
end
end Kq

set_option Elab.async false
set_option linter.all false
set_option maxRecDepth 100000
set_option maxHeartbeats 4000000
/-! the numbers of a lot walked -/
namespace Kq
open PySem PySem.Spec PyProof.Rows L2 XG
local macro_rules | `(tactic| walk_at "st") => `(tactic| first
  | with_reducible refine s_seq ?_
  | ((with_reducible refine' s_var ?h1 ?h2); (case h1 => rfl))
  | with_reducible refine s_c ?_
  | with_reducible refine s_op ?_
  | with_reducible refine s_asg ?_
  | with_reducible refine s_name ?_
  | with_reducible refine s_cons ?_
  | with_reducible refine s_nil ?_
  | with_reducible refine s_call ?_
  | with_reducible refine s_CB ?_
  | with_reducible refine s_add ?_
  | ((with_reducible refine' s_sub ?h1 ?h2); (case h1 => omega))
  | ((with_reducible refine' s_mul ?h1 ?h2); (case h1 => omega))
  | ((with_reducible refine' s_mod ?h1 ?h2); (case h1 => omega))
  | ((with_reducible refine' s_div ?h1 ?h2); (case h1 => omega))
  | ((with_reducible refine' s_shl ?h1 ?h2); (case h1 => omega))
  | with_reducible refine s_shr ?_
  | with_reducible refine s_and ?_
  | with_reducible refine s_or ?_
  | with_reducible refine s_xor ?_
  | with_reducible refine s_lt ?_
  | with_reducible refine s_le ?_
  | with_reducible refine s_gt ?_
  | with_reducible refine s_ge ?_
  | with_reducible refine s_eqN ?_
  | with_reducible refine s_neN ?_
  | with_reducible refine s_eqS ?_
  | with_reducible refine s_neS ?_
  | with_reducible refine s_I0 ?_
  | with_reducible refine s_un ?_
  | with_reducible refine s_neg ?_
  | with_reducible refine s_test ?_
  | with_reducible refine s_B ?_
  | with_reducible refine s_bl ?_
  | with_reducible refine s_ifS ?_
  | with_reducible refine s_ifE ?_
  | with_reducible refine s_not ?_
  | with_reducible refine s_and2 ?_
  | with_reducible refine s_or2 ?_
  | with_reducible refine s_andV ?_
  | with_reducible refine s_orV ?_
  | with_reducible refine s_notV ?_
  | with_reducible refine s_tru ?_
  | with_reducible refine s_par ?_
  | with_reducible refine s_two ?_
  | with_reducible refine s_par3 ?_
  | with_reducible refine s_three ?_
  | with_reducible refine s_lst ?_
  | with_reducible refine s_tup ?_
  | ((with_reducible refine' s_size ?h1 ?h2); (case h1 => exact Nat.le_of_ble_eq_true rfl))
  | with_reducible refine s_fld ?_
  | with_reducible refine s_gcons ?_
  | with_reducible refine s_gnil ?_
  | with_reducible refine s_intN ?_
  | with_reducible refine s_intI ?_
  | with_reducible refine s_tTru ?_
  | with_reducible refine s_tBL ?_
  | with_reducible refine s_sign ?_
  | with_reducible refine s_min ?_
  | with_reducible refine s_sfld ?_
  | with_reducible refine s_gfld ?_
  | with_reducible refine s_intB ?_
  | with_reducible refine s_next ?_
  | with_reducible refine s_ret ?_
  | with_reducible refine s_drop ?_
  | with_reducible refine s_for ?_
  | with_reducible refine s_lc ?_
  | with_reducible refine s_yes ?_
  | with_reducible refine s_bits ?_
  | with_reducible refine s_bitsV ?_
  | ((with_reducible refine' s_own ?h1 ?h2); (case h1 => assumption))
  | ((with_reducible refine' s_len ?h1 ?h2); (case h1 => assumption))
  | ((with_reducible refine' s_lenT ?h1 ?h2); (case h1 => assumption))
  | with_reducible refine s_iTup ?_
  | with_reducible refine s_iList ?_
  | with_reducible refine s_iStr ?_
  | with_reducible refine s_iRng1 ?_
  | with_reducible refine s_iRng2 ?_
  | with_reducible refine s_iEnum ?_
  | with_reducible refine s_iEnumT ?_
  | with_reducible refine s_iEnumS ?_
  | with_reducible refine s_iZip ?_
  | with_reducible refine s_iZipM ?_
  | with_reducible refine s_srcS ?_
  | with_reducible refine s_srcES ?_
  | ((with_reducible refine' s_srcT ?h1 ?h2); (case h1 => assumption))
  | ((with_reducible refine' s_srcL ?h1 ?h2); (case h1 => assumption))
  | ((with_reducible refine' s_srcE ?h1 ?h2); (case h1 => assumption))
  | ((with_reducible refine' s_srcET ?h1 ?h2); (case h1 => assumption))
  | ((with_reducible refine' s_rng1 ?h1 ?h2); (case h1 => omega))
  | ((with_reducible refine' s_rng2 ?h1 ?h2); (case h1 => omega))
  | with_reducible refine s_ckw ?_
  | ((with_reducible refine' s_sorted ?h1 ?h2); (case h1 => assumption))
  | ((with_reducible refine' s_inN ?h1 ?h2); (case h1 => assumption))
  | ((with_reducible refine' s_ninN ?h1 ?h2); (case h1 => assumption))
  | ((with_reducible refine' s_tupL ?h1 ?h2); (case h1 => assumption))
  | ((with_reducible refine' s_tupT ?h1 ?h2); (case h1 => assumption))
  | ((with_reducible refine' s_lstL ?h1 ?h2); (case h1 => assumption))
  | ((with_reducible refine' s_lstT ?h1 ?h2); (case h1 => assumption))
  | ((with_reducible refine' s_addS2 ?h1 ?h2); (case h1 => (simp only [List.length_append, letL_len]; omega)); (rw [sOf_add]))
  | with_reducible refine s_sl ?_
  | with_reducible refine s_part ?_
  | with_reducible refine s_partV ?_
  | with_reducible refine s_nopart ?_
  | ((with_reducible refine' s_cutTake ?h1 ?h2); (case h1 => assumption))
  | ((with_reducible refine' s_cutDrop ?h1 ?h2); (case h1 => assumption))
  | with_reducible refine s_isiII ?_
  | with_reducible refine s_isiIB ?_
  | with_reducible refine s_isiSS ?_
  | ((with_reducible refine' s_isiTT ?h1 ?h2); (case h1 => assumption))
  | ((with_reducible refine' s_aug ?h1 ?h2); (case h1 => rfl))
  | with_reducible refine s_ipN ?_
  | with_reducible refine s_ip ?_
  | with_reducible refine s_gsub ?_
  | with_reducible refine s_wh ?_
  | with_reducible refine s_join ?_
  | ((with_reducible refine' s_ixT ?h1 ?h2 ?h3); (case h1 => assumption); (case h2 => rfl))
  | ((with_reducible refine' s_at ?h1 ?h2 ?h3); (case h1 => assumption); (case h2 => assumption))
  | with_reducible refine s_make ?_
  | with_reducible refine s_dgetK ?_
  | with_reducible refine s_dput ?_
  | with_reducible refine s_chain ?_
  | with_reducible refine s_eqI ?_
  | with_reducible refine s_pcons ?_
  | with_reducible refine s_pnil ?_
  | with_reducible refine s_lrg ?_
  | with_reducible refine s_rg1 ?_
  | with_reducible refine s_rgV ?_)

theorem paired_at {α β : Type} {R : α → β → Prop} : ∀ {xs : List α} {ys : List β} {i : Nat} {x : α} {y : β}, Paired R xs ys → xs[i]? = some x → ys[i]? = some y → R x y
  | [], _, _, _, _, .nil, e, _ => by simp at e
  | _ :: _, _ :: _, 0, _, _, .cons r _, e1, e2 => by simp at e1 e2; subst e1; subst e2; exact r
  | _ :: _, _ :: _, i + 1, _, _, .cons _ t, e1, e2 => paired_at (i := i) t (by simpa using e1) (by simpa using e2)
/-- the value of a key -/
theorem valKd {f : V2 → Bool × Bool × Bool} {H : Hp} {s : V2} : ∀ {kvs : List (List Key × V)} {ks : List V2}, Paired (isKd f H) kvs ks → s ∈ ks → ∃ t, valV kvs (k2 s) = some (.ref t) ∧ H t = some (.tup [.bl (f s).1, .bl (f s).2.1, .bl (f s).2.2])
  | _, _, .nil, h => by cases h
  | kv :: kvs, k :: ks, .cons r t, h => by
    by_cases e : k = s
    · subst e
      obtain ⟨h1, a, h2, h3⟩ := r
      exact ⟨a, by rw [valV_pos h1, h2], h3⟩
    · rw [valV_neg (fun z => e (by rw [r.1] at z; exact k2_inj.mp z))]
      exact valKd t ((List.mem_cons.mp h).elim (fun z => absurd z.symm e) id)
def isK3 : Rp (Bool × Bool × Bool) := fun H v b => ∃ t, v = .ref t ∧ H t = some (.tup [.bl b.1, .bl b.2.1, .bl b.2.2])
theorem monoK3 : MonoS isK3 := fun _ _ _ _ s ⟨t, e, h⟩ => ⟨t, e, s t _ h trivial⟩
def kWithin (l : List Nat) (v : V2) : Bool := decide ((v.1 ||| v.2) &&& maskOf l = v.1 ||| v.2)
section
variable {P : Program} {w : World} {K : PySem.W.Frag} {mg : Str → Option Value} {base : Heap}
def sp_law_lot_numbers : Sp := fun vs H Q _ => ∃ d u f ks l n, vs = [.ref d, u] ∧ isKinds f H d ks ∧ isBits H u l ∧ Up n l ∧ l.length ≤ 50 ∧ n ≤ 50 ∧ ks.length ≤ 2000 ∧
  (0 < (((ks.filter (kWithin l)).map f).filter fun b => b.1).length) ∧ (0 < ((((ks.filter (kWithin l)).map f).filter fun b => b.2.1).filter fun b => b.2.2).length) ∧
  ∀ t m H', Same H H' → H' t = some (.tup [nV (halv 200 (((ks.filter (kWithin l)).map f).length / (((ks.filter (kWithin l)).map f).filter fun b => b.1).length)), nV m]) → Q (.ref t) H'
theorem ok_law_lot_numbers (T : Tx K mg) : FnOk P w K mg base CX0 2 (He.fAd K ("_law_lot_numbers", none)) T.fd_law_lot_numbers ["_law_kinds_here", "_law_lot"] (sp_law_lot_numbers) := by
  have G_law_halvings := ok_law_halvings (P := P) (w := w) (base := base) T
  refine okD T.F_law_lot_numbers sc_law_lot_numbers (fun vs H Q E h => by obtain ⟨_, _, _, _, _, _, rfl, _⟩ := h; rfl) (fun cdv A outer s H vs Q E hr h => ?_)
  have hu64 := hr.units
  have hu : (A.deeper (envOfC "_law_lot_numbers" (defScope s_law_lot_numbers) s.heap.objs.size (He.fAd K ("_law_lot_numbers", none)) cdv)).units + 1 < cLine := by omega
  obtain ⟨d, u, f, ks, l, n, rfl, ⟨kvs, hd, hk⟩, ⟨q, rfl, hq⟩, hup, hl, hn, hks, hp1, hp2, k⟩ := h
  refine ⟨_, (pss_cons (ps_set (i := 2) sc_law_lot_numbers.nd rfl (.inr rfl) (pe_callB (xc_sum rfl) (by rfl) T.n_sum (by decide +kernel) (pa_cons (pe_lc (own := [("_law_place", 6)]) rfl sc_law_lot_numbers.nd (pi_tup (pv 1)) (blkOk_by (N := ["_law_kinds_here", "_law_lot", "_law_mask", "_law_some", "_law_bare", "_law_number", "_law_place", "_law_key", "_law_one"]) (sc := defScope s_law_lot_numbers) (by decide +kernel)) (fun _ _ _ _ _ => (pg_name (i := 6) sc_law_lot_numbers.nd rfl (.inl rfl))) (fun _ _ _ _ _ => pts_nil) (fun _ _ _ _ _ => (pe_op on_shl (pe_nat 1) (pv 6)))) pa_nil)))
  (pss_cons (ps_lock (ps_setLc (own := [("_law_key", 7)]) (i := 3) rfl sc_law_lot_numbers.nd rfl rfl (sw_true rfl rfl rfl (by decide +kernel)) (pi_keys (pv 0)) (blkOk_by (N := ["_law_kinds_here", "_law_lot", "_law_mask", "_law_some", "_law_bare", "_law_number", "_law_place", "_law_key", "_law_one"]) (sc := defScope s_law_lot_numbers) (by decide +kernel)) (fun _ _ _ _ _ => (pg_name (i := 7) sc_law_lot_numbers.nd rfl (.inl rfl))) (fun _ _ _ _ _ => (pts_one (pt_cmpR on_eq (pe_op on_and (pe_op on_or (pe_ix xi_tup (pv 7) (pe_nat 0) (fun _ _ => rfl)) (pe_ix xi_tup (pv 7) (pe_nat 1) (fun _ _ => rfl))) (pv 2)) (pe_op on_or (pe_ix xi_tup (pv 7) (pe_nat 0) (fun _ _ => rfl)) (pe_ix xi_tup (pv 7) (pe_nat 1) (fun _ _ => rfl))) (nomark _)))) (fun _ _ _ _ _ => (pe_dget hu (pv 0) (pv 7) (fun _ _ => rfl)))))
  (pss_cons (ps_setLc (own := [("_law_one", 8)]) (i := 4) rfl sc_law_lot_numbers.nd rfl rfl (sw_true rfl rfl rfl (by decide +kernel)) (pi_list (pv 3)) (blkOk_by (N := ["_law_kinds_here", "_law_lot", "_law_mask", "_law_some", "_law_bare", "_law_number", "_law_place", "_law_key", "_law_one"]) (sc := defScope s_law_lot_numbers) (by decide +kernel)) (fun _ _ _ _ _ => (pg_name (i := 8) sc_law_lot_numbers.nd rfl (.inl rfl))) (fun _ _ _ _ _ => (pts_one (pt_val (pe_ix xi_tup (pv 8) (pe_nat 1) (fun _ _ => rfl))))) (fun _ _ _ _ _ => (pv 8)))
  (pss_cons (ps_set (i := 5) sc_law_lot_numbers.nd rfl (.inl rfl) (pe_op on_div (pe_callB xc_lenL (by rfl) T.n_len (by decide +kernel) (pa_cons (pv 3) pa_nil)) (pe_callB xc_lenL (by rfl) T.n_len (by decide +kernel) (pa_cons (pe_lc (own := [("_law_one", 8)]) rfl sc_law_lot_numbers.nd (pi_list (pv 3)) (blkOk_by (N := ["_law_kinds_here", "_law_lot", "_law_mask", "_law_some", "_law_bare", "_law_number", "_law_place", "_law_key", "_law_one"]) (sc := defScope s_law_lot_numbers) (by decide +kernel)) (fun _ _ _ _ _ => (pg_name (i := 8) sc_law_lot_numbers.nd rfl (.inl rfl))) (fun _ _ _ _ _ => (pts_one (pt_val (pe_ix xi_tup (pv 8) (pe_nat 0) (fun _ _ => rfl))))) (fun _ _ _ _ _ => (pv 8))) pa_nil))))
  (pss_one (ps_ret (pe_tup (pa_cons (pe_call G_law_halvings (hr.mono (by decide)) (by rfl) T.m_law_halvings T.F_law_halvings.kp T.b_law_halvings .nil pass0 (pa_cons (pv 5) pa_nil)) (pa_cons (pe_call G_law_halvings (hr.mono (by decide)) (by rfl) T.m_law_halvings T.F_law_halvings.kp T.b_law_halvings .nil pass0 (pa_cons (pe_op on_div (pe_callB xc_lenL (by rfl) T.n_len (by decide +kernel) (pa_cons (pv 4) pa_nil)) (pe_callB xc_lenL (by rfl) T.n_len (by decide +kernel) (pa_cons (pe_lc (own := [("_law_one", 8)]) rfl sc_law_lot_numbers.nd (pi_list (pv 4)) (blkOk_by (N := ["_law_kinds_here", "_law_lot", "_law_mask", "_law_some", "_law_bare", "_law_number", "_law_place", "_law_key", "_law_one"]) (sc := defScope s_law_lot_numbers) (by decide +kernel)) (fun _ _ _ _ _ => (pg_name (i := 8) sc_law_lot_numbers.nd rfl (.inl rfl))) (fun _ _ _ _ _ => (pts_one (pt_val (pe_ix xi_tup (pv 8) (pe_nat 2) (fun _ _ => rfl))))) (fun _ _ _ _ _ => (pv 8))) pa_nil))) pa_nil)) pa_nil))))))))), ?_⟩
  repeat walk_at "st"
  refine lcM (walk_tup (K := K) (xs := l.map nV)) l (fun p => 1 <<< p) isN monoN (by simp) (by simp; omega) (fun _ s => SqT.of (s _ _ hq)) (fun _ _ _ _ y => yat_same y) ?_ ?_
  · rintro i c x H1 H2 hc s1 ⟨rfl, y⟩ Qc qc
    obtain ⟨m, hm, rfl⟩ := getN y
    rw [hc] at hm
    cases hm
    have := hup.2 c (mem_idx hc)
    walk_at "st"
    refine ⟨rfl, ?_⟩
    repeat walk_at "st"
    exact qc _ _ (Same.refl _) rfl
  intro D vs1 H1 hD s1 h1 hi1
  obtain rfl := hi1.eqN
  repeat walk_at "st"
  refine s_sum h1 ?_
  repeat walk_at "st"
  have hd1 := s1 _ _ hd
  have hk1 := isKd_sol (Sol.of s1) hk
  refine ⟨d, .dT kvs, hd1, trivial, fun od => ?_⟩
  have so1 : Sol H1 (upd H1 d (.frz od (.dT kvs))) := Sol.upd' hd1 (fun z => z)
  have hkz := isKd_sol so1 hk1
  have hdz : (upd H1 d (.frz od (.dT kvs))) d = some (.frz od (.dT kvs)) := upd_same
  have kz : ∀ b o, b ≠ d → H1 b = some o → (upd H1 d (.frz od (.dT kvs))) b = some o := fun b o h1 h => by rw [upd_ne h1]; exact h
  generalize upd H1 d (.frz od (.dT kvs)) = Hz at so1 hkz hdz kz
  repeat walk_at "st"
  refine ⟨.ref d, rfl, d, od, rfl, .inr ⟨kvs, hdz, ?_⟩⟩
  refine lcF (walk_keysT (d := d) (o := od) (kvs := kvs)) ks f (kWithin l) isK3 monoK3 hk.length.symm (by have := hk.length; omega) (fun _ s => s _ _ hdz) (fun _ _ _ _ y => by rw [y.1]; exact Same.refl _) ?_ ?_
  · rintro i c x H2 H3 hc s2 ⟨rfl, kk, v, b, hkv, rfl, hb⟩ Qc Qn qc qn
    have e0 := (paired_at hkz hkv hc).1
    have e0 : kk = k2 c := e0
    subst e0
    have hb' : H3 b = some (.tup [nV c.1, nV c.2]) := hb
    have hd3 := s2 _ _ hdz
    walk_at "st"
    refine ⟨rfl, ?_⟩
    repeat walk_at "st"
    refine s_if (fun e => ?_) (fun e => ?_)
    · obtain ⟨t, ht, ht2⟩ := valKd hkz (mem_idx hc)
      repeat walk_at "st"
      refine ⟨d, .ref t, rfl, .inr ⟨kvs, k2 c, b, .inr ⟨od, hd3⟩, rfl, hb', ht.symm⟩, ?_⟩
      exact qc _ _ e (Same.refl _) ⟨t, rfl, s2 _ _ ht2⟩
    · exact qn _ e (Same.refl _)
  intro D2 vs2 H2 hD2 s2 h2 hi2
  have hd2 := s2 _ _ hdz
  repeat walk_at "st"
  refine ⟨hd2, ?_⟩
  have nD : D2 ≠ d := fun z => by rw [z, hd2] at h2; cases h2
  have so2 : Sol H2 (upd H2 d (.dT kvs)) := Sol.upd' hd2 (fun z => z)
  have s3 : Same H (upd H2 d (.dT kvs)) := fun b o h => by
    by_cases e : b = d
    · rw [e, hd] at h; cases h; rw [e]; exact upd_same
    · rw [upd_ne e]; exact s2 _ _ (kz _ _ e (s1 _ _ h))
  have h3 : (upd H2 d (.dT kvs)) D2 = some (.lst vs2) := by rw [upd_ne nD]; exact h2
  have hi3 := hi2.mono monoK3 so2
  generalize upd H2 d (.dT kvs) = H3 at s3 h3 hi3
  clear hd1 hk1 so1 hkz hdz kz s2 hd2 so2 h2 hi2 hD2 s1 h1 hi1
  generalize hbs : (ks.filter (kWithin l)).map f = bs at hi3 hp1 hp2 k
  have e3 := hi3.len
  have hbl : bs.length ≤ 2000 := by
    rw [← hbs, List.length_map]
    exact Nat.le_trans (List.length_filter_le ..) hks
  repeat walk_at "st"
  refine lcF (walk_list (K := K) (xs := vs2)) bs id (fun b => b.2.1) isK3 monoK3 e3.symm (by omega) (fun _ s => SqL.of (s _ _ h3)) (fun _ _ _ _ y => yat_same y) ?_ ?_
  · rintro i c x H4 H5 hc s4 ⟨rfl, y⟩ Qc Qn qc qn
    obtain ⟨t, rfl, ht⟩ := monoK3 _ _ _ _ (Sol.of s4) (hi3.at y hc)
    walk_at "st"
    refine ⟨rfl, ?_⟩
    repeat walk_at "st"
    refine s_if (fun e => ?_) (fun e => ?_)
    · repeat walk_at "st"
      exact qc _ _ e (Same.refl _) ⟨t, rfl, ht⟩
    · exact qn _ e (Same.refl _)
  intro D4 vs4 H4 hD4 s4 h4 hi4
  rw [List.map_id] at hi4
  have h34 := s4 _ _ h3
  have hi34 := hi3.mono monoK3 (Sol.of s4)
  repeat walk_at "st"
  refine lcF (walk_list (K := K) (xs := vs2)) bs id (fun b => b.1) isK3 monoK3 e3.symm (by omega) (fun _ s => SqL.of (s _ _ h34)) (fun _ _ _ _ y => yat_same y) ?_ ?_
  · rintro i c x H5 H6 hc s5 ⟨rfl, y⟩ Qc Qn qc qn
    obtain ⟨t, rfl, ht⟩ := monoK3 _ _ _ _ (Sol.of s5) (hi34.at y hc)
    walk_at "st"
    refine ⟨rfl, ?_⟩
    repeat walk_at "st"
    refine s_if (fun e => ?_) (fun e => ?_)
    · repeat walk_at "st"
      exact qc _ _ e (Same.refl _) ⟨t, rfl, ht⟩
    · exact qn _ e (Same.refl _)
  intro D5 vs5 H5 hD5 s5 h5 hi5
  rw [List.map_id] at hi5
  have h45 := s5 _ _ h4
  have hi45 := hi4.mono monoK3 (Sol.of s5)
  have e4 := hi4.len
  have e5 := hi5.len
  have hb4 : (bs.filter fun b => b.2.1).length ≤ 2000 := Nat.le_trans (List.length_filter_le ..) hbl
  have hb5 : (bs.filter fun b => b.1).length ≤ 2000 := Nat.le_trans (List.length_filter_le ..) hbl
  repeat walk_at "st"
  rw [e3, e5]
  repeat walk_at "st"
  refine ⟨_, rfl, ?_⟩
  repeat walk_at "st"
  refine lcF (walk_list (K := K) (xs := vs4)) (bs.filter fun b => b.2.1) id (fun b => b.2.2) isK3 monoK3 e4.symm (by omega) (fun _ s => SqL.of (s _ _ h45)) (fun _ _ _ _ y => yat_same y) ?_ ?_
  · rintro i c x H6 H7 hc s6 ⟨rfl, y⟩ Qc Qn qc qn
    obtain ⟨t, rfl, ht⟩ := monoK3 _ _ _ _ (Sol.of s6) (hi45.at y hc)
    walk_at "st"
    refine ⟨rfl, ?_⟩
    repeat walk_at "st"
    refine s_if (fun e => ?_) (fun e => ?_)
    · repeat walk_at "st"
      exact qc _ _ e (Same.refl _) ⟨t, rfl, ht⟩
    · exact qn _ e (Same.refl _)
  intro D6 vs6 H6 hD6 s6 h6 hi6
  rw [List.map_id] at hi6
  have e6 := hi6.len
  have hb6 : ((bs.filter fun b => b.2.1).filter fun b => b.2.2).length ≤ 2000 := Nat.le_trans (List.length_filter_le ..) hb4
  repeat walk_at "st"
  rw [e4, e6]
  repeat walk_at "st"
  refine ⟨_, rfl, ?_⟩
  repeat walk_at "st"
  intro t7 ht7
  exact k t7 _ _ (Same.nw ((s3.trans s4).trans (s5.trans s6)) ht7) upd_same
end
end Kq

set_option Elab.async false
set_option linter.all false
set_option maxHeartbeats 4000000
/-! what a region tells against the law's counting -/
namespace Kq
open XG
/-- the law's kinds of the strings within a lot -/
def lotKinds (n : Nat) (l : List Nat) (rows ga : List Row) : List (Bool × Bool × Bool) := (((allV n).filter (commB rows)).filter (kWithin l)).map (kindV rows ga)
structure LotOk (n : Nat) (l : List Nat) (rows ga fs : List Row) : Prop where
  ok : ∀ r ∈ fs, r.ok n
  inn : ∀ r ∈ fs, kWithin l r.xz = true
  len : fs.length ≤ 2 * l.length
  ind : Ind (fs.map Row.xz)
  com : ∀ v, v ∈ spanOf (fs.map Row.xz) → v ∈ (allV n).filter (commB rows)
  dis : ∀ v, v ∈ spanOf (fs.map Row.xz) → (kindV rows ga v).1 = true → v = ze
  pos1 : 0 < ((lotKinds n l rows ga).filter fun b => b.1).length
  pos2 : 0 < (((lotKinds n l rows ga).filter fun b => b.2.1).filter fun b => b.2.2).length
  num : halv 200 ((lotKinds n l rows ga).length / ((lotKinds n l rows ga).filter fun b => b.1).length) = fs.length
theorem within_ze (l : List Nat) : Within l ze := fun p hp => by
  rw [ze2] at hp
  simp at hp
theorem kWithin_iff {n : Nat} {l : List Nat} (h : Up n l) (v : V2) : kWithin l v = true ↔ Within l v := by
  unfold kWithin
  rw [decide_eq_true_iff]
  exact mask_within h v
theorem ze_kind {n : Nat} {l : List Nat} {rows : List Row} (h : Up n l) : ze ∈ ((allV n).filter (commB rows)).filter (kWithin l) := by
  rw [List.mem_filter, List.mem_filter]
  exact ⟨⟨allV_mem.mpr (Lt2.ze n), commB_iff.mpr fun r _ => cr2_ze' _⟩, (kWithin_iff h _).mpr (within_ze l)⟩
theorem ze_kindV (rows ga : List Row) : kindV rows ga ze = (true, true, true) := by
  unfold kindV
  rw [decide_eq_true ((spanOf_ok _).2 ze |>.mpr .zero), decide_eq_true ((spanOf_ok _).2 ze |>.mpr .zero), commB_iff.mpr fun r _ => cr2_ze' _]
theorem lot_ok {n : Nat} {l : List Nat} {rows ga g : List Row} (hup : Up n l) (hll : l.length ≤ 50) (ha : ∀ r ∈ ga, r.ok n) (hgok : ∀ r ∈ g, r.ok n) (hg : ∀ x, Sn (g.map Row.xz) x ↔ Sn (rows.map Row.xz) x) :
    LotOk n l rows ga (regF n l g (g ++ ga)).found := by
  obtain ⟨h1, h2, h3⟩ := regF_ok (rows := g) (others := g ++ ga) hup.nodup hup.2 (fun r hr => (List.mem_append.mp hr).elim (hgok r) (ha r))
  have hok := h1.ok
  have hind := h1.ind
  have hdis := h1.dis
  generalize (regF n l g (g ++ ga)).found = fs at h2 h3 hok hind hdis
  have hmap := map_app_span (ga := ga) hg
  have hF : ∀ f, Sn (fs.map Row.xz) f → Lt2 n f ∧ Within l f ∧ commB rows f = true := fun f hf => by
    refine ⟨hf.all (p := Lt2 n) (Lt2.ze n) (fun _ _ h1 h2 => h1.xo h2) fun a ha => ?_, hf.all (p := Within l) (within_ze l) (fun _ _ h1 h2 => h1.xo h2) fun a ha => ?_, commB_iff.mpr fun r hr => ?_⟩
    · obtain ⟨r, hr, rfl⟩ := List.mem_map.mp ha
      exact (hok r hr).ok.lt
    · obtain ⟨r, hr, rfl⟩ := List.mem_map.mp ha
      exact (hok r hr).inn
    · rw [cr2_comm]
      refine cr2_span (L := g.map Row.xz) (fun b hb => ?_) ((hg _).mpr (Sn.mem (List.mem_map_of_mem hr)))
      obtain ⟨q, hq, rfl⟩ := List.mem_map.mp hb
      refine cr2_span' (fun c hc => ?_) hf
      obtain ⟨r, hr, rfl⟩ := List.mem_map.mp hc
      exact (hok r hr).com q hq
  have hspan : ∀ v, v ∈ spanOf (fs.map Row.xz) ↔ Sn (fs.map Row.xz) v := (spanOf_ok _).2
  have hempty : ∀ v, (kindV rows ga v).1 = true ↔ Sn ((rows ++ ga).map Row.xz) v := fun v => by
    show decide (v ∈ spanOf ((rows ++ ga).map Row.xz)) = true ↔ _
    rw [decide_eq_true_iff, (spanOf_ok _).2]
  have hA : (lotKinds n l rows ga).length = ((allV n).filter fun v => kWithin l v && commB rows v).length := by
    unfold lotKinds
    rw [List.length_map, List.filter_filter]
  have hB : ((lotKinds n l rows ga).filter fun b => b.1).length = ((allV n).filter fun v => (kWithin l v && commB rows v) && (kindV rows ga v).1).length := by
    unfold lotKinds
    rw [List.filter_map, List.length_map, List.filter_filter, List.filter_filter]
    congr 1
    refine List.filter_congr fun v _ => ?_
    show (((kindV rows ga v).1 && kWithin l v) && commB rows v) = ((kWithin l v && commB rows v) && (kindV rows ga v).1)
    cases (kindV rows ga v).1 <;> cases kWithin l v <;> cases commB rows v <;> rfl
  have hp1 : 0 < ((lotKinds n l rows ga).filter fun b => b.1).length := by
    refine List.length_pos_of_mem (a := (true, true, true)) (List.mem_filter.mpr ⟨?_, rfl⟩)
    rw [← ze_kindV rows ga]
    exact List.mem_map_of_mem (ze_kind hup)
  refine ⟨fun r hr => (hok r hr).ok, fun r hr => (kWithin_iff hup _).mpr (hok r hr).inn, h3, hind, fun v hv => ?_, fun v hv e => hdis v ((hspan v).mp hv) ((hmap v).mpr ((hempty v).mp e)), hp1, ?_, ?_⟩
  · obtain ⟨f1, f2, f3⟩ := hF v ((hspan v).mp hv)
    exact List.mem_filter.mpr ⟨allV_mem.mpr f1, f3⟩
  · refine List.length_pos_of_mem (a := (true, true, true)) (List.mem_filter.mpr ⟨List.mem_filter.mpr ⟨?_, rfl⟩, rfl⟩)
    rw [← ze_kindV rows ga]
    exact List.mem_map_of_mem (ze_kind hup)
  · have hc := count_split (all := allV n) (allV_nodup n) (C := fun v => kWithin l v && commB rows v) (E := fun v => (kindV rows ga v).1) (F := fs.map Row.xz) hind
      (fun x hx => by
        have hx : (kWithin l x && commB rows x) = true := hx
        rw [Bool.and_eq_true] at hx
        have hw := (kWithin_iff hup x).mp hx.1
        exact allV_mem.mpr ⟨lt_of_bits fun i hi => hup.2 i (hw i (.inl hi)), lt_of_bits fun i hi => hup.2 i (hw i (.inr hi))⟩)
      (fun f hf => by
        obtain ⟨_, f2, f3⟩ := hF f hf
        show (kWithin l f && commB rows f) = true
        rw [(kWithin_iff hup f).mpr f2, f3]; rfl)
      (fun a b h1 h2 => by
        have h1 : (kWithin l a && commB rows a) = true := h1
        have h2 : (kWithin l b && commB rows b) = true := h2
        show (kWithin l (xo a b) && commB rows (xo a b)) = true
        rw [Bool.and_eq_true, kWithin_iff hup, commB_iff] at h1 h2 ⊢
        exact ⟨h1.1.xo h2.1, fun r hr => by rw [cr2_xo', h1.2 r hr, h2.2 r hr]⟩)
      (fun x hx e => hdis x hx ((hmap x).mpr ((hempty x).mp e)))
      (fun a b h1 h2 => (hempty _).mpr (((hempty a).mp h1).xo ((hempty b).mp h2)))
      (fun x hx => by
        have hx : (kWithin l x && commB rows x) = true := hx
        rw [Bool.and_eq_true, kWithin_iff hup, commB_iff] at hx
        have hlt : Lt2 n x := ⟨lt_of_bits fun i hi => hup.2 i (hx.1 i (.inl hi)), lt_of_bits fun i hi => hup.2 i (hx.1 i (.inr hi))⟩
        have := h2 x hlt hx.1 fun r hr => by
          refine cr2_span (L := rows.map Row.xz) (fun b hb => ?_) ((hg _).mp (Sn.mem (List.mem_map_of_mem hr)))
          obtain ⟨q, hq, rfl⟩ := List.mem_map.mp hb
          rw [cr2_comm]; exact hx.2 q hq
        rw [List.map_append, Sn.app] at this
        obtain ⟨a, b, h4, h5, e⟩ := this
        exact ⟨a, b, (hempty a).mpr ((hmap a).mp h4), h5, e⟩)
    rw [hA, hB, hc, List.length_map]
    rw [hB] at hp1
    rw [Nat.mul_div_cancel_left _ hp1]
    exact halv_pow _ _ (by omega)
end Kq

set_option Elab.async false
set_option linter.all false
set_option maxRecDepth 100000
set_option maxHeartbeats 8000000
/-! the law walked -/
namespace Kq
open PySem PySem.Spec PyProof.Rows L2 XG
local macro_rules | `(tactic| walk_at "st") => `(tactic| first
  | with_reducible refine s_seq ?_
  | ((with_reducible refine' s_var ?h1 ?h2); (case h1 => rfl))
  | with_reducible refine s_c ?_
  | with_reducible refine s_op ?_
  | with_reducible refine s_asg ?_
  | with_reducible refine s_name ?_
  | with_reducible refine s_cons ?_
  | with_reducible refine s_nil ?_
  | with_reducible refine s_call ?_
  | with_reducible refine s_CB ?_
  | with_reducible refine s_add ?_
  | ((with_reducible refine' s_sub ?h1 ?h2); (case h1 => omega))
  | ((with_reducible refine' s_mul ?h1 ?h2); (case h1 => omega))
  | ((with_reducible refine' s_mod ?h1 ?h2); (case h1 => omega))
  | ((with_reducible refine' s_div ?h1 ?h2); (case h1 => omega))
  | ((with_reducible refine' s_shl ?h1 ?h2); (case h1 => omega))
  | with_reducible refine s_shr ?_
  | with_reducible refine s_and ?_
  | with_reducible refine s_or ?_
  | with_reducible refine s_xor ?_
  | with_reducible refine s_lt ?_
  | with_reducible refine s_le ?_
  | with_reducible refine s_gt ?_
  | with_reducible refine s_ge ?_
  | with_reducible refine s_eqN ?_
  | with_reducible refine s_neN ?_
  | with_reducible refine s_eqS ?_
  | with_reducible refine s_neS ?_
  | with_reducible refine s_I0 ?_
  | with_reducible refine s_un ?_
  | with_reducible refine s_neg ?_
  | with_reducible refine s_test ?_
  | with_reducible refine s_B ?_
  | with_reducible refine s_bl ?_
  | with_reducible refine s_ifS ?_
  | with_reducible refine s_ifE ?_
  | with_reducible refine s_not ?_
  | with_reducible refine s_and2 ?_
  | with_reducible refine s_or2 ?_
  | with_reducible refine s_andV ?_
  | with_reducible refine s_orV ?_
  | with_reducible refine s_notV ?_
  | with_reducible refine s_tru ?_
  | with_reducible refine s_par ?_
  | with_reducible refine s_two ?_
  | with_reducible refine s_par3 ?_
  | with_reducible refine s_three ?_
  | with_reducible refine s_lst ?_
  | with_reducible refine s_tup ?_
  | ((with_reducible refine' s_size ?h1 ?h2); (case h1 => exact Nat.le_of_ble_eq_true rfl))
  | with_reducible refine s_fld ?_
  | with_reducible refine s_gcons ?_
  | with_reducible refine s_gnil ?_
  | with_reducible refine s_intN ?_
  | with_reducible refine s_intI ?_
  | with_reducible refine s_tTru ?_
  | with_reducible refine s_tBL ?_
  | with_reducible refine s_sign ?_
  | with_reducible refine s_min ?_
  | with_reducible refine s_sfld ?_
  | with_reducible refine s_gfld ?_
  | with_reducible refine s_intB ?_
  | with_reducible refine s_next ?_
  | with_reducible refine s_ret ?_
  | with_reducible refine s_drop ?_
  | with_reducible refine s_for ?_
  | with_reducible refine s_lc ?_
  | with_reducible refine s_yes ?_
  | with_reducible refine s_bits ?_
  | with_reducible refine s_bitsV ?_
  | ((with_reducible refine' s_own ?h1 ?h2); (case h1 => assumption))
  | ((with_reducible refine' s_len ?h1 ?h2); (case h1 => assumption))
  | ((with_reducible refine' s_lenT ?h1 ?h2); (case h1 => assumption))
  | with_reducible refine s_iTup ?_
  | with_reducible refine s_iList ?_
  | with_reducible refine s_iStr ?_
  | with_reducible refine s_iRng1 ?_
  | with_reducible refine s_iRng2 ?_
  | with_reducible refine s_iEnum ?_
  | with_reducible refine s_iEnumT ?_
  | with_reducible refine s_iEnumS ?_
  | with_reducible refine s_iZip ?_
  | with_reducible refine s_iZipM ?_
  | with_reducible refine s_srcS ?_
  | with_reducible refine s_srcES ?_
  | ((with_reducible refine' s_srcT ?h1 ?h2); (case h1 => assumption))
  | ((with_reducible refine' s_srcL ?h1 ?h2); (case h1 => assumption))
  | ((with_reducible refine' s_srcE ?h1 ?h2); (case h1 => assumption))
  | ((with_reducible refine' s_srcET ?h1 ?h2); (case h1 => assumption))
  | ((with_reducible refine' s_rng1 ?h1 ?h2); (case h1 => omega))
  | ((with_reducible refine' s_rng2 ?h1 ?h2); (case h1 => omega))
  | with_reducible refine s_ckw ?_
  | ((with_reducible refine' s_sorted ?h1 ?h2); (case h1 => assumption))
  | ((with_reducible refine' s_inN ?h1 ?h2); (case h1 => assumption))
  | ((with_reducible refine' s_ninN ?h1 ?h2); (case h1 => assumption))
  | ((with_reducible refine' s_tupL ?h1 ?h2); (case h1 => assumption))
  | ((with_reducible refine' s_tupT ?h1 ?h2); (case h1 => assumption))
  | ((with_reducible refine' s_lstL ?h1 ?h2); (case h1 => assumption))
  | ((with_reducible refine' s_lstT ?h1 ?h2); (case h1 => assumption))
  | ((with_reducible refine' s_addS2 ?h1 ?h2); (case h1 => (simp only [List.length_append, letL_len]; omega)); (rw [sOf_add]))
  | with_reducible refine s_sl ?_
  | with_reducible refine s_part ?_
  | with_reducible refine s_partV ?_
  | with_reducible refine s_nopart ?_
  | ((with_reducible refine' s_cutTake ?h1 ?h2); (case h1 => assumption))
  | ((with_reducible refine' s_cutDrop ?h1 ?h2); (case h1 => assumption))
  | with_reducible refine s_isiII ?_
  | with_reducible refine s_isiIB ?_
  | with_reducible refine s_isiSS ?_
  | ((with_reducible refine' s_isiTT ?h1 ?h2); (case h1 => assumption))
  | ((with_reducible refine' s_aug ?h1 ?h2); (case h1 => rfl))
  | with_reducible refine s_ipN ?_
  | with_reducible refine s_ip ?_
  | with_reducible refine s_gsub ?_
  | with_reducible refine s_wh ?_
  | with_reducible refine s_join ?_
  | ((with_reducible refine' s_ixT ?h1 ?h2 ?h3); (case h1 => assumption); (case h2 => rfl))
  | ((with_reducible refine' s_at ?h1 ?h2 ?h3); (case h1 => assumption); (case h2 => assumption))
  | with_reducible refine s_make ?_
  | with_reducible refine s_dgetK ?_
  | with_reducible refine s_dput ?_
  | with_reducible refine s_chain ?_
  | with_reducible refine s_eqI ?_
  | with_reducible refine s_pcons ?_
  | with_reducible refine s_pnil ?_
  | with_reducible refine s_lrg ?_
  | with_reducible refine s_rg1 ?_
  | with_reducible refine s_rgV ?_)

def isV2 : Rp V2 := fun H v c => ∃ b, v = .ref b ∧ H b = some (.tup [nV c.1, nV c.2])
theorem monoV2 : MonoS isV2 := fun _ _ _ _ s ⟨b, e, h⟩ => ⟨b, e, s b _ h trivial⟩
theorem kvT_at {ks : List V2} {i : Nat} {k : List Key} {v : V} (h : (kvT ks)[i]? = some (k, v)) {c : V2} (hc : ks[i]? = some c) : k = k2 c := by
  unfold kvT at h
  rw [List.getElem?_map, hc] at h
  cases h
  rfl
theorem isC.oks {K : PySem.W.Frag} {n : Nat} {H : Hp} {v : V} {c : List Row × List Row} (h : isC K n H v c) : ∀ r ∈ c.1, r.ok n := by
  obtain ⟨a, dx, fs, gv, av, rfl, ha, lsz, lgr, ⟨ga, gdx, gfs, rv, rfl, hga, lrw, ⟨rp', rs, rfl, hrp, hri⟩, gd⟩, _⟩ := h
  exact hri.oks
section
variable {P : Program} {w : World} {K : PySem.W.Frag} {mg : Str → Option Value} {base : Heap}
def sp_law (K : PySem.W.Frag) : Sp := fun vs H Q _ => ∃ (p : Addr) (cells : List Int), vs = [.ref p] ∧ SqL K H p (cells.map V.int) ∧ cells.length ≤ 1000 ∧ ∀ H', Q (.bl true) H'
theorem ok_law (T : Tx K mg) : FnOk P w K mg base CX0 10 (He.fAd K ("law", none)) T.fd_law ["_law_script"] (sp_law K) := by
  have G_law_pen := ok_law_pen (P := P) (w := w) (base := base) T
  have G_law_draw := ok_law_draw (P := P) (w := w) (base := base) T
  have G_law_some_code := ok_law_some_code (P := P) (w := w) (base := base) T
  have G_law_code := ok_law_code (P := P) (w := w) (base := base) T
  have G_law_kinds := ok_law_kinds (P := P) (w := w) (base := base) T
  have G_law_lots := ok_law_lots (P := P) (w := w) (base := base) T
  have G_law_lot_numbers := ok_law_lot_numbers (P := P) (w := w) (base := base) T
  have G_law_told := ok_law_told (P := P) (w := w) (base := base) T
  have G_law_is_within := ok_law_is_within (P := P) (w := w) (base := base) T
  have G_law_spanned := ok_law_spanned (P := P) (w := w) (base := base) T
  have G_region := ok_region (P := P) (w := w) (base := base) T
  have G_Pauli_eq := ok_Pauli_eq (P := P) (w := w) (base := base) T
  refine okD T.F_law sc_law (fun vs H Q E h => by obtain ⟨n, _, rfl, _⟩ := h; rfl) (fun cdv A outer s H vs Q E hr h => ?_)
  have hu64 := hr.units
  have hu : (A.deeper (envOfC "law" (defScope s_law) s.heap.objs.size (He.fAd K ("law", none)) cdv)).units + 1 < cLine := by omega
  obtain ⟨p, cells, rfl, hS, hcl, k⟩ := h
  refine ⟨_, (pss_cons (ps_set (i := 1) sc_law.nd rfl (.inl rfl) (pe_call G_law_pen (hr.mono (by decide)) (by rfl) T.m_law_pen T.F_law_pen.kp T.b_law_pen .nil pass0 (pa_cons (pv 0) pa_nil)))
  (pss_cons (ps_set (i := 2) sc_law.nd rfl (.inl rfl) (pe_call G_law_some_code (hr.mono (by decide)) (by rfl) T.m_law_some_code T.F_law_some_code.kp T.b_law_some_code .nil pass0 (pa_cons (pv 1) (pa_cons (pe_nat 5) pa_nil))))
  (pss_cons (ps_asg (pe_tup (pa_cons (pe_dget hu (pv 2) pe_str (fun _ _ => rfl)) (pa_cons (pe_call G_law_code (hr.mono (by decide)) (by rfl) T.m_law_code T.F_law_code.kp T.b_law_code .nil pass0 (pa_cons (pv 2) pa_nil)) pa_nil))) (xg_tup (n := 2) rfl (pgs_cons (pg_name (i := 3) sc_law.nd rfl (.inr rfl)) (pgs_cons (pg_name (i := 4) sc_law.nd rfl (.inl rfl)) pgs_nil))))
  (pss_cons (ps_set (i := 5) sc_law.nd rfl (.inr rfl) (pe_call G_law_kinds (hr.mono (by decide)) (by rfl) T.m_law_kinds T.F_law_kinds.kp T.b_law_kinds .nil pass0 (pa_cons (pv 2) pa_nil)))
  (pss_cons (ps_for PassesOwn.never rfl (pi_list (pe_call G_law_lots (hr.mono (by decide)) (by rfl) T.m_law_lots T.F_law_lots.kp T.b_law_lots .nil pass0 (pa_cons (pv 3) pa_nil))) (pg_name (i := 6) sc_law.nd rfl (.inr rfl))
  (pss_cons (ps_set (i := 7) sc_law.nd rfl (.inl rfl) (pe_ifExp (pt_cmpR on_eq (pe_call G_law_draw (hr.mono (by decide)) (by rfl) T.m_law_draw T.F_law_draw.kp T.b_law_draw .nil pass0 (pa_cons (pv 1) (pa_cons (pe_nat 2) pa_nil))) (pe_nat 0) (nomark _)) (pv 6) (pe_callTy xc_lstT (by rfl) T.n_list (by decide +kernel) (pa_cons (pv 6) pa_nil))))
  (pss_cons (ps_set (i := 8) sc_law.nd rfl (.inl rfl) (pe_call G_region (hr.mono (by decide)) (by rfl) T.m_region T.F_region.kp T.b_region .nil pass0 (pa_cons (pv 4) (pa_cons (pv 7) pa_nil))))
  (pss_cons (ps_if (PW.pt (pw_or (pt_not (pt_val (pe_callB call_isi (by rfl) T.n_isinstance (by decide +kernel) (pa_cons (pv 8) (pa_cons (pe_glob (v := .ref (He.ga K "Region")) (by rfl) T.m_Region rfl) pa_nil))))) (pw_or1 (pt_cmpR on_ne (xe_fld T.c_Region T.a_Region_number (pv 8)) (pe_ix xi_tup (pe_call G_law_lot_numbers (hr.mono (by decide)) (by rfl) T.m_law_lot_numbers T.F_law_lot_numbers.kp T.b_law_lot_numbers .nil pass0 (pa_cons (pv 5) (pa_cons (pv 6) pa_nil))) (pe_nat 0) (fun _ _ => rfl)) (nomark _))))) (pss_one (ps_ret pe_bl)) pss_nil)
  (pss_cons (ps_if (PW.pt (pw_or (pt_not (pt_val (pe_callB call_isi (by rfl) T.n_isinstance (by decide +kernel) (pa_cons (xe_fld T.c_Region T.a_Region_inside (pv 8)) (pa_cons (pe_bltn (v := .ty "tuple") (by rfl) T.n_tuple (by decide +kernel) rfl) pa_nil))))) (pw_or1 (pt_cmpR on_ne (pe_callB xc_lenT (by rfl) T.n_len (by decide +kernel) (pa_cons (xe_fld T.c_Region T.a_Region_inside (pv 8)) pa_nil)) (xe_fld T.c_Region T.a_Region_number (pv 8)) (nomark _))))) (pss_one (ps_ret pe_bl)) pss_nil)
  (pss_cons (ps_setLc (own := [("_law_string", 11)]) (i := 9) rfl sc_law.nd rfl rfl (sw_true rfl rfl rfl (by decide +kernel)) (pi_tup (xe_fld T.c_Region T.a_Region_inside (pv 8))) (blkOk_by (N := ["_law_script", "_law_pen_here", "_law_code_here", "_law_size", "_law_made", "_law_kinds_here", "_law_lot", "_law_given", "_law_told_here", "_law_strings", "_law_products", "_law_string", "_law_key"]) (sc := defScope s_law) (by decide +kernel)) (fun _ _ _ _ _ => (pg_name (i := 11) sc_law.nd rfl (.inl rfl))) (fun _ _ _ _ _ => pts_nil) (fun _ _ _ _ _ => (pe_call G_law_told (hr.mono (by decide)) (by rfl) T.m_law_told T.F_law_told.kp T.b_law_told .nil pass0 (pa_cons (pv 11) (pa_cons (pv 3) pa_nil)))))
  (pss_cons (ps_if (pt_cmpR (xo_neNil hu64) (pe_lc (own := [("_law_string", 11)]) rfl sc_law.nd (pi_list (pv 9)) (blkOk_by (N := ["_law_script", "_law_pen_here", "_law_code_here", "_law_size", "_law_made", "_law_kinds_here", "_law_lot", "_law_given", "_law_told_here", "_law_strings", "_law_products", "_law_string", "_law_key"]) (sc := defScope s_law) (by decide +kernel)) (fun _ _ _ _ _ => (pg_name (i := 11) sc_law.nd rfl (.inl rfl))) (fun _ _ _ _ _ => (pts_one (PW.pt (pw_or (pt_cmpR op_isN (pv 11) pe_non (nomark _)) (pw_or1 (pt_not (pt_val (pe_call G_law_is_within (hr.mono (by decide)) (by rfl) T.m_law_is_within T.F_law_is_within.kp T.b_law_is_within .nil pass0 (pa_cons (pv 11) (pa_cons (pv 6) pa_nil)))))))))) (fun _ _ _ _ _ => (pe_nat 1))) (pe_lst pa_nil) (nomark _)) (pss_one (ps_ret pe_bl)) pss_nil)
  (pss_cons (ps_set (i := 10) sc_law.nd rfl (.inl rfl) (pe_call G_law_spanned (hr.mono (by decide)) (by rfl) T.m_law_spanned T.F_law_spanned.kp T.b_law_spanned .nil pass0 (pa_cons (pv 9) pa_nil)))
  (pss_cons (ps_if (pt_cmpR (xo_neNil hu64) (pe_lock (pe_lc (own := [("_law_key", 12)]) rfl sc_law.nd (pi_keys (pv 10)) (blkOk_by (N := ["_law_script", "_law_pen_here", "_law_code_here", "_law_size", "_law_made", "_law_kinds_here", "_law_lot", "_law_given", "_law_told_here", "_law_strings", "_law_products", "_law_string", "_law_key"]) (sc := defScope s_law) (by decide +kernel)) (fun _ _ _ _ _ => (pg_name (i := 12) sc_law.nd rfl (.inl rfl))) (fun _ _ _ _ _ => (pts_one (PW.pt (pw_or (pt_cmp (pc_dnotin hu (pv 12) (pv 5))) (pw_or1 (PW.pt (pw_and (pt_val (pe_ix xi_tup (pe_dget hu (pv 5) (pv 12) (fun _ _ => rfl)) (pe_nat 0) (fun _ _ => rfl))) (pw_and1 (pt_cmpR (xo_neTup hu64) (pv 12) (pe_tup (pa_cons (pe_nat 0) (pa_cons (pe_nat 0) pa_nil))) (nomark _)))))))))) (fun _ _ _ _ _ => (pv 12)))) (pe_lst pa_nil) (nomark _)) (pss_one (ps_ret pe_bl)) pss_nil)
  (pss_one (ps_if (PW.pt (pw_or (pt_cmpR on_ne (pe_callB call_len_dT (by rfl) T.n_len (by decide +kernel) (pa_cons (pv 10) pa_nil)) (pe_op on_shl (pe_nat 1) (xe_fld T.c_Region T.a_Region_number (pv 8))) (nomark _)) (pw_or1 (pt_not (pt_cmpR (op_eqG (rcG_tup monRP (eqG_ins G_Pauli_eq T.t_Pauli_eq.at_ T.t_Pauli_eq.fn T.b_Pauli_eq pass0)) (hr.mono (by decide))) (xe_fld T.c_Region T.a_Region_inside (pe_call G_region (hr.mono (by decide)) (by rfl) T.m_region T.F_region.kp T.b_region .nil pass0 (pa_cons (pv 4) (pa_cons (pv 7) pa_nil)))) (xe_fld T.c_Region T.a_Region_inside (pv 8)) (nomark _)))))) (pss_one (ps_ret pe_bl)) pss_nil)))))))))))
  (pss_one (ps_ret pe_bl))))))), ?_⟩
  clear hu64 hu
  repeat walk_at "st"
  refine ⟨p, cells, rfl, hS, hcl, fun a cp H1 s1 ha0 hpen1 => ?_⟩
  repeat walk_at "st"
  refine ⟨a, cp, 0, rfl, hpen1, by omega, fun d kvs n rv gv hv rows ga hid r gd A' B' rows2 ga2 H2 sx2 hpen2 hd0 hd2 cd hrv hgv hhv dc mor mog hn2 hn5 hrl hgl => ?_⟩
  have co := dc.code mor mog
  have hhl : hid.length ≤ 50 := by rw [dc.hlen]; omega
  have hhok : ∀ p ∈ hid, p.1.ok n ∧ p.2.ok n := fun p hp => by
    obtain ⟨j, hj⟩ := List.getElem?_of_mem hp
    exact (dc.hin j p hj).2.2
  clear dc mor mog
  repeat walk_at "st"
  refine ⟨d, nV n, rfl, getS hd2 cd.k1, ?_⟩
  repeat walk_at "st"
  refine ⟨d, kvs, n, rv, gv, hv, rows2, ga2, hid, rfl, hd2, cd, hrv, hgv, hhv, by omega, by omega, by omega, by omega, hhl, co, hhok, fun cv H3 g s3 hC hg hgl2 => ?_⟩
  repeat walk_at "st"
  intro t4 ht4
  have s4 := same_new (o := .tup [nV n, cv]) ht4
  refine s_gtup upd_same rfl ?_
  have s24 := s3.trans s4
  have hC4 := monoC _ _ _ _ (Sol.of s4) hC
  generalize upd H3 t4 (.tup [nV n, cv]) = H4 at s4 s24 hC4
  repeat walk_at "st"
  refine ⟨d, kvs, n, rv, gv, hv, rows2, ga2, rfl, s24 _ _ hd2, cd, hrv.same monoRow s24, hgv.same monoRow s24, hn5, by omega, by omega, co.okr, co.oka, fun q H5 s5 hq0 hK => ?_⟩
  repeat walk_at "st"
  refine ⟨n, rfl, by omega, fun lv H6 s6 hL => ?_⟩
  obtain ⟨lp, ls, rfl, hlp, hli⟩ := hL
  have s26 := s24.trans (s5.trans s6)
  have hpen6 := hpen2.same s26
  have hC6 := monoC _ _ _ _ (Sol.of (s5.trans s6)) hC4
  have hgok := isC.oks hC
  have hgok : ∀ r ∈ g, r.ok n := hgok
  have hoka := co.oka
  obtain ⟨kvk, hq5, hk5⟩ := hK
  have hq6 := s6 _ _ hq5
  have hk6 := isKd_sol (Sol.of s6) hk5
  have hnqa : q ≠ a := fun z => by obtain ⟨xs, e⟩ := hpen6.dict; rw [z, e] at hq6; cases hq6
  have hel := hli.len
  rw [List.length_map, List.length_range] at hel
  have h2n : 2 ^ n ≤ 32 := Nat.pow_le_pow_right (n := 2) (by decide) (show n ≤ 5 from hn5)
  have hksl : ((allV n).filter (commB rows2)).length ≤ 2000 := by
    refine Nat.le_trans (List.length_filter_le ..) ?_
    rw [allV_len]
    exact Nat.le_trans (Nat.mul_le_mul h2n h2n) (by decide)
  clear s3 s4 s5 s6 s24 s26 hC hC4 hq5 hk5 hq0 co hhl hhok hd2 cd hrv hgv hhv hpen1 hpen2 sx2 hd0 ht4 s1 ha0
  repeat walk_at "st"
  refine for_it (n := ls.length) (walk_list (K := K) (xs := ls)) (fun i σ' H' => ∃ o6 o7 o8 o9 o10, σ' = [some (.ref p), some (.ref a), some (.ref d), some (nV n), some cv, some (.ref q), o6, o7, o8, o9, o10, none, none] ∧ SameX a H6 H' ∧ isPen H' a cp (1000 + i)) ⟨_, _, _, _, _, rfl, SameX.refl _ _, hpen6.le (by omega)⟩ (fun i σ' H' _ h => by obtain ⟨_, _, _, _, _, _, sx, _⟩ := h; exact SqL.of (sx _ _ (hpen6.ne hlp) hlp)) ?_ ?_
  · rintro i x σ' H7 H7' hi ⟨o6, o7, o8, o9, o10, rfl, sx7, hpen7⟩ ⟨rfl, y⟩
    obtain ⟨l, hl, hb7⟩ := hli.get y
    obtain ⟨j, _, rfl⟩ := List.mem_map.mp (mem_idx hl)
    have hup := lot_up n j
    have hll := lot_len n j
    generalize lotOf n j = l at hl hb7 hup hll
    have sol7 := hpen6.sol sx7
    have hbl7 := monoBits _ _ _ _ sol7 hb7
    have hC7 := monoC _ _ _ _ sol7 hC6
    have hq7 := sx7 _ _ hnqa hq6
    have hk7 := isKd_sol sol7 hk6
    have lok := lot_ok (rows := rows2) (ga := ga2) (g := g) hup (by omega) hoka hgok hg
    generalize hfs : (regF n l g (g ++ ga2)).found = fs at lok
    clear sol7 hb7
    refine s_name ?_
    with_reducible refine s_seqT (fun σ' H' => ∃ gv, σ' = [some (.ref p), some (.ref a), some (.ref d), some (nV n), some cv, some (.ref q), some x, some gv, o8, o9, o10, none, none] ∧ SameX a H7' H' ∧ isPen H' a cp (1000 + (i + 1)) ∧ (isBits H' gv l ∨ isL isN H' gv l)) ?_ (fun tail => ?_)
    · rintro σ' H8 ⟨gv, rfl, sx8, hpen8, hgv8⟩
      have sol8 := hpen7.sol sx8
      have hbl8 := monoBits _ _ _ _ sol8 hbl7
      have hC8 := monoC _ _ _ _ sol8 hC7
      have hq8 := sx8 _ _ hnqa hq7
      have hk8 := isKd_sol sol8 hk7
      clear hbl7 hC7 hq7 hk7 hpen7 sol8 hC6 hk6 hq6 hli hlp hel y
      repeat walk_at "st"
      refine ⟨cv, gv, n, (g, ga2), l, rfl, hC8, hgv8, hup, by omega, by omega, by omega, by show g.length ≤ 100; omega, by show ga2.length ≤ 100; omega, fun rv9 H9 s9 hR9 => ?_⟩
      have hR9 : isR K n H9 rv9 fs := by rw [← hfs]; exact hR9
      obtain ⟨ra, rdx, rfs, iv, rfl, hra, lnum, linn, ⟨ip, is, rfl, hip, hii⟩, rdone⟩ := hR9
      have e1 := hii.len
      have hfl : fs.length ≤ 10 := by have := lok.len; omega
      have hbl9 := monoBits _ _ _ _ (Sol.of s9) hbl8
      repeat walk_at "st"
      refine s_isiC T.c_Region T.i_Region hra ?_
      refine s_bl ?_
      refine s_ifF rfl ?_
      repeat walk_at "st"
      refine ⟨q, x, kindV rows2 ga2, (allV n).filter (commB rows2), l, n, rfl, ⟨kvk, s9 _ _ hq8, isKd_sol (Sol.of s9) hk8⟩, hbl9, hup, by omega, by omega, hksl, lok.pos1, lok.pos2, fun t10 m10 H10 s10 ht10 => ?_⟩
      have ht10 : H10 t10 = some (.tup [nV (halv 200 ((lotKinds n l rows2 ga2).length / ((lotKinds n l rows2 ga2).filter fun b => b.1).length)), nV m10]) := ht10
      rw [lok.num] at ht10
      have hra10 := s10 _ _ hra
      have hip10 := s10 _ _ hip
      have hii10 := hii.mono monoP (Sol.of s10)
      repeat walk_at "st"
      refine s_ifF (by simp) ?_
      repeat walk_at "st"
      refine s_ifF rfl ?_
      repeat walk_at "st"
      refine s_ifF (by rw [e1]; simp) ?_
      have s910 := s9.trans s10
      have hq10 := s910 _ _ hq8
      have hk10 := isKd_sol (Sol.of s910) hk8
      have hbl10 := monoBits _ _ _ _ (Sol.of s10) hbl9
      have hC10 := monoC _ _ _ _ (Sol.of s910) hC8
      have sx10 : SameX a H7' H10 := sx8.trans (SameX.of s910)
      have hpen10 := hpen8.same s910
      have hgv10 : isBits H10 gv l ∨ isL isN H10 gv l := hgv8.elim (fun z => .inl (monoBits _ _ _ _ (Sol.of s910) z)) (fun z => .inr (z.same monoN s910))
      clear s9 s10 s910 hq8 hk8 hbl8 hbl9 hC8 hpen8 hgv8 sx8 ht10 hra hip hii
      repeat walk_at "st"
      refine lcM (walk_tup (K := K) (xs := is)) fs id isRow monoRow e1.symm (by omega) (fun _ s => SqT.of (s _ _ hip10)) (fun _ _ _ _ y => yat_same y) ?_ ?_
      · rintro i r v H11 H12 hr11 s11 ⟨rfl, y⟩ Qc qc
        have hP := monoP _ _ _ _ (Sol.of s11) (hii10.at y hr11)
        walk_at "st"
        refine ⟨rfl, ?_⟩
        repeat walk_at "st"
        exact ⟨_, n, r, rfl, hP, by omega, by omega, fun v' H' s' h' => qc _ _ s' h'⟩
      intro D11 vs11 H11 hD11 s11 h11 hi11
      rw [List.map_id] at hi11
      have e11 := hi11.len
      have hbl11 := monoBits _ _ _ _ (Sol.of s11) hbl10
      repeat walk_at "st"
      refine lcF (walk_list (K := K) (xs := vs11)) fs (fun _ => 1) (fun _ => false) isN monoN e11.symm (by omega) (fun _ s => SqL.of (s _ _ h11)) (fun _ _ _ _ y => yat_same y) ?_ ?_
      · rintro i r v H12 H13 hr12 s12 ⟨rfl, y⟩ Qc Qn qc qn
        obtain ⟨b, rfl, hb⟩ := monoRow _ _ _ _ (Sol.of s12) (hi11.at y hr12)
        walk_at "st"
        refine ⟨rfl, ?_⟩
        repeat walk_at "st"
        refine ⟨rfl, ?_⟩
        refine s_bl ?_
        refine s_ifF (by simp) ?_
        repeat walk_at "st"
        refine ⟨_, _, r, l, n, rfl, ⟨b, rfl, hb⟩, monoBits _ _ _ _ (Sol.of s12) hbl11, hup, by omega, by omega, fun H' s' => ?_⟩
        repeat walk_at "st"
        have hw : decide ((r.x ||| r.z) &&& maskOf l = r.x ||| r.z) = true := lok.inn r (mem_idx hr12)
        refine s_ifF (by rw [hw]; rfl) ?_
        exact qn _ rfl s'
      intro D12 vs12 H12 hD12 s12 h12 hi12
      obtain rfl := hi12.eqN
      repeat walk_at "st"
      intro n13 hn13
      have s13 := same_new (o := .lst []) hn13
      refine s_neNilN (s13 _ _ h12) upd_same ?_
      refine s_bl ?_
      refine s_ifF (by simp) ?_
      have s1013 := (s11.trans s12).trans s13
      have s1113 := s12.trans s13
      generalize upd H12 n13 (.lst []) = H13 at s13 s1013 s1113
      repeat walk_at "st"
      refine ⟨D11, vs11, fs, rfl, s1113 _ _ h11, hi11.mono monoRow (Sol.of s1113), Nat.le_trans (span_len lok.ok hn5) (by decide), fun l hl => Nat.le_trans (span_len (fun r hr => lok.ok r (hl.subset hr)) hn5) (by decide), fun d14 H14 s14 hd14n hd14 => ?_⟩
      have hspl := span_len lok.ok hn5
      have s1014 := s1013.trans s14
      have hq14 := s1014 _ _ hq10
      have hk14 := isKd_sol (Sol.of s1014) hk10
      have hra14 := s1014 _ _ hra10
      have hip14 := s1014 _ _ hip10
      have hii14 := hii10.mono monoP (Sol.of s1014)
      have hC14 := monoC _ _ _ _ (Sol.of s1014) hC10
      have sx14 := sx10.trans (SameX.of s1014)
      have hpen14 := hpen10.same s1014
      have hgv14 : isBits H14 gv l ∨ isL isN H14 gv l := hgv10.elim (fun z => .inl (monoBits _ _ _ _ (Sol.of s1014) z)) (fun z => .inr (z.same monoN s1014))
      have ndq : q ≠ d14 := fun z => by rw [← z, (s1013 _ _ hq10)] at hd14n; cases hd14n
      clear s11 s12 s13 s1013 s1113 s14 s1014 hq10 hk10 hra10 hip10 hii10 hC10 sx10 hpen10 hgv10 h11 hi11 h12 hi12 hbl10 hbl11 hD11 hD12 hn13 hd14n
      repeat walk_at "st"
      refine ⟨d14, _, hd14, trivial, fun od => ?_⟩
      have soz : Sol H14 (upd H14 d14 (.frz od (.dT (kvT (spanOf (fs.map Row.xz)))))) := Sol.upd' hd14 (fun z => z)
      have hkz := isKd_sol soz hk14
      have hqz : (upd H14 d14 (.frz od (.dT (kvT (spanOf (fs.map Row.xz)))))) q = some (.dT kvk) := by rw [upd_ne ndq]; exact hq14
      have hdz : (upd H14 d14 (.frz od (.dT (kvT (spanOf (fs.map Row.xz)))))) d14 = some (.frz od (.dT (kvT (spanOf (fs.map Row.xz))))) := upd_same
      have kz : ∀ b o, b ≠ d14 → H14 b = some o → (upd H14 d14 (.frz od (.dT (kvT (spanOf (fs.map Row.xz)))))) b = some o := fun b o h1 h => by rw [upd_ne h1]; exact h
      generalize upd H14 d14 (.frz od (.dT (kvT (spanOf (fs.map Row.xz))))) = Hz at soz hkz hqz hdz kz
      repeat walk_at "st"
      refine ⟨.ref d14, rfl, d14, od, rfl, .inr ⟨_, hdz, ?_⟩⟩
      have hkl : (kvT (spanOf (fs.map Row.xz))).length = (spanOf (fs.map Row.xz)).length := by unfold kvT; rw [List.length_map]
      refine lcF (walk_keysT (d := d14) (o := od) (kvs := kvT (spanOf (fs.map Row.xz)))) (spanOf (fs.map Row.xz)) id (fun _ => false) isV2 monoV2 hkl.symm (by omega) (fun _ s => s _ _ hdz) (fun _ _ _ _ y => by rw [y.1]; exact Same.refl _) ?_ ?_
      · rintro i c v H15 H16 hc s15 ⟨rfl, kk, v1, b, hkv, rfl, hb⟩ Qc Qn qc qn
        obtain rfl := kvT_at hkv hc
        have hb' : H16 b = some (.tup [nV c.1, nV c.2]) := hb
        have hcm := mem_idx hc
        obtain ⟨t, ht, ht2⟩ := valKd hkz (lok.com c hcm)
        have hq15 := s15 _ _ hqz
        have ht15 := s15 _ _ ht2
        walk_at "st"
        refine ⟨rfl, ?_⟩
        repeat walk_at "st"
        refine s_dnotin ?_
        repeat walk_at "st"
        refine ⟨q, some (.ref t), rfl, .inr ⟨kvk, k2 c, b, .inl hq15, rfl, hb', ht.symm⟩, ?_⟩
        refine s_bl ?_
        refine s_ifF rfl ?_
        repeat walk_at "st"
        refine ⟨q, .ref t, rfl, .inr ⟨kvk, k2 c, b, .inl hq15, rfl, hb', ht.symm⟩, ?_⟩
        repeat walk_at "st"
        refine s_if (fun e => ?_) (fun e => ?_)
        · have hcz := lok.dis c hcm e
          repeat walk_at "st"
          intro t17 ht17
          have s17 := same_new (o := .tup [nV 0, nV 0]) ht17
          refine ⟨b, t17, [c.1, c.2], [0, 0], rfl, rfl, s17 _ _ hb', upd_same, ?_⟩
          refine s_bl ?_
          refine s_ifF (by rw [hcz, ze2]; rfl) ?_
          exact qn _ rfl s17
        · refine s_ifF rfl ?_
          exact qn _ rfl (Same.refl _)
      intro D16 vs16 H16 hD16 s16 h16 hi16
      have hv16 : vs16 = [] := by
        have := hi16.len
        rw [List.length_map, List.filter_eq_nil_iff.mpr (fun _ _ z => Bool.noConfusion z)] at this
        exact List.eq_nil_of_length_eq_zero this
      subst hv16
      have hd16 := s16 _ _ hdz
      refine ⟨hd16, ?_⟩
      have nD : D16 ≠ d14 := fun z => by rw [z, hd16] at h16; cases h16
      have s1417 : Same H14 (upd H16 d14 (.dT (kvT (spanOf (fs.map Row.xz))))) := fun b o h => by
        by_cases e : b = d14
        · rw [e, hd14] at h; cases h; rw [e]; exact upd_same
        · rw [upd_ne e]; exact s16 _ _ (kz _ _ e h)
      have h17 : (upd H16 d14 (.dT (kvT (spanOf (fs.map Row.xz))))) D16 = some (.lst []) := by rw [upd_ne nD]; exact h16
      generalize upd H16 d14 (.dT (kvT (spanOf (fs.map Row.xz)))) = H17 at s1417 h17
      clear hd16 s16 h16 hi16 hD16 soz hkz hqz hdz kz
      repeat walk_at "st"
      intro n18 hn18
      have s18 := same_new (o := .lst []) hn18
      refine s_neNilN (ns := []) (s18 _ _ h17) upd_same ?_
      refine s_bl ?_
      refine s_ifF rfl ?_
      have s1418 := s1417.trans s18
      generalize upd H17 n18 (.lst []) = H18 at s1418
      have hd18 := s1418 _ _ hd14
      have hra18 := s1418 _ _ hra14
      repeat walk_at "st"
      refine ⟨d14, _, rfl, hd18, ?_⟩
      repeat walk_at "st"
      refine s_ifF (by rw [hkl, spanOf_len lok.ind, List.length_map, Nat.shiftLeft_eq, Nat.one_mul]; simp) ?_
      repeat walk_at "st"
      refine ⟨cv, gv, n, (g, ga2), l, rfl, monoC _ _ _ _ (Sol.of s1418) hC14, hgv14.elim (fun z => .inl (monoBits _ _ _ _ (Sol.of s1418) z)) (fun z => .inr (z.same monoN s1418)), hup, by omega, by omega, by omega, by show g.length ≤ 100; omega, by show ga2.length ≤ 100; omega, fun rv19 H19 s19 hR19 => ?_⟩
      have hR19 : isR K n H19 rv19 fs := by rw [← hfs]; exact hR19
      obtain ⟨ra2, rdx2, rfs2, iv2, rfl, hra2, lnum2, linn2, ⟨ip2, is2, rfl, hip2, hii2⟩, rdone2⟩ := hR19
      have s1419 := s1418.trans s19
      have hra19 := s1419 _ _ hra14
      have hip19 := s1419 _ _ hip14
      have hii19 := hii14.mono monoP (Sol.of s1419)
      repeat walk_at "st"
      refine ⟨⟨ip2, ip, is2, is, rfl, rfl, SqT.of hip2, SqT.of hip19, by rw [hii2.len, e1], fun i u v hu hv => ?_⟩, fun H20 s20 => ?_⟩
      · obtain ⟨r, hr, hP1⟩ := hii2.get hu
        have hP2 := hii19.at hv hr
        obtain ⟨b1, dx1, fs1, rfl, hb1, _⟩ := id hP1
        obtain ⟨b2, dx2, fs2, rfl, hb2, _⟩ := id hP2
        exact ⟨b1, b2, dx1, dx2, fs1, fs2, rfl, rfl, hb1, hb2, n, r, hP1, hP2⟩
      refine s_bl ?_
      refine s_ifF rfl ?_
      repeat walk_at "st"
      have s1420 : Same H14 H20 := fun b o h => s20 _ _ (s1419 _ _ h)
      exact ⟨_, _, _, _, _, rfl, sx7.trans (sx14.trans (SameX.of s1420)), hpen14.same s1420⟩
    · repeat walk_at "st"
      refine ⟨a, cp, 2, 1000 + i, rfl, hpen7, by omega, by omega, by omega, fun dd H8 hdd sx8 hpen8 => ?_⟩
      have hbl8 := monoBits _ _ _ _ (hpen7.sol sx8) hbl7
      repeat walk_at "st"
      refine s_if (fun e => ?_) (fun e => ?_)
      · refine s_var rfl ?_
        exact tail _ _ ⟨_, rfl, sx8, hpen8, .inl hbl8⟩
      · obtain ⟨lq, rfl, hlq⟩ := hbl8
        refine s_CB ?_
        refine s_cons ?_
        refine s_var rfl ?_
        refine s_nil ?_
        refine s_lstT hlq fun l9 hl9 => ?_
        have s9 := same_new (o := .lst (l.map nV)) hl9
        exact tail _ _ ⟨_, rfl, sx8.trans (SameX.of s9), hpen8.same s9, .inr ⟨l9, _, rfl, upd_same, its_nV l⟩⟩
  · rintro σ' H7 ⟨o6, o7, o8, o9, o10, rfl, sx7, hpen7⟩
    repeat walk_at "st"
    exact k _
end
end Kq

set_option Elab.async false
set_option linter.all false
set_option maxRecDepth 100000
set_option maxHeartbeats 0
/-! the end: the head's facts as Tx -/
namespace Kq
open PySem PySem.Spec PyProof.Rows L2
theorem tx_of {K : PySem.W.Frag} {h : Heap} {mg : Str → Option Value} (X : K.In h) (G : h.Ns mainGlobals mg) (c : He.SaysD fas fns K) (ex : exB K = true) : Nonempty (Tx K mg) := by
  obtain ⟨fd_number_of_bitrows, F_number_of_bitrows⟩ := c.def_ 0 (d := d_number_of_bitrows) rfl
  obtain ⟨fd_bits_of, F_bits_of⟩ := c.def_ 1 (d := d_bits_of) rfl
  obtain ⟨fd_has_lead, F_has_lead⟩ := c.def_ 2 (d := d_has_lead) rfl
  obtain ⟨fd_rest_by, F_rest_by⟩ := c.def_ 3 (d := d_rest_by) rfl
  obtain ⟨fd_put_in, F_put_in⟩ := c.def_ 4 (d := d_put_in) rfl
  obtain ⟨fd_reduced_numbers, F_reduced_numbers⟩ := c.def_ 5 (d := d_reduced_numbers) rfl
  obtain ⟨fd_bit_rank, F_bit_rank⟩ := c.def_ 6 (d := d_bit_rank) rfl
  obtain ⟨fd_kernel_bits, F_kernel_bits⟩ := c.def_ 7 (d := d_kernel_bits) rfl
  obtain ⟨fd_is_size, F_is_size⟩ := c.def_ 8 (d := d_is_size) rfl
  obtain ⟨fd_read_string, F_read_string⟩ := c.def_ 9 (d := d_read_string) rfl
  obtain ⟨fd_Pauli_init, F_Pauli_init⟩ := c.def_ 10 (d := d_Pauli_init) rfl
  obtain ⟨fd_Pauli_eq, F_Pauli_eq⟩ := c.def_ 11 (d := d_Pauli_eq) rfl
  obtain ⟨fd_ones, F_ones⟩ := c.def_ 12 (d := d_ones) rfl
  obtain ⟨fd_crossing, F_crossing⟩ := c.def_ 13 (d := d_crossing) rfl
  obtain ⟨fd_row_product, F_row_product⟩ := c.def_ 14 (d := d_row_product) rfl
  obtain ⟨fd_row_of, F_row_of⟩ := c.def_ 15 (d := d_row_of) rfl
  obtain ⟨fd_letters_of, F_letters_of⟩ := c.def_ 16 (d := d_letters_of) rfl
  obtain ⟨fd_column_of, F_column_of⟩ := c.def_ 17 (d := d_column_of) rfl
  obtain ⟨fd_reduced_rows, F_reduced_rows⟩ := c.def_ 18 (d := d_reduced_rows) rfl
  obtain ⟨fd_Region_init, F_Region_init⟩ := c.def_ 19 (d := d_Region_init) rfl
  obtain ⟨fd_told_lot, F_told_lot⟩ := c.def_ 20 (d := d_told_lot) rfl
  obtain ⟨fd_string_of, F_string_of⟩ := c.def_ 21 (d := d_string_of) rfl
  obtain ⟨fd_group_rows, F_group_rows⟩ := c.def_ 22 (d := d_group_rows) rfl
  obtain ⟨fd_empty_rows, F_empty_rows⟩ := c.def_ 23 (d := d_empty_rows) rfl
  obtain ⟨fd_units_on, F_units_on⟩ := c.def_ 24 (d := d_units_on) rfl
  obtain ⟨fd_bits_on, F_bits_on⟩ := c.def_ 25 (d := d_bits_on) rfl
  obtain ⟨fd_region_of, F_region_of⟩ := c.def_ 26 (d := d_region_of) rfl
  obtain ⟨fd_region, F_region⟩ := c.def_ 27 (d := d_region) rfl
  obtain ⟨fd_told_string, F_told_string⟩ := c.def_ 28 (d := d_told_string) rfl
  obtain ⟨fd_first_column, F_first_column⟩ := c.def_ 29 (d := d_first_column) rfl
  obtain ⟨fd_need_commuting, F_need_commuting⟩ := c.def_ 30 (d := d_need_commuting) rfl
  obtain ⟨fd_independent_rows, F_independent_rows⟩ := c.def_ 31 (d := d_independent_rows) rfl
  obtain ⟨fd_Group_init, F_Group_init⟩ := c.def_ 32 (d := d_Group_init) rfl
  obtain ⟨fd_number_of_codes, F_number_of_codes⟩ := c.def_ 33 (d := d_number_of_codes) rfl
  obtain ⟨fd_rest_in, F_rest_in⟩ := c.def_ 34 (d := d_rest_in) rfl
  obtain ⟨fd_basis_of, F_basis_of⟩ := c.def_ 35 (d := d_basis_of) rfl
  obtain ⟨fd_added, F_added⟩ := c.def_ 36 (d := d_added) rfl
  obtain ⟨fd_cleared, F_cleared⟩ := c.def_ 37 (d := d_cleared) rfl
  obtain ⟨fd_paired, F_paired⟩ := c.def_ 38 (d := d_paired) rfl
  obtain ⟨fd_check_size, F_check_size⟩ := c.def_ 39 (d := d_check_size) rfl
  obtain ⟨fd_Code_init, F_Code_init⟩ := c.def_ 40 (d := d_Code_init) rfl
  obtain ⟨fd_Code_told, F_Code_told⟩ := c.def_ 41 (d := d_Code_told) rfl
  obtain ⟨fd_law_pen, F_law_pen⟩ := c.def_ 42 (d := d_law_pen) rfl
  obtain ⟨fd_law_draw, F_law_draw⟩ := c.def_ 43 (d := d_law_draw) rfl
  obtain ⟨fd_law_pick, F_law_pick⟩ := c.def_ 44 (d := d_law_pick) rfl
  obtain ⟨fd_law_shuffled, F_law_shuffled⟩ := c.def_ 45 (d := d_law_shuffled) rfl
  obtain ⟨fd_law_ones, F_law_ones⟩ := c.def_ 46 (d := d_law_ones) rfl
  obtain ⟨fd_law_crosses, F_law_crosses⟩ := c.def_ 47 (d := d_law_crosses) rfl
  obtain ⟨fd_law_times, F_law_times⟩ := c.def_ 48 (d := d_law_times) rfl
  obtain ⟨fd_law_product, F_law_product⟩ := c.def_ 49 (d := d_law_product) rfl
  obtain ⟨fd_law_letters, F_law_letters⟩ := c.def_ 50 (d := d_law_letters) rfl
  obtain ⟨fd_law_text, F_law_text⟩ := c.def_ 51 (d := d_law_text) rfl
  obtain ⟨fd_law_of_text, F_law_of_text⟩ := c.def_ 52 (d := d_law_of_text) rfl
  obtain ⟨fd_law_gate, F_law_gate⟩ := c.def_ 53 (d := d_law_gate) rfl
  obtain ⟨fd_law_drawn_code, F_law_drawn_code⟩ := c.def_ 54 (d := d_law_drawn_code) rfl
  obtain ⟨fd_law_pauli, F_law_pauli⟩ := c.def_ 55 (d := d_law_pauli) rfl
  obtain ⟨fd_law_code, F_law_code⟩ := c.def_ 56 (d := d_law_code) rfl
  obtain ⟨fd_law_some_code, F_law_some_code⟩ := c.def_ 57 (d := d_law_some_code) rfl
  obtain ⟨fd_law_with_more, F_law_with_more⟩ := c.def_ 58 (d := d_law_with_more) rfl
  obtain ⟨fd_law_spanned, F_law_spanned⟩ := c.def_ 59 (d := d_law_spanned) rfl
  obtain ⟨fd_law_kinds, F_law_kinds⟩ := c.def_ 60 (d := d_law_kinds) rfl
  obtain ⟨fd_law_halvings, F_law_halvings⟩ := c.def_ 61 (d := d_law_halvings) rfl
  obtain ⟨fd_law_lot_numbers, F_law_lot_numbers⟩ := c.def_ 62 (d := d_law_lot_numbers) rfl
  obtain ⟨fd_law_lots, F_law_lots⟩ := c.def_ 63 (d := d_law_lots) rfl
  obtain ⟨fd_law_told, F_law_told⟩ := c.def_ 64 (d := d_law_told) rfl
  obtain ⟨fd_law_is_within, F_law_is_within⟩ := c.def_ 65 (d := d_law_is_within) rfl
  obtain ⟨fd_law, F_law⟩ := c.def_ 66 (d := d_law) rfl
  exact ⟨Tx.mk fd_number_of_bitrows
    F_number_of_bitrows
    (He.glo_ok X G (c.fact 0 (f := .glo "number_of_bitrows") rfl))
    fd_bits_of
    F_bits_of
    (He.glo_ok X G (c.fact 1 (f := .glo "bits_of") rfl))
    fd_has_lead
    F_has_lead
    (He.glo_ok X G (c.fact 2 (f := .glo "has_lead") rfl))
    fd_rest_by
    F_rest_by
    (He.glo_ok X G (c.fact 3 (f := .glo "rest_by") rfl))
    fd_put_in
    F_put_in
    (He.glo_ok X G (c.fact 4 (f := .glo "put_in") rfl))
    fd_reduced_numbers
    F_reduced_numbers
    (He.glo_ok X G (c.fact 5 (f := .glo "reduced_numbers") rfl))
    fd_bit_rank
    F_bit_rank
    (He.glo_ok X G (c.fact 6 (f := .glo "bit_rank") rfl))
    fd_kernel_bits
    F_kernel_bits
    (He.glo_ok X G (c.fact 7 (f := .glo "kernel_bits") rfl))
    fd_is_size
    F_is_size
    (He.glo_ok X G (c.fact 8 (f := .glo "is_size") rfl))
    fd_read_string
    F_read_string
    (He.glo_ok X G (c.fact 9 (f := .glo "read_string") rfl))
    fd_Pauli_init
    F_Pauli_init
    fd_Pauli_eq
    F_Pauli_eq
    fd_ones
    F_ones
    (He.glo_ok X G (c.fact 10 (f := .glo "ones") rfl))
    fd_crossing
    F_crossing
    (He.glo_ok X G (c.fact 11 (f := .glo "crossing") rfl))
    fd_row_product
    F_row_product
    (He.glo_ok X G (c.fact 12 (f := .glo "row_product") rfl))
    fd_row_of
    F_row_of
    (He.glo_ok X G (c.fact 13 (f := .glo "row_of") rfl))
    fd_letters_of
    F_letters_of
    (He.glo_ok X G (c.fact 14 (f := .glo "letters_of") rfl))
    fd_column_of
    F_column_of
    (He.glo_ok X G (c.fact 15 (f := .glo "column_of") rfl))
    fd_reduced_rows
    F_reduced_rows
    (He.glo_ok X G (c.fact 16 (f := .glo "reduced_rows") rfl))
    fd_Region_init
    F_Region_init
    fd_told_lot
    F_told_lot
    (He.glo_ok X G (c.fact 17 (f := .glo "told_lot") rfl))
    fd_string_of
    F_string_of
    (He.glo_ok X G (c.fact 18 (f := .glo "string_of") rfl))
    fd_group_rows
    F_group_rows
    (He.glo_ok X G (c.fact 19 (f := .glo "group_rows") rfl))
    fd_empty_rows
    F_empty_rows
    (He.glo_ok X G (c.fact 20 (f := .glo "empty_rows") rfl))
    fd_units_on
    F_units_on
    (He.glo_ok X G (c.fact 21 (f := .glo "units_on") rfl))
    fd_bits_on
    F_bits_on
    (He.glo_ok X G (c.fact 22 (f := .glo "bits_on") rfl))
    fd_region_of
    F_region_of
    (He.glo_ok X G (c.fact 23 (f := .glo "region_of") rfl))
    fd_region
    F_region
    (He.glo_ok X G (c.fact 24 (f := .glo "region") rfl))
    fd_told_string
    F_told_string
    (He.glo_ok X G (c.fact 25 (f := .glo "told_string") rfl))
    fd_first_column
    F_first_column
    (He.glo_ok X G (c.fact 26 (f := .glo "first_column") rfl))
    fd_need_commuting
    F_need_commuting
    (He.glo_ok X G (c.fact 27 (f := .glo "need_commuting") rfl))
    fd_independent_rows
    F_independent_rows
    (He.glo_ok X G (c.fact 28 (f := .glo "independent_rows") rfl))
    fd_Group_init
    F_Group_init
    fd_number_of_codes
    F_number_of_codes
    (He.glo_ok X G (c.fact 29 (f := .glo "number_of_codes") rfl))
    fd_rest_in
    F_rest_in
    (He.glo_ok X G (c.fact 30 (f := .glo "rest_in") rfl))
    fd_basis_of
    F_basis_of
    (He.glo_ok X G (c.fact 31 (f := .glo "basis_of") rfl))
    fd_added
    F_added
    (He.glo_ok X G (c.fact 32 (f := .glo "added") rfl))
    fd_cleared
    F_cleared
    (He.glo_ok X G (c.fact 33 (f := .glo "cleared") rfl))
    fd_paired
    F_paired
    (He.glo_ok X G (c.fact 34 (f := .glo "paired") rfl))
    fd_check_size
    F_check_size
    (He.glo_ok X G (c.fact 35 (f := .glo "check_size") rfl))
    fd_Code_init
    F_Code_init
    fd_Code_told
    F_Code_told
    fd_law_pen
    F_law_pen
    (He.glo_ok X G (c.fact 36 (f := .glo "_law_pen") rfl))
    fd_law_draw
    F_law_draw
    (He.glo_ok X G (c.fact 37 (f := .glo "_law_draw") rfl))
    fd_law_pick
    F_law_pick
    (He.glo_ok X G (c.fact 38 (f := .glo "_law_pick") rfl))
    fd_law_shuffled
    F_law_shuffled
    (He.glo_ok X G (c.fact 39 (f := .glo "_law_shuffled") rfl))
    fd_law_ones
    F_law_ones
    (He.glo_ok X G (c.fact 40 (f := .glo "_law_ones") rfl))
    fd_law_crosses
    F_law_crosses
    (He.glo_ok X G (c.fact 41 (f := .glo "_law_crosses") rfl))
    fd_law_times
    F_law_times
    (He.glo_ok X G (c.fact 42 (f := .glo "_law_times") rfl))
    fd_law_product
    F_law_product
    (He.glo_ok X G (c.fact 43 (f := .glo "_law_product") rfl))
    fd_law_letters
    F_law_letters
    (He.glo_ok X G (c.fact 44 (f := .glo "_law_letters") rfl))
    fd_law_text
    F_law_text
    (He.glo_ok X G (c.fact 45 (f := .glo "_law_text") rfl))
    fd_law_of_text
    F_law_of_text
    (He.glo_ok X G (c.fact 46 (f := .glo "_law_of_text") rfl))
    fd_law_gate
    F_law_gate
    (He.glo_ok X G (c.fact 47 (f := .glo "_law_gate") rfl))
    fd_law_drawn_code
    F_law_drawn_code
    (He.glo_ok X G (c.fact 48 (f := .glo "_law_drawn_code") rfl))
    fd_law_pauli
    F_law_pauli
    (He.glo_ok X G (c.fact 49 (f := .glo "_law_pauli") rfl))
    fd_law_code
    F_law_code
    (He.glo_ok X G (c.fact 50 (f := .glo "_law_code") rfl))
    fd_law_some_code
    F_law_some_code
    (He.glo_ok X G (c.fact 51 (f := .glo "_law_some_code") rfl))
    fd_law_with_more
    F_law_with_more
    (He.glo_ok X G (c.fact 52 (f := .glo "_law_with_more") rfl))
    fd_law_spanned
    F_law_spanned
    (He.glo_ok X G (c.fact 53 (f := .glo "_law_spanned") rfl))
    fd_law_kinds
    F_law_kinds
    (He.glo_ok X G (c.fact 54 (f := .glo "_law_kinds") rfl))
    fd_law_halvings
    F_law_halvings
    (He.glo_ok X G (c.fact 55 (f := .glo "_law_halvings") rfl))
    fd_law_lot_numbers
    F_law_lot_numbers
    (He.glo_ok X G (c.fact 56 (f := .glo "_law_lot_numbers") rfl))
    fd_law_lots
    F_law_lots
    (He.glo_ok X G (c.fact 57 (f := .glo "_law_lots") rfl))
    fd_law_told
    F_law_told
    (He.glo_ok X G (c.fact 58 (f := .glo "_law_told") rfl))
    fd_law_is_within
    F_law_is_within
    (He.glo_ok X G (c.fact 59 (f := .glo "_law_is_within") rfl))
    fd_law
    F_law
    (He.glo_ok X G (c.fact 60 (f := .glo "law") rfl))
    (He.cls_ok (c.fact 61 (f := .cls "Pauli") rfl))
    (He.mkr_ok (c.fact 62 (f := .mkr "Pauli") rfl))
    (He.glo_ok X G (c.fact 63 (f := .glo "Pauli") rfl))
    (exB_ok ex (x := "Pauli") (by simp))
    (He.noat_ok (c.fact 64 (f := .noat "Pauli" "letters") rfl))
    (He.noat_ok (c.fact 65 (f := .noat "Pauli" "phase") rfl))
    (He.noat_ok (c.fact 66 (f := .noat "Pauli" "size") rfl))
    (He.noat_ok (c.fact 67 (f := .noat "Pauli" "weight") rfl))
    (He.cls_ok (c.fact 68 (f := .cls "Region") rfl))
    (He.mkr_ok (c.fact 69 (f := .mkr "Region") rfl))
    (He.glo_ok X G (c.fact 70 (f := .glo "Region") rfl))
    (exB_ok ex (x := "Region") (by simp))
    (He.noat_ok (c.fact 71 (f := .noat "Region" "number") rfl))
    (He.noat_ok (c.fact 72 (f := .noat "Region" "inside") rfl))
    (He.cls_ok (c.fact 73 (f := .cls "Group") rfl))
    (He.mkr_ok (c.fact 74 (f := .mkr "Group") rfl))
    (He.glo_ok X G (c.fact 75 (f := .glo "Group") rfl))
    (exB_ok ex (x := "Group") (by simp))
    (He.noat_ok (c.fact 76 (f := .noat "Group" "size") rfl))
    (He.noat_ok (c.fact 77 (f := .noat "Group" "rows") rfl))
    (He.noat_ok (c.fact 78 (f := .noat "Group" "rank") rfl))
    (He.cls_ok (c.fact 79 (f := .cls "Code") rfl))
    (He.mkr_ok (c.fact 80 (f := .mkr "Code") rfl))
    (He.glo_ok X G (c.fact 81 (f := .glo "Code") rfl))
    (exB_ok ex (x := "Code") (by simp))
    (He.noat_ok (c.fact 82 (f := .noat "Code" "size") rfl))
    (He.noat_ok (c.fact 83 (f := .noat "Code" "group") rfl))
    (He.noat_ok (c.fact 84 (f := .noat "Code" "gauge") rfl))
    (He.noat_ok (c.fact 85 (f := .noat "Code" "heads") rfl))
    (He.noat_ok (c.fact 86 (f := .noat "Code" "sides") rfl))
    (He.noat_ok (c.fact 87 (f := .noat "Code" "inner") rfl))
    (He.noat_ok (c.fact 88 (f := .noat "Code" "whole") rfl))
    (He.noat_ok (c.fact 89 (f := .noat "Code" "gauged") rfl))
    (He.noat_ok (c.fact 90 (f := .noat "Code" "kept") rfl))
    (He.noat_ok (c.fact 91 (f := .noat "Code" "hidden") rfl))
    (He.meth_ok (c.fact 92 (f := .meth "Code" "told_pairs") rfl))
    (He.meth_ok (c.fact 93 (f := .meth "Pauli" "__eq__") rfl))
    (He.free_ok X G (c.fact 94 (f := .free "len") rfl))
    (He.free_ok X G (c.fact 95 (f := .free "range") rfl))
    (He.free_ok X G (c.fact 96 (f := .free "sorted") rfl))
    (He.free_ok X G (c.fact 97 (f := .free "isinstance") rfl))
    (He.free_ok X G (c.fact 98 (f := .free "tuple") rfl))
    (He.free_ok X G (c.fact 99 (f := .free "list") rfl))
    (He.free_ok X G (c.fact 100 (f := .free "zip") rfl))
    (He.free_ok X G (c.fact 101 (f := .free "enumerate") rfl))
    (He.free_ok X G (c.fact 102 (f := .free "any") rfl))
    (He.free_ok X G (c.fact 103 (f := .free "sum") rfl))
    (He.free_ok X G (c.fact 104 (f := .free "max") rfl))
    (He.free_ok X G (c.fact 105 (f := .free "min") rfl))
    (He.free_ok X G (c.fact 106 (f := .free "int") rfl))
    (He.free_ok X G (c.fact 107 (f := .free "str") rfl))
    (He.free_ok X G (c.fact 108 (f := .free "bool") rfl))⟩
theorem facts {P : Program} {w : World} {K : PySem.W.Frag} {h : Heap} {mg : Str → Option Value} {f : Addr} (X : K.In h) (G : h.Ns mainGlobals mg) (hfa : mg ("law" : Str) = some (.ref f)) (c : He.SaysD fas fns K) (ex : exB K = true) :
    ∃ fd : FuncData, (∀ (s : Shared) (v : Value), BindsTo s fd ⟨[v], []⟩ [("_law_script", v)]) ∧ ∀ base : Heap, K.In base → base.Ns mainGlobals mg → FnOk P w K mg base CX0 10 f fd ["_law_script"] (sp_law K) := by
  obtain ⟨T⟩ := tx_of X G c ex
  have e := hfa.symm.trans T.m_law
  cases e
  have b := FunD.bindsA (ps := ["_law_script"]) T.F_law fun _ _ _ _ _ _ us hl => match us, hl with | [_], _ => rfl
  exact ⟨T.fd_law, fun s v => b s [v] rfl, fun base _ _ => ok_law T⟩
end Kq
open PySem PySem.W PySem.Calls PyProof.Rows
theorem PySem.Challenge.cw_keptqubits_k19_whole_regions_holds : PySem.Challenge.rw_keptqubits_k19_whole_regions.Holds := by
  refine Kq.headAll ?_
  refine L2.walk_ofE (l := PySem.Challenge.rw_keptqubits_k19_whole_regions) (n := 63) (k := 10) (x := "_law_script") (CX := L2.CX0) rfl (by decide) (by kernel_rfl) ⟨rfl, by decide, by decide⟩ ?F (fun _ _ _ _ z => z)
  intro w mg fa h Y G hmg0
  obtain ⟨K, KX, c⟩ := Y
  have hmg : mg ("law" : PySem.Str) = some (.ref fa) := by
    have e : (HandSHeadRun.topDef (OpenLaw.row PySem.Challenge.rw_keptqubits_k19_whole_regions).prog Kq.lawAt).name = ("law" : PySem.Str) := by kernel_rfl
    rw [← e]
    exact hmg0
  obtain ⟨fd, hb, hF⟩ := Kq.facts (P := (PySem.Challenge.rw_keptqubits_k19_whole_regions).prog) (w := w) KX G hmg c.1 c.2
  exact ⟨K, fd, Kq.sp_law K, KX, hb, fun H a ns hl _ hS => ⟨a, ns, rfl, hS, Nat.le_trans hl (by decide), fun _ => rfl⟩, hF⟩
