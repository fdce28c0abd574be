import PyProof.Rows.All
import Wide.All
import OpenK.AllK
import Wide.FinOn
import HandS.ForMost
import HandS.Defaults
import HandS.Property
import HandS.TryOnly
import HandS.Exc
import HandS.Wide
import KE.Datum
import HandS.HeadHook1
import HandS.HeadHook2
import KE.KSuper
import HandS.NestedK
import HandS.ClsMeth
import HandS.More
import HandS.Head0
import HandS.Head1
import HandS.Head2
import HandS.HeadEnd
import HandS.HeadHook3
import HandS.HeadHook4
import HandS.HeadWalk
import HandS.SetFor
import HandS.Strs
import HandS.SortKw
import HandS.GenList
import HandS.Codes
import HandS.OwnEq
import HandS.Deep
import HandS.Lambda
import HandS.Keys
import KE.SortKeyHeap
import HandS.Iter
import HandS.ExcValue
import PySem.Challenge.RW_suregate_k24_whole_passes_in_any_order
/-! part SgM -/
set_option maxRecDepth 100000
set_option linter.unusedVariables false
set_option maxHeartbeats 1000000
namespace Sg
/-! ### numbers -/
/-- the complement of a literal -/
def neg (x : Nat) : Nat := if x % 2 = 0 then x + 1 else x - 1
theorem neg_even {x : Nat} (h : x % 2 = 0) : neg x = x + 1 := if_pos h
theorem neg_odd {x : Nat} (h : x % 2 = 1) : neg x = x - 1 := if_neg (by omega)
theorem neg_neg (x : Nat) : neg (neg x) = x := by
  unfold neg; split <;> split <;> omega
theorem neg_ne (x : Nat) : neg x ≠ x := by
  unfold neg; split <;> omega
theorem neg_div (x : Nat) : neg x / 2 = x / 2 := by
  unfold neg; split <;> omega
theorem neg_mod (x : Nat) : neg x % 2 = 1 - x % 2 := by
  unfold neg; split <;> omega
theorem neg_inj {x y : Nat} (h : neg x = neg y) : x = y := by
  have e := congrArg neg h
  rwa [neg_neg, neg_neg] at e
theorem neg_two (n : Nat) : neg (2 * n) = 2 * n + 1 := neg_even (by omega)
theorem neg_two1 (n : Nat) : neg (2 * n + 1) = 2 * n := by rw [neg_odd (by omega)]; rfl

theorem xor_one (x : Nat) : x ^^^ 1 = neg x := by
  apply Nat.eq_of_testBit_eq
  intro i
  rw [Nat.testBit_xor]
  unfold neg
  cases i with
  | zero =>
    rw [Nat.testBit_zero, Nat.testBit_zero]
    split
    · rename_i h; simp [h]; omega
    · rename_i h
      have : x % 2 = 1 := by omega
      simp [this]; omega
  | succ i =>
    rw [Nat.testBit_succ, Nat.testBit_succ]
    have e : (1 : Nat) / 2 = 0 := rfl
    rw [e, Nat.zero_testBit]
    split <;> rw [Nat.testBit_succ] <;> simp <;> congr 1 <;> omega

/-! ### circuits as plain data: literals are numbers, a node's two literals 2 n and 2 n + 1 -/
structure NetD where
  ni : Nat
  lat : List (Nat × Nat)
  ands : List (Nat × Nat)
structure Cir (α : Type) where
  ins : List α
  lat : List (α × Nat × Nat)
  ands : List (Nat × Nat)
  outs : List (α × Nat)
namespace NetD
def fl (n : NetD) : Nat := 1 + n.ni
def fa (n : NetD) : Nat := 1 + n.ni + n.lat.length
def nn (n : NetD) : Nat := 1 + n.ni + n.lat.length + n.ands.length
end NetD
namespace Cir
variable {α : Type}
def fl (c : Cir α) : Nat := 1 + c.ins.length
def fa (c : Cir α) : Nat := 1 + c.ins.length + c.lat.length
def nn (c : Cir α) : Nat := 1 + c.ins.length + c.lat.length + c.ands.length
def net (c : Cir α) : NetD := ⟨c.ins.length, c.lat.map fun l => (l.2.1, l.2.2), c.ands⟩
end Cir
/-! ### clauses -/
def andsC (w : Nat) : List (Nat × Nat) → List (List Nat)
  | [] => []
  | (l, r) :: t => [w + 1, l] :: [w + 1, r] :: [w, neg l, neg r] :: andsC (w + 2) t
theorem andsC_snoc (l r : Nat) : ∀ (t : List (Nat × Nat)) (w : Nat), andsC w (t ++ [(l, r)]) = andsC w t ++ [[w + 2 * t.length + 1, l], [w + 2 * t.length + 1, r], [w + 2 * t.length, neg l, neg r]]
  | [], w => rfl
  | (a, b) :: t, w => by
    have e : w + 2 + 2 * t.length = w + 2 * (t.length + 1) := by omega
    show _ :: _ :: _ :: andsC (w + 2) (t ++ [(l, r)]) = _ :: _ :: _ :: (andsC (w + 2) t ++ _)
    rw [andsC_snoc l r t (w + 2), e]
    rfl
def shiftC (s : Nat) (c : List Nat) : List Nat := c.map (· + s)
def baseC (n : NetD) : List (List Nat) := [1] :: andsC (2 * n.fa) n.ands
def frameC (n : NetD) (f : Nat) : List (List Nat) := (baseC n).map (shiftC (f * 2 * n.nn))
def startsC (w : Nat) : List (Nat × Nat) → List (List Nat)
  | [] => []
  | (s, _) :: t => [w + 1 - s] :: startsC (w + 2) t
theorem startsC_snoc (s x : Nat) : ∀ (t : List (Nat × Nat)) (w : Nat), startsC w (t ++ [(s, x)]) = startsC w t ++ [[w + 2 * t.length + 1 - s]]
  | [], w => rfl
  | (a, b) :: t, w => by
    have e : w + 2 + 2 * t.length = w + 2 * (t.length + 1) := by omega
    show _ :: startsC (w + 2) (t ++ [(s, x)]) = _ :: (startsC (w + 2) t ++ _)
    rw [startsC_snoc s x t (w + 2), e]
    rfl
def startC (n : NetD) : List (List Nat) := startsC (2 * n.fl) n.lat
def sameC (x y : Nat) : List (List Nat) := [[neg x, y], [x, neg y]]
def linksC (w a b : Nat) : List (Nat × Nat) → List (List Nat)
  | [] => []
  | (_, x) :: t => sameC (w + a) (x + b) ++ linksC (w + 2) a b t
theorem linksC_snoc (a b s x : Nat) : ∀ (t : List (Nat × Nat)) (w : Nat), linksC w a b (t ++ [(s, x)]) = linksC w a b t ++ sameC (w + 2 * t.length + a) (x + b)
  | [], w => rfl
  | (c, d) :: t, w => by
    have e : w + 2 + 2 * t.length = w + 2 * (t.length + 1) := by omega
    show _ ++ linksC (w + 2) a b (t ++ [(s, x)]) = (_ ++ linksC (w + 2) a b t) ++ _
    rw [linksC_snoc a b s x t (w + 2), e, List.append_assoc]
    rfl
def linkC (n : NetD) (f : Nat) : List (List Nat) := linksC (2 * n.fl) ((f + 1) * (2 * n.nn)) (f * (2 * n.nn)) n.lat
theorem andsC_len : ∀ (t : List (Nat × Nat)) (w : Nat), (andsC w t).length = 3 * t.length
  | [], w => rfl
  | (a, b) :: t, w => by
    show (andsC (w + 2) t).length + 1 + 1 + 1 = 3 * (t.length + 1)
    rw [andsC_len t (w + 2)]; omega
theorem baseC_len (n : NetD) : (baseC n).length = 1 + 3 * n.ands.length := by
  unfold baseC; rw [List.length_cons, andsC_len]; omega
theorem take_snoc {α : Type _} {xs : List α} {i : Nat} {x : α} (h : xs[i]? = some x) : xs.take (i + 1) = xs.take i ++ [x] := by
  rw [List.take_add_one, h]; rfl
theorem take_len {α : Type _} {xs : List α} {i : Nat} {x : α} (h : xs[i]? = some x) : (xs.take i).length = i := by
  have := (List.getElem?_eq_some_iff.mp h).1
  rw [List.length_take]; omega
theorem lt_of_get {α : Type _} {xs : List α} {i : Nat} {x : α} (h : xs[i]? = some x) : i < xs.length := (List.getElem?_eq_some_iff.mp h).1
/-- a clause of a frame is short -/
theorem andsC_short : ∀ (t : List (Nat × Nat)) (w : Nat) (c : List Nat), c ∈ andsC w t → c.length ≤ 3
  | [], w, c, h => by cases h
  | (a, b) :: t, w, c, h => by
    rcases List.mem_cons.mp h with rfl | h
    · exact Nat.le_succ 2
    · rcases List.mem_cons.mp h with rfl | h
      · exact Nat.le_succ 2
      · rcases List.mem_cons.mp h with rfl | h
        · exact Nat.le_refl 3
        · exact andsC_short t _ c h
theorem baseC_short {n : NetD} {c : List Nat} (h : c ∈ baseC n) : c.length ≤ 3 := by
  rcases List.mem_cons.mp h with rfl | h
  · exact Nat.le_add_left 1 2
  · exact andsC_short _ _ c h
theorem startsC_len : ∀ (t : List (Nat × Nat)) (w : Nat), (startsC w t).length = t.length
  | [], w => rfl
  | (a, b) :: t, w => congrArg Nat.succ (startsC_len t (w + 2))
theorem linksC_len (a b : Nat) : ∀ (t : List (Nat × Nat)) (w : Nat), (linksC w a b t).length = 2 * t.length
  | [], w => rfl
  | (c, d) :: t, w => by
    show (sameC _ _ ++ linksC (w + 2) a b t).length = 2 * (t.length + 1)
    rw [List.length_append, linksC_len a b t (w + 2)]
    show 2 + 2 * t.length = _
    omega
end Sg
/-! part SgB -/
set_option Elab.async false
set_option maxRecDepth 100000
set_option linter.unusedVariables false
set_option maxHeartbeats 1000000
namespace Sg
open PySem PySem.Spec PyProof.Rows L2

end Sg

namespace Sg
open PySem PySem.Spec PyProof.Rows L2
/-! ### rules of the hand layer, read more shortly -/
section
variable {X : Cx} {e o : Expr} {t t' ta : TE} {C : Addr} {f : Str} {pos pos' : Pos}
theorem PE.imp (h : PE X e t) (i : ∀ σ H Q, t' σ H Q → t σ H Q) : PE X e t' := ⟨fun pins s σ H Q I q => h.run pins s σ H Q I (i σ H Q q)⟩
theorem PS.imp {st : Stmt} {t t' : TS} (h : PS X st t) (i : ∀ D σ H, t' D σ H → t D σ H) : PS X st t' := ⟨fun pins s σ H D I q => h.run pins s σ H D I (i D σ H q)⟩
/-- a field of an instance of the class at C -/
def rF (C : Addr) (f : Str) : V → Hp → VK → Prop := fun x H1 Q => ∃ a dx fs v, x = .ref a ∧ H1 a = some (.ins C dx fs) ∧ fs.lookup f = some v ∧ Q v H1
def tF (C : Addr) (f : Str) (ta : TE) : TE := fun σ H Q => ta σ H fun x H1 => rF C f x H1 Q
theorem pe_f (c : Cls X.K C) (n : NoAttr X.K C f) (h : PE X o ta) (hb : attributeBase o f X.env (eval o X.env) = eval o X.env := by rfl) : PE X (.Attribute o f pos) (tF C f ta) := by
  refine ⟨fun pins s σ H Q I q => ?_⟩
  refine attr_of hb (thn (h.run pins s σ H _ I q) fun u s1 ⟨x, H1, I1, rx, a, dx, fs, v, ex, ea, l, q⟩ => ?_)
  subst ex
  obtain rfl : u = Value.ref a := rx
  exact getattr_ok I1 ea c n l fun u' s2 I2 ru => ⟨v, H1, I2, ru, q⟩
/-- a store to a field -/
def sF (C : Addr) (f : Str) (ta tv : TE) : TS := fun D σ H => tv σ H fun y H1 => ta σ H1 fun x H2 => ∃ a dx fs, x = .ref a ∧ H2 a = some (.ins C dx fs) ∧ fs.length < 1000 ∧ D.nx σ (upd H2 a (.ins C dx (putF f y fs)))
theorem ps_f {tv : TE} {value : Expr} (c : Cls X.K C) (n : NoAttr X.K C f) (ha : PE X o ta) (hv : PE X value tv) (hs : swapsWith value (some (.Attribute o f pos')) pos.line X.env = pure false := by rfl) : PS X (.Assign [.Attribute o f pos'] value pos) (sF C f ta tv) := by
  refine ⟨fun pins s σ H D I h => ?_⟩
  refine plainObj_wpAny_Assign_Attribute (thn (hv.run pins s σ H _ I h) fun u s1 ⟨y, H1, I1, ry, q⟩ => thn (ha.run pins s1 σ H1 _ I1 q) fun ov s2 ⟨x, H2, I2, rx, a, dx, fs, ex, ea, l, q2⟩ => ?_) hs
  subst ex
  obtain rfl : ov = Value.ref a := rx
  exact setattr_ok I2 ea c n l ry fun s3 I3 => ⟨σ, _, I3, q2⟩
end

/-! ### defs by their promises -/
section
variable (P : Program) (w : World) (K : PySem.W.Frag) (mg : Str → Option Value) (base : Heap)
/-- the module's def x keeps the promise -/
def DefOk (k : Nat) (x : Str) (ps : List Str) (sp : Sp) : Prop := ∃ (f : Addr) (fd : FuncData), mg x = some (.ref f) ∧ PySem.W.keepIn K (.ref f) = true ∧ Binds K fd ps [] ∧ FnOk P w K mg base CX0 k f fd ps sp
/-- the class at C: its method m keeps the promise -/
def MethOk (k : Nat) (C : Addr) (m : Str) (ps : List Str) (sp : Sp) : Prop := ∃ (f : Addr) (fd : FuncData), Meth K C m f ∧ Binds K fd ps [] ∧ FnOk P w K mg base CX0 k f fd ps sp
/-- the class x stands at C: its __init__ keeps the promise -/
def InitOk (k : Nat) (x : Str) (C : Addr) (ps : List Str) (sp : Sp) : Prop := ∃ (f : Addr) (fd : FuncData), mg x = some (.ref C) ∧ Mk K C f ∧ Binds K fd ps [] ∧ FnOk P w K mg base CX0 k f fd ps sp
/-- the property -/
def PropOk (k : Nat) (C : Addr) (m : Str) (sp : Sp) : Prop := ∃ (p g : Addr) (fd : FuncData), PropOf K C m p g ∧ Binds K fd ["self"] [] ∧ FnOk P w K mg base CX0 k g fd ["self"] sp
end
section
variable {X : Cx} {k : Nat} {C : Addr} {x m : Str} {ps : List Str} {sp : Sp} {p pos apos : Pos} {e o : Expr} {es : List Expr} {ta : TE} {t : TA}
theorem pe_callD (D : DefOk X.prog X.w X.K X.mg X.base k x ps sp) (hr : Room k X.A) (hg : Gl X x) (ha : PA X (e :: es) t) (hdb : (x == ("__debug__" : Str)) = false := by decide)
    (he : starEach (e :: es) X.env = (false, eval e X.env) :: starEach es X.env := by rfl) (hpl : (backTo pos (starEach es X.env)).any (·.1) = false := by rfl) : PE X (.Call (.Name x p) (e :: es) [] pos) (tCall sp [] E0 t) := by
  obtain ⟨f, fd, hm, hk, hb, F⟩ := D
  exact pe_call F hr hg hm hk hb .nil pass0 ha hdb he hpl
theorem pe_methD {pl : Sem Bool} (D : MethOk X.prog X.w X.K X.mg X.base k C m ps sp) (c : Cls X.K C) (hr : Room k X.A) (he : PE X o ta) (ha : PA X (e :: es) t)
    (hst : starEach (e :: es) X.env = (false, eval e X.env) :: starEach es X.env := by rfl) (hpl : (backTo pos (starEach es X.env)).any (·.1) = false := by rfl)
    (ht : eval (.Call (.Attribute o m apos) (e :: es) [] pos) X.env = (do
      let ov ← eval o X.env
      standAt apos.atName
      let (f, first) ← holding [ov] (getMethod ov m pl)
      callWith pos f first (backTo pos (starEach (e :: es) X.env)) (backToKw pos (keywordEach [] X.env))) := by rfl) : PE X (.Call (.Attribute o m apos) (e :: es) [] pos) (tMeth C m sp [] E0 ta t) := by
  obtain ⟨f, fd, hm, hb, F⟩ := D
  exact pe_meth he c hm F hr hb .nil pass0 ha hst hpl ht
theorem pe_meth0D {pl : Sem Bool} (D : MethOk X.prog X.w X.K X.mg X.base k C m ps sp) (c : Cls X.K C) (hr : Room k X.A) (he : PE X o ta)
    (ht : eval (.Call (.Attribute o m apos) [] [] pos) X.env = (do
      let ov ← eval o X.env
      standAt apos.atName
      let (f, first) ← holding [ov] (getMethod ov m pl)
      callWith pos f first (backTo pos (starEach [] X.env)) (backToKw pos (keywordEach [] X.env))) := by rfl) : PE X (.Call (.Attribute o m apos) [] [] pos) (tMeth C m sp [] E0 ta tNil) := by
  obtain ⟨f, fd, hm, hb, F⟩ := D
  exact pe_meth0 he c hm F hr hb .nil pass0 ht
theorem pe_makeD (D : InitOk X.prog X.w X.K X.mg X.base k x C ps sp) (hr : Room (k + 1) X.A) (hg : Gl X x) (ha : PA X (e :: es) t) (hdb : (x == ("__debug__" : Str)) = false := by decide)
    (he : starEach (e :: es) X.env = (false, eval e X.env) :: starEach es X.env := by rfl) (hpl : (backTo pos (starEach es X.env)).any (·.1) = false := by rfl) : PE X (.Call (.Name x p) (e :: es) [] pos) (tMake C sp [] E0 t) := by
  obtain ⟨f, fd, hm, M, hb, F⟩ := D
  exact pe_make M F hr hg hm hb .nil pass0 ha hdb he hpl
theorem pe_propD (D : PropOk X.prog X.w X.K X.mg X.base k C m sp) (c : Cls X.K C) (hr : Room (k + 1) X.A) (he : PE X o ta) (hab : attributeBase o m X.env (eval o X.env) = eval o X.env := by rfl) : PE X (.Attribute o m pos) (tProp C sp [] E0 ta) := by
  obtain ⟨p, g, fd, hp, hb, F⟩ := D
  exact pe_prop he c hp F hr hb .nil pass0 hab
end
section
variable {P : Program} {w : World} {K : PySem.W.Frag} {mg : Str → Option Value} {base : Heap}
/-- THE RULE for a def's body -/
theorem fn_ok {x qual : Str} {params : Arguments} {body : List Stmt} {scope : Scope} {f : Addr} {fd : FuncData} {N ps : List Str} {k : Nat} {sp : Sp} (F : FunD K x qual params body scope [] [] f fd) (S : FnScope N ps scope) (len : ∀ vs H Q E, sp vs H Q E → vs.length = ps.length)
    (hbody : ∀ (cdv : Value) (A : Around) (outer : List Env) (s : Shared) (H : Hp) (vs : List V) (Q : VK) (E : XK), Room k (A.deeper (envOfC qual scope s.heap.objs.size f cdv)) → sp vs H Q E →
      ∃ t, PSs (cxOf CX0 P w K mg base N qual scope f cdv A outer s H E).nox body t ∧ t { nx := fun _ H' => Q .non H', rt := Q } (start N vs) H) : FnOk P w K mg base CX0 (k + 1) f fd ps sp :=
  F.ok S len fun cdv A outer s H vs Q E hr h => by
    obtain ⟨t, ht, q⟩ := hbody cdv A outer s H vs Q E hr h
    exact ⟨t, ht.nox, q⟩
end
end Sg

namespace Sg
open PySem PySem.Spec PyProof.Rows L2
/-! ### numbers as Python reckons them -/
theorem bta {α : Sort _} {a b : α} (P : α → Prop) (e : a = b) (h : P b) : P a := e ▸ h
theorem cast_shr (a : Nat) : ((a : Int) / 2 ^ ((1 : Nat) : Int).toNat) = ((a / 2 : Nat) : Int) := by
  show ((a : Int) / 2 ^ 1) = _
  omega
theorem bitand_n (a b : Nat) : Builtin.bitAnd (a : Int) (b : Int) = ((a &&& b : Nat) : Int) := by
  rw [PyProof.Rows.bitAnd_pp (Int.natCast_nonneg _) (Int.natCast_nonneg _), Int.toNat_natCast, Int.toNat_natCast]
theorem bitxor_n (a b : Nat) : Builtin.bitXor (a : Int) (b : Int) = ((a ^^^ b : Nat) : Int) := by
  rw [Bits.bitXor_pp (Int.natCast_nonneg _) (Int.natCast_nonneg _), Int.toNat_natCast, Int.toNat_natCast]
theorem dec_int {a b : Nat} : decide ((a : Int) = (b : Int)) = decide (a = b) := by
  by_cases h : a = b
  · rw [decide_eq_true h, decide_eq_true (by omega)]
  · rw [decide_eq_false h, decide_eq_false (by omega)]
theorem dec_vint {a b : Int} : decide (V.int a = V.int b) = decide (a = b) := by
  by_cases h : a = b
  · rw [decide_eq_true h, decide_eq_true (by rw [h])]
  · rw [decide_eq_false h, decide_eq_false (by intro q; cases q; exact h rfl)]
theorem dec_vstr {a b : Str} : decide (V.str a = V.str b) = decide (a = b) := by
  by_cases h : a = b
  · rw [decide_eq_true h, decide_eq_true (by rw [h])]
  · rw [decide_eq_false h, decide_eq_false (by intro q; cases q; exact h rfl)]
theorem dec_lt {a b : Nat} : decide ((a : Int) < (b : Int)) = decide (a < b) := by
  by_cases h : a < b
  · rw [decide_eq_true h, decide_eq_true (by omega)]
  · rw [decide_eq_false h, decide_eq_false (by omega)]
theorem dec_le {a b : Nat} : decide ((a : Int) ≤ (b : Int)) = decide (a ≤ b) := by
  by_cases h : a ≤ b
  · rw [decide_eq_true h, decide_eq_true (by omega)]
  · rw [decide_eq_false h, decide_eq_false (by omega)]
theorem len8 {xs : List V} (h : Nat.ble xs.length 8 = true) : xs.length ≤ sizeLine := Nat.le_trans (Nat.le_of_ble_eq_true h) (by decide)

/-! ### the steps of a reading -/
def rB (x : V) (H : Hp) (Q : Bool → Hp → Prop) : Prop := ∃ k, x = .bl k ∧ Q k H
def rIsN' : R2 := fun x y H Q => y = .non ∧ Q (.bl (decide (x = .non))) H
def rNotN' : R2 := fun x y H Q => y = .non ∧ Q (.bl (!decide (x = .non))) H
def rCatS : R2 := fun x y H Q => ∃ i j, x = .str i ∧ y = .str j ∧ i.length + j.length ≤ sizeLine ∧ Q (.str (i ++ j)) H
def rInSign : R2 := fun x y H Q => ∃ (c : Nat) (z : Str), x = .str ⟨#[c]⟩ ∧ y = .str z ∧ Q (.bl (decide (c ∈ z.cps.toList))) H
def rNotInSign : R2 := fun x y H Q => ∃ (c : Nat) (z : Str), x = .str ⟨#[c]⟩ ∧ y = .str z ∧ Q (.bl (!decide (c ∈ z.cps.toList))) H
section
variable {X : Cx}
theorem op_isN' : OpR X (compareOp .Is) rIsN' := op_isN
theorem op_notN' : OpR X (compareOp .IsNot) rNotN' := op_notN
theorem op_catS : OpR X (binaryOp .Add) rCatS := op_add_str
theorem op_inSign : OpR X (compareOp .In) rInSign := op_in_sign
theorem op_notInSign : OpR X (compareOp .NotIn) rNotInSign := op_notIn_sign
end
def rMeth (C : Addr) (m : Str) (sp : Sp) (t : TA) (σ : L2.St) : V → Hp → VK → Prop := fun x H Q => ∃ a dx fs, x = .ref a ∧ H a = some (.ins C dx fs) ∧ fs.lookup m = none ∧ t σ H fun vs H2 => sp (x :: (vs ++ [])) H2 Q E0
def rProp (C : Addr) (sp : Sp) : V → Hp → VK → Prop := fun x H Q => ∃ a dx fs, x = .ref a ∧ H a = some (.ins C dx fs) ∧ sp [.ref a] H Q E0
def rSF (C : Addr) (f : Str) (σ : L2.St) (D : Ends) : V → V → Hp → Prop := fun y x H2 => ∃ a dx fs, x = .ref a ∧ H2 a = some (.ins C dx fs) ∧ fs.length < 1000 ∧ D.nx σ (upd H2 a (.ins C dx (putF f y fs)))
def rBM (K : PySem.W.Frag) (T : String) (r : V → List V → Hp → VK → Prop) (t : TA) (σ : L2.St) : V → Hp → VK → Prop := fun x H1 Q => tyV K T x H1 ∧ t σ H1 fun xs H2 => r x xs H2 Q
def rPar (i j : Nat) (σ : L2.St) (D : Ends) : List V → Hp → Prop := fun vs H1 => ∃ v w, vs = [v, w] ∧ D.nx ((σ.set i (some v)).set j (some w)) H1
def rLen (K : PySem.W.Frag) : List V → Hp → VK → Prop := fun xs H Q => ∃ p ys, xs = [V.ref p] ∧ (SqL K H p ys ∨ SqT K H p ys) ∧ Q (.int ys.length) H
def rListOf (K : PySem.W.Frag) : List V → Hp → VK → Prop := fun xs H Q => ∃ p ys, xs = [V.ref p] ∧ (SqL K H p ys ∨ SqT K H p ys) ∧ ∀ l, H l = none → Q (.ref l) (upd H l (.lst ys))
def rTupOf (K : PySem.W.Frag) : List V → Hp → VK → Prop := fun xs H Q => ∃ p ys, xs = [V.ref p] ∧ ((SqL K H p ys ∧ ∀ l, H l = none → Q (.ref l) (upd H l (.tup ys))) ∨ (SqT K H p ys ∧ Q (.ref p) H))
def rMin2 : List V → Hp → VK → Prop := fun xs H Q => ∃ i j, xs = [V.int i, V.int j] ∧ Q (.int (if j < i then j else i)) H
def rMax2 : List V → Hp → VK → Prop := fun xs H Q => ∃ i j, xs = [V.int i, V.int j] ∧ Q (.int (if j > i then j else i)) H
def rInt1 : List V → Hp → VK → Prop := fun xs H Q => (∃ i, xs = [V.int i] ∧ Q (.int i) H) ∨ ∃ k, xs = [V.bl k] ∧ Q (.int (if k then 1 else 0)) H
def rStr1 : List V → Hp → VK → Prop := fun xs H Q => ∃ i, xs = [V.int i] ∧ i.natAbs.log2 < 1920 ∧ Q (.str (toString i)) H
def rLenS : List V → Hp → VK → Prop := fun xs H Q => ∃ z, xs = [V.str z] ∧ z.length ≤ sizeLine ∧ Q (.int z.length) H
def rLenD : List V → Hp → VK → Prop := fun xs H Q => ∃ a kvs, xs = [V.ref a] ∧ H a = some (.dK kvs) ∧ Q (.int kvs.length) H
theorem call_tuple' {X : Cx} : CallR X (.type "tuple") (rTupOf X.K) := call_tuple_of
theorem call_min' {X : Cx} (hc : X.calm = true) : CallR X (.builtin "min") rMin2 := call_min2 hc
theorem call_max' {X : Cx} (hc : X.calm = true) : CallR X (.builtin "max") rMax2 := call_max2 hc
theorem call_int' {X : Cx} : CallR X (.type "int") rInt1 := call_int1
theorem call_str' {X : Cx} : CallR X (.type "str") rStr1 := call_str_int
theorem call_lenS' {X : Cx} : CallR X (.builtin "len") rLenS := call_len_str
theorem call_lenD' {X : Cx} : CallR X (.builtin "len") rLenD := call_lenD
theorem call_list' {X : Cx} : CallR X (.type "list") (rListOf X.K) := call_list_of
theorem call_len' {X : Cx} : CallR X (.builtin "len") (rLen X.K) := call_len_seq
section
variable {σ : L2.St} {H : Hp} {Q : VK} {D : Ends} {ta tb tc te tv : TE} {t u c : TT} {tas tar : TA} {ts us : TS} {x y v : V} {r r' : R2} {QB : Bool → Hp → Prop} {QL : List V → Hp → Prop} {QS : L2.St → Hp → Prop} {g : TG} {gs : TGs} {K : PySem.W.Frag} {A B : Prop}
theorem g_var {i : Nat} (h : σ[i]? = some (some v)) (q : Q v H) : tVar i σ H Q := ⟨v, h, q⟩
theorem g_c (q : Q v H) : tC v σ H Q := q
theorem g_op (q : ta σ H fun x H1 => tb σ H1 fun y H2 => r x y H2 Q) : tOp r ta tb σ H Q := q
theorem g_cons (q : ta σ H fun x H1 => tar σ H1 fun xs H2 => QL (x :: xs) H2) : tCons ta tar σ H QL := q
theorem g_nil (q : QL [] H) : tNil σ H QL := q
theorem g_call {sp : Sp} (q : tas σ H fun vs H1 => sp (vs ++ []) H1 Q E0) : tCall sp [] E0 tas σ H Q := q
theorem g_cb {rc : List V → Hp → VK → Prop} (q : tas σ H fun vs H1 => rc vs H1 Q) : tCB rc tas σ H Q := q
theorem g_tup (q : tas σ H fun xs H1 => xs.length ≤ sizeLine ∧ ∀ p, H1 p = none → Q (.ref p) (upd H1 p (.tup xs))) : tTup tas σ H Q := q
theorem g_lst (q : tas σ H fun xs H1 => xs.length ≤ sizeLine ∧ ∀ p, H1 p = none → Q (.ref p) (upd H1 p (.lst xs))) : tLst tas σ H Q := q
theorem g_disp {xs : List V} {R : Addr → Prop} (h : Nat.ble xs.length 8 = true) (q : ∀ p, H p = none → R p) : xs.length ≤ sizeLine ∧ ∀ p, H p = none → R p := ⟨len8 h, q⟩
-- tests
theorem g_test (q : ta σ H fun x H' => rB x H' QB) : tTest ta σ H QB := q
theorem g_B (q : ta σ H fun x H' => rB x H' QB) : tB ta σ H QB := q
theorem g_rB {b : Bool} (q : QB b H) : rB (.bl b) H QB := ⟨b, rfl, q⟩
theorem g_andV (q : ta σ H fun x H1 => rB x H1 fun c H1 => if c = true then tb σ H1 Q else Q (.bl false) H1) : tAndV ta tb σ H Q := q
theorem g_orV (q : ta σ H fun x H1 => rB x H1 fun c H1 => if c = true then Q (.bl true) H1 else tb σ H1 Q) : tOrV ta tb σ H Q := q
theorem g_notV (q : ta σ H fun x H1 => rB x H1 fun c H1 => Q (.bl (!c)) H1) : tNotV ta σ H Q := q
theorem g_and (q : t σ H fun c H1 => if c = true then u σ H1 QB else QB false H1) : tAnd t u σ H QB := q
theorem g_or (q : t σ H fun c H1 => if c = true then QB true H1 else u σ H1 QB) : tOr t u σ H QB := q
theorem g_not (q : t σ H fun c H1 => QB (!c) H1) : tNot t σ H QB := q
theorem g_ifE (q : t σ H fun c H1 => if c = true then ta σ H1 Q else tb σ H1 Q) : tIf t ta tb σ H Q := q
theorem g_chain (q : ta σ H fun x H1 => tb σ H1 fun y H2 => r x y H2 fun z H3 => rB z H3 fun k H3 => (if k = true then tc σ H3 fun w' H4 => r' y w' H4 Q else Q (.bl false) H3)) : tChain r r' ta tb tc σ H Q := q
theorem br {p : Prop} [Decidable p] (h1 : p → A) (h2 : ¬ p → B) : if decide p = true then A else B := by
  by_cases h : p
  · rw [if_pos (decide_eq_true h)]; exact h1 h
  · rw [if_neg (by simp [h])]; exact h2 h
theorem brn {p : Prop} [Decidable p] (h1 : ¬ p → A) (h2 : p → B) : if (!decide p) = true then A else B := by
  by_cases h : p
  · rw [if_neg (by simp [h])]; exact h2 h
  · rw [if_pos (by simp [h])]; exact h1 h
theorem br_t {p : Prop} [Decidable p] (h : p) (q : A) : if decide p = true then A else B := by rw [if_pos (decide_eq_true h)]; exact q
theorem br_f {p : Prop} [Decidable p] (h : ¬ p) (q : B) : if decide p = true then A else B := by rw [if_neg (by simp [h])]; exact q
theorem brn_t {p : Prop} [Decidable p] (h : ¬ p) (q : A) : if (!decide p) = true then A else B := by rw [if_pos (by simp [h])]; exact q
theorem brn_f {p : Prop} [Decidable p] (h : p) (q : B) : if (!decide p) = true then A else B := by rw [if_neg (by simp [h])]; exact q
theorem ite_t (q : A) : if true = true then A else B := by rw [if_pos rfl]; exact q
theorem ite_f (q : B) : if false = true then A else B := by rw [if_neg Bool.false_ne_true]; exact q
theorem iteN_t (q : A) : if (!false) = true then A else B := q
theorem iteN_f (q : B) : if (!true) = true then A else B := q
theorem brb {b : Bool} (h1 : b = true → A) (h2 : b = false → B) : if b = true then A else B := by
  cases b with
  | true => rw [if_pos rfl]; exact h1 rfl
  | false => rw [if_neg Bool.false_ne_true]; exact h2 rfl
-- nums
theorem g_add {a b : Nat} (q : Q (.int ((a + b : Nat) : Int)) H) : rI0 (fun i j => V.int (i + j)) (.int (a : Int)) (.int (b : Int)) H Q := ⟨_, _, rfl, rfl, q⟩
theorem g_sub {a b : Nat} (h : b ≤ a) (q : Q (.int ((a - b : Nat) : Int)) H) : rI0 (fun i j => V.int (i - j)) (.int (a : Int)) (.int (b : Int)) H Q := by
  exact ⟨_, _, rfl, rfl, bta (fun z => Q (.int z) H) (show ((a : Int) - (b : Int)) = ((a - b : Nat) : Int) by omega) q⟩
theorem g_mul {a b : Nat} (h : b < 2 ^ 60) (q : Q (.int ((a * b : Nat) : Int)) H) : rI CMul (fun i j => V.int (i * j)) (.int (a : Int)) (.int (b : Int)) H Q := ⟨_, _, rfl, rfl, .inr ⟨by omega, by omega⟩, q⟩
theorem g_mul2 {b : Nat} (q : Q (.int ((2 * b : Nat) : Int)) H) : rI CMul (fun i j => V.int (i * j)) (.int ((2 : Nat) : Int)) (.int (b : Int)) H Q := ⟨_, _, rfl, rfl, .inl ⟨by decide, by decide⟩, q⟩
theorem g_shr1 {a : Nat} (q : Q (.int ((a / 2 : Nat) : Int)) H) : rI (fun _ j => 0 ≤ j) (fun i j => V.int (i / 2 ^ j.toNat)) (.int (a : Int)) (.int ((1 : Nat) : Int)) H Q := ⟨_, _, rfl, rfl, (show (0 : Int) ≤ ((1 : Nat) : Int) by decide), bta (fun z => Q (.int z) H) (cast_shr a) q⟩
theorem g_and1 {a : Nat} (q : Q (.int ((a % 2 : Nat) : Int)) H) : rI0 (fun i j => V.int (Builtin.bitAnd i j)) (.int (a : Int)) (.int ((1 : Nat) : Int)) H Q := ⟨_, _, rfl, rfl, bta (fun z => Q (.int z) H) ((bitand_n a 1).trans (by rw [Nat.and_one_is_mod])) q⟩
theorem g_band {a b : Nat} (q : Q (.int ((a &&& b : Nat) : Int)) H) : rI0 (fun i j => V.int (Builtin.bitAnd i j)) (.int (a : Int)) (.int (b : Int)) H Q := ⟨_, _, rfl, rfl, bta (fun z => Q (.int z) H) (bitand_n a b) q⟩
theorem g_xor1 {a : Nat} (q : Q (.int ((neg a : Nat) : Int)) H) : rI0 (fun i j => V.int (Builtin.bitXor i j)) (.int (a : Int)) (.int ((1 : Nat) : Int)) H Q := ⟨_, _, rfl, rfl, bta (fun z => Q (.int z) H) ((bitxor_n a 1).trans (by rw [xor_one])) q⟩
theorem g_xor {a b : Nat} (q : Q (.int ((a ^^^ b : Nat) : Int)) H) : rI0 (fun i j => V.int (Builtin.bitXor i j)) (.int (a : Int)) (.int (b : Int)) H Q := ⟨_, _, rfl, rfl, bta (fun z => Q (.int z) H) (bitxor_n a b) q⟩
theorem g_lt {a b : Nat} (q : Q (.bl (decide (a < b))) H) : rI0 (fun i j => V.bl (decide (i < j))) (.int (a : Int)) (.int (b : Int)) H Q := ⟨_, _, rfl, rfl, bta (fun z => Q (.bl z) H) dec_lt q⟩
theorem g_le {a b : Nat} (q : Q (.bl (decide (a ≤ b))) H) : rI0 (fun i j => V.bl (decide (i ≤ j))) (.int (a : Int)) (.int (b : Int)) H Q := ⟨_, _, rfl, rfl, bta (fun z => Q (.bl z) H) dec_le q⟩
theorem g_gt {a b : Nat} (q : Q (.bl (decide (b < a))) H) : rI0 (fun i j => V.bl (decide (j < i))) (.int (a : Int)) (.int (b : Int)) H Q := ⟨_, _, rfl, rfl, bta (fun z => Q (.bl z) H) dec_lt q⟩
theorem g_ge {a b : Nat} (q : Q (.bl (decide (b ≤ a))) H) : rI0 (fun i j => V.bl (decide (j ≤ i))) (.int (a : Int)) (.int (b : Int)) H Q := ⟨_, _, rfl, rfl, bta (fun z => Q (.bl z) H) dec_le q⟩
theorem g_eq {a b : Nat} (q : Q (.bl (decide (a = b))) H) : rEq (.int (a : Int)) (.int (b : Int)) H Q := ⟨rfl, by rw [dec_vint, dec_int]; exact q⟩
theorem g_ne {a b : Nat} (q : Q (.bl (!decide (a = b))) H) : rNe (.int (a : Int)) (.int (b : Int)) H Q := ⟨rfl, by rw [dec_vint, dec_int]; exact q⟩
theorem g_I0 {f : Int → Int → V} {a b : Int} (q : Q (f a b) H) : rI0 f (.int a) (.int b) H Q := ⟨_, _, rfl, rfl, q⟩
-- None
theorem g_isT (q : Q (.bl true) H) : rIsN' .non .non H Q := ⟨rfl, q⟩
theorem g_isF_int {i : Int} (q : Q (.bl false) H) : rIsN' (.int i) .non H Q := ⟨rfl, q⟩
theorem g_isF_ref {i : Addr} (q : Q (.bl false) H) : rIsN' (.ref i) .non H Q := ⟨rfl, q⟩
theorem g_noT (q : Q (.bl false) H) : rNotN' .non .non H Q := ⟨rfl, q⟩
theorem g_noF_int {i : Int} (q : Q (.bl true) H) : rNotN' (.int i) .non H Q := ⟨rfl, q⟩
theorem g_noF_ref {i : Addr} (q : Q (.bl true) H) : rNotN' (.ref i) .non H Q := ⟨rfl, q⟩
-- statements
theorem g_seq (q : ts { D with nx := us D } σ H) : tSeq ts us D σ H := q
theorem g_next (q : D.nx σ H) : tNext D σ H := q
theorem g_asg (q : te σ H fun x H1 => g x σ H1 D.nx) : tAsg te g D σ H := q
theorem g_name {i : Nat} (q : QS (σ.set i (some v)) H) : gName i v σ H QS := q
theorem g_name2 {i : Nat} {σ' : L2.St} (e : σ.set i (some v) = σ') (q : QS σ' H) : gName i v σ H QS := by
  subst e; exact q
theorem st_eq {σ' : L2.St} (e : σ = σ') (q : ts D σ' H) : ts D σ H := by
  subst e; exact q
theorem g_par2 {i j : Nat} {σ' : L2.St} {v w : V} (e : (σ.set i (some v)).set j (some w) = σ') (q : D.nx σ' H) : rPar i j σ D [v, w] H := by
  subst e; exact ⟨_, _, rfl, q⟩
theorem g_drop (q : te σ H fun _ H1 => D.nx σ H1) : tDrop te D σ H := q
theorem g_ret (q : te σ H D.rt) : tRet te D σ H := q
theorem g_if (q : t σ H fun b H1 => if b = true then ts D σ H1 else us D σ H1) : tIfS t ts us D σ H := q
theorem g_par {i j : Nat} (q : tas σ H fun vs H1 => rPar i j σ D vs H1) : tPar i j tas D σ H := q
theorem g_meth {C : Addr} {m : Str} {sp : Sp} (q : ta σ H fun x H1 => rMeth C m sp tas σ x H1 Q) : tMeth C m sp [] E0 ta tas σ H Q := q
theorem g_rMeth {C a dx : Addr} {fs : List (Str × V)} {m : Str} {sp : Sp} (h : H a = some (.ins C dx fs)) (l : fs.lookup m = none) (q : tas σ H fun vs H2 => sp (.ref a :: (vs ++ [])) H2 Q E0) : rMeth C m sp tas σ (.ref a) H Q := ⟨a, dx, fs, rfl, h, l, q⟩
theorem g_prop {C : Addr} {sp : Sp} (q : ta σ H fun x H1 => rProp C sp x H1 Q) : tProp C sp [] E0 ta σ H Q := q
theorem g_rProp {C a dx : Addr} {fs : List (Str × V)} {sp : Sp} (h : H a = some (.ins C dx fs)) (q : sp [.ref a] H Q E0) : rProp C sp (.ref a) H Q := ⟨a, dx, fs, rfl, h, q⟩
theorem g_make {C : Addr} {sp : Sp} (q : tas σ H fun vs H1 => ∀ x dx, H1 x = none → H1 dx = none → dx ≠ x → sp (.ref x :: (vs ++ [])) (upd (upd H1 dx (.own x)) x (.ins C dx [])) (fun v H2 => v = .non ∧ Q (.ref x) H2) E0) : tMake C sp [] E0 tas σ H Q := q
theorem g_sF {C : Addr} {f : Str} (q : tv σ H fun y H1 => ta σ H1 fun x H2 => rSF C f σ D y x H2) : sF C f ta tv D σ H := q
theorem g_rSF {C a dx : Addr} {f : Str} {fs : List (Str × V)} {n : Nat} (h : H a = some (.ins C dx fs)) (l : fs.length ≤ n) (hn : Nat.blt n 1000 = true) (q : D.nx σ (upd H a (.ins C dx (putF f v fs)))) : rSF C f σ D v (.ref a) H := ⟨a, dx, fs, rfl, h, Nat.lt_of_le_of_lt l (Nat.blt_eq ▸ hn), q⟩
theorem g_bm {T : String} {rm : V → List V → Hp → VK → Prop} (q : ta σ H fun x H1 => rBM K T rm tas σ x H1 Q) : tBM K T rm ta tas σ H Q := q
theorem g_rBM {a : Addr} {xs : List V} {rm : V → List V → Hp → VK → Prop} (h : H a = some (.lst xs)) (q : tas σ H fun xs H2 => rm (.ref a) xs H2 Q) : rBM K "list" rm tas σ (.ref a) H Q := ⟨.inl ⟨rfl, _, SqL.of h⟩, q⟩
theorem g_append {l : Addr} {xs : List V} (h : H l = some (.lst xs)) (z : xs.length < sizeLine) (q : Q .non (upd H l (.lst (xs ++ [v])))) : rAppend (.ref l) [v] H Q := ⟨l, xs, v, rfl, rfl, h, z, q⟩
theorem g_len {a : Addr} {xs : List V} (h : H a = some (.lst xs)) (q : Q (.int (xs.length : Int)) H) : rLen K [.ref a] H Q := ⟨a, xs, rfl, .inl (SqL.of h), q⟩
theorem g_listOf {a : Addr} {xs : List V} (h : H a = some (.lst xs)) (q : ∀ l, H l = none → Q (.ref l) (upd H l (.lst xs))) : rListOf K [.ref a] H Q := ⟨a, xs, rfl, .inl (SqL.of h), q⟩
theorem g_listOfT {a : Addr} {xs : List V} (h : H a = some (.tup xs)) (q : ∀ l, H l = none → Q (.ref l) (upd H l (.lst xs))) : rListOf K [.ref a] H Q := ⟨a, xs, rfl, .inr (SqT.of h), q⟩
theorem g_tupOf {a : Addr} {xs : List V} (h : H a = some (.lst xs)) (q : ∀ l, H l = none → Q (.ref l) (upd H l (.tup xs))) : rTupOf K [.ref a] H Q := ⟨a, xs, rfl, .inl ⟨SqL.of h, q⟩⟩
theorem g_tupOfT {a : Addr} {xs : List V} (h : H a = some (.tup xs)) (q : Q (.ref a) H) : rTupOf K [.ref a] H Q := ⟨a, xs, rfl, .inr ⟨SqT.of h, q⟩⟩
theorem g_min {a b : Nat} (q : Q (.int ((min a b : Nat) : Int)) H) : rMin2 [.int (a : Int), .int (b : Int)] H Q :=
  ⟨_, _, rfl, bta (fun z => Q (.int z) H) (show (if (b : Int) < (a : Int) then (b : Int) else (a : Int)) = ((min a b : Nat) : Int) by split <;> omega) q⟩
theorem g_max {a b : Nat} (q : Q (.int ((max a b : Nat) : Int)) H) : rMax2 [.int (a : Int), .int (b : Int)] H Q :=
  ⟨_, _, rfl, bta (fun z => Q (.int z) H) (show (if (b : Int) > (a : Int) then (b : Int) else (a : Int)) = ((max a b : Nat) : Int) by split <;> omega) q⟩
theorem g_int {i : Int} (q : Q (.int i) H) : rInt1 [.int i] H Q := .inl ⟨i, rfl, q⟩
theorem g_lenS {z : Str} (h : z.length ≤ 100000) (q : Q (.int (z.length : Int)) H) : rLenS [.str z] H Q := ⟨z, rfl, Nat.le_trans h (by decide), q⟩
theorem g_lenD {a : Addr} {kvs : List (Key × V)} (h : H a = some (.dK kvs)) (q : Q (.int (kvs.length : Int)) H) : rLenD [.ref a] H Q := ⟨a, kvs, rfl, h, q⟩
theorem g_lenT {a : Addr} {xs : List V} (h : H a = some (.tup xs)) (q : Q (.int (xs.length : Int)) H) : rLen K [.ref a] H Q := ⟨a, xs, rfl, .inr (SqT.of h), q⟩
theorem g_gtup {n : Nat} {a : Addr} {xs : List V} (h : H a = some (.tup xs)) (hl : xs.length = n) (q : gs xs σ H QS) : gTup K n gs (.ref a) σ H QS := ⟨a, xs, rfl, SqT.of h, hl, q⟩
theorem g_gcons {xs : List V} {gr : TGs} (q : g v σ H fun σ' H' => gr xs σ' H' QS) : gCons g gr (v :: xs) σ H QS := ⟨_, _, rfl, q⟩
theorem g_gnil (q : QS σ H) : gNil [] σ H QS := ⟨rfl, q⟩
-- fields, lists, tuples
theorem g_f {C : Addr} {f : Str} (q : ta σ H fun x H1 => rF C f x H1 Q) : tF C f ta σ H Q := q
theorem g_fx {C a dx : Addr} {f : Str} {fs : List (Str × V)} (h : H a = some (.ins C dx fs)) (l : fs.lookup f = some v) (q : Q v H) : rF C f (.ref a) H Q := ⟨_, _, _, _, rfl, h, l, q⟩
theorem g_ixL {p : Addr} {xs : List V} {j : Nat} (h : H p = some (.lst xs)) (hx : xs[j]? = some v) (q : Q v H) : rIxL K (.ref p) (.int (j : Int)) H Q := ⟨p, xs, _, v, rfl, rfl, SqL.of h, atI_nat hx, q⟩
theorem g_ixT {p : Addr} {xs : List V} {j : Nat} (h : H p = some (.tup xs)) (hx : xs[j]? = some v) (q : Q v H) : rIxT K (.ref p) (.int (j : Int)) H Q := ⟨p, xs, _, v, rfl, rfl, SqT.of h, atI_nat hx, q⟩
end

/-! ### heaps -/
theorem Same.new {H : Hp} {p : Addr} {o : HO} (h : H p = none) : Same H (upd H p o) := fun a u e => by
  rw [upd_ne (ne_of_none e h)]; exact e
theorem Same.mut {H0 H : Hp} {p : Addr} {o : HO} (e : Same H0 H) (h : H0 p = none) : Same H0 (upd H p o) := fun a u ha => by
  rw [upd_ne (ne_of_none ha h)]; exact e a u ha
theorem upd_upd {H : Hp} {p : Addr} {o o' : HO} : upd (upd H p o) p o' = upd H p o' := by
  funext a
  by_cases h : a = p
  · rw [h, L2.upd_same, L2.upd_same]
  · rw [L2.upd_ne h, L2.upd_ne h, L2.upd_ne h]
theorem lk_new {H : Hp} {p a : Addr} {o u : HO} (h : H p = none) (e : H a = some u) : upd H p o a = some u := Same.new h a u e
theorem lk_ne {H : Hp} {p a : Addr} {o u : HO} (h : a ≠ p) (e : H a = some u) : upd H p o a = some u := by rw [upd_ne h]; exact e
theorem lk_same {H H' : Hp} {a : Addr} {u : HO} (s : Same H H') (e : H a = some u) : H' a = some u := s a u e
theorem ne_new {H : Hp} {p l : Addr} {o : HO} (h : H p = some o) (hl : H l = none) : l ≠ p := (ne_of_none h hl).symm
theorem len0 : ([] : List (Str × V)).length ≤ 0 := Nat.le_refl 0
theorem len_put {f : Str} {v : V} {fs : List (Str × V)} {n : Nat} (h : fs.length ≤ n) : (putF f v fs).length ≤ n + 1 := Nat.le_trans (length_putF f v fs) (Nat.succ_le_succ h)
theorem Same.free {H H' : Hp} (e : Same H H') {l : Addr} (h : H' l = none) : H l = none := L2.Same.free e h
theorem upd_put {H : Hp} {p : Addr} {o o' : HO} (h : H p = some o') : upd H p o p = some o := upd_same
/-- pairs of values and data -/
def All2 {α : Type} (R : V → α → Prop) (vs : List V) (xs : List α) : Prop := vs.length = xs.length ∧ ∀ (i : Nat) (v : V), vs[i]? = some v → ∃ x, xs[i]? = some x ∧ R v x
section
variable {α : Type} {R R' : V → α → Prop} {vs : List V} {xs : List α}
theorem All2.nil : All2 R [] [] := ⟨rfl, fun i v h => by simp at h⟩
theorem All2.snoc {v : V} {x : α} (h : All2 R vs xs) (r : R v x) : All2 R (vs ++ [v]) (xs ++ [x]) := by
  refine ⟨by rw [List.length_append, List.length_append, h.1]; rfl, fun i u e => ?_⟩
  by_cases hi : i < vs.length
  · rw [List.getElem?_append_left hi] at e
    obtain ⟨y, hy, ry⟩ := h.2 i u e
    exact ⟨y, by rw [List.getElem?_append_left (by rw [← h.1]; exact hi)]; exact hy, ry⟩
  · rw [List.getElem?_append_right (by omega)] at e
    have hi' : i - vs.length = 0 := by
      have := (List.getElem?_eq_some_iff.mp e).1
      simp at this; omega
    rw [hi'] at e
    cases e
    refine ⟨x, ?_, r⟩
    rw [List.getElem?_append_right (by rw [← h.1]; omega), ← h.1, hi']
    rfl
theorem All2.imp (h : All2 R vs xs) (i : ∀ v x, R v x → R' v x) : All2 R' vs xs := ⟨h.1, fun k v e => let ⟨x, a, b⟩ := h.2 k v e; ⟨x, a, i v x b⟩⟩
theorem All2.get {i : Nat} {x : α} (h : All2 R vs xs) (e : xs[i]? = some x) : ∃ v, vs[i]? = some v ∧ R v x := by
  have hi : i < vs.length := by rw [h.1]; exact (List.getElem?_eq_some_iff.mp e).1
  obtain ⟨y, hy, r⟩ := h.2 i vs[i] (List.getElem?_eq_getElem hi)
  rw [e] at hy; cases hy
  exact ⟨vs[i], List.getElem?_eq_getElem hi, r⟩
theorem All2.append {vs' : List V} {xs' : List α} (h : All2 R vs xs) (h' : All2 R vs' xs') : All2 R (vs ++ vs') (xs ++ xs') := by
  refine ⟨by rw [List.length_append, List.length_append, h.1, h'.1], fun i u e => ?_⟩
  by_cases hi : i < vs.length
  · rw [List.getElem?_append_left hi] at e
    obtain ⟨y, hy, ry⟩ := h.2 i u e
    exact ⟨y, by rw [List.getElem?_append_left (by rw [← h.1]; exact hi)]; exact hy, ry⟩
  · rw [List.getElem?_append_right (by omega)] at e
    obtain ⟨y, hy, ry⟩ := h'.2 _ u e
    exact ⟨y, by rw [List.getElem?_append_right (by rw [← h.1]; omega), ← h.1]; exact hy, ry⟩
end
/-- a list of data stands at a -/
def LstAt {α : Type} (H : Hp) (a : Addr) (R : Hp → V → α → Prop) (xs : List α) : Prop := ∃ vs, H a = some (.lst vs) ∧ All2 (R H) vs xs
/-- R is kept where what stood stays -/
def Mono {α : Type} (R : Hp → V → α → Prop) : Prop := ∀ H H' v x, Same H H' → R H v x → R H' v x
theorem LstAt.mono {α : Type} {R : Hp → V → α → Prop} {H H' : Hp} {a : Addr} {xs : List α} (m : Mono R) (s : Same H H') (h : LstAt H a R xs) : LstAt H' a R xs := by
  obtain ⟨vs, e, r⟩ := h
  exact ⟨vs, s _ _ e, r.imp fun v x => m H H' v x s⟩
/-- numbers as values -/
def nums (c : List Nat) : List V := c.map fun n : Nat => V.int (n : Int)
theorem nums_len (c : List Nat) : (nums c).length = c.length := List.length_map ..
theorem nums_get {c : List Nat} {i n : Nat} (h : c[i]? = some n) : (nums c)[i]? = some (.int (n : Int)) := by unfold nums; rw [List.getElem?_map, h]; rfl
theorem nums_of {c : List Nat} {i : Nat} {v : V} (h : (nums c)[i]? = some v) : ∃ n, c[i]? = some n ∧ v = .int (n : Int) := by
  unfold nums at h
  rw [List.getElem?_map] at h
  obtain ⟨n, hn, e⟩ := Option.map_eq_some_iff.mp h
  exact ⟨n, hn, e.symm⟩
theorem nums_append (a b : List Nat) : nums (a ++ b) = nums a ++ nums b := List.map_append ..
def IsC : Hp → V → List Nat → Prop := fun H v c => ∃ a, v = .ref a ∧ H a = some (.tup (nums c))
theorem mono_C : ∀ (H H' : Hp) (v : V) (c : List Nat), (∀ b o, H b = some o → H' b = some o) → IsC H v c → IsC H' v c := fun _ _ _ _ s ⟨a, e, h⟩ => ⟨a, e, s _ _ h⟩
def IsI : Hp → V → Nat → Prop := fun _ v n => v = .int (n : Int)
def IsS : Hp → V → Str → Prop := fun _ v n => v = .str n
def IsP : Hp → V → Nat × Nat → Prop := fun H v p => ∃ a, v = .ref a ∧ H a = some (.tup [.int (p.1 : Int), .int (p.2 : Int)])
def IsL : Hp → V → Str × Nat × Nat → Prop := fun H v p => ∃ a, v = .ref a ∧ H a = some (.tup [.str p.1, .int (p.2.1 : Int), .int (p.2.2 : Int)])
def IsO : Hp → V → Str × Nat → Prop := fun H v p => ∃ a, v = .ref a ∧ H a = some (.tup [.str p.1, .int (p.2 : Int)])
theorem stab_C (D : Addr) (y : V) (b : List Nat) (H : Hp) (acc acc' : List V) (h : H D = some (.lst acc)) (r : IsC H y b) : IsC (upd H D (.lst acc')) y b := by
  obtain ⟨a, e, ha⟩ := r
  exact ⟨a, e, lk_ne (ne_of ha h (by intro q; cases q)) ha⟩
theorem stab_P (D : Addr) (y : V) (b : Nat × Nat) (H : Hp) (acc acc' : List V) (h : H D = some (.lst acc)) (r : IsP H y b) : IsP (upd H D (.lst acc')) y b := by
  obtain ⟨a, e, ha⟩ := r
  exact ⟨a, e, lk_ne (ne_of ha h (by intro q; cases q)) ha⟩
theorem stab_L (D : Addr) (y : V) (b : Str × Nat × Nat) (H : Hp) (acc acc' : List V) (h : H D = some (.lst acc)) (r : IsL H y b) : IsL (upd H D (.lst acc')) y b := by
  obtain ⟨a, e, ha⟩ := r
  exact ⟨a, e, lk_ne (ne_of ha h (by intro q; cases q)) ha⟩
theorem stab_O (D : Addr) (y : V) (b : Str × Nat) (H : Hp) (acc acc' : List V) (h : H D = some (.lst acc)) (r : IsO H y b) : IsO (upd H D (.lst acc')) y b := by
  obtain ⟨a, e, ha⟩ := r
  exact ⟨a, e, lk_ne (ne_of ha h (by intro q; cases q)) ha⟩
theorem stab_I (D : Addr) (y : V) (b : Nat) (H : Hp) (acc acc' : List V) (h : H D = some (.lst acc)) (r : IsI H y b) : IsI (upd H D (.lst acc')) y b := r
theorem stab_S (D : Addr) (y : V) (b : Str) (H : Hp) (acc acc' : List V) (h : H D = some (.lst acc)) (r : IsS H y b) : IsS (upd H D (.lst acc')) y b := r
theorem LstAt.nums {H : Hp} {a : Addr} {c : List Nat} : LstAt H a IsI c ↔ H a = some (.lst (nums c)) := by
  constructor
  · rintro ⟨vs, e, r⟩
    rw [e]
    congr 2
    apply List.ext_getElem?
    intro i
    by_cases hi : i < vs.length
    · obtain ⟨n, hn, rn⟩ := r.2 i vs[i] (List.getElem?_eq_getElem hi)
      rw [List.getElem?_eq_getElem hi, nums_get hn, rn]
    · rw [List.getElem?_eq_none_iff.mpr (by omega), List.getElem?_eq_none_iff.mpr (by rw [nums_len, ← r.1]; omega)]
  · intro e
    exact ⟨_, e, nums_len c, fun i v h => let ⟨n, hn, ev⟩ := nums_of h; ⟨n, hn, ev⟩⟩
theorem mono_I : Mono IsI := fun _ _ _ _ _ h => h
theorem mono_S : Mono IsS := fun _ _ _ _ _ h => h
theorem mono_P : Mono IsP := fun _ _ _ _ s ⟨a, e, h⟩ => ⟨a, e, s _ _ h⟩
theorem mono_L : Mono IsL := fun _ _ _ _ s ⟨a, e, h⟩ => ⟨a, e, s _ _ h⟩
theorem mono_O : Mono IsO := fun _ _ _ _ s ⟨a, e, h⟩ => ⟨a, e, s _ _ h⟩
/-! ### a list that is written -/
/-- all but l is kept -/
def Keep (l : Addr) (H H' : Hp) : Prop := ∀ a u, a ≠ l → H a = some u → H' a = some u
theorem Keep.upd {l : Addr} {H : Hp} {o : HO} : Keep l H (upd H l o) := fun a u n e => lk_ne n e
theorem Same.keep {l : Addr} {H0 H H' : Hp} (k : Keep l H H') (e : Same H0 H) (h : H0 l = none) : Same H0 H' := fun a u ha => k a u (ne_of_none ha h) (e a u ha)
theorem lk_keep {l a : Addr} {H H' : Hp} {u : HO} (k : Keep l H H') (n : a ≠ l) (e : H a = some u) : H' a = some u := k a u n e
/-- what an item is leans on no list -/
def Stab {α : Type} (R : Hp → V → α → Prop) : Prop := ∀ D y b H acc acc', H D = some (.lst acc) → R H y b → R (upd H D (.lst acc')) y b
section
variable {α : Type} {R : Hp → V → α → Prop} {H : Hp} {Q : VK} {l b : Addr} {xs ys : List α} {v : V} {x : α} {K : PySem.W.Frag}
theorem LstAt.len (h : LstAt H l R xs) : ∃ vs, H l = some (.lst vs) ∧ vs.length = xs.length := let ⟨vs, e, r⟩ := h; ⟨vs, e, r.1⟩
theorem LstAt.stab {D : Addr} {acc acc' : List V} (st : Stab R) (n : l ≠ D) (hD : H D = some (.lst acc)) (h : LstAt H l R xs) : LstAt (upd H D (.lst acc')) l R xs := by
  obtain ⟨vs, e, r⟩ := h
  exact ⟨vs, lk_ne n e, r.imp fun v x => st D v x H acc acc' hD⟩
theorem LstAt.push {vs : List V} (st : Stab R) (e : H l = some (.lst vs)) (r : All2 (R H) vs xs) (rv : R H v x) : LstAt (upd H l (.lst (vs ++ [v]))) l R (xs ++ [x]) :=
  ⟨_, upd_same, (r.imp fun v x => st l v x H _ _ e).snoc (st l v x H _ _ e rv)⟩
theorem g_appendR (h : LstAt H l R xs) (st : Stab R) (r : R H v x) (z : xs.length < 100000) (q : ∀ H', Keep l H H' → LstAt H' l R (xs ++ [x]) → Q .non H') : rAppend (.ref l) [v] H Q := by
  obtain ⟨vs, e, rr⟩ := h
  exact ⟨l, vs, v, rfl, rfl, e, Nat.lt_of_lt_of_le (by rw [rr.1]; exact z) (by decide), q _ Keep.upd (LstAt.push st e rr r)⟩
theorem g_extendR (h : LstAt H l R xs) (h2 : LstAt H b R ys) (st : Stab R) (z : xs.length + ys.length ≤ 100000) (q : ∀ H', Keep l H H' → LstAt H' l R (xs ++ ys) → Q .non H') : rExtend (.ref l) [.ref b] H Q := by
  obtain ⟨vs, e, rr⟩ := h
  obtain ⟨ws, e2, rr2⟩ := h2
  refine ⟨l, b, vs, ws, rfl, rfl, e, e2, Nat.le_trans (by rw [rr.1, rr2.1]; exact z) (by decide), q _ Keep.upd ⟨_, upd_same, ?_⟩⟩
  exact (rr.imp fun v x => st l v x H _ _ e).append (rr2.imp fun v x => st l v x H _ _ e)
theorem g_lenR (h : LstAt H l R xs) (q : Q (.int (xs.length : Int)) H) : rLen K [.ref l] H Q := by
  obtain ⟨vs, e, rr⟩ := h
  exact g_len e (by rw [rr.1]; exact q)
theorem g_rBMR {T : TA} {σ : L2.St} {rm : V → List V → Hp → VK → Prop} (h : LstAt H l R xs) (q : T σ H fun xs H2 => rm (.ref l) xs H2 Q) : rBM K "list" rm T σ (.ref l) H Q := by
  obtain ⟨vs, e, rr⟩ := h
  exact g_rBM e q
theorem g_appC1 {xs : List (List Nat)} {t : Addr} {a : Nat} (h : LstAt H l IsC xs) (ht : H t = some (.tup [.int (a : Int)])) (z : xs.length < 100000) (q : ∀ H', Keep l H H' → LstAt H' l IsC (xs ++ [[a]]) → Q .non H') : rAppend (.ref l) [.ref t] H Q := g_appendR (x := [a]) h stab_C ⟨t, rfl, ht⟩ z q
theorem g_appC2 {xs : List (List Nat)} {t : Addr} {a b : Nat} (h : LstAt H l IsC xs) (ht : H t = some (.tup [.int (a : Int), .int (b : Int)])) (z : xs.length < 100000) (q : ∀ H', Keep l H H' → LstAt H' l IsC (xs ++ [[a, b]]) → Q .non H') : rAppend (.ref l) [.ref t] H Q := g_appendR (x := [a, b]) h stab_C ⟨t, rfl, ht⟩ z q
theorem g_appC3 {xs : List (List Nat)} {t : Addr} {a b c : Nat} (h : LstAt H l IsC xs) (ht : H t = some (.tup [.int (a : Int), .int (b : Int), .int (c : Int)])) (z : xs.length < 100000) (q : ∀ H', Keep l H H' → LstAt H' l IsC (xs ++ [[a, b, c]]) → Q .non H') : rAppend (.ref l) [.ref t] H Q := g_appendR (x := [a, b, c]) h stab_C ⟨t, rfl, ht⟩ z q
theorem g_appP {xs : List (Nat × Nat)} {t : Addr} {a b : Nat} (h : LstAt H l IsP xs) (ht : H t = some (.tup [.int (a : Int), .int (b : Int)])) (z : xs.length < 100000) (q : ∀ H', Keep l H H' → LstAt H' l IsP (xs ++ [(a, b)]) → Q .non H') : rAppend (.ref l) [.ref t] H Q := g_appendR (x := (a, b)) h stab_P ⟨t, rfl, ht⟩ z q
theorem g_appI {xs : List Nat} {a : Nat} (h : LstAt H l IsI xs) (z : xs.length < 100000) (q : ∀ H', Keep l H H' → LstAt H' l IsI (xs ++ [a]) → Q .non H') : rAppend (.ref l) [.int (a : Int)] H Q := g_appendR h stab_I rfl z q
theorem g_wipe {σ2 σ1 : L2.St} {vs : List Nat} {A : Prop} (e : wipe σ2 vs = wipe σ1 vs) (q : A) : wipe σ2 vs = wipe σ1 vs ∧ A := ⟨e, q⟩
end
/-! ### rules that name the part, for blocks -/
section
variable {X : Cx} {K : PySem.W.Frag}
theorem ix_listK (hK : X.K = K) : IxR X (rIxL K) := hK ▸ ix_list
theorem ix_tupK (hK : X.K = K) : IxR X (rIxT K) := hK ▸ ix_tup
theorem call_tupleK (hK : X.K = K) : CallR X (.type "tuple") (rTupOf K) := hK ▸ call_tuple'
theorem call_listK (hK : X.K = K) : CallR X (.type "list") (rListOf K) := hK ▸ call_list'
theorem call_lenK (hK : X.K = K) : CallR X (.builtin "len") (rLen K) := hK ▸ call_len'
theorem pg_tupK {es : List Expr} {k : Nat} {t : TGs} {n : Nat} {pos : Pos} (hK : X.K = K) (hc : X.calm = true) (h : PGs X es t)
    (hn : (assignEach es X.env).length = n := by rfl) (hst : (assignEach es X.env).findIdx? (·.1) = none := by rfl) : PG X (.Tuple es k pos) (gTup K n t) := hK ▸ pg_tup hc h hn hst
end
end Sg
/-! part SgL -/
set_option Elab.async false
set_option maxRecDepth 100000
set_option linter.unusedVariables false
set_option maxHeartbeats 1000000
namespace Sg
open PySem PySem.Spec PyProof.Rows L2
/-! ### loops and comprehensions, read more shortly -/
section
variable {K : PySem.W.Frag} {a : Addr} {xs : List V} {g : TG} {tb : TS} {tt : TT} {te tl : TE} {tas : TA} {D : Ends} {σ : L2.St} {H : Hp} {Q : VK} {vs : List Nat}
def rForL (K : PySem.W.Frag) (g : TG) (tb : TS) (D : Ends) (σ : L2.St) : V → Hp → Prop := fun x H1 => ∃ a, x = .ref a ∧ (∃ xs, SqL K H1 a xs) ∧ ∃ W : Nat → Nat → L2.St → Hp → Prop, (∃ m, W 0 m σ H1) ∧ ∀ i m σ H, W i m σ H →
  ((Itl K a).stop i H ∧ D.nx σ H) ∨ ((Itl K a).go i H ∧ ∃ N : L2.St → Hp → Prop, (∀ σ' H', N σ' H' → ∃ m', m' < m ∧ W (i + 1) m' σ' H') ∧ ∀ x H', (Itl K a).yld i H x H' → g x σ H' fun σ2 H2 => tb { D with nx := N, ct := N, bk := D.nx } σ2 H2)
theorem g_forL (q : tl σ H fun x H1 => rForL K g tb D σ x H1) : tFor (iList K tl) g tb D σ H := q
theorem g_rForL (h : H a = some (.lst xs)) (Pv : Nat → L2.St → Hp → Prop) (h0 : Pv 0 σ H) (hl : ∀ i σ H, i ≤ xs.length → Pv i σ H → H a = some (.lst xs))
    (hs : ∀ i x σ H, xs[i]? = some x → Pv i σ H → g x σ H fun σ2 H2 => tb { D with nx := Pv (i + 1), ct := Pv (i + 1), bk := D.nx } σ2 H2) (hd : ∀ σ H, Pv xs.length σ H → D.nx σ H) : rForL K g tb D σ (.ref a) H :=
  ⟨a, rfl, ⟨_, SqL.of h⟩, for_list Pv h0 (fun i σ H hi p => SqL.of (hl i σ H hi p)) hs hd⟩
def rForT (K : PySem.W.Frag) (g : TG) (tb : TS) (D : Ends) (σ : L2.St) : V → Hp → Prop := fun x H1 => ∃ a, x = .ref a ∧ (∃ xs, SqT K H1 a xs) ∧ ∃ W : Nat → Nat → L2.St → Hp → Prop, (∃ m, W 0 m σ H1) ∧ ∀ i m σ H, W i m σ H →
  ((Itt K a).stop i H ∧ D.nx σ H) ∨ ((Itt K a).go i H ∧ ∃ N : L2.St → Hp → Prop, (∀ σ' H', N σ' H' → ∃ m', m' < m ∧ W (i + 1) m' σ' H') ∧ ∀ x H', (Itt K a).yld i H x H' → g x σ H' fun σ2 H2 => tb { D with nx := N, ct := N, bk := D.nx } σ2 H2)
theorem g_forT (q : tl σ H fun x H1 => rForT K g tb D σ x H1) : tFor (iTup K tl) g tb D σ H := q
theorem g_rForT (h : H a = some (.tup xs)) (Pv : Nat → L2.St → Hp → Prop) (h0 : Pv 0 σ H) (hl : ∀ i σ H, i ≤ xs.length → Pv i σ H → H a = some (.tup xs))
    (hs : ∀ i x σ H, xs[i]? = some x → Pv i σ H → g x σ H fun σ2 H2 => tb { D with nx := Pv (i + 1), ct := Pv (i + 1), bk := D.nx } σ2 H2) (hd : ∀ σ H, Pv xs.length σ H → D.nx σ H) : rForT K g tb D σ (.ref a) H :=
  ⟨a, rfl, ⟨_, SqT.of h⟩, for_tup Pv h0 (fun i σ H hi p => SqT.of (hl i σ H hi p)) hs hd⟩
/-- for k in range(n), n given as a number -/
def rForR (g : TG) (tb : TS) (D : Ends) (σ : L2.St) : List V → Hp → Prop := fun vs H1 => ∃ j : Int, vs = [.int j] ∧ -(2 ^ 62) ≤ j ∧ j < 2 ^ 62 ∧ ∃ W : Nat → Nat → L2.St → Hp → Prop, (∃ m, W 0 m σ H1) ∧ ∀ i m σ H, W i m σ H →
  ((Itr 0 j.toNat).stop i H ∧ D.nx σ H) ∨ ((Itr 0 j.toNat).go i H ∧ ∃ N : L2.St → Hp → Prop, (∀ σ' H', N σ' H' → ∃ m', m' < m ∧ W (i + 1) m' σ' H') ∧ ∀ x H', (Itr 0 j.toNat).yld i H x H' → g x σ H' fun σ2 H2 => tb { D with nx := N, ct := N, bk := D.nx } σ2 H2)
theorem g_forR (q : tas σ H fun vs H1 => rForR g tb D σ vs H1) : tFor (iRng1 tas) g tb D σ H := q
theorem g_rForR {n : Nat} (hn : n < 2 ^ 60) (Pv : Nat → L2.St → Hp → Prop) (h0 : Pv 0 σ H)
    (hs : ∀ i σ H, i < n → Pv i σ H → g (.int (i : Int)) σ H fun σ2 H2 => tb { D with nx := Pv (i + 1), ct := Pv (i + 1), bk := D.nx } σ2 H2) (hd : ∀ σ H, Pv n σ H → D.nx σ H) : rForR g tb D σ [.int (n : Int)] H :=
  ⟨n, rfl, by omega, by omega, for_range (lo := 0) (n := n) Pv h0 (fun i σ H hi p => by
    have e : (0 : Int) + (i : Int) = (i : Int) := Int.zero_add _
    rw [e]
    exact hs i σ H hi p) hd⟩
def rForR2 (g : TG) (tb : TS) (D : Ends) (σ : L2.St) : List V → Hp → Prop := fun vs H1 => ∃ i j : Int, vs = [.int i, .int j] ∧ (-(2 ^ 62) ≤ i ∧ i < 2 ^ 62 ∧ -(2 ^ 62) ≤ j ∧ j < 2 ^ 62) ∧ ∃ W : Nat → Nat → L2.St → Hp → Prop, (∃ m, W 0 m σ H1) ∧ ∀ k m σ H, W k m σ H →
  ((Itr i (j - i).toNat).stop k H ∧ D.nx σ H) ∨ ((Itr i (j - i).toNat).go k H ∧ ∃ N : L2.St → Hp → Prop, (∀ σ' H', N σ' H' → ∃ m', m' < m ∧ W (k + 1) m' σ' H') ∧ ∀ x H', (Itr i (j - i).toNat).yld k H x H' → g x σ H' fun σ2 H2 => tb { D with nx := N, ct := N, bk := D.nx } σ2 H2)
theorem g_forR2 (q : tas σ H fun vs H1 => rForR2 g tb D σ vs H1) : tFor (iRng2 tas) g tb D σ H := q
theorem g_rForR2 {lo hi n : Nat} (hn : hi < 2 ^ 60) (e : hi = lo + n) (Pv : Nat → L2.St → Hp → Prop) (h0 : Pv 0 σ H)
    (hs : ∀ i σ H, i < n → Pv i σ H → g (.int ((lo + i : Nat) : Int)) σ H fun σ2 H2 => tb { D with nx := Pv (i + 1), ct := Pv (i + 1), bk := D.nx } σ2 H2) (hd : ∀ σ H, Pv n σ H → D.nx σ H) : rForR2 g tb D σ [.int (lo : Int), .int (hi : Int)] H := by
  refine ⟨lo, hi, rfl, ⟨by omega, by omega, by omega, by omega⟩, ?_⟩
  have en : ((hi : Int) - (lo : Int)).toNat = n := by omega
  rw [en]
  exact for_range Pv h0 (fun i σ H hi p => by
    have e : (lo : Int) + (i : Int) = ((lo + i : Nat) : Int) := by omega
    rw [e]
    exact hs i σ H hi p) hd
/-- for i, x in enumerate(xs): a new pair a turn -/
def rForE (K : PySem.W.Frag) (g : TG) (tb : TS) (D : Ends) (σ : L2.St) : List V → Hp → Prop := fun vs H1 => ∃ a xs, vs = [.ref a] ∧ SqL K H1 a xs ∧ ∃ W : Nat → Nat → L2.St → Hp → Prop, (∃ m, W 0 m σ H1) ∧ ∀ i m σ H, W i m σ H →
  ((Ite K a).stop i H ∧ D.nx σ H) ∨ ((Ite K a).go i H ∧ ∃ N : L2.St → Hp → Prop, (∀ σ' H', N σ' H' → ∃ m', m' < m ∧ W (i + 1) m' σ' H') ∧ ∀ x H', (Ite K a).yld i H x H' → g x σ H' fun σ2 H2 => tb { D with nx := N, ct := N, bk := D.nx } σ2 H2)
theorem g_forE (q : tas σ H fun vs H1 => rForE K g tb D σ vs H1) : tFor (iEnum K tas) g tb D σ H := q
theorem g_rForE (h : H a = some (.lst xs)) (Pv : Nat → L2.St → Hp → Prop) (h0 : Pv 0 σ H) (hl : ∀ i σ H, i ≤ xs.length → Pv i σ H → H a = some (.lst xs))
    (hs : ∀ i x σ H T, xs[i]? = some x → Pv i σ H → H T = none → g (.ref T) σ (upd H T (.tup [.int (i : Int), x])) fun σ2 H2 => tb { D with nx := Pv (i + 1), ct := Pv (i + 1), bk := D.nx } σ2 H2) (hd : ∀ σ H, Pv xs.length σ H → D.nx σ H) : rForE K g tb D σ [.ref a] H := by
  refine ⟨a, xs, rfl, SqL.of h, fun i m σ H => m = xs.length - i ∧ i ≤ xs.length ∧ Pv i σ H, ⟨xs.length, by simp, Nat.zero_le _, h0⟩, ?_⟩
  rintro i m σ H ⟨rfl, hi, p⟩
  have q := hl i σ H hi p
  by_cases hlt : i < xs.length
  · refine .inr ⟨⟨xs, xs[i], SqL.of q, by simp [hlt]⟩, Pv (i + 1), fun σ' H' p' => ⟨xs.length - (i + 1), by omega, rfl, hlt, p'⟩, fun x H' y => ?_⟩
    obtain ⟨T, z, rfl, hT, rfl, y⟩ := y
    exact hs i z σ H T (y xs (SqL.of q)) p hT
  · have e : i = xs.length := by omega
    subst e
    exact .inl ⟨⟨xs, SqL.of q, Nat.le_refl _⟩, hd σ H p⟩

/-! comprehensions -/
def rLcL (K : PySem.W.Frag) (g : TG) (tt : TT) (te : TE) (vs : List Nat) (σ : L2.St) : V → Hp → VK → Prop := fun x H1 Q => ∃ a, x = .ref a ∧ (∃ xs, SqL K H1 a xs) ∧ ∀ D, H1 D = none → ∃ W : Nat → Nat → Hp → Prop, (∃ m, W 0 m (upd H1 D (.lst []))) ∧ ∀ i m H, W i m H →
  ((Itl K a).stop i H ∧ Q (.ref D) H) ∨ ((Itl K a).go i H ∧ ∃ Nx : Hp → Prop, (∀ H', Nx H' → ∃ m', m' < m ∧ W (i + 1) m' H') ∧ ∀ x H', (Itl K a).yld i H x H' → g x (wipe σ vs) H' fun σ2 H2 => wipe σ2 vs = wipe σ vs ∧ tt σ2 H2 fun b H3 =>
    if b = true then te σ2 H3 fun y H4 => ∃ acc, H4 D = some (.lst acc) ∧ acc.length < sizeLine ∧ Nx (upd H4 D (.lst (acc ++ [y]))) else Nx H3)
theorem g_lcL (q : tl σ H fun x H1 => rLcL K g tt te vs σ x H1 Q) : tLc (iList K tl) g tt te vs σ H Q := q
/-- what the new list holds -/
def LcP (R : Addr → Nat → V → Hp → Prop) (H : Hp) (D : Addr) (i : Nat) (H' : Hp) : Prop := H D = none ∧ Same H H' ∧ ∃ ys, H' D = some (.lst ys) ∧ ys.length = i ∧ ∀ j y, ys[j]? = some y → R D j y H'
theorem LcP.start {R : Addr → Nat → V → Hp → Prop} {D : Addr} (h : H D = none) : LcP R H D 0 (upd H D (.lst [])) := ⟨h, Same.new h, [], upd_same, rfl, fun j y e => by simp at e⟩
theorem LcP.step {R : Addr → Nat → V → Hp → Prop} {D : Addr} {i : Nat} {H' H4 : Hp} {y : V} (mono : ∀ D i y H H', Same H H' → R D i y H → R D i y H') (stab : ∀ D i y H acc acc', H D = some (.lst acc) → R D i y H → R D i y (upd H D (.lst acc')))
    (hi : i < sizeLine) (p : LcP R H D i H') (s : Same H' H4) (r : R D i y H4) : ∃ acc, H4 D = some (.lst acc) ∧ acc.length < sizeLine ∧ LcP R H D (i + 1) (upd H4 D (.lst (acc ++ [y]))) := by
  obtain ⟨p1, p2, ys, p3, p4, p5⟩ := p
  refine ⟨ys, s _ _ p3, by omega, p1, Same.mut (L2.Same.trans p2 s) p1, ys ++ [y], upd_same, by rw [List.length_append, p4]; rfl, fun j z e => ?_⟩
  by_cases hj : j < ys.length
  · rw [List.getElem?_append_left hj] at e
    exact stab _ _ _ _ _ _ (s _ _ p3) (mono _ _ _ _ _ s (p5 j z e))
  · rw [List.getElem?_append_right (by omega)] at e
    have e0 : j - ys.length = 0 := by
      have := (List.getElem?_eq_some_iff.mp e).1
      simp at this; omega
    rw [e0] at e
    cases e
    have : j = i := by omega
    subst this
    exact stab _ _ _ _ _ _ (s _ _ p3) r
theorem g_rLcL {R : Addr → Nat → V → Hp → Prop} (h : H a = some (.lst xs)) (z : xs.length ≤ 100000)
    (mono : ∀ D i y H H', Same H H' → R D i y H → R D i y H') (stab : ∀ D i y H acc acc', H D = some (.lst acc) → R D i y H → R D i y (upd H D (.lst acc')))
    (turn : ∀ (D : Addr) (i : Nat) x H', H D = none → xs[i]? = some x → Same H H' → (∃ acc, H' D = some (.lst acc)) → ∀ Qy : V → Hp → Prop, (∀ y H4, Same H' H4 → R D i y H4 → Qy y H4) → g x (wipe σ vs) H' fun σ2 H2 => wipe σ2 vs = wipe σ vs ∧ te σ2 H2 Qy)
    (done : ∀ D ys H', H D = none → Same H H' → H' D = some (.lst ys) → ys.length = xs.length → (∀ i y, ys[i]? = some y → R D i y H') → Q (.ref D) H') : rLcL K g tYes te vs σ (.ref a) H Q := by
  refine ⟨a, rfl, ⟨_, SqL.of h⟩, fun D hD => lc_list (xs := xs) (LcP R H D) (LcP.start hD) (fun i H' _ p => SqL.of (p.2.1 _ _ h)) (fun i x H' hi p => ?_) fun H' p => ?_⟩
  · have hl : i < xs.length := (List.getElem?_eq_some_iff.mp hi).1
    refine turn D i x H' hD hi p.2.1 (let ⟨ys, e, _⟩ := p.2.2; ⟨ys, e⟩) (fun y H4 => ∃ acc, H4 D = some (.lst acc) ∧ acc.length < sizeLine ∧ LcP R H D (i + 1) (upd H4 D (.lst (acc ++ [y])))) fun y H4 s r => ?_
    exact p.step mono stab (Nat.lt_of_lt_of_le (Nat.lt_of_lt_of_le hl z) (by decide)) s r
  · obtain ⟨p1, p2, ys, p3, p4, p5⟩ := p
    exact done D ys H' p1 p2 p3 p4 p5
/-- typed -/
theorem g_rLcLT {β : Type} {rep : Hp → V → β → Prop} {bs : List β} (h : H a = some (.lst xs)) (z : xs.length ≤ 100000) (hb : bs.length = xs.length)
    (mono : Mono rep) (stab : ∀ D y b H acc acc', H D = some (.lst acc) → rep H y b → rep (upd H D (.lst acc')) y b)
    (turn : ∀ (D : Addr) (i : Nat) x b H', H D = none → xs[i]? = some x → bs[i]? = some b → Same H H' → ∀ Qy : V → Hp → Prop, (∀ y H4, Same H' H4 → rep H4 y b → Qy y H4) → g x (wipe σ vs) H' fun σ2 H2 => wipe σ2 vs = wipe σ vs ∧ te σ2 H2 Qy)
    (done : ∀ D H', H D = none → Same H H' → LstAt H' D rep bs → Q (.ref D) H') : rLcL K g tYes te vs σ (.ref a) H Q := by
  refine g_rLcL (R := fun _ i y H => ∀ b, bs[i]? = some b → rep H y b) h z (fun D i y H H' s r b e => mono _ _ _ _ s (r b e)) (fun D i y H acc acc' e r b eb => stab _ _ _ _ _ _ e (r b eb)) (fun D i x H' hD hx s _ Qy q => ?_) fun D ys H' hD s e hl r => ?_
  · have hi : i < bs.length := by rw [hb]; exact (List.getElem?_eq_some_iff.mp hx).1
    exact turn D i x bs[i] H' hD hx (List.getElem?_eq_getElem hi) s Qy fun y H4 s4 r => q y H4 s4 fun b e => by
      rw [List.getElem?_eq_getElem hi] at e; cases e; exact r
  · refine done D H' hD s ⟨ys, e, by omega, fun i y ey => ?_⟩
    have hi : i < bs.length := by rw [hb, ← hl]; exact (List.getElem?_eq_some_iff.mp ey).1
    exact ⟨bs[i], List.getElem?_eq_getElem hi, r i y ey _ (List.getElem?_eq_getElem hi)⟩
/-- over a range -/
def rLcR (g : TG) (tt : TT) (te : TE) (vs : List Nat) (σ : L2.St) : List V → Hp → VK → Prop := fun zs H1 Q => ∃ j : Int, zs = [.int j] ∧ -(2 ^ 62) ≤ j ∧ j < 2 ^ 62 ∧ ∀ D, H1 D = none → ∃ W : Nat → Nat → Hp → Prop, (∃ m, W 0 m (upd H1 D (.lst []))) ∧ ∀ i m H, W i m H →
  ((Itr 0 j.toNat).stop i H ∧ Q (.ref D) H) ∨ ((Itr 0 j.toNat).go i H ∧ ∃ Nx : Hp → Prop, (∀ H', Nx H' → ∃ m', m' < m ∧ W (i + 1) m' H') ∧ ∀ x H', (Itr 0 j.toNat).yld i H x H' → g x (wipe σ vs) H' fun σ2 H2 => wipe σ2 vs = wipe σ vs ∧ tt σ2 H2 fun b H3 =>
    if b = true then te σ2 H3 fun y H4 => ∃ acc, H4 D = some (.lst acc) ∧ acc.length < sizeLine ∧ Nx (upd H4 D (.lst (acc ++ [y]))) else Nx H3)
theorem g_lcR (q : tas σ H fun x H1 => rLcR g tt te vs σ x H1 Q) : tLc (iRng1 tas) g tt te vs σ H Q := q
theorem g_rLcR {R : Addr → Nat → V → Hp → Prop} {n : Nat} (z : n ≤ 100000)
    (mono : ∀ D i y H H', Same H H' → R D i y H → R D i y H') (stab : ∀ D i y H acc acc', H D = some (.lst acc) → R D i y H → R D i y (upd H D (.lst acc')))
    (turn : ∀ (D : Addr) (i : Nat) H', H D = none → i < n → Same H H' → (∃ acc, H' D = some (.lst acc)) → ∀ Qy : V → Hp → Prop, (∀ y H4, Same H' H4 → R D i y H4 → Qy y H4) → g (.int (i : Int)) (wipe σ vs) H' fun σ2 H2 => wipe σ2 vs = wipe σ vs ∧ te σ2 H2 Qy)
    (done : ∀ D ys H', H D = none → Same H H' → H' D = some (.lst ys) → ys.length = n → (∀ i y, ys[i]? = some y → R D i y H') → Q (.ref D) H') : rLcR g tYes te vs σ [.int (n : Int)] H Q := by
  refine ⟨n, rfl, by omega, by omega, fun D hD => lc_range (lo := 0) (n := n) (LcP R H D) (LcP.start hD) (fun i H' hi p => ?_) fun H' p => ?_⟩
  · have e : (0 : Int) + (i : Int) = (i : Int) := Int.zero_add _
    rw [e]
    refine turn D i H' hD hi p.2.1 (let ⟨ys, e, _⟩ := p.2.2; ⟨ys, e⟩) (fun y H4 => ∃ acc, H4 D = some (.lst acc) ∧ acc.length < sizeLine ∧ LcP R H D (i + 1) (upd H4 D (.lst (acc ++ [y])))) fun y H4 s r => ?_
    exact p.step mono stab (Nat.lt_of_lt_of_le (Nat.lt_of_lt_of_le hi z) (by decide)) s r
  · obtain ⟨p1, p2, ys, p3, p4, p5⟩ := p
    exact done D ys H' p1 p2 p3 p4 p5
theorem g_rLcRT {β : Type} {rep : Hp → V → β → Prop} {bs : List β} {n : Nat} (z : n ≤ 100000) (hb : bs.length = n)
    (mono : Mono rep) (stab : ∀ D y b H acc acc', H D = some (.lst acc) → rep H y b → rep (upd H D (.lst acc')) y b)
    (turn : ∀ (D : Addr) (i : Nat) b H', H D = none → i < n → bs[i]? = some b → Same H H' → ∀ Qy : V → Hp → Prop, (∀ y H4, Same H' H4 → rep H4 y b → Qy y H4) → g (.int (i : Int)) (wipe σ vs) H' fun σ2 H2 => wipe σ2 vs = wipe σ vs ∧ te σ2 H2 Qy)
    (done : ∀ D H', H D = none → Same H H' → LstAt H' D rep bs → Q (.ref D) H') : rLcR g tYes te vs σ [.int (n : Int)] H Q := by
  refine g_rLcR (R := fun _ i y H => ∀ b, bs[i]? = some b → rep H y b) z (fun D i y H H' s r b e => mono _ _ _ _ s (r b e)) (fun D i y H acc acc' e r b eb => stab _ _ _ _ _ _ e (r b eb)) (fun D i H' hD hx s _ Qy q => ?_) fun D ys H' hD s e hl r => ?_
  · have hi : i < bs.length := by rw [hb]; exact hx
    exact turn D i bs[i] H' hD hx (List.getElem?_eq_getElem hi) s Qy fun y H4 s4 r => q y H4 s4 fun b e => by
      rw [List.getElem?_eq_getElem hi] at e; cases e; exact r
  · refine done D H' hD s ⟨ys, e, by omega, fun i y ey => ?_⟩
    have hi : i < bs.length := by rw [hb, ← hl]; exact (List.getElem?_eq_some_iff.mp ey).1
    exact ⟨bs[i], List.getElem?_eq_getElem hi, r i y ey _ (List.getElem?_eq_getElem hi)⟩
/-- over a tuple -/
def rLcT (K : PySem.W.Frag) (g : TG) (tt : TT) (te : TE) (vs : List Nat) (σ : L2.St) : V → Hp → VK → Prop := fun x H1 Q => ∃ a, x = .ref a ∧ (∃ xs, SqT K H1 a xs) ∧ ∀ D, H1 D = none → ∃ W : Nat → Nat → Hp → Prop, (∃ m, W 0 m (upd H1 D (.lst []))) ∧ ∀ i m H, W i m H →
  ((Itt K a).stop i H ∧ Q (.ref D) H) ∨ ((Itt K a).go i H ∧ ∃ Nx : Hp → Prop, (∀ H', Nx H' → ∃ m', m' < m ∧ W (i + 1) m' H') ∧ ∀ x H', (Itt K a).yld i H x H' → g x (wipe σ vs) H' fun σ2 H2 => wipe σ2 vs = wipe σ vs ∧ tt σ2 H2 fun b H3 =>
    if b = true then te σ2 H3 fun y H4 => ∃ acc, H4 D = some (.lst acc) ∧ acc.length < sizeLine ∧ Nx (upd H4 D (.lst (acc ++ [y]))) else Nx H3)
theorem g_lcT (q : tl σ H fun x H1 => rLcT K g tt te vs σ x H1 Q) : tLc (iTup K tl) g tt te vs σ H Q := q
theorem g_rLcT {R : Addr → Nat → V → Hp → Prop} (h : H a = some (.tup xs)) (z : xs.length ≤ 100000)
    (mono : ∀ D i y H H', Same H H' → R D i y H → R D i y H') (stab : ∀ D i y H acc acc', H D = some (.lst acc) → R D i y H → R D i y (upd H D (.lst acc')))
    (turn : ∀ (D : Addr) (i : Nat) x H', H D = none → xs[i]? = some x → Same H H' → (∃ acc, H' D = some (.lst acc)) → ∀ Qy : V → Hp → Prop, (∀ y H4, Same H' H4 → R D i y H4 → Qy y H4) → g x (wipe σ vs) H' fun σ2 H2 => wipe σ2 vs = wipe σ vs ∧ te σ2 H2 Qy)
    (done : ∀ D ys H', H D = none → Same H H' → H' D = some (.lst ys) → ys.length = xs.length → (∀ i y, ys[i]? = some y → R D i y H') → Q (.ref D) H') : rLcT K g tYes te vs σ (.ref a) H Q := by
  refine ⟨a, rfl, ⟨_, SqT.of h⟩, fun D hD => lc_tup (xs := xs) (LcP R H D) (LcP.start hD) (fun i H' _ p => SqT.of (p.2.1 _ _ h)) (fun i x H' hi p => ?_) fun H' p => ?_⟩
  · have hl : i < xs.length := (List.getElem?_eq_some_iff.mp hi).1
    refine turn D i x H' hD hi p.2.1 (let ⟨ys, e, _⟩ := p.2.2; ⟨ys, e⟩) (fun y H4 => ∃ acc, H4 D = some (.lst acc) ∧ acc.length < sizeLine ∧ LcP R H D (i + 1) (upd H4 D (.lst (acc ++ [y])))) fun y H4 s r => ?_
    exact p.step mono stab (Nat.lt_of_lt_of_le (Nat.lt_of_lt_of_le hl z) (by decide)) s r
  · obtain ⟨p1, p2, ys, p3, p4, p5⟩ := p
    exact done D ys H' p1 p2 p3 p4 p5
/-- ints of ints, over a tuple of ints -/
theorem g_rLcTI {ns bs : List Nat} (h : H a = some (.tup (ns.map fun n : Nat => V.int (n : Int)))) (z : ns.length ≤ 100000) (hb : bs.length = ns.length)
    (turn : ∀ (D : Addr) (i : Nat) n b H', H D = none → ns[i]? = some n → bs[i]? = some b → Same H H' → ∀ Qy : V → Hp → Prop, (∀ H4, Same H' H4 → Qy (.int (b : Int)) H4) → g (.int (n : Int)) (wipe σ vs) H' fun σ2 H2 => wipe σ2 vs = wipe σ vs ∧ te σ2 H2 Qy)
    (done : ∀ D H', H D = none → Same H H' → H' D = some (.lst (bs.map fun n : Nat => V.int (n : Int))) → Q (.ref D) H') : rLcT K g tYes te vs σ (.ref a) H Q := by
  refine g_rLcT (R := fun _ i y _ => ∀ b, bs[i]? = some b → y = .int (b : Int)) h (by rw [List.length_map]; exact z) (fun D i y H H' s r => r) (fun D i y H acc acc' e r => r) (fun D i x H' hD hx s _ Qy q => ?_) fun D ys H' hD s e hl r => ?_
  · rw [List.getElem?_map] at hx
    obtain ⟨n, hn, rfl⟩ := Option.map_eq_some_iff.mp hx
    have hi : i < bs.length := by rw [hb]; exact (List.getElem?_eq_some_iff.mp hn).1
    exact turn D i n bs[i] H' hD hn (List.getElem?_eq_getElem hi) s Qy fun H4 s4 => q _ H4 s4 fun b e => by
      rw [List.getElem?_eq_getElem hi] at e; cases e; rfl
  · have el : ys = bs.map fun n : Nat => V.int (n : Int) := by
      apply List.ext_getElem?
      intro i
      rw [List.getElem?_map]
      rw [List.length_map] at hl
      by_cases hi : i < bs.length
      · rw [List.getElem?_eq_getElem hi]
        have hi' : i < ys.length := by omega
        rw [List.getElem?_eq_getElem hi']
        exact congrArg some (r i _ (List.getElem?_eq_getElem hi') _ (List.getElem?_eq_getElem hi))
      · rw [List.getElem?_eq_none_iff.mpr (by omega), List.getElem?_eq_none_iff.mpr (by omega)]
        rfl
    rw [el] at e
    exact done D H' hD s e
/-- nothing passes the test: an empty list; over a tuple, over a list -/
theorem g_rLcTN (h : H a = some (.tup xs)) (turn : ∀ (D : Addr) (i : Nat) x H', H D = none → xs[i]? = some x → Same H H' → ∀ QB : L2.St → Bool → Hp → Prop, (∀ σ2 H4, H4 = H' → QB σ2 false H4) → g x (wipe σ vs) H' fun σ2 H2 => wipe σ2 vs = wipe σ vs ∧ tt σ2 H2 (QB σ2))
    (done : ∀ D H', H D = none → H' = upd H D (.lst []) → Q (.ref D) H') : rLcT K g tt te vs σ (.ref a) H Q := by
  refine ⟨a, rfl, ⟨_, SqT.of h⟩, fun D hD => lc_tup (xs := xs) (fun _ H' => H' = upd H D (.lst [])) rfl (fun i H' _ p => SqT.of (by rw [p]; exact lk_new hD h)) (fun i x H' hi p => ?_) fun H' p => done D H' hD p⟩
  refine turn D i x H' hD hi (by rw [p]; exact Same.new hD) (fun σ2 b H3 => if b = true then te σ2 H3 fun y H4 => ∃ acc, H4 D = some (.lst acc) ∧ acc.length < sizeLine ∧ (upd H4 D (.lst (acc ++ [y]))) = upd H D (.lst []) else H3 = upd H D (.lst [])) fun σ2 H4 e => ?_
  rw [if_neg Bool.false_ne_true, e, p]
theorem g_rLcLN (h : H a = some (.lst xs)) (turn : ∀ (D : Addr) (i : Nat) x H', H D = none → xs[i]? = some x → Same H H' → ∀ QB : L2.St → Bool → Hp → Prop, (∀ σ2 H4, H4 = H' → QB σ2 false H4) → g x (wipe σ vs) H' fun σ2 H2 => wipe σ2 vs = wipe σ vs ∧ tt σ2 H2 (QB σ2))
    (done : ∀ D H', H D = none → H' = upd H D (.lst []) → Q (.ref D) H') : rLcL K g tt te vs σ (.ref a) H Q := by
  refine ⟨a, rfl, ⟨_, SqL.of h⟩, fun D hD => lc_list (xs := xs) (fun _ H' => H' = upd H D (.lst [])) rfl (fun i H' _ p => SqL.of (by rw [p]; exact lk_new hD h)) (fun i x H' hi p => ?_) fun H' p => done D H' hD p⟩
  refine turn D i x H' hD hi (by rw [p]; exact Same.new hD) (fun σ2 b H3 => if b = true then te σ2 H3 fun y H4 => ∃ acc, H4 D = some (.lst acc) ∧ acc.length < sizeLine ∧ (upd H4 D (.lst (acc ++ [y]))) = upd H D (.lst []) else H3 = upd H D (.lst [])) fun σ2 H4 e => ?_
  rw [if_neg Bool.false_ne_true, e, p]
end
end Sg
/-! part SgD -/
set_option Elab.async false
set_option maxRecDepth 100000
set_option linter.unusedVariables false
set_option maxHeartbeats 1000000
namespace Sg
open PySem PySem.Spec PyProof.Rows L2
/-! ### texts, dicts, data that is alike -/
section
variable {K : PySem.W.Frag} {a : Addr} {xs : List V} {g : TG} {tb : TS} {tl ta tc tv : TE} {D : Ends} {σ : L2.St} {H : Hp} {Q : VK} {z : Str} {v : V} {r : R2} {QB : Bool → Hp → Prop}
theorem g_ixS {j c : Nat} (hz : z.length ≤ 100000) (h : z.cps.toList[j]? = some c) (q : Q (.str ⟨#[c]⟩) H) : rIxS (.str z) (.int (j : Int)) H Q := ⟨z, j, c, rfl, rfl, Nat.le_trans hz (by decide), atI_nat h, q⟩
theorem g_inSign {c : Nat} (q : Q (.bl (decide (c ∈ z.cps.toList))) H) : rInSign (.str ⟨#[c]⟩) (.str z) H Q := ⟨c, z, rfl, rfl, q⟩
theorem g_ninSign {c : Nat} (q : Q (.bl (!decide (c ∈ z.cps.toList))) H) : rNotInSign (.str ⟨#[c]⟩) (.str z) H Q := ⟨c, z, rfl, rfl, q⟩
def rForS (g : TG) (tb : TS) (D : Ends) (σ : L2.St) : V → Hp → Prop := fun v H1 => ∃ x, v = .str x ∧ ∃ W : Nat → Nat → L2.St → Hp → Prop, (∃ m, W 0 m σ H1) ∧ ∀ i m σ H, W i m σ H →
  ((Its x).stop i H ∧ D.nx σ H) ∨ ((Its x).go i H ∧ ∃ N : L2.St → Hp → Prop, (∀ σ' H', N σ' H' → ∃ m', m' < m ∧ W (i + 1) m' σ' H') ∧ ∀ x' H', (Its x).yld i H x' H' → g x' σ H' fun σ2 H2 => tb { D with nx := N, ct := N, bk := D.nx } σ2 H2)
theorem g_forS (q : tl σ H fun x H1 => rForS g tb D σ x H1) : tFor (iStr tl) g tb D σ H := q
theorem g_rForS (Pv : Nat → L2.St → Hp → Prop) (h0 : Pv 0 σ H)
    (hs : ∀ i c σ H, z.cps.toList[i]? = some c → Pv i σ H → g (.str ⟨#[c]⟩) σ H fun σ2 H2 => tb { D with nx := Pv (i + 1), ct := Pv (i + 1), bk := D.nx } σ2 H2) (hd : ∀ σ H, Pv z.cps.size σ H → D.nx σ H) : rForS g tb D σ (.str z) H := by
  refine ⟨z, rfl, fun i m σ H => m = z.cps.size - i ∧ i ≤ z.cps.size ∧ Pv i σ H, ⟨z.cps.size, by simp, Nat.zero_le _, h0⟩, ?_⟩
  rintro i m σ H ⟨rfl, hi, p⟩
  by_cases hlt : i < z.cps.size
  · refine .inr ⟨hlt, Pv (i + 1), fun σ' H' p' => ⟨z.cps.size - (i + 1), by omega, rfl, hlt, p'⟩, fun x H' y => ?_⟩
    obtain ⟨rfl, c, hc, rfl⟩ := y
    exact hs i c σ _ (by rw [← hc]; simp) p
  · have e : i = z.cps.size := by omega
    subst e
    exact .inl ⟨Nat.le_refl _, hd σ H p⟩
theorem g_un {r1 : V → Hp → VK → Prop} (q : ta σ H fun x H1 => r1 x H1 Q) : tUn r1 ta σ H Q := q
theorem g_neg {i : Int} (q : Q (.int (-i)) H) : rU (fun i => V.int (-i)) (.int i) H Q := ⟨i, rfl, q⟩
/-! dicts whose values are True -/
def mkD (ks : List L2.Key) : List (L2.Key × V) := ks.map fun k => (k, V.bl true)
theorem mkD_len (ks : List L2.Key) : (mkD ks).length = ks.length := List.length_map ..
theorem mkD_in : ∀ {ks : List L2.Key} {k : L2.Key}, k ∈ ks → valV (mkD ks) k = some (.bl true)
  | [], k, h => nomatch h
  | j :: ks, k, h => by
    by_cases e : j = k
    · exact valV_pos (p := (j, V.bl true)) (r := mkD ks) e
    · exact (valV_neg (p := (j, V.bl true)) (r := mkD ks) e).trans (mkD_in (by rcases List.mem_cons.mp h with q | q; exact absurd q.symm e; exact q))
theorem mkD_out : ∀ {ks : List L2.Key} {k : L2.Key}, ¬ k ∈ ks → valV (mkD ks) k = none
  | [], k, _ => rfl
  | j :: ks, k, h => (valV_neg (p := (j, V.bl true)) (r := mkD ks) (fun e => h (by rw [← e]; exact List.mem_cons_self))).trans (mkD_out fun q => h (List.mem_cons_of_mem _ q))
theorem mkD_some {ks : List L2.Key} {k : L2.Key} {p : Prop} [Decidable p] (h : k ∈ ks ↔ p) : (valV (mkD ks) k).isSome = decide p := by
  by_cases e : p
  · rw [mkD_in (h.mpr e), decide_eq_true e]; rfl
  · rw [mkD_out (fun q => e (h.mp q)), decide_eq_false e]; rfl
theorem mkD_put {ks : List L2.Key} {k : L2.Key} (h : k ∉ ks) : putK (mkD ks) k (.bl true) = mkD (ks ++ [k]) := by
  rw [putK_new _ (mkD_out h)]
  unfold mkD; rw [List.map_append]; rfl
theorem putK_in {kvs : List (L2.Key × V)} {k : L2.Key} {v : V} (h : valV kvs k = some v) : putK kvs k v = kvs.map fun kv => if kv.1 = k then (kv.1, v) else kv := by
  unfold putK
  rw [if_pos (by rw [valV_any, h]; rfl)]
theorem mkD_put_in {ks : List L2.Key} {k : L2.Key} (h : k ∈ ks) : putK (mkD ks) k (.bl true) = mkD ks := by
  rw [putK_in (mkD_in h)]
  unfold mkD
  rw [List.map_map]
  refine List.map_congr_left fun j _ => ?_
  show (if j = k then (j, V.bl true) else (j, V.bl true)) = _
  split <;> rfl
def nmK (ks : List Str) : List L2.Key := ks.map Sum.inr
def inK (ks : List Nat) : List L2.Key := ks.map fun n : Nat => Sum.inl (n : Int)
theorem nmK_mem {ks : List Str} {s : Str} : (Sum.inr s : L2.Key) ∈ nmK ks ↔ s ∈ ks := by unfold nmK; simp
theorem inK_mem {ks : List Nat} {n : Nat} : (Sum.inl (n : Int) : L2.Key) ∈ inK ks ↔ n ∈ ks := by
  unfold inK
  rw [List.mem_map]
  exact ⟨fun ⟨m, h, e⟩ => by have : m = n := by injection e with e; omega
                             rw [← this]; exact h, fun h => ⟨n, h, rfl⟩⟩
def rDIn : V → V → Hp → VK → Prop := fun y x H2 Q => ∃ a o, x = .ref a ∧ DGet H2 a y o ∧ Q (.bl o.isSome) H2
def rDNotIn : V → V → Hp → VK → Prop := fun y x H2 Q => ∃ a o, x = .ref a ∧ DGet H2 a y o ∧ Q (.bl (!o.isSome)) H2
def rDPut (v : V) (σ : L2.St) (D : Ends) : V → V → Hp → Prop := fun x y H3 => ∃ a H4, x = .ref a ∧ DPut H3 a y v H4 ∧ D.nx σ H4
theorem g_dIn (q : tc σ H fun y H1 => ta σ H1 fun x H2 => rDIn y x H2 Q) : tDIn tc ta σ H Q := q
theorem g_dNotIn (q : tc σ H fun y H1 => ta σ H1 fun x H2 => rDNotIn y x H2 Q) : tDNotIn tc ta σ H Q := q
theorem g_dPut (q : tv σ H fun v H1 => ta σ H1 fun x H2 => tc σ H2 fun y H3 => rDPut v σ D x y H3) : sDPut ta tc tv D σ H := q
theorem g_rDInN {ks : List Str} {s : Str} (h : H a = some (.dK (mkD (nmK ks)))) (q : Q (.bl (decide (s ∈ ks))) H) : rDIn (.str s) (.ref a) H Q :=
  ⟨a, _, rfl, DGet.k (k := Sum.inr s) h, by rw [mkD_some nmK_mem]; exact q⟩
theorem g_rDNotInN {ks : List Str} {s : Str} (h : H a = some (.dK (mkD (nmK ks)))) (q : Q (.bl (!decide (s ∈ ks))) H) : rDNotIn (.str s) (.ref a) H Q :=
  ⟨a, _, rfl, DGet.k (k := Sum.inr s) h, by rw [mkD_some nmK_mem]; exact q⟩
theorem g_rDInI {ks : List Nat} {n : Nat} (h : H a = some (.dK (mkD (inK ks)))) (q : Q (.bl (decide (n ∈ ks))) H) : rDIn (.int (n : Int)) (.ref a) H Q :=
  ⟨a, _, rfl, DGet.k (k := Sum.inl (n : Int)) h, by rw [mkD_some inK_mem]; exact q⟩
theorem g_rDNotInI {ks : List Nat} {n : Nat} (h : H a = some (.dK (mkD (inK ks)))) (q : Q (.bl (!decide (n ∈ ks))) H) : rDNotIn (.int (n : Int)) (.ref a) H Q :=
  ⟨a, _, rfl, DGet.k (k := Sum.inl (n : Int)) h, by rw [mkD_some inK_mem]; exact q⟩
theorem g_rDPutN {ks : List Str} {s : Str} (h : H a = some (.dK (mkD (nmK ks)))) (hs : s ∉ ks) (hl : ks.length < 100000) (q : D.nx σ (upd H a (.dK (mkD (nmK (ks ++ [s])))))) : rDPut (.bl true) σ D (.ref a) (.str s) H :=
  ⟨a, _, rfl, DPut.k (k := Sum.inr s) h (by rw [mkD_len]; unfold nmK; rw [List.length_map]; exact Nat.lt_of_lt_of_le hl (by decide)), by
    rw [mkD_put (fun m => hs (nmK_mem.mp m))]
    have e : nmK ks ++ [Sum.inr s] = nmK (ks ++ [s]) := by unfold nmK; rw [List.map_append]; rfl
    rw [e]; exact q⟩
theorem g_rDPutI {ks : List Nat} {n : Nat} (h : H a = some (.dK (mkD (inK ks)))) (hs : n ∉ ks) (hl : ks.length < 100000) (q : D.nx σ (upd H a (.dK (mkD (inK (ks ++ [n])))))) : rDPut (.bl true) σ D (.ref a) (.int (n : Int)) H :=
  ⟨a, _, rfl, DPut.k (k := Sum.inl (n : Int)) h (by rw [mkD_len]; unfold inK; rw [List.length_map]; exact Nat.lt_of_lt_of_le hl (by decide)), by
    rw [mkD_put (fun m => hs (inK_mem.mp m))]
    have e : inK ks ++ [Sum.inl (n : Int)] = inK (ks ++ [n]) := by unfold inK; rw [List.map_append]; rfl
    rw [e]; exact q⟩
theorem g_rDPutI_in {ks : List Nat} {n : Nat} (h : H a = some (.dK (mkD (inK ks)))) (hs : n ∈ ks) (hl : ks.length < 100000) (q : D.nx σ (upd H a (.dK (mkD (inK ks))))) : rDPut (.bl true) σ D (.ref a) (.int (n : Int)) H :=
  ⟨a, _, rfl, DPut.k (k := Sum.inl (n : Int)) h (by rw [mkD_len]; unfold inK; rw [List.length_map]; exact Nat.lt_of_lt_of_le hl (by decide)), by
    rw [mkD_put_in (inK_mem.mpr hs)]; exact q⟩
theorem g_dNewK (q : ∀ p, H p = none → Q (.ref p) (upd H p (.dK []))) : tDNewK σ H Q := q
theorem g_dNewT (q : ∀ p, H p = none → Q (.ref p) (upd H p (.dT []))) : tDNewT σ H Q := q
def rDGet : V → V → Hp → VK → Prop := fun x y H2 Q => ∃ a v, x = .ref a ∧ DGet H2 a y (some v) ∧ Q v H2
theorem g_dGet (q : ta σ H fun x H1 => tc σ H1 fun y H2 => rDGet x y H2 Q) : tDGet ta tc σ H Q := q
theorem g_rDGet {kvs : List (L2.Key × V)} {n : Nat} (h : H a = some (.dK kvs)) (e : valV kvs (.inl (n : Int)) = some v) (q : Q v H) : rDGet (.ref a) (.int (n : Int)) H Q := ⟨a, v, rfl, by rw [← e]; exact DGet.k (k := Sum.inl (n : Int)) h, q⟩
theorem g_rDNotIn {kvs : List (L2.Key × V)} {n : Nat} {b : Bool} (h : H a = some (.dK kvs)) (e : (valV kvs (.inl (n : Int))).isSome = b) (q : Q (.bl (!b)) H) : rDNotIn (.int (n : Int)) (.ref a) H Q := ⟨a, _, rfl, DGet.k (k := Sum.inl (n : Int)) h, by rw [e]; exact q⟩
theorem g_rDPut {kvs : List (L2.Key × V)} {n : Nat} (h : H a = some (.dK kvs)) (hl : kvs.length < 100000) (q : D.nx σ (upd H a (.dK (putK kvs (.inl (n : Int)) v)))) : rDPut v σ D (.ref a) (.int (n : Int)) H := ⟨a, _, rfl, DPut.k (k := Sum.inl (n : Int)) h (Nat.lt_of_lt_of_le hl (by decide)), q⟩
theorem g_rDGetT {kvs : List (List L2.Key × V)} {b : Addr} {k : List L2.Key} (h : H a = some (.dT kvs)) (hb : H b = some (.tup (k.map kV))) (e : valV kvs k = some v) (q : Q v H) : rDGet (.ref a) (.ref b) H Q := ⟨a, v, rfl, by rw [← e]; exact DGet.t h hb, q⟩
theorem g_rDNotInT {kvs : List (List L2.Key × V)} {c : Addr} {k : List L2.Key} {b : Bool} (h : H a = some (.dT kvs)) (hb : H c = some (.tup (k.map kV))) (e : (valV kvs k).isSome = b) (q : Q (.bl (!b)) H) : rDNotIn (.ref c) (.ref a) H Q := ⟨a, _, rfl, DGet.t h hb, by rw [e]; exact q⟩
theorem g_rDPutT {kvs : List (List L2.Key × V)} {c : Addr} {k : List L2.Key} (h : H a = some (.dT kvs)) (hb : H c = some (.tup (k.map kV))) (hl : kvs.length < 100000) (q : D.nx σ (upd H a (.dT (putK kvs k v)))) : rDPut v σ D (.ref a) (.ref c) H := ⟨a, _, rfl, DPut.t h hb (Nat.lt_of_lt_of_le hl (by decide)), q⟩
/-- pairs of literals and their nodes -/
def key2 (p : Nat × Nat) : List L2.Key := [.inl (p.1 : Int), .inl (p.2 : Int)]
theorem key2_inj {p q : Nat × Nat} (h : key2 p = key2 q) : p = q := by
  unfold key2 at h
  injection h with h1 h2
  injection h2 with h2 _
  injection h1 with h1
  injection h2 with h2
  exact Prod.ext (by omega) (by omega)
def nodesT : Nat → List (Nat × Nat) → List (List L2.Key × V)
  | _, [] => []
  | n, p :: t => (key2 p, .int (n : Int)) :: nodesT (n + 1) t
theorem nodesT_len : ∀ (t : List (Nat × Nat)) (n : Nat), (nodesT n t).length = t.length
  | [], _ => rfl
  | _ :: t, n => congrArg Nat.succ (nodesT_len t (n + 1))
theorem nodesT_out : ∀ {t : List (Nat × Nat)} {n : Nat} {p : Nat × Nat}, ¬ p ∈ t → valV (nodesT n t) (key2 p) = none
  | [], _, _, _ => rfl
  | q :: t, n, p, h => (valV_neg (p := (key2 q, V.int (n : Int))) (r := nodesT (n + 1) t) (fun e => h (by rw [← key2_inj e]; exact List.mem_cons_self))).trans (nodesT_out fun m => h (List.mem_cons_of_mem _ m))
theorem nodesT_in : ∀ {t : List (Nat × Nat)} {n : Nat} {p : Nat × Nat}, p ∈ t → ∃ i, t[i]? = some p ∧ valV (nodesT n t) (key2 p) = some (.int ((n + i : Nat) : Int))
  | [], _, _, h => nomatch h
  | q :: t, n, p, h => by
    by_cases e : q = p
    · exact ⟨0, by rw [e]; rfl, valV_pos (p := (key2 q, V.int (n : Int))) (r := nodesT (n + 1) t) (by rw [e])⟩
    · obtain ⟨i, h1, h2⟩ := nodesT_in (t := t) (n := n + 1) (p := p) (by rcases List.mem_cons.mp h with z | z; exact absurd z.symm e; exact z)
      refine ⟨i + 1, h1, (valV_neg (p := (key2 q, V.int (n : Int))) (r := nodesT (n + 1) t) (fun z => e (key2_inj z))).trans ?_⟩
      rw [h2, show n + 1 + i = n + (i + 1) by omega]
theorem nodesT_snoc : ∀ (t : List (Nat × Nat)) (n : Nat) (p : Nat × Nat), nodesT n (t ++ [p]) = nodesT n t ++ [(key2 p, .int ((n + t.length : Nat) : Int))]
  | [], n, p => rfl
  | q :: t, n, p => by
    show _ :: nodesT (n + 1) (t ++ [p]) = _ :: (nodesT (n + 1) t ++ _)
    rw [nodesT_snoc t (n + 1) p, show n + 1 + t.length = n + (q :: t).length by show _ = n + (t.length + 1); omega]
def rDGetO (a : Addr) (y z : V) (H3 : Hp) (Q : VK) : Prop := ∃ o, DGet H3 a y o ∧ Q (o.getD z) H3
def rDGet2 (ty tx : TE) (σ : L2.St) : V → Hp → VK → Prop := fun x H1 Q => ∃ a, x = .ref a ∧ IsD H1 a ∧ ty σ H1 fun y H2 => tx σ H2 fun z H3 => rDGetO a y z H3 Q
theorem g_dGet2 {td ty tx : TE} (q : td σ H fun x H1 => rDGet2 ty tx σ x H1 Q) : tDGet2 td ty tx σ H Q := q
theorem g_rDGet2 {ty tx : TE} {kvs : List (L2.Key × V)} (h : H a = some (.dK kvs)) (q : ty σ H fun y H2 => tx σ H2 fun z H3 => rDGetO a y z H3 Q) : rDGet2 ty tx σ (.ref a) H Q := ⟨a, rfl, .inl ⟨kvs, .inl h⟩, q⟩
theorem g_rDGetO {kvs : List (L2.Key × V)} {n : Nat} {z : V} {o : Option V} (h : H a = some (.dK kvs)) (e : valV kvs (.inl (n : Int)) = o) (q : Q (o.getD z) H) : rDGetO a (.int (n : Int)) z H Q := ⟨o, by rw [← e]; exact DGet.k (k := Sum.inl (n : Int)) h, q⟩
theorem g_appN {l : Addr} {xs : List Nat} {n : Nat} (h : H l = some (.lst (nums xs))) (z : xs.length < 100000) (q : Q .non (upd H l (.lst (nums (xs ++ [n]))))) : rAppend (.ref l) [.int (n : Int)] H Q := by
  refine g_append h (by rw [nums_len]; exact Nat.lt_of_lt_of_le z (by decide)) ?_
  rw [show nums xs ++ [V.int (n : Int)] = nums (xs ++ [n]) from (nums_append xs [n]).symm]
  exact q
theorem g_extN {l b : Addr} {xs ys : List Nat} (h : H l = some (.lst (nums xs))) (h2 : H b = some (.lst (nums ys))) (z : xs.length + ys.length ≤ 100000) (q : Q .non (upd H l (.lst (nums (xs ++ ys))))) : rExtend (.ref l) [.ref b] H Q := by
  refine ⟨l, b, _, _, rfl, rfl, h, h2, by rw [nums_len, nums_len]; exact Nat.le_trans z (by decide), ?_⟩
  rw [← nums_append]
  exact q
def IsN : Hp → V → List Nat → Prop := fun H v c => ∃ a, v = .ref a ∧ H a = some (.lst (nums c))
theorem mono_N : Mono IsN := fun _ _ _ _ s ⟨a, e, h⟩ => ⟨a, e, s _ _ h⟩
theorem getD_of {xs : List Nat} {i n : Nat} (h : xs[i]? = some n) : xs.getD i 0 = n := by rw [List.getD_eq_getElem?_getD, h]; rfl
theorem g_in2 {p : Addr} {x m n : Nat} (h : H p = some (.tup [.int (m : Int), .int (n : Int)])) (q : Q (.bl (decide (x = m ∨ x = n))) H) : rIn K false (.int (x : Int)) (.ref p) H Q := by
  refine ⟨p, _, rfl, .inr (SqT.of h), rfl, rfl, ?_⟩
  have e : inV (.int (x : Int)) [V.int (m : Int), V.int (n : Int)] = decide (x = m ∨ x = n) := by
    unfold inV
    simp only [List.any_cons, List.any_nil, Bool.or_false, eqV]
    by_cases h1 : x = m
    · subst h1; simp
    · by_cases h2 : x = n
      · subst h2; simp
      · have e1 : ¬ ((m : Int) = (x : Int)) := by omega
        have e2 : ¬ ((n : Int) = (x : Int)) := by omega
        simp [h1, h2, e1, e2]
  rw [e]
  exact q
theorem g_mod {a b : Nat} (h : 0 < b) (q : Q (.int ((a % b : Nat) : Int)) H) : rI (fun _ j => 0 < j) (fun i j => V.int (i % j)) (.int (a : Int)) (.int (b : Int)) H Q := ⟨_, _, rfl, rfl, (show (0 : Int) < (b : Int) by omega), q⟩
theorem g_fdiv {a b : Nat} (h : 0 < b) (h2 : b < 1073741824) (q : Q (.int ((a / b : Nat) : Int)) H) : rI CDiv (fun i j => V.int (i / j)) (.int (a : Int)) (.int (b : Int)) H Q := ⟨_, _, rfl, rfl, (show (0 : Int) < (b : Int) ∧ (b : Int) < 1073741824 by omega), q⟩
theorem g_catN {l b : Addr} {xs ys : List Nat} (h : H l = some (.lst (nums xs))) (h2 : H b = some (.lst (nums ys))) (z : xs.length + ys.length ≤ 100000) (q : ∀ p, H p = none → Q (.ref p) (upd H p (.lst (nums (xs ++ ys))))) : rCat (.ref l) (.ref b) H Q := by
  refine ⟨l, b, _, _, rfl, rfl, h, h2, by rw [nums_len, nums_len]; exact Nat.le_trans z (by decide), fun p hp => ?_⟩
  rw [← nums_append]
  exact q p hp
theorem g_fdivW {a b : Nat} (h : 0 < b) (h2 : b < 2 ^ 64) (q : Q (.int ((a / b : Nat) : Int)) H) : rI CDivW (fun i j => V.int (i / j)) (.int (a : Int)) (.int (b : Int)) H Q := by
  refine ⟨_, _, rfl, rfl, ⟨by omega, ?_⟩, q⟩
  rw [Int.natAbs_natCast]
  exact Nat.lt_of_lt_of_le ((Nat.log2_lt (by omega)).mpr h2) (by decide)
theorem rep1_flat {x : V} : ∀ n : Nat, (List.replicate n [x]).flatten = List.replicate n x
  | 0 => rfl
  | n + 1 => by rw [List.replicate_succ, List.flatten_cons, rep1_flat n, List.replicate_succ]; rfl
theorem g_rep1 {l : Addr} {x : V} {n : Nat} (h : H l = some (.lst [x])) (hn : n ≤ 100000) (q : ∀ p, H p = none → Q (.ref p) (upd H p (.lst (List.replicate n x)))) : rRep (.ref l) (.int (n : Int)) H Q := by
  refine ⟨l, n, [x], rfl, rfl, h, by omega, by omega, by rw [Int.toNat_natCast]; exact Nat.le_trans (show 1 * n ≤ 100000 by omega) (by decide), fun p hp => ?_⟩
  rw [Int.toNat_natCast, rep1_flat]
  exact q p hp
theorem nums_rep (n x : Nat) : nums (List.replicate n x) = List.replicate n (V.int (x : Int)) := List.map_replicate ..
theorem g_aug {i : Nat} {x : V} {ti : TIp} {te : TE} (h : σ[i]? = some (some x)) (q : te σ H fun y H1 => ti x y H1 fun z H2 => D.nx (σ.set i (some z)) H2) : tAug i te ti D σ H := ⟨x, h, q⟩
theorem g_ipadd {a b : Nat} (q : Q (.int ((a + b : Nat) : Int)) H) : ipI (fun i j => i + j) (.int (a : Int)) (.int (b : Int)) H Q := ⟨_, _, rfl, rfl, q⟩
def IsBl : Hp → V → Bool → Prop := fun _ v b => v = .bl b
theorem mono_Bl : Mono IsBl := fun _ _ _ _ _ h => h
theorem stab_Bl (D : Addr) (y : V) (b : Bool) (H : Hp) (acc acc' : List V) (h : H D = some (.lst acc)) (r : IsBl H y b) : IsBl (upd H D (.lst acc')) y b := r
theorem g_bm0 {K : PySem.W.Frag} {T : String} {rm : V → List V → Hp → VK → Prop} (q : ta σ H fun x H1 => tyV K T x H1 ∧ rm x [] H1 Q) : tBM0 K T rm ta σ H Q := q
theorem g_popN {K : PySem.W.Frag} {l : Addr} {ws : List Nat} {x : Nat} (h : H l = some (.lst (nums (ws ++ [x])))) (q : Q (.int (x : Int)) (upd H l (.lst (nums ws)))) : tyV K "list" (.ref l) H ∧ rPop (.ref l) [] H Q := by
  refine ⟨.inl ⟨rfl, _, SqL.of h⟩, l, _, .int (x : Int), rfl, rfl, h, ?_, ?_⟩
  · rw [nums_append, List.length_append]
    show (nums ws ++ [V.int (x : Int)])[(nums ws).length + 1 - 1]? = _
    rw [Nat.add_sub_cancel, List.getElem?_append_right (Nat.le_refl _), Nat.sub_self]
    rfl
  · rw [nums_append]
    show Q _ (upd H l (.lst ((nums ws ++ [V.int (x : Int)]).dropLast)))
    rw [List.dropLast_concat]
    exact q
theorem g_gsub {to ti : TE} {t : TSet} {v : V} {QS : L2.St → Hp → Prop} (q : to σ H fun o H1 => ti σ H1 fun i H2 => t o i v H2 fun H3 => QS σ H3) : gSub to ti t v σ H QS := q
theorem g_setL {p : Addr} {xs : List V} {j : Nat} {v : V} {Q : Hp → Prop} (h : H p = some (.lst xs)) (hj : j < xs.length) (q : Q (upd H p (.lst (xs.set j v)))) : rSetL (.ref p) (.int (j : Int)) v H Q := by
  refine ⟨p, xs, j, j, rfl, rfl, h, ?_, q⟩
  unfold ixN
  rw [if_pos (Int.natCast_nonneg _), if_pos (by omega), Int.toNat_natCast]
/-! what leans on tuples only -/
def TO {α : Type} (R : Hp → V → α → Prop) : Prop := ∀ H H' v x, (∀ a xs, H a = some (.tup xs) → H' a = some (.tup xs)) → R H v x → R H' v x
theorem to_C : TO IsC := fun _ _ _ _ s ⟨a, e, h⟩ => ⟨a, e, s _ _ h⟩
theorem to_P : TO IsP := fun _ _ _ _ s ⟨a, e, h⟩ => ⟨a, e, s _ _ h⟩
theorem to_L : TO IsL := fun _ _ _ _ s ⟨a, e, h⟩ => ⟨a, e, s _ _ h⟩
theorem to_O : TO IsO := fun _ _ _ _ s ⟨a, e, h⟩ => ⟨a, e, s _ _ h⟩
theorem to_I : TO IsI := fun _ _ _ _ _ h => h
theorem to_S : TO IsS := fun _ _ _ _ _ h => h
theorem LstAt.keepT {α : Type} {R : Hp → V → α → Prop} {H H' : Hp} {l a : Addr} {xs : List α} {o : HO} (to : TO R) (k : Keep l H H') (hl : H l = some o) (ho : ∀ ys, o ≠ .tup ys) (n : a ≠ l) (h : LstAt H a R xs) : LstAt H' a R xs := by
  obtain ⟨vs, e, r⟩ := h
  exact ⟨vs, k _ _ n e, r.imp fun v x => to _ _ v x fun b ys hb => k _ _ (fun q => ho ys (by rw [q, hl] at hb; cases hb; rfl)) hb⟩
theorem LstAt.keepL {α β : Type} {R : Hp → V → α → Prop} {R' : Hp → V → β → Prop} {H H' : Hp} {l a : Addr} {xs : List α} {ys : List β} (to : TO R) (k : Keep l H H') (hl : LstAt H l R' ys) (n : a ≠ l) (h : LstAt H a R xs) : LstAt H' a R xs := by
  obtain ⟨vs, e, r⟩ := hl
  exact h.keepT to k e (fun _ q => nomatch q) n
/-! data that is alike on both sides -/
mutual
theorem eqv_refl : ∀ d : PyData, d.canLay0 = true → PyData.eqv d d = true
  | .none, _ => by simp [PyData.eqv]
  | .bool b, _ => by simp [PyData.eqv]
  | .int i, _ => by simp [PyData.eqv]
  | .str x, _ => by simp [PyData.eqv]
  | .list xs, h => by rw [PyData.eqv]; exact eqvAll_refl xs (by rw [PyData.canLay0] at h; exact h)
  | .tuple xs, h => by rw [PyData.eqv]; exact eqvAll_refl xs (by rw [PyData.canLay0] at h; exact h)
  | .dict _, h => by simp [PyData.canLay0] at h
theorem eqvAll_refl : ∀ ds : List PyData, PyData.canLayAll0 ds = true → PyData.eqvAll ds ds = true
  | [], _ => by simp [PyData.eqvAll]
  | d :: ds, h => by
    rw [PyData.canLayAll0, Bool.and_eq_true] at h
    rw [PyData.eqvAll, eqv_refl d h.1, eqvAll_refl ds h.2]
    rfl
end
/-- v stands for data that may be compared, at most n deep -/
def DatOk (n : Nat) (d : PyData) : Prop := d.canLay0 = true ∧ d.depth ≤ n
theorem g_eqD {x y : V} {d : PyData} (hx : Dp K H x d) (hy : Dp K H y d) (h : DatOk 60 d) (q : Q (.bl true) H) : rEqD K x y H Q :=
  have s : SeqAt.shaped d = true := by unfold SeqAt.shaped; rw [h.1, decide_eq_true (Nat.le_trans h.2 (by decide))]; rfl
  ⟨d, d, hx, hy, s, s, by rw [eqv_refl d h.1]; exact q⟩
theorem g_neD {x y : V} {d : PyData} (hx : Dp K H x d) (hy : Dp K H y d) (h : DatOk 60 d) (q : Q (.bl false) H) : rNeD K x y H Q :=
  have s : SeqAt.shaped d = true := by unfold SeqAt.shaped; rw [h.1, decide_eq_true (Nat.le_trans h.2 (by decide))]; rfl
  ⟨d, d, hx, hy, s, s, by rw [eqv_refl d h.1]; exact q⟩
theorem dpAll {α : Type} {R : V → α → Prop} {f : α → PyData} (hf : ∀ v x, R v x → Dp K H v (f x)) : ∀ {vs : List V} {xs : List α}, All2 R vs xs → DpAll K H vs (xs.map f)
  | [], [], _ => .nil
  | [], x :: xs, h => absurd h.1 (by simp)
  | v :: vs, [], h => absurd h.1 (by simp)
  | v :: vs, x :: xs, h => by
    obtain ⟨y, hy, r⟩ := h.2 0 v rfl
    cases hy
    exact .cons (hf v x r) (dpAll hf ⟨by have := h.1; simpa using this, fun i w e => h.2 (i + 1) w e⟩)
theorem dp_lst {α : Type} {R : Hp → V → α → Prop} {f : α → PyData} {xs : List α} (hf : ∀ v x, R H v x → Dp K H v (f x)) (h : LstAt H a R xs) : Dp K H (.ref a) (.list (xs.map f)) := by
  obtain ⟨vs, e, r⟩ := h
  exact .lst (SqL.of e) (dpAll hf r)
def dI (n : Nat) : PyData := .int (n : Int)
def dS (s : Str) : PyData := .str s
def dP (p : Nat × Nat) : PyData := .tuple [dI p.1, dI p.2]
def dL (p : Str × Nat × Nat) : PyData := .tuple [dS p.1, dI p.2.1, dI p.2.2]
def dO (p : Str × Nat) : PyData := .tuple [dS p.1, dI p.2]
theorem dp_I {n : Nat} (h : IsI H v n) : Dp K H v (dI n) := by cases h; exact .int _
theorem dp_S {n : Str} (h : IsS H v n) : Dp K H v (dS n) := by cases h; exact .str _
theorem dp_P {n : Nat × Nat} (h : IsP H v n) : Dp K H v (dP n) := by obtain ⟨a, rfl, e⟩ := h; exact .tup (SqT.of e) (.cons (.int _) (.cons (.int _) .nil))
theorem dp_L {n : Str × Nat × Nat} (h : IsL H v n) : Dp K H v (dL n) := by obtain ⟨a, rfl, e⟩ := h; exact .tup (SqT.of e) (.cons (.str _) (.cons (.int _) (.cons (.int _) .nil)))
theorem dp_O {n : Str × Nat} (h : IsO H v n) : Dp K H v (dO n) := by obtain ⟨a, rfl, e⟩ := h; exact .tup (SqT.of e) (.cons (.str _) (.cons (.int _) .nil))
theorem DatOk.all {n : Nat} : ∀ {ds : List PyData}, (∀ d ∈ ds, DatOk n d) → PyData.canLayAll0 ds = true ∧ PyData.depthAll ds ≤ n
  | [], _ => ⟨rfl, Nat.zero_le _⟩
  | d :: ds, h => by
    obtain ⟨a1, a2⟩ := h d List.mem_cons_self
    obtain ⟨b1, b2⟩ := DatOk.all fun e he => h e (List.mem_cons_of_mem _ he)
    exact ⟨by rw [PyData.canLayAll0, a1, b1]; rfl, by rw [PyData.depthAll]; exact Nat.max_le.mpr ⟨a2, b2⟩⟩
theorem DatOk.list {n : Nat} {ds : List PyData} (h : ∀ d ∈ ds, DatOk n d) : DatOk (n + 1) (.list ds) := by
  obtain ⟨a, b⟩ := DatOk.all h
  exact ⟨by rw [PyData.canLay0]; exact a, by rw [PyData.depth]; omega⟩
theorem DatOk.tup {n : Nat} {ds : List PyData} (h : ∀ d ∈ ds, DatOk n d) : DatOk (n + 1) (.tuple ds) := by
  obtain ⟨a, b⟩ := DatOk.all h
  exact ⟨by rw [PyData.canLay0]; exact a, by rw [PyData.depth]; omega⟩
theorem DatOk.mono {n m : Nat} {d : PyData} (l : n ≤ m) (h : DatOk n d) : DatOk m d := ⟨h.1, Nat.le_trans h.2 l⟩
theorem ok_dI (n : Nat) : DatOk 0 (dI n) := ⟨rfl, Nat.le_refl _⟩
theorem ok_dS {s : Str} (h : PyData.strOk s = true) : DatOk 0 (dS s) := ⟨by unfold dS; rw [PyData.canLay0]; exact h, Nat.le_refl _⟩
theorem ok_dP (p : Nat × Nat) : DatOk 1 (dP p) := DatOk.tup fun d h => by
  simp only [List.mem_cons, List.not_mem_nil, or_false] at h
  rcases h with rfl | rfl <;> exact ok_dI _
theorem ok_dL {p : Str × Nat × Nat} (h : PyData.strOk p.1 = true) : DatOk 1 (dL p) := DatOk.tup fun d hd => by
  simp only [List.mem_cons, List.not_mem_nil, or_false] at hd
  rcases hd with rfl | rfl | rfl
  · exact ok_dS h
  · exact ok_dI _
  · exact ok_dI _
theorem ok_dO {p : Str × Nat} (h : PyData.strOk p.1 = true) : DatOk 1 (dO p) := DatOk.tup fun d hd => by
  simp only [List.mem_cons, List.not_mem_nil, or_false] at hd
  rcases hd with rfl | rfl
  · exact ok_dS h
  · exact ok_dI _
theorem ok_lst {α : Type} {n : Nat} {f : α → PyData} {xs : List α} (h : ∀ x ∈ xs, DatOk n (f x)) : DatOk (n + 1) (.list (xs.map f)) := DatOk.list fun d hd => by
  obtain ⟨x, hx, rfl⟩ := List.mem_map.mp hd
  exact h x hx
end
end Sg
/-! part SgT -/
set_option Elab.async false
set_option maxRecDepth 100000
set_option linter.unusedVariables false
set_option maxHeartbeats 1000000
namespace Sg
open PySem PySem.Spec PyProof.Rows L2
/-! ### the text by places -/
def top (i : Nat) : Stmt := PySem.Challenge.pw_suregate_k24_whole_passes_in_any_order.main.body.getD i (.Pass ⟨0, 0, 0, 0⟩)
abbrev s_Units_init : Stmt := (inClass (top 2) 0)
abbrev s_Units_add_clause : Stmt := (inClass (top 2) 1)
abbrev s_Units_settle : Stmt := (inClass (top 2) 2)
abbrev s_Units_spread : Stmt := (inClass (top 2) 3)
abbrev s_Units_follows : Stmt := (inClass (top 2) 4)
abbrev s_in_frame : Stmt := (top 9)
abbrev s_frame_clauses : Stmt := (top 10)
abbrev s_start_clauses : Stmt := (top 11)
abbrev s_same_clauses : Stmt := (top 12)
abbrev s_link_clauses : Stmt := (top 13)
abbrev s_Net_init : Stmt := (inClass (top 15) 0)
abbrev s_Net_first_latch : Stmt := (inClass (top 15) 1)
abbrev s_Net_first_and : Stmt := (inClass (top 15) 2)
abbrev s_Net_node_count : Stmt := (inClass (top 15) 3)
abbrev s_Joined_init : Stmt := (inClass (top 17) 0)
abbrev s_Joined_from_left : Stmt := (inClass (top 17) 1)
abbrev s_Joined_from_right : Stmt := (inClass (top 17) 2)
abbrev s_in_range : Stmt := (top 19)
abbrev s_fault_of_lines : Stmt := (top 20)
abbrev s_fault_at_start : Stmt := (top 21)
abbrev s_fault_in_cycle : Stmt := (top 22)
abbrev s_fault_in_next : Stmt := (top 23)
abbrev s_fault_of_alike : Stmt := (top 24)
abbrev s_fault_of_chain : Stmt := (top 25)
abbrev s_is_name : Stmt := (top 34)
abbrev s_fault_of_leaves : Stmt := (top 35)
abbrev s_fault_of_ands : Stmt := (top 36)
abbrev s_fault_of_outputs : Stmt := (top 37)
abbrev s_Circuit_init : Stmt := (inClass (top 38) 0)
abbrev s_Circuit_eq : Stmt := (inClass (top 38) 1)
abbrev s_Circuit_as_net : Stmt := (inClass (top 38) 2)
abbrev s_image_of : Stmt := (top 40)
abbrev s_Builder_init : Stmt := (inClass (top 41) 0)
abbrev s_Builder_pair_of : Stmt := (inClass (top 41) 1)
abbrev s_Builder_level_of : Stmt := (inClass (top 41) 2)
abbrev s_Builder_both : Stmt := (inClass (top 41) 3)
abbrev s_rebuilt : Stmt := (top 42)
abbrev s_leaf_images : Stmt := (top 43)
abbrev s_AlikeCertificate_init : Stmt := (inClass (top 45) 0)
abbrev s_image_certificate : Stmt := (top 47)
abbrev s_inner_nodes : Stmt := (top 49)
abbrev s_operands_of : Stmt := (top 50)
abbrev s_combined : Stmt := (top 51)
abbrev s_balanced : Stmt := (top 52)
abbrev s_balance : Stmt := (top 53)
abbrev s_by_one_pair : Stmt := (top 55)
abbrev s_by_two_ands : Stmt := (top 56)
abbrev s_by_complement : Stmt := (top 57)
abbrev s_by_two_complements : Stmt := (top 58)
abbrev s_RuleBuilder_simpler : Stmt := (inClass (top 59) 0)
abbrev s_RuleBuilder_both : Stmt := (inClass (top 59) 1)
abbrev s_carried_over : Stmt := (top 61)
abbrev s_hash_circuit : Stmt := (top 62)
abbrev s_apply_rules : Stmt := (top 63)
abbrev s_needed_nodes : Stmt := (top 64)
abbrev s_trim_images : Stmt := (top 65)
abbrev s_trim : Stmt := (top 66)
abbrev s_value_of : Stmt := (top 69)
abbrev s_node_values : Stmt := (top 70)
abbrev s_start_state : Stmt := (top 71)
abbrev s_step : Stmt := (top 72)
abbrev s_check_course : Stmt := (top 73)
abbrev s_run : Stmt := (top 75)
abbrev s_cycles : Stmt := (top 74)
abbrev s_law_rows : Stmt := (top 77)
abbrev s_law_name : Stmt := (top 78)
abbrev s_law_literal : Stmt := (top 79)
abbrev s_law_ands : Stmt := (top 80)
abbrev s_law_parts : Stmt := (top 81)
abbrev s_law_bits : Stmt := (top 82)
abbrev s_law_bit : Stmt := (top 83)
abbrev s_law_values : Stmt := (top 84)
abbrev s_law_next : Stmt := (top 85)
abbrev s_law_apart : Stmt := (top 86)
abbrev s_law_pass : Stmt := (top 87)
abbrev s_law : Stmt := (top 88)
theorem sc_Units_init : FnScope ["self", "clauses", "clause"] ["self", "clauses"] (defScope s_Units_init) := ⟨rfl, rfl, rfl, by decide +kernel, rfl, by decide +kernel, by decide +kernel⟩
theorem sc_Units_add_clause : FnScope ["self", "clause", "index", "kept", "literal"] ["self", "clause"] (defScope s_Units_add_clause) := ⟨rfl, rfl, rfl, by decide +kernel, rfl, by decide +kernel, by decide +kernel⟩
theorem sc_Units_settle : FnScope ["self", "index", "known", "queue", "free", "literal"] ["self", "index", "known", "queue"] (defScope s_Units_settle) := ⟨rfl, rfl, rfl, by decide +kernel, rfl, by decide +kernel, by decide +kernel⟩
theorem sc_Units_spread : FnScope ["self", "literals", "known", "queue", "literal", "index", "at"] ["self", "literals"] (defScope s_Units_spread) := ⟨rfl, rfl, rfl, by decide +kernel, rfl, by decide +kernel, by decide +kernel⟩
theorem sc_Units_follows : FnScope ["self", "line", "literal"] ["self", "line"] (defScope s_Units_follows) := ⟨rfl, rfl, rfl, by decide +kernel, rfl, by decide +kernel, by decide +kernel⟩
theorem sc_in_frame : FnScope ["net", "clause", "frame", "shift", "literal"] ["net", "clause", "frame"] (defScope s_in_frame) := ⟨rfl, rfl, rfl, by decide +kernel, rfl, by decide +kernel, by decide +kernel⟩
theorem sc_frame_clauses : FnScope ["net", "frame", "clauses", "index", "left", "right", "whole", "clause"] ["net", "frame"] (defScope s_frame_clauses) := ⟨rfl, rfl, rfl, by decide +kernel, rfl, by decide +kernel, by decide +kernel⟩
theorem sc_start_clauses : FnScope ["net", "clauses", "index", "start", "literal"] ["net"] (defScope s_start_clauses) := ⟨rfl, rfl, rfl, by decide +kernel, rfl, by decide +kernel, by decide +kernel⟩
theorem sc_same_clauses : FnScope ["x", "y"] ["x", "y"] (defScope s_same_clauses) := ⟨rfl, rfl, rfl, by decide +kernel, rfl, by decide +kernel, by decide +kernel⟩
theorem sc_link_clauses : FnScope ["net", "frame", "clauses", "shift", "index", "start", "literal", "latch"] ["net", "frame"] (defScope s_link_clauses) := ⟨rfl, rfl, rfl, by decide +kernel, rfl, by decide +kernel, by decide +kernel⟩
theorem sc_Net_init : FnScope ["self", "input_count", "latches", "ands"] ["self", "input_count", "latches", "ands"] (defScope s_Net_init) := ⟨rfl, rfl, rfl, by decide +kernel, rfl, by decide +kernel, by decide +kernel⟩
theorem sc_Net_first_latch : FnScope ["self"] ["self"] (defScope s_Net_first_latch) := ⟨rfl, rfl, rfl, by decide +kernel, rfl, by decide +kernel, by decide +kernel⟩
theorem sc_Net_first_and : FnScope ["self"] ["self"] (defScope s_Net_first_and) := ⟨rfl, rfl, rfl, by decide +kernel, rfl, by decide +kernel, by decide +kernel⟩
theorem sc_Net_node_count : FnScope ["self"] ["self"] (defScope s_Net_node_count) := ⟨rfl, rfl, rfl, by decide +kernel, rfl, by decide +kernel, by decide +kernel⟩
theorem sc_Joined_init : FnScope ["self", "left", "right", "_", "literal", "latches", "ands", "place", "start", "one", "two", "name"] ["self", "left", "right"] (defScope s_Joined_init) := ⟨rfl, rfl, rfl, by decide +kernel, rfl, by decide +kernel, by decide +kernel⟩
theorem sc_Joined_from_left : FnScope ["self", "literal"] ["self", "literal"] (defScope s_Joined_from_left) := ⟨rfl, rfl, rfl, by decide +kernel, rfl, by decide +kernel, by decide +kernel⟩
theorem sc_Joined_from_right : FnScope ["self", "literal"] ["self", "literal"] (defScope s_Joined_from_right) := ⟨rfl, rfl, rfl, by decide +kernel, rfl, by decide +kernel, by decide +kernel⟩
theorem sc_in_range : FnScope ["clause", "limit", "literal"] ["clause", "limit"] (defScope s_in_range) := ⟨rfl, rfl, rfl, by decide +kernel, rfl, by decide +kernel, by decide +kernel⟩
theorem sc_fault_of_lines : FnScope ["units", "limit", "lines", "part", "index", "line"] ["units", "limit", "lines", "part"] (defScope s_fault_of_lines) := ⟨rfl, rfl, rfl, by decide +kernel, rfl, by decide +kernel, by decide +kernel⟩
theorem sc_fault_at_start : FnScope ["net", "certificate", "limit", "units", "clause", "fault"] ["net", "certificate"] (defScope s_fault_at_start) := ⟨rfl, rfl, rfl, by decide +kernel, rfl, by decide +kernel, by decide +kernel⟩
theorem sc_fault_in_cycle : FnScope ["units", "joined", "certificate", "limit", "fact", "fault", "index", "one", "two", "clause"] ["units", "joined", "certificate"] (defScope s_fault_in_cycle) := ⟨rfl, rfl, rfl, by decide +kernel, rfl, by decide +kernel, by decide +kernel⟩
theorem sc_fault_in_next : FnScope ["units", "net", "certificate", "clause", "fault", "index", "fact", "later"] ["units", "net", "certificate"] (defScope s_fault_in_next) := ⟨rfl, rfl, rfl, by decide +kernel, rfl, by decide +kernel, by decide +kernel⟩
theorem sc_fault_of_alike : FnScope ["left", "right", "certificate", "joined", "fault", "units"] ["left", "right", "certificate"] (defScope s_fault_of_alike) := ⟨rfl, rfl, rfl, by decide +kernel, rfl, by decide +kernel, by decide +kernel⟩
theorem sc_fault_of_chain : FnScope ["circuits", "certificates", "place", "certificate", "fault"] ["circuits", "certificates"] (defScope s_fault_of_chain) := ⟨rfl, rfl, rfl, by decide +kernel, rfl, by decide +kernel, by decide +kernel⟩
theorem sc_is_name : FnScope ["text", "sign"] ["text"] (defScope s_is_name) := ⟨rfl, rfl, rfl, by decide +kernel, rfl, by decide +kernel, by decide +kernel⟩
theorem sc_fault_of_leaves : FnScope ["inputs", "latches", "node_count", "names", "index", "name", "start", "literal"] ["inputs", "latches", "node_count"] (defScope s_fault_of_leaves) := ⟨rfl, rfl, rfl, by decide +kernel, rfl, by decide +kernel, by decide +kernel⟩
theorem sc_fault_of_ands : FnScope ["first_and", "ands", "index", "left", "right", "limit"] ["first_and", "ands"] (defScope s_fault_of_ands) := ⟨rfl, rfl, rfl, by decide +kernel, rfl, by decide +kernel, by decide +kernel⟩
theorem sc_fault_of_outputs : FnScope ["outputs", "node_count", "names", "index", "name", "literal"] ["outputs", "node_count"] (defScope s_fault_of_outputs) := ⟨rfl, rfl, rfl, by decide +kernel, rfl, by decide +kernel, by decide +kernel⟩
theorem sc_Circuit_init : FnScope ["self", "inputs", "latches", "ands", "outputs", "first_and", "node_count", "fault"] ["self", "inputs", "latches", "ands", "outputs"] (defScope s_Circuit_init) := ⟨rfl, rfl, rfl, by decide +kernel, rfl, by decide +kernel, by decide +kernel⟩
theorem sc_Circuit_eq : FnScope ["self", "other"] ["self", "other"] (defScope s_Circuit_eq) := ⟨rfl, rfl, rfl, by decide +kernel, rfl, by decide +kernel, by decide +kernel⟩
theorem sc_Circuit_as_net : FnScope ["self", "_", "start", "literal"] ["self"] (defScope s_Circuit_as_net) := ⟨rfl, rfl, rfl, by decide +kernel, rfl, by decide +kernel, by decide +kernel⟩
theorem sc_image_of : FnScope ["images", "literal"] ["images", "literal"] (defScope s_image_of) := ⟨rfl, rfl, rfl, by decide +kernel, rfl, by decide +kernel, by decide +kernel⟩
theorem sc_Builder_init : FnScope ["self", "leaf_count"] ["self", "leaf_count"] (defScope s_Builder_init) := ⟨rfl, rfl, rfl, by decide +kernel, rfl, by decide +kernel, by decide +kernel⟩
theorem sc_Builder_pair_of : FnScope ["self", "literal"] ["self", "literal"] (defScope s_Builder_pair_of) := ⟨rfl, rfl, rfl, by decide +kernel, rfl, by decide +kernel, by decide +kernel⟩
theorem sc_Builder_level_of : FnScope ["self", "literal"] ["self", "literal"] (defScope s_Builder_level_of) := ⟨rfl, rfl, rfl, by decide +kernel, rfl, by decide +kernel, by decide +kernel⟩
theorem sc_Builder_both : FnScope ["self", "left", "right", "low", "high"] ["self", "left", "right"] (defScope s_Builder_both) := ⟨rfl, rfl, rfl, by decide +kernel, rfl, by decide +kernel, by decide +kernel⟩
theorem sc_rebuilt : FnScope ["circuit", "builder", "images", "latches", "outputs", "name", "start", "literal"] ["circuit", "builder", "images"] (defScope s_rebuilt) := ⟨rfl, rfl, rfl, by decide +kernel, rfl, by decide +kernel, by decide +kernel⟩
theorem sc_leaf_images : FnScope ["circuit", "node"] ["circuit"] (defScope s_leaf_images) := ⟨rfl, rfl, rfl, by decide +kernel, rfl, by decide +kernel, by decide +kernel⟩
theorem sc_AlikeCertificate_init : FnScope ["self", "facts", "start_lines", "lines", "next_lines", "clause"] ["self", "facts", "start_lines", "lines", "next_lines"] (defScope s_AlikeCertificate_init) := ⟨rfl, rfl, rfl, by decide +kernel, rfl, by decide +kernel, by decide +kernel⟩
theorem sc_image_certificate : FnScope ["before", "after", "images", "extra", "joined", "net", "facts", "lines", "node", "same"] ["before", "after", "images", "extra"] (defScope s_image_certificate) := ⟨rfl, rfl, rfl, by decide +kernel, rfl, by decide +kernel, by decide +kernel⟩
theorem sc_inner_nodes : FnScope ["circuit", "net", "uses", "inner", "left", "right", "literal", "_", "node"] ["circuit"] (defScope s_inner_nodes) := ⟨rfl, rfl, rfl, by decide +kernel, rfl, by decide +kernel, by decide +kernel⟩
theorem sc_operands_of : FnScope ["net", "inner", "node", "found", "waiting", "literal"] ["net", "inner", "node"] (defScope s_operands_of) := ⟨rfl, rfl, rfl, by decide +kernel, rfl, by decide +kernel, by decide +kernel⟩
theorem sc_combined : FnScope ["builder", "literals", "waiting", "literal", "first", "second"] ["builder", "literals"] (defScope s_combined) := ⟨rfl, rfl, rfl, by decide +kernel, rfl, by decide +kernel, by decide +kernel⟩
theorem sc_balanced : FnScope ["circuit", "net", "inner", "builder", "images", "node", "operands", "literal"] ["circuit"] (defScope s_balanced) := ⟨rfl, rfl, rfl, by decide +kernel, rfl, by decide +kernel, by decide +kernel⟩
theorem sc_balance : FnScope ["circuit", "after", "images"] ["circuit"] (defScope s_balance) := ⟨rfl, rfl, rfl, by decide +kernel, rfl, by decide +kernel, by decide +kernel⟩
theorem sc_by_one_pair : FnScope ["whole", "pair", "other", "one", "two"] ["whole", "pair", "other"] (defScope s_by_one_pair) := ⟨rfl, rfl, rfl, by decide +kernel, rfl, by decide +kernel, by decide +kernel⟩
theorem sc_by_two_ands : FnScope ["whole", "pair", "other", "others", "one", "two"] ["whole", "pair", "other", "others"] (defScope s_by_two_ands) := ⟨rfl, rfl, rfl, by decide +kernel, rfl, by decide +kernel, by decide +kernel⟩
theorem sc_by_complement : FnScope ["pair", "other", "others", "one", "two"] ["pair", "other", "others"] (defScope s_by_complement) := ⟨rfl, rfl, rfl, by decide +kernel, rfl, by decide +kernel, by decide +kernel⟩
theorem sc_by_two_complements : FnScope ["pair", "others", "one", "two"] ["pair", "others"] (defScope s_by_two_complements) := ⟨rfl, rfl, rfl, by decide +kernel, rfl, by decide +kernel, by decide +kernel⟩
theorem sc_RuleBuilder_simpler : FnScope ["self", "low", "high", "pair", "others", "found"] ["self", "low", "high"] (defScope s_RuleBuilder_simpler) := ⟨rfl, rfl, rfl, by decide +kernel, rfl, by decide +kernel, by decide +kernel⟩
theorem sc_carried_over : FnScope ["circuit", "builder", "images", "left", "right", "after"] ["circuit", "builder"] (defScope s_carried_over) := ⟨rfl, rfl, rfl, by decide +kernel, rfl, by decide +kernel, by decide +kernel⟩
theorem sc_hash_circuit : FnScope ["circuit"] ["circuit"] (defScope s_hash_circuit) := ⟨rfl, rfl, rfl, by decide +kernel, rfl, by decide +kernel, by decide +kernel⟩
theorem sc_apply_rules : FnScope ["circuit"] ["circuit"] (defScope s_apply_rules) := ⟨rfl, rfl, rfl, by decide +kernel, rfl, by decide +kernel, by decide +kernel⟩
theorem sc_needed_nodes : FnScope ["circuit", "net", "needed", "waiting", "node", "left", "right", "_", "literal"] ["circuit"] (defScope s_needed_nodes) := ⟨rfl, rfl, rfl, by decide +kernel, rfl, by decide +kernel, by decide +kernel⟩
theorem sc_trim_images : FnScope ["circuit", "needed", "images", "count", "node", "there"] ["circuit", "needed"] (defScope s_trim_images) := ⟨rfl, rfl, rfl, by decide +kernel, rfl, by decide +kernel, by decide +kernel⟩
theorem sc_trim : FnScope ["circuit", "images", "latches", "place", "name", "start", "literal", "ands", "left", "right", "outputs", "after"] ["circuit"] (defScope s_trim) := ⟨rfl, rfl, rfl, by decide +kernel, rfl, by decide +kernel, by decide +kernel⟩
theorem sc_value_of : FnScope ["values", "literal"] ["values", "literal"] (defScope s_value_of) := ⟨rfl, rfl, rfl, by decide +kernel, rfl, by decide +kernel, by decide +kernel⟩
theorem sc_node_values : FnScope ["net", "state", "row", "values", "left", "right"] ["net", "state", "row"] (defScope s_node_values) := ⟨rfl, rfl, rfl, by decide +kernel, rfl, by decide +kernel, by decide +kernel⟩
theorem sc_start_state : FnScope ["circuit", "_", "start"] ["circuit"] (defScope s_start_state) := ⟨rfl, rfl, rfl, by decide +kernel, rfl, by decide +kernel, by decide +kernel⟩
theorem sc_step : FnScope ["circuit", "state", "row", "values", "outputs", "_", "literal"] ["circuit", "state", "row"] (defScope s_step) := ⟨rfl, rfl, rfl, by decide +kernel, rfl, by decide +kernel, by decide +kernel⟩
theorem sc_check_course : FnScope ["circuit", "course", "index", "row", "bit"] ["circuit", "course"] (defScope s_check_course) := ⟨rfl, rfl, rfl, by decide +kernel, rfl, by decide +kernel, by decide +kernel⟩
theorem sc_run : FnScope ["circuit", "course", "outputs", "_"] ["circuit", "course"] (defScope s_run) := ⟨rfl, rfl, rfl, by decide +kernel, rfl, by decide +kernel, by decide +kernel⟩
theorem sc_law_rows : FnScope ["_law_script", "_law_count", "_law_rows_here", "_law_k", "_law_cell"] ["_law_script", "_law_count"] (defScope s_law_rows) := ⟨rfl, rfl, rfl, by decide +kernel, rfl, by decide +kernel, by decide +kernel⟩
theorem sc_law_name : FnScope ["_law_row", "_law_k", "_law_signs", "_law_rest", "_law_name_here", "_law_j", "_law_place"] ["_law_row", "_law_k"] (defScope s_law_name) := ⟨rfl, rfl, rfl, by decide +kernel, rfl, by decide +kernel, by decide +kernel⟩
theorem sc_law_literal : FnScope ["_law_row", "_law_near", "_law_count", "_law_node"] ["_law_row", "_law_near", "_law_count"] (defScope s_law_literal) := ⟨rfl, rfl, rfl, by decide +kernel, rfl, by decide +kernel, by decide +kernel⟩
theorem sc_law_ands : FnScope ["_law_rows_here", "_law_at", "_law_first_and", "_law_count", "_law_ands_here", "_law_k", "_law_row", "_law_size", "_law_left", "_law_right"] ["_law_rows_here", "_law_at", "_law_first_and", "_law_count"] (defScope s_law_ands) := ⟨rfl, rfl, rfl, by decide +kernel, rfl, by decide +kernel, by decide +kernel⟩
theorem sc_law_parts : FnScope ["_law_rows_here", "_law_most_inputs", "_law_most_latches", "_law_most_ands", "_law_head", "_law_input_count", "_law_latch_count", "_law_gate_count", "_law_output_count", "_law_k", "_law_names", "_law_first_and", "_law_size", "_law_ands_here", "_law_latches", "_law_row", "_law_outputs"] ["_law_rows_here", "_law_most_inputs", "_law_most_latches", "_law_most_ands"] (defScope s_law_parts) := ⟨rfl, rfl, rfl, by decide +kernel, rfl, by decide +kernel, by decide +kernel⟩
theorem sc_law_bits : FnScope ["_law_number", "_law_count", "_law_bits_here", "_law_k"] ["_law_number", "_law_count"] (defScope s_law_bits) := ⟨rfl, rfl, rfl, by decide +kernel, rfl, by decide +kernel, by decide +kernel⟩
theorem sc_law_bit : FnScope ["_law_values_here", "_law_literal_here"] ["_law_values_here", "_law_literal_here"] (defScope s_law_bit) := ⟨rfl, rfl, rfl, by decide +kernel, rfl, by decide +kernel, by decide +kernel⟩
theorem sc_law_values : FnScope ["_law_row", "_law_state", "_law_ands_here", "_law_values_here", "_law_pair"] ["_law_row", "_law_state", "_law_ands_here"] (defScope s_law_values) := ⟨rfl, rfl, rfl, by decide +kernel, rfl, by decide +kernel, by decide +kernel⟩
theorem sc_law_next : FnScope ["_law_parts_here", "_law_state", "_law_row", "_law_values_here", "_law_outputs", "_law_pair", "_law_latch"] ["_law_parts_here", "_law_state", "_law_row"] (defScope s_law_next) := ⟨rfl, rfl, rfl, by decide +kernel, rfl, by decide +kernel, by decide +kernel⟩
theorem sc_law_apart : FnScope ["_law_left", "_law_right", "_law_count", "_law_met", "_law_turn", "_law_number", "_law_row", "_law_one", "_law_two", "_law_latch"] ["_law_left", "_law_right"] (defScope s_law_apart) := ⟨rfl, rfl, rfl, by decide +kernel, rfl, by decide +kernel, by decide +kernel⟩
theorem sc_law_pass : FnScope ["_law_kind", "_law_circuit"] ["_law_kind", "_law_circuit"] (defScope s_law_pass) := ⟨rfl, rfl, rfl, by decide +kernel, rfl, by decide +kernel, by decide +kernel⟩
theorem sc_law : FnScope ["_law_script", "_law_rows_here", "_law_inputs", "_law_latches", "_law_ands_here", "_law_outputs", "_law_circuit", "_law_k", "_law_course", "_law_due", "_law_circuits", "_law_certificates", "_law_draw", "_law_after", "_law_certificate", "_law_last", "_law_left", "_law_right", "_law_pair"] ["_law_script"] (defScope s_law) := ⟨rfl, rfl, rfl, by decide +kernel, rfl, by decide +kernel, by decide +kernel⟩
def d_Units_init : He.DefD := ⟨("Units", some "__init__"), "__init__", "Units.__init__", defArgs s_Units_init, defBody s_Units_init, defScope s_Units_init, [], []⟩
def d_Units_add_clause : He.DefD := ⟨("Units", some "add_clause"), "add_clause", "Units.add_clause", defArgs s_Units_add_clause, defBody s_Units_add_clause, defScope s_Units_add_clause, [], []⟩
def d_Units_settle : He.DefD := ⟨("Units", some "settle"), "settle", "Units.settle", defArgs s_Units_settle, defBody s_Units_settle, defScope s_Units_settle, [], []⟩
def d_Units_spread : He.DefD := ⟨("Units", some "spread"), "spread", "Units.spread", defArgs s_Units_spread, defBody s_Units_spread, defScope s_Units_spread, [], []⟩
def d_Units_follows : He.DefD := ⟨("Units", some "follows"), "follows", "Units.follows", defArgs s_Units_follows, defBody s_Units_follows, defScope s_Units_follows, [], []⟩
def d_in_frame : He.DefD := ⟨("in_frame", none), "in_frame", "in_frame", defArgs s_in_frame, defBody s_in_frame, defScope s_in_frame, [], []⟩
def d_frame_clauses : He.DefD := ⟨("frame_clauses", none), "frame_clauses", "frame_clauses", defArgs s_frame_clauses, defBody s_frame_clauses, defScope s_frame_clauses, [], []⟩
def d_start_clauses : He.DefD := ⟨("start_clauses", none), "start_clauses", "start_clauses", defArgs s_start_clauses, defBody s_start_clauses, defScope s_start_clauses, [], []⟩
def d_same_clauses : He.DefD := ⟨("same_clauses", none), "same_clauses", "same_clauses", defArgs s_same_clauses, defBody s_same_clauses, defScope s_same_clauses, [], []⟩
def d_link_clauses : He.DefD := ⟨("link_clauses", none), "link_clauses", "link_clauses", defArgs s_link_clauses, defBody s_link_clauses, defScope s_link_clauses, [], []⟩
def d_Net_init : He.DefD := ⟨("Net", some "__init__"), "__init__", "Net.__init__", defArgs s_Net_init, defBody s_Net_init, defScope s_Net_init, [], []⟩
def d_Net_first_latch : He.DefD := ⟨("Net", some "first_latch"), "first_latch", "Net.first_latch", defArgs s_Net_first_latch, defBody s_Net_first_latch, defScope s_Net_first_latch, [], []⟩
def d_Net_first_and : He.DefD := ⟨("Net", some "first_and"), "first_and", "Net.first_and", defArgs s_Net_first_and, defBody s_Net_first_and, defScope s_Net_first_and, [], []⟩
def d_Net_node_count : He.DefD := ⟨("Net", some "node_count"), "node_count", "Net.node_count", defArgs s_Net_node_count, defBody s_Net_node_count, defScope s_Net_node_count, [], []⟩
def d_Joined_init : He.DefD := ⟨("Joined", some "__init__"), "__init__", "Joined.__init__", defArgs s_Joined_init, defBody s_Joined_init, defScope s_Joined_init, [], []⟩
def d_Joined_from_left : He.DefD := ⟨("Joined", some "from_left"), "from_left", "Joined.from_left", defArgs s_Joined_from_left, defBody s_Joined_from_left, defScope s_Joined_from_left, [], []⟩
def d_Joined_from_right : He.DefD := ⟨("Joined", some "from_right"), "from_right", "Joined.from_right", defArgs s_Joined_from_right, defBody s_Joined_from_right, defScope s_Joined_from_right, [], []⟩
def d_in_range : He.DefD := ⟨("in_range", none), "in_range", "in_range", defArgs s_in_range, defBody s_in_range, defScope s_in_range, [], []⟩
def d_fault_of_lines : He.DefD := ⟨("fault_of_lines", none), "fault_of_lines", "fault_of_lines", defArgs s_fault_of_lines, defBody s_fault_of_lines, defScope s_fault_of_lines, [], []⟩
def d_fault_at_start : He.DefD := ⟨("fault_at_start", none), "fault_at_start", "fault_at_start", defArgs s_fault_at_start, defBody s_fault_at_start, defScope s_fault_at_start, [], []⟩
def d_fault_in_cycle : He.DefD := ⟨("fault_in_cycle", none), "fault_in_cycle", "fault_in_cycle", defArgs s_fault_in_cycle, defBody s_fault_in_cycle, defScope s_fault_in_cycle, [], []⟩
def d_fault_in_next : He.DefD := ⟨("fault_in_next", none), "fault_in_next", "fault_in_next", defArgs s_fault_in_next, defBody s_fault_in_next, defScope s_fault_in_next, [], []⟩
def d_fault_of_alike : He.DefD := ⟨("fault_of_alike", none), "fault_of_alike", "fault_of_alike", defArgs s_fault_of_alike, defBody s_fault_of_alike, defScope s_fault_of_alike, [], []⟩
def d_fault_of_chain : He.DefD := ⟨("fault_of_chain", none), "fault_of_chain", "fault_of_chain", defArgs s_fault_of_chain, defBody s_fault_of_chain, defScope s_fault_of_chain, [], []⟩
def d_is_name : He.DefD := ⟨("is_name", none), "is_name", "is_name", defArgs s_is_name, defBody s_is_name, defScope s_is_name, [], []⟩
def d_fault_of_leaves : He.DefD := ⟨("fault_of_leaves", none), "fault_of_leaves", "fault_of_leaves", defArgs s_fault_of_leaves, defBody s_fault_of_leaves, defScope s_fault_of_leaves, [], []⟩
def d_fault_of_ands : He.DefD := ⟨("fault_of_ands", none), "fault_of_ands", "fault_of_ands", defArgs s_fault_of_ands, defBody s_fault_of_ands, defScope s_fault_of_ands, [], []⟩
def d_fault_of_outputs : He.DefD := ⟨("fault_of_outputs", none), "fault_of_outputs", "fault_of_outputs", defArgs s_fault_of_outputs, defBody s_fault_of_outputs, defScope s_fault_of_outputs, [], []⟩
def d_Circuit_init : He.DefD := ⟨("Circuit", some "__init__"), "__init__", "Circuit.__init__", defArgs s_Circuit_init, defBody s_Circuit_init, defScope s_Circuit_init, [], []⟩
def d_Circuit_eq : He.DefD := ⟨("Circuit", some "__eq__"), "__eq__", "Circuit.__eq__", defArgs s_Circuit_eq, defBody s_Circuit_eq, defScope s_Circuit_eq, [], []⟩
def d_Circuit_as_net : He.DefD := ⟨("Circuit", some "as_net"), "as_net", "Circuit.as_net", defArgs s_Circuit_as_net, defBody s_Circuit_as_net, defScope s_Circuit_as_net, [], []⟩
def d_image_of : He.DefD := ⟨("image_of", none), "image_of", "image_of", defArgs s_image_of, defBody s_image_of, defScope s_image_of, [], []⟩
def d_Builder_init : He.DefD := ⟨("Builder", some "__init__"), "__init__", "Builder.__init__", defArgs s_Builder_init, defBody s_Builder_init, defScope s_Builder_init, [], []⟩
def d_Builder_pair_of : He.DefD := ⟨("Builder", some "pair_of"), "pair_of", "Builder.pair_of", defArgs s_Builder_pair_of, defBody s_Builder_pair_of, defScope s_Builder_pair_of, [], []⟩
def d_Builder_level_of : He.DefD := ⟨("Builder", some "level_of"), "level_of", "Builder.level_of", defArgs s_Builder_level_of, defBody s_Builder_level_of, defScope s_Builder_level_of, [], []⟩
def d_Builder_both : He.DefD := ⟨("Builder", some "both"), "both", "Builder.both", defArgs s_Builder_both, defBody s_Builder_both, defScope s_Builder_both, [], []⟩
def d_rebuilt : He.DefD := ⟨("rebuilt", none), "rebuilt", "rebuilt", defArgs s_rebuilt, defBody s_rebuilt, defScope s_rebuilt, [], []⟩
def d_leaf_images : He.DefD := ⟨("leaf_images", none), "leaf_images", "leaf_images", defArgs s_leaf_images, defBody s_leaf_images, defScope s_leaf_images, [], []⟩
def d_AlikeCertificate_init : He.DefD := ⟨("AlikeCertificate", some "__init__"), "__init__", "AlikeCertificate.__init__", defArgs s_AlikeCertificate_init, defBody s_AlikeCertificate_init, defScope s_AlikeCertificate_init, [], []⟩
def d_image_certificate : He.DefD := ⟨("image_certificate", none), "image_certificate", "image_certificate", defArgs s_image_certificate, defBody s_image_certificate, defScope s_image_certificate, [], []⟩
def d_inner_nodes : He.DefD := ⟨("inner_nodes", none), "inner_nodes", "inner_nodes", defArgs s_inner_nodes, defBody s_inner_nodes, defScope s_inner_nodes, [], []⟩
def d_operands_of : He.DefD := ⟨("operands_of", none), "operands_of", "operands_of", defArgs s_operands_of, defBody s_operands_of, defScope s_operands_of, [], []⟩
def d_combined : He.DefD := ⟨("combined", none), "combined", "combined", defArgs s_combined, defBody s_combined, defScope s_combined, [], []⟩
def d_balanced : He.DefD := ⟨("balanced", none), "balanced", "balanced", defArgs s_balanced, defBody s_balanced, defScope s_balanced, [], []⟩
def d_balance : He.DefD := ⟨("balance", none), "balance", "balance", defArgs s_balance, defBody s_balance, defScope s_balance, [], []⟩
def d_by_one_pair : He.DefD := ⟨("by_one_pair", none), "by_one_pair", "by_one_pair", defArgs s_by_one_pair, defBody s_by_one_pair, defScope s_by_one_pair, [], []⟩
def d_by_two_ands : He.DefD := ⟨("by_two_ands", none), "by_two_ands", "by_two_ands", defArgs s_by_two_ands, defBody s_by_two_ands, defScope s_by_two_ands, [], []⟩
def d_by_complement : He.DefD := ⟨("by_complement", none), "by_complement", "by_complement", defArgs s_by_complement, defBody s_by_complement, defScope s_by_complement, [], []⟩
def d_by_two_complements : He.DefD := ⟨("by_two_complements", none), "by_two_complements", "by_two_complements", defArgs s_by_two_complements, defBody s_by_two_complements, defScope s_by_two_complements, [], []⟩
def d_RuleBuilder_simpler : He.DefD := ⟨("RuleBuilder", some "simpler"), "simpler", "RuleBuilder.simpler", defArgs s_RuleBuilder_simpler, defBody s_RuleBuilder_simpler, defScope s_RuleBuilder_simpler, [], []⟩
def d_RuleBuilder_both : He.DefD := ⟨("RuleBuilder", some "both"), "both", "RuleBuilder.both", defArgs s_RuleBuilder_both, defBody s_RuleBuilder_both, defScope s_RuleBuilder_both, [], []⟩
def d_carried_over : He.DefD := ⟨("carried_over", none), "carried_over", "carried_over", defArgs s_carried_over, defBody s_carried_over, defScope s_carried_over, [], []⟩
def d_hash_circuit : He.DefD := ⟨("hash_circuit", none), "hash_circuit", "hash_circuit", defArgs s_hash_circuit, defBody s_hash_circuit, defScope s_hash_circuit, [], []⟩
def d_apply_rules : He.DefD := ⟨("apply_rules", none), "apply_rules", "apply_rules", defArgs s_apply_rules, defBody s_apply_rules, defScope s_apply_rules, [], []⟩
def d_needed_nodes : He.DefD := ⟨("needed_nodes", none), "needed_nodes", "needed_nodes", defArgs s_needed_nodes, defBody s_needed_nodes, defScope s_needed_nodes, [], []⟩
def d_trim_images : He.DefD := ⟨("trim_images", none), "trim_images", "trim_images", defArgs s_trim_images, defBody s_trim_images, defScope s_trim_images, [], []⟩
def d_trim : He.DefD := ⟨("trim", none), "trim", "trim", defArgs s_trim, defBody s_trim, defScope s_trim, [], []⟩
def d_value_of : He.DefD := ⟨("value_of", none), "value_of", "value_of", defArgs s_value_of, defBody s_value_of, defScope s_value_of, [], []⟩
def d_node_values : He.DefD := ⟨("node_values", none), "node_values", "node_values", defArgs s_node_values, defBody s_node_values, defScope s_node_values, [], []⟩
def d_start_state : He.DefD := ⟨("start_state", none), "start_state", "start_state", defArgs s_start_state, defBody s_start_state, defScope s_start_state, [], []⟩
def d_step : He.DefD := ⟨("step", none), "step", "step", defArgs s_step, defBody s_step, defScope s_step, [], []⟩
def d_check_course : He.DefD := ⟨("check_course", none), "check_course", "check_course", defArgs s_check_course, defBody s_check_course, defScope s_check_course, [], []⟩
def d_run : He.DefD := ⟨("run", none), "run", "run", defArgs s_run, defBody s_run, defScope s_run, [], []⟩
def d_cycles : He.DefD := ⟨("cycles", none), "cycles", "cycles", defArgs s_cycles, defBody s_cycles, defScope s_cycles, [], []⟩
def d_law_rows : He.DefD := ⟨("_law_rows", none), "_law_rows", "_law_rows", defArgs s_law_rows, defBody s_law_rows, defScope s_law_rows, [], []⟩
def d_law_name : He.DefD := ⟨("_law_name", none), "_law_name", "_law_name", defArgs s_law_name, defBody s_law_name, defScope s_law_name, [], []⟩
def d_law_literal : He.DefD := ⟨("_law_literal", none), "_law_literal", "_law_literal", defArgs s_law_literal, defBody s_law_literal, defScope s_law_literal, [], []⟩
def d_law_ands : He.DefD := ⟨("_law_ands", none), "_law_ands", "_law_ands", defArgs s_law_ands, defBody s_law_ands, defScope s_law_ands, [], []⟩
def d_law_parts : He.DefD := ⟨("_law_parts", none), "_law_parts", "_law_parts", defArgs s_law_parts, defBody s_law_parts, defScope s_law_parts, [], []⟩
def d_law_bits : He.DefD := ⟨("_law_bits", none), "_law_bits", "_law_bits", defArgs s_law_bits, defBody s_law_bits, defScope s_law_bits, [], []⟩
def d_law_bit : He.DefD := ⟨("_law_bit", none), "_law_bit", "_law_bit", defArgs s_law_bit, defBody s_law_bit, defScope s_law_bit, [], []⟩
def d_law_values : He.DefD := ⟨("_law_values", none), "_law_values", "_law_values", defArgs s_law_values, defBody s_law_values, defScope s_law_values, [], []⟩
def d_law_next : He.DefD := ⟨("_law_next", none), "_law_next", "_law_next", defArgs s_law_next, defBody s_law_next, defScope s_law_next, [], []⟩
def d_law_apart : He.DefD := ⟨("_law_apart", none), "_law_apart", "_law_apart", defArgs s_law_apart, defBody s_law_apart, defScope s_law_apart, [], []⟩
def d_law_pass : He.DefD := ⟨("_law_pass", none), "_law_pass", "_law_pass", defArgs s_law_pass, defBody s_law_pass, defScope s_law_pass, [], []⟩
def d_law : He.DefD := ⟨("law", none), "law", "law", defArgs s_law, defBody s_law, defScope s_law, [], []⟩
/-! ### what the end of the top gives -/
structure Txt (K : PySem.W.Frag) (mg : Str → Option Value) : Prop where
  c_Units : Cls K (He.ga K "Units")
  n_Units_clauses : NoAttr K (He.ga K "Units") "clauses"
  n_Units_holders : NoAttr K (He.ga K "Units") "holders"
  n_Units_shorts : NoAttr K (He.ga K "Units") "shorts"
  c_Net : Cls K (He.ga K "Net")
  n_Net_input_count : NoAttr K (He.ga K "Net") "input_count"
  n_Net_latches : NoAttr K (He.ga K "Net") "latches"
  n_Net_ands : NoAttr K (He.ga K "Net") "ands"
  c_Joined : Cls K (He.ga K "Joined")
  n_Joined__last_input : NoAttr K (He.ga K "Joined") "_last_input"
  n_Joined__left_limit : NoAttr K (He.ga K "Joined") "_left_limit"
  n_Joined__right_limit : NoAttr K (He.ga K "Joined") "_right_limit"
  n_Joined__left_latches : NoAttr K (He.ga K "Joined") "_left_latches"
  n_Joined__right_latches : NoAttr K (He.ga K "Joined") "_right_latches"
  n_Joined__left_ands : NoAttr K (He.ga K "Joined") "_left_ands"
  n_Joined_joint : NoAttr K (He.ga K "Joined") "joint"
  n_Joined_goals : NoAttr K (He.ga K "Joined") "goals"
  c_Circuit : Cls K (He.ga K "Circuit")
  n_Circuit_inputs : NoAttr K (He.ga K "Circuit") "inputs"
  n_Circuit_latches : NoAttr K (He.ga K "Circuit") "latches"
  n_Circuit_ands : NoAttr K (He.ga K "Circuit") "ands"
  n_Circuit_outputs : NoAttr K (He.ga K "Circuit") "outputs"
  c_Builder : Cls K (He.ga K "Builder")
  n_Builder_leaf_count : NoAttr K (He.ga K "Builder") "leaf_count"
  n_Builder_pairs : NoAttr K (He.ga K "Builder") "pairs"
  n_Builder__nodes : NoAttr K (He.ga K "Builder") "_nodes"
  n_Builder__levels : NoAttr K (He.ga K "Builder") "_levels"
  c_RuleBuilder : Cls K (He.ga K "RuleBuilder")
  n_RuleBuilder_leaf_count : NoAttr K (He.ga K "RuleBuilder") "leaf_count"
  n_RuleBuilder_pairs : NoAttr K (He.ga K "RuleBuilder") "pairs"
  n_RuleBuilder__nodes : NoAttr K (He.ga K "RuleBuilder") "_nodes"
  n_RuleBuilder__levels : NoAttr K (He.ga K "RuleBuilder") "_levels"
  c_AlikeCertificate : Cls K (He.ga K "AlikeCertificate")
  n_AlikeCertificate_facts : NoAttr K (He.ga K "AlikeCertificate") "facts"
  n_AlikeCertificate_start_lines : NoAttr K (He.ga K "AlikeCertificate") "start_lines"
  n_AlikeCertificate_lines : NoAttr K (He.ga K "AlikeCertificate") "lines"
  n_AlikeCertificate_next_lines : NoAttr K (He.ga K "AlikeCertificate") "next_lines"
  m_len : mg "len" = none
  m_sorted : mg "sorted" = none
  m_set : mg "set" = none
  m_tuple : mg "tuple" = none
  m_list : mg "list" = none
  m_range : mg "range" = none
  m_enumerate : mg "enumerate" = none
  m_min : mg "min" = none
  m_max : mg "max" = none
  m_int : mg "int" = none
  m_str : mg "str" = none
  m_isinstance : mg "isinstance" = none
  m_super : mg "super" = none
  MOST_INPUTS : ∃ t, mg "MOST_INPUTS" = some (.int ((16 : Nat) : Int) t)
  MOST_LATCHES : ∃ t, mg "MOST_LATCHES" = some (.int ((40 : Nat) : Int) t)
  MOST_ANDS : ∃ t, mg "MOST_ANDS" = some (.int ((2000 : Nat) : Int) t)
  MOST_OUTPUTS : ∃ t, mg "MOST_OUTPUTS" = some (.int ((32 : Nat) : Int) t)
  MOST_SIGNS : ∃ t, mg "MOST_SIGNS" = some (.int ((12 : Nat) : Int) t)
  FIRST_SIGNS : ∃ t, mg "FIRST_SIGNS" = some (.str "abcdefghijklmnopqrstuvwxyz" t)
  SIGNS : ∃ t, mg "SIGNS" = some (.str "abcdefghijklmnopqrstuvwxyz0123456789_" t)
  MOST_ROWS : ∃ t, mg "MOST_ROWS" = some (.int ((1000 : Nat) : Int) t)
/-! ### the fields of the classes -/
def F_Circuit (v0 v1 v2 v3 : V) : List (Str × V) := (putF "outputs" v3 (putF "ands" v2 (putF "latches" v1 (putF "inputs" v0 []))))
theorem F_Circuit_inputs (v0 v1 v2 v3 : V) : (F_Circuit v0 v1 v2 v3).lookup ("inputs" : Str) = some v0 := by
  unfold F_Circuit
  rw [lookup_putF, if_neg (by decide +kernel)]
  rw [lookup_putF, if_neg (by decide +kernel)]
  rw [lookup_putF, if_neg (by decide +kernel)]
  rw [lookup_putF, if_pos rfl]
theorem F_Circuit_latches (v0 v1 v2 v3 : V) : (F_Circuit v0 v1 v2 v3).lookup ("latches" : Str) = some v1 := by
  unfold F_Circuit
  rw [lookup_putF, if_neg (by decide +kernel)]
  rw [lookup_putF, if_neg (by decide +kernel)]
  rw [lookup_putF, if_pos rfl]
theorem F_Circuit_ands (v0 v1 v2 v3 : V) : (F_Circuit v0 v1 v2 v3).lookup ("ands" : Str) = some v2 := by
  unfold F_Circuit
  rw [lookup_putF, if_neg (by decide +kernel)]
  rw [lookup_putF, if_pos rfl]
theorem F_Circuit_outputs (v0 v1 v2 v3 : V) : (F_Circuit v0 v1 v2 v3).lookup ("outputs" : Str) = some v3 := by
  unfold F_Circuit
  rw [lookup_putF, if_pos rfl]
theorem F_Circuit_no_as_net (v0 v1 v2 v3 : V) : (F_Circuit v0 v1 v2 v3).lookup ("as_net" : Str) = none := by
  unfold F_Circuit
  rw [lookup_putF, if_neg (by decide +kernel)]
  rw [lookup_putF, if_neg (by decide +kernel)]
  rw [lookup_putF, if_neg (by decide +kernel)]
  rw [lookup_putF, if_neg (by decide +kernel)]
  rfl
def F_Net (v0 v1 v2 : V) : List (Str × V) := (putF "ands" v2 (putF "latches" v1 (putF "input_count" v0 [])))
theorem F_Net_input_count (v0 v1 v2 : V) : (F_Net v0 v1 v2).lookup ("input_count" : Str) = some v0 := by
  unfold F_Net
  rw [lookup_putF, if_neg (by decide +kernel)]
  rw [lookup_putF, if_neg (by decide +kernel)]
  rw [lookup_putF, if_pos rfl]
theorem F_Net_latches (v0 v1 v2 : V) : (F_Net v0 v1 v2).lookup ("latches" : Str) = some v1 := by
  unfold F_Net
  rw [lookup_putF, if_neg (by decide +kernel)]
  rw [lookup_putF, if_pos rfl]
theorem F_Net_ands (v0 v1 v2 : V) : (F_Net v0 v1 v2).lookup ("ands" : Str) = some v2 := by
  unfold F_Net
  rw [lookup_putF, if_pos rfl]
def F_Joined (v0 v1 v2 v3 v4 v5 v6 v7 : V) : List (Str × V) := (putF "goals" v7 (putF "joint" v6 (putF "_left_ands" v5 (putF "_right_latches" v4 (putF "_left_latches" v3 (putF "_right_limit" v2 (putF "_left_limit" v1 (putF "_last_input" v0 []))))))))
theorem F_Joined__last_input (v0 v1 v2 v3 v4 v5 v6 v7 : V) : (F_Joined v0 v1 v2 v3 v4 v5 v6 v7).lookup ("_last_input" : Str) = some v0 := by
  unfold F_Joined
  rw [lookup_putF, if_neg (by decide +kernel)]
  rw [lookup_putF, if_neg (by decide +kernel)]
  rw [lookup_putF, if_neg (by decide +kernel)]
  rw [lookup_putF, if_neg (by decide +kernel)]
  rw [lookup_putF, if_neg (by decide +kernel)]
  rw [lookup_putF, if_neg (by decide +kernel)]
  rw [lookup_putF, if_neg (by decide +kernel)]
  rw [lookup_putF, if_pos rfl]
theorem F_Joined__left_limit (v0 v1 v2 v3 v4 v5 v6 v7 : V) : (F_Joined v0 v1 v2 v3 v4 v5 v6 v7).lookup ("_left_limit" : Str) = some v1 := by
  unfold F_Joined
  rw [lookup_putF, if_neg (by decide +kernel)]
  rw [lookup_putF, if_neg (by decide +kernel)]
  rw [lookup_putF, if_neg (by decide +kernel)]
  rw [lookup_putF, if_neg (by decide +kernel)]
  rw [lookup_putF, if_neg (by decide +kernel)]
  rw [lookup_putF, if_neg (by decide +kernel)]
  rw [lookup_putF, if_pos rfl]
theorem F_Joined__right_limit (v0 v1 v2 v3 v4 v5 v6 v7 : V) : (F_Joined v0 v1 v2 v3 v4 v5 v6 v7).lookup ("_right_limit" : Str) = some v2 := by
  unfold F_Joined
  rw [lookup_putF, if_neg (by decide +kernel)]
  rw [lookup_putF, if_neg (by decide +kernel)]
  rw [lookup_putF, if_neg (by decide +kernel)]
  rw [lookup_putF, if_neg (by decide +kernel)]
  rw [lookup_putF, if_neg (by decide +kernel)]
  rw [lookup_putF, if_pos rfl]
theorem F_Joined__left_latches (v0 v1 v2 v3 v4 v5 v6 v7 : V) : (F_Joined v0 v1 v2 v3 v4 v5 v6 v7).lookup ("_left_latches" : Str) = some v3 := by
  unfold F_Joined
  rw [lookup_putF, if_neg (by decide +kernel)]
  rw [lookup_putF, if_neg (by decide +kernel)]
  rw [lookup_putF, if_neg (by decide +kernel)]
  rw [lookup_putF, if_neg (by decide +kernel)]
  rw [lookup_putF, if_pos rfl]
theorem F_Joined__right_latches (v0 v1 v2 v3 v4 v5 v6 v7 : V) : (F_Joined v0 v1 v2 v3 v4 v5 v6 v7).lookup ("_right_latches" : Str) = some v4 := by
  unfold F_Joined
  rw [lookup_putF, if_neg (by decide +kernel)]
  rw [lookup_putF, if_neg (by decide +kernel)]
  rw [lookup_putF, if_neg (by decide +kernel)]
  rw [lookup_putF, if_pos rfl]
theorem F_Joined__left_ands (v0 v1 v2 v3 v4 v5 v6 v7 : V) : (F_Joined v0 v1 v2 v3 v4 v5 v6 v7).lookup ("_left_ands" : Str) = some v5 := by
  unfold F_Joined
  rw [lookup_putF, if_neg (by decide +kernel)]
  rw [lookup_putF, if_neg (by decide +kernel)]
  rw [lookup_putF, if_pos rfl]
theorem F_Joined_joint (v0 v1 v2 v3 v4 v5 v6 v7 : V) : (F_Joined v0 v1 v2 v3 v4 v5 v6 v7).lookup ("joint" : Str) = some v6 := by
  unfold F_Joined
  rw [lookup_putF, if_neg (by decide +kernel)]
  rw [lookup_putF, if_pos rfl]
theorem F_Joined_goals (v0 v1 v2 v3 v4 v5 v6 v7 : V) : (F_Joined v0 v1 v2 v3 v4 v5 v6 v7).lookup ("goals" : Str) = some v7 := by
  unfold F_Joined
  rw [lookup_putF, if_pos rfl]
theorem F_Joined_no_from_left (v0 v1 v2 v3 v4 v5 v6 v7 : V) : (F_Joined v0 v1 v2 v3 v4 v5 v6 v7).lookup ("from_left" : Str) = none := by
  unfold F_Joined
  rw [lookup_putF, if_neg (by decide +kernel)]
  rw [lookup_putF, if_neg (by decide +kernel)]
  rw [lookup_putF, if_neg (by decide +kernel)]
  rw [lookup_putF, if_neg (by decide +kernel)]
  rw [lookup_putF, if_neg (by decide +kernel)]
  rw [lookup_putF, if_neg (by decide +kernel)]
  rw [lookup_putF, if_neg (by decide +kernel)]
  rw [lookup_putF, if_neg (by decide +kernel)]
  rfl
theorem F_Joined_no_from_right (v0 v1 v2 v3 v4 v5 v6 v7 : V) : (F_Joined v0 v1 v2 v3 v4 v5 v6 v7).lookup ("from_right" : Str) = none := by
  unfold F_Joined
  rw [lookup_putF, if_neg (by decide +kernel)]
  rw [lookup_putF, if_neg (by decide +kernel)]
  rw [lookup_putF, if_neg (by decide +kernel)]
  rw [lookup_putF, if_neg (by decide +kernel)]
  rw [lookup_putF, if_neg (by decide +kernel)]
  rw [lookup_putF, if_neg (by decide +kernel)]
  rw [lookup_putF, if_neg (by decide +kernel)]
  rw [lookup_putF, if_neg (by decide +kernel)]
  rfl
def F_Units (v0 v1 v2 : V) : List (Str × V) := (putF "shorts" v2 (putF "holders" v1 (putF "clauses" v0 [])))
theorem F_Units_clauses (v0 v1 v2 : V) : (F_Units v0 v1 v2).lookup ("clauses" : Str) = some v0 := by
  unfold F_Units
  rw [lookup_putF, if_neg (by decide +kernel)]
  rw [lookup_putF, if_neg (by decide +kernel)]
  rw [lookup_putF, if_pos rfl]
theorem F_Units_holders (v0 v1 v2 : V) : (F_Units v0 v1 v2).lookup ("holders" : Str) = some v1 := by
  unfold F_Units
  rw [lookup_putF, if_neg (by decide +kernel)]
  rw [lookup_putF, if_pos rfl]
theorem F_Units_shorts (v0 v1 v2 : V) : (F_Units v0 v1 v2).lookup ("shorts" : Str) = some v2 := by
  unfold F_Units
  rw [lookup_putF, if_pos rfl]
theorem F_Units_no_add_clause (v0 v1 v2 : V) : (F_Units v0 v1 v2).lookup ("add_clause" : Str) = none := by
  unfold F_Units
  rw [lookup_putF, if_neg (by decide +kernel)]
  rw [lookup_putF, if_neg (by decide +kernel)]
  rw [lookup_putF, if_neg (by decide +kernel)]
  rfl
theorem F_Units_no_settle (v0 v1 v2 : V) : (F_Units v0 v1 v2).lookup ("settle" : Str) = none := by
  unfold F_Units
  rw [lookup_putF, if_neg (by decide +kernel)]
  rw [lookup_putF, if_neg (by decide +kernel)]
  rw [lookup_putF, if_neg (by decide +kernel)]
  rfl
theorem F_Units_no_spread (v0 v1 v2 : V) : (F_Units v0 v1 v2).lookup ("spread" : Str) = none := by
  unfold F_Units
  rw [lookup_putF, if_neg (by decide +kernel)]
  rw [lookup_putF, if_neg (by decide +kernel)]
  rw [lookup_putF, if_neg (by decide +kernel)]
  rfl
theorem F_Units_no_follows (v0 v1 v2 : V) : (F_Units v0 v1 v2).lookup ("follows" : Str) = none := by
  unfold F_Units
  rw [lookup_putF, if_neg (by decide +kernel)]
  rw [lookup_putF, if_neg (by decide +kernel)]
  rw [lookup_putF, if_neg (by decide +kernel)]
  rfl
def F_Builder (v0 v1 v2 v3 : V) : List (Str × V) := (putF "_levels" v3 (putF "_nodes" v2 (putF "pairs" v1 (putF "leaf_count" v0 []))))
theorem F_Builder_leaf_count (v0 v1 v2 v3 : V) : (F_Builder v0 v1 v2 v3).lookup ("leaf_count" : Str) = some v0 := by
  unfold F_Builder
  rw [lookup_putF, if_neg (by decide +kernel)]
  rw [lookup_putF, if_neg (by decide +kernel)]
  rw [lookup_putF, if_neg (by decide +kernel)]
  rw [lookup_putF, if_pos rfl]
theorem F_Builder_pairs (v0 v1 v2 v3 : V) : (F_Builder v0 v1 v2 v3).lookup ("pairs" : Str) = some v1 := by
  unfold F_Builder
  rw [lookup_putF, if_neg (by decide +kernel)]
  rw [lookup_putF, if_neg (by decide +kernel)]
  rw [lookup_putF, if_pos rfl]
theorem F_Builder__nodes (v0 v1 v2 v3 : V) : (F_Builder v0 v1 v2 v3).lookup ("_nodes" : Str) = some v2 := by
  unfold F_Builder
  rw [lookup_putF, if_neg (by decide +kernel)]
  rw [lookup_putF, if_pos rfl]
theorem F_Builder__levels (v0 v1 v2 v3 : V) : (F_Builder v0 v1 v2 v3).lookup ("_levels" : Str) = some v3 := by
  unfold F_Builder
  rw [lookup_putF, if_pos rfl]
theorem F_Builder_no_pair_of (v0 v1 v2 v3 : V) : (F_Builder v0 v1 v2 v3).lookup ("pair_of" : Str) = none := by
  unfold F_Builder
  rw [lookup_putF, if_neg (by decide +kernel)]
  rw [lookup_putF, if_neg (by decide +kernel)]
  rw [lookup_putF, if_neg (by decide +kernel)]
  rw [lookup_putF, if_neg (by decide +kernel)]
  rfl
theorem F_Builder_no_level_of (v0 v1 v2 v3 : V) : (F_Builder v0 v1 v2 v3).lookup ("level_of" : Str) = none := by
  unfold F_Builder
  rw [lookup_putF, if_neg (by decide +kernel)]
  rw [lookup_putF, if_neg (by decide +kernel)]
  rw [lookup_putF, if_neg (by decide +kernel)]
  rw [lookup_putF, if_neg (by decide +kernel)]
  rfl
theorem F_Builder_no_both (v0 v1 v2 v3 : V) : (F_Builder v0 v1 v2 v3).lookup ("both" : Str) = none := by
  unfold F_Builder
  rw [lookup_putF, if_neg (by decide +kernel)]
  rw [lookup_putF, if_neg (by decide +kernel)]
  rw [lookup_putF, if_neg (by decide +kernel)]
  rw [lookup_putF, if_neg (by decide +kernel)]
  rfl
theorem F_Builder_no_simpler (v0 v1 v2 v3 : V) : (F_Builder v0 v1 v2 v3).lookup ("simpler" : Str) = none := by
  unfold F_Builder
  rw [lookup_putF, if_neg (by decide +kernel)]
  rw [lookup_putF, if_neg (by decide +kernel)]
  rw [lookup_putF, if_neg (by decide +kernel)]
  rw [lookup_putF, if_neg (by decide +kernel)]
  rfl
def F_AlikeCertificate (v0 v1 v2 v3 : V) : List (Str × V) := (putF "next_lines" v3 (putF "lines" v2 (putF "start_lines" v1 (putF "facts" v0 []))))
theorem F_AlikeCertificate_facts (v0 v1 v2 v3 : V) : (F_AlikeCertificate v0 v1 v2 v3).lookup ("facts" : Str) = some v0 := by
  unfold F_AlikeCertificate
  rw [lookup_putF, if_neg (by decide +kernel)]
  rw [lookup_putF, if_neg (by decide +kernel)]
  rw [lookup_putF, if_neg (by decide +kernel)]
  rw [lookup_putF, if_pos rfl]
theorem F_AlikeCertificate_start_lines (v0 v1 v2 v3 : V) : (F_AlikeCertificate v0 v1 v2 v3).lookup ("start_lines" : Str) = some v1 := by
  unfold F_AlikeCertificate
  rw [lookup_putF, if_neg (by decide +kernel)]
  rw [lookup_putF, if_neg (by decide +kernel)]
  rw [lookup_putF, if_pos rfl]
theorem F_AlikeCertificate_lines (v0 v1 v2 v3 : V) : (F_AlikeCertificate v0 v1 v2 v3).lookup ("lines" : Str) = some v2 := by
  unfold F_AlikeCertificate
  rw [lookup_putF, if_neg (by decide +kernel)]
  rw [lookup_putF, if_pos rfl]
theorem F_AlikeCertificate_next_lines (v0 v1 v2 v3 : V) : (F_AlikeCertificate v0 v1 v2 v3).lookup ("next_lines" : Str) = some v3 := by
  unfold F_AlikeCertificate
  rw [lookup_putF, if_pos rfl]
theorem pe_gint {X : Cx} {x : Str} {i : Int} {pos : Pos} (hg : Gl X x) (h : ∃ t, X.mg x = some (.int i t)) (hd : (x == ("__debug__" : Str)) = false := by decide) : PE X (.Name x pos) (tC (.int i)) := by
  obtain ⟨t, h⟩ := h
  exact pe_glob hg h ⟨t, rfl⟩ hd
theorem pe_gstr {X : Cx} {x z : Str} {pos : Pos} (hg : Gl X x) (h : ∃ t, X.mg x = some (.str z t)) (hd : (x == ("__debug__" : Str)) = false := by decide) : PE X (.Name x pos) (tC (.str z)) := by
  obtain ⟨t, h⟩ := h
  exact pe_glob hg h ⟨t, rfl⟩ hd
end Sg
/-! part SgSup -/
set_option Elab.async false
set_option maxRecDepth 100000
set_option linter.unusedVariables false
set_option maxHeartbeats 1000000
namespace Sg
open PySem PySem.Spec PyProof.Rows L2 LamX NdefX ClX
/-! ### super().m(..) in a method of an own class -/
section
variable (P : Program) (w : World) (K : PySem.W.Frag) (mg : Str → Option Value) (base : Heap)
/-- super(D, an instance of C).m keeps the promise -/
def SupOk (k : Nat) (C D : Addr) (m : Str) (ps : List Str) (sp : Sp) : Prop := ∃ (g : Addr) (fd : FuncData), PySem.W.ks_superIn K C D m = some (some (.ref g)) ∧ PySem.W.typeIn K (.ref g) = some (.type "function") ∧ PySem.W.fnIn K g = true ∧ Binds K fd ps [] ∧ FnOk P w K mg base CX0 k g fd ps sp
/-- a method f of the class at D, whose cell of __class__ is cc -/
structure FunS (prog : Program) (K : PySem.W.Frag) (D : Addr) (x qual : Str) (params : Arguments) (body : List Stmt) (scope : Scope) (f cc c : Addr) (fd : FuncData) : Prop where
  ex : ∃ (oc : Value) (od : Option Addr) (kV doc pm : Value) (an : Option Addr) (ct : Value) (osl : Array (Option Value)),
    fd = PySem.W.fnX x qual params body scope [("__class__", cc)] .none kV doc pm an (.ref c) ct ∧ K.lookup f = some ⟨oc, od, .func fd, osl⟩
  code : PySem.W.codeIn K (.ref c) qual = true
  file : ∃ (oc : Value) (od : Option Addr) (vs : Array Value) (osl : Array (Option Value)) (fi : Str) (tf : Tok), K.lookup c = some ⟨oc, od, .fields vs, osl⟩ ∧ vs[2]? = some (.str fi tf) ∧ ((prog.main.file : Str) == fi) = true
  cell : ∃ (oc : Value) (od : Option Addr) (osl : Array (Option Value)), K.lookup cc = some ⟨oc, od, .cell (some (.ref D)), osl⟩
  cls : ∃ cd, PySem.W.clsIn K D = some cd
  any : PySem.W.nsIn K cStatics "thirdparty.any" = some none
  top : (prog.main.scope.names.lookup ("super" : Str)).isSome = false
end
section
variable {P : Program} {w : World} {K : PySem.W.Frag} {mg : Str → Option Value} {base : Heap}
theorem FunS.binds {x qual : Str} {params : Arguments} {body : List Stmt} {scope : Scope} {D f cc c : Addr} {fd : FuncData} {ps : List Str} (F : FunS P K D x qual params body scope f cc c fd)
    (h : ∀ (kV doc pm : Value) (an : Option Addr) (cdv ct : Value) (us : List Value), us.length = ps.length → bindArgs (PySem.W.fnX x qual params body scope [("__class__", cc)] .none kV doc pm an cdv ct) ⟨us, []⟩ = pure (ps.zip us)) : Binds K fd ps [] := by
  obtain ⟨oc, od, kV, doc, pm, an, ct, osl, rfl, lk⟩ := F.ex
  exact .all (h kV doc pm an _ ct)
theorem wp_execs_app {M : Model} {Γ : PySem.Ctx} {env : Env} {rest : List Stmt} {E : Value → Pos → Shared → Prop} {Q : Flow → Pos → Shared → Prop} : ∀ (a : List Stmt) {p : Pos} {s : Shared},
    Sem.wp M Γ (execs a env) (fun fl p' s' => match fl with | .next => Sem.wp M Γ (execs rest env) Q E p' s' | f => Q f p' s') E p s → Sem.wp M Γ (execs (a ++ rest) env) Q E p s
  | [], p, s, h => by
    have e : execs [] env = pure Flow.next := rfl
    rw [e, Sem.wp_pure'] at h
    exact h
  | st :: a, p, s, h => by
    rw [execs_cons, Sem.wp_bind'] at h
    show Sem.wp M Γ (execs (st :: (a ++ rest)) env) Q E p s
    rw [execs_cons, Sem.wp_bind']
    refine Sem.wp_mono M Γ _ (fun f p' s' h' => ?_) (fun _ _ _ z => z) _ _ h
    cases f with
    | next => exact wp_execs_app a h'
    | _ =>
      rw [Sem.wp_pure'] at h' ⊢
      exact h'
theorem wpAt_execs_app {M : Model} {A : Around} {c : Code} {env : Env} {E : Value → Shared → Prop} {rest : List Stmt} {Q : Flow → Shared → Prop} (a : List Stmt) {s : Shared}
    (h : wpAny M A (execs a env) (fun fl s' => match fl with | .next => _root_.PySem.wpAt M A c (execs rest env) Q E s' | f => Q f s') E s) : _root_.PySem.wpAt M A c (execs (a ++ rest) env) Q E s := by
  intro Γ p hc hΓ
  refine wp_execs_app a (Sem.wp_mono M Γ _ (fun f p' s' h' => ?_) (fun _ _ _ z => z) _ _ (h Γ p hΓ))
  cases f with
  | next => exact h' Γ p' hc hΓ
  | _ => exact h'
/-- THE RULE: a method whose last statement returns super().m(..) -/
theorem sup_ok {x qual m : Str} {params : Arguments} {body init : List Stmt} {scope : Scope} {C D f cc c : Addr} {fd : FuncData} {N ps ps2 : List Str} {ar : Arg} {k k2 : Nat} {sp sp2 : Sp} {p0 p1 pos rpos apos : Pos} {e : Expr} {es : List Expr} {pl : Sem Bool}
    (F : FunS P K D x qual params body scope f cc c fd) (S : NScope N ps ["__class__"] scope) (len : ∀ vs H Q E, sp vs H Q E → vs.length = ps.length)
    (G : SupOk P w K mg base k2 C D m ps2 sp2) (hk : k2 ≤ k) (mb : mg "super" = none)
    (hbd : body = init ++ [.Return (some (.Call (.Attribute (.Call (.Name "super" p0) [] [] p1) m apos) (e :: es) [] pos)) rpos])
    (hp : (params.posonlyargs ++ params.args).head? = some ar) (ha0 : N[0]? = some ar.arg) (hal : scope.names.lookup ar.arg = some .local) (hks : scope.names.lookup ("super" : Str) = some .globalImplicit) (hkc : scope.names.lookup ("__class__" : Str) = some .free)
    (hm : (m == ("__class__" : Str)) = false) (hsub : PySem.W.mroIn K C (.ref D) = some true) (hst : ∀ env : Env, starEach (e :: es) env = (false, eval e env) :: starEach es env) (hpl : ∀ env : Env, (backTo pos (starEach es env)).any (·.1) = false)
    (hev : ∀ env : Env, eval (.Call (.Attribute (.Call (.Name "super" p0) [] [] p1) m apos) (e :: es) [] pos) env = (do
      let ov ← attributeBase (.Call (.Name "super" p0) [] [] p1) m env (eval (.Call (.Name "super" p0) [] [] p1) env)
      standAt apos.atName
      let (f, first) ← holding [ov] (getMethod ov m pl)
      callWith pos f first (backTo pos (starEach (e :: es) env)) []))
    (hbody : ∀ (A : Around) (outer : List Env) (s : Shared) (H : Hp) (vs : List V) (Q : VK) (E : XK), Room k (A.deeper (envF ⟨x, qual, params, body, scope, [("__class__", cc)], c⟩ f s.heap.objs.size)) → sp vs H Q E →
      ∃ t tA, PSs (ncx CX0 P w K mg base N ⟨x, qual, params, body, scope, [("__class__", cc)], c⟩ f A outer s H E) init t ∧ PA (ncx CX0 P w K mg base N ⟨x, qual, params, body, scope, [("__class__", cc)], c⟩ f A outer s H E) (e :: es) tA ∧
        t { nx := fun σ H' => ∃ a dx fs, σ[0]? = some (some (.ref a)) ∧ H' a = some (.ins C dx fs) ∧ tA σ H' fun vs H2 => sp2 (.ref a :: vs) H2 Q E0, rt := Q } (startF N vs [some (.ref D)]) H) :
    FnOk P w K mg base CX0 (k + 1) f fd ps sp := by
  obtain ⟨oc, od, kV, doc, pm, an, ct, osl, rfl, lk⟩ := F.ex
  obtain ⟨occ, odc, oslc, lc⟩ := F.cell
  obtain ⟨ofc, ofd, fvs, fsl, fi, tf, lf, hvs, hfile⟩ := F.file
  obtain ⟨cdD, hD⟩ := F.cls
  obtain ⟨g, fdg, hsup, htyg, hfng, hbg, FG⟩ := G
  have hcd := F.code
  refine ⟨len, fun A outer s H args us vs Q E hr e0 hb r hsp => ?_⟩
  have hl := len _ _ _ _ hsp
  have KX : K.In s.heap := e0.mod.kin.keeps fun b o e => (e0.bs b o e).1
  have lim : s.heap.NoLimit := e0.mod.nolimit.keeps fun b o e => (e0.bs b o e).1
  have hloc : ∀ y ∈ ps.zip us, scope.names.lookup y.1 = some .local := fun ⟨n, v⟩ hy => S.par n (List.of_mem_zip hy).1
  refine codeAny_call_function hr.depth (KX _ _ lk) rfl S.co S.gen rfl (PySem.W.codeRec_of KX hcd) (hb _ _ _ _ ?_)
  refine wpAny_newFunctionEnv S.nocell hloc (fun h₁ hns hsb => ⟨lim.fresh _ hsb, ?_⟩) S.kind
  have C0 : CellsAt [("__class__", cc)] ["__class__"] [some (.ref D)] s.heap H := by
    have look : ∀ y c', List.lookup y [(("__class__" : Str), cc)] = some c' → y = "__class__" ∧ c' = cc := fun y c' e => by
      rw [List.lookup_cons] at e
      split at e
      · rename_i q
        cases e
        exact ⟨by simpa using q, rfl⟩
      · cases e
    have bc := e0.bs _ _ (e0.mod.kin _ _ lc)
    refine ⟨rfl, fun y c' e => ?_, fun y z c' e1 e2 => ?_, fun i y e => ?_⟩
    · obtain ⟨rfl, rfl⟩ := look y c' e
      exact ⟨bc.2, _, _, bc.1, rfl⟩
    · rw [(look y c' e1).1, (look z c' e2).1]
    · match i, e with
      | 0, e =>
        cases e
        refine ⟨cc, by rw [List.lookup_cons]; simp, fun v hv => ?_⟩
        cases hv
        exact ⟨_, rfl, _, bc.1, rfl⟩
      | i + 1, e => simp at e
  show codeAny _ _ (.func _ (envF ⟨x, qual, params, body, scope, [("__class__", cc)], c⟩ f s.heap.objs.size)) _ _
  refine ks_codeAny_funcAt ?_
  have kp : ∀ b o, s.heap.get? b = some o → h₁.get? b = some o := fun b o e => hsb.extBut b o (Nat.ne_of_lt (Heap.lt_size e)) (Heap.get?_push_of_some _ e)
  obtain ⟨t, tA, ht, htA, hq⟩ := hbody A outer s H vs Q E (hr.deeper _) hsp
  have I := inv_startN (CX := CX0) (P := P) (w := w) (f := f) (A := A) (outer := outer) (E := E) (F := ⟨x, qual, params, body, scope, [("__class__", cc)], c⟩) (tk := s.toks + (ps.zip us).length) S hr.hd e0 hl r C0 hns kp
  have hroom : Room k (A.deeper (envF ⟨x, qual, params, body, scope, [("__class__", cc)], c⟩ f s.heap.objs.size)) := hr.deeper _
  rw [show execs body = execs (init ++ [.Return (some (.Call (.Attribute (.Call (.Name "super" p0) [] [] p1) m apos) (e :: es) [] pos)) rpos]) from congrArg execs hbd]
  refine wpAt_execs_app init ?_
  refine wpAny_mono (ht.run [] _ _ H _ I hq) (fun fl s' hs => ?_) fun e s' hs => hs
  cases fl with
  | ret u =>
    obtain ⟨v, σ', H', J, rv, q⟩ := hs
    exact ⟨v, H', J.os, J.bare, J.base, J.hok, rv, q⟩
  | brk =>
    obtain ⟨_, _, _, q⟩ := hs
    exact False.elim q
  | cont =>
    obtain ⟨_, _, _, q⟩ := hs
    exact False.elim q
  | next =>
    obtain ⟨σ', H', J, a, dx, fs, hσ, ha, q⟩ := hs
    refine ks_wpAt_execs_cons (ks_wpAt_mono (Q := fun fl s'' => ∃ u, fl = .ret u ∧ EP (ncx CX0 P w K mg base N ⟨x, qual, params, body, scope, [("__class__", cc)], c⟩ f A outer s H E) [] σ' Q u s'') ?_ (fun fl s'' hf => ?_) (fun _ _ z => z))
    · have KX' : K.In s'.heap := J.kIn
      refine ks_wpAt_Return_some (ks_wpAt_MethodCall ?_ (hev _))
      refine ks_wpAt_super_base hks hkc hm rfl (KX' _ _ lk) rfl hp rfl (KX' _ _ lf) rfl hvs hfile F.top ?_
      obtain ⟨mb', h1, h2⟩ := J.mod.blt
      refine PySem.W.ks_loadName_global J.ok.kind hks (Calls.loadGlobal_builtin (show s'.heap.Ns mainGlobals mg from J.mod.glob.keeps J.bk) mb (show _ from h1.keeps J.bk) ((h2 "super" (by decide)).trans (show bootBuiltins "super" = some (.type "super") by kernel_rfl)) ⟨rfl, ?_⟩)
      refine wpAny_loadName_free J.ok.kind hkc (show List.lookup _ [(("__class__" : Str), cc)] = some cc by rw [List.lookup_cons]; simp) ⟨_, KX' _ _ lc, rfl⟩ ?_
      obtain ⟨m', hn, hlook⟩ := J.loc
      obtain ⟨u, ru, lu⟩ := hlook 0 ar.arg (.ref a) ha0 hσ (.inl hal)
      obtain rfl : u = Value.ref a := ru
      have hma : m' ar.arg = some (.ref a) := by
        rcases lu with ⟨_, z⟩ | ⟨z, _⟩
        · exact z
        · rcases z with z | z
          · have z : scope.names.lookup ar.arg = some .cell := z
            rw [hal] at z; cases z
          · have z : scope.names.lookup ar.arg = some .free := z
            rw [hal] at z; cases z
      refine wpAny_loadName_local J.ok.kind hal hn hma ?_
      obtain ⟨oD, hD1, hD2⟩ : ∃ oD, s'.heap.get? D = some oD ∧ oD.data = .cls cdD := by
        unfold PySem.W.clsIn at hD
        split at hD
        · rename_i c d cd' sl ho
          cases hD
          exact ⟨_, KX' _ _ ho, rfl⟩
        · cases hD
      refine ks_wpAny_isType_cls hD1 hD2 ⟨rfl, ?_⟩
      obtain ⟨mA, O, _⟩ := ins_get J.hok ha
      obtain ⟨ob, hob, _⟩ := lookIn_ns O.ns
      have IA : PySem.W.InstAt s'.heap a (PySem.W.instObj C dx) C (some ob) := ⟨O.obj, rfl, rfl, hob⟩
      refine ks_wpAny_call_super hD1 hD2 IA.at_ IA.cls (fun c' e' => ?_) (PySem.W.looks_mroIn KX' hsub) (fun h' e' kp' => ?_)
      · have := IA.no
        unfold PySem.W.notCls at this
        rw [e'] at this
        exact Bool.noConfusion this
      have J2 := J.kept (t' := s'.toks) (h' := h') kp'
      have KX2 : K.In h' := J2.kIn
      cases hcC : PySem.W.clsIn K C with
      | none => unfold PySem.W.ks_superIn at hsup; rw [hcC] at hsup; cases hsup
      | some cdC =>
        unfold PySem.W.ks_superIn at hsup
        rw [hcC] at hsup
        obtain ⟨og, hog, hogc⟩ : ∃ og, h'.get? g = some og ∧ og.cls = .type "function" := by
          have ht' : (K.lookup g).map (·.cls) = some (.type "function") := htyg
          cases z : K.lookup g with
          | none => rw [z] at ht'; cases ht'
          | some og => rw [z] at ht'; exact ⟨og, KX2 _ _ z, Option.some.inj ht'⟩
        refine ks_wpAny_getMethod_super e' (PySem.W.looks_opaque KX2 F.any) (l₀ := cdC.mro) (fun A Q E s k q => wpAny_bind ((PySem.W.looks_clsIn KX2 hcC) A _ E s k (wpAny_pure q))) rfl KX2 hsup hog hogc (PySem.W.ks_ne KX' IA hcC) hm ?_
        have J3 := met_new (g := g) (C := a) J2
        refine callwith_cm J3 (base_none J2 (Nat.le_refl _)) hfng ?_ (hst _) (hpl _)
        refine thn (htA.run pos _ _ σ' H' _ J3 q) fun us3 s3 ⟨vs3, H3, J4, r4, q4⟩ => ⟨⟨pin_at J4, J4.kIn⟩, ?_⟩
        have FR : FnR P w K mg base CX0 k2 g (fun vs H Q E => sp2 (vs ++ []) H Q E) := FG.raw hbg .nil
        have := run_cm (C := a) (E := E0) (Q := Q) FR (hroom.mono hk) pass0 J4 r4 (by show sp2 (.ref a :: (vs3 ++ [])) H3 Q E0; rw [List.append_nil]; exact q4)
        exact thn this fun u4 s4 h4 => ⟨u4, rfl, h4⟩
    · obtain ⟨u, rfl, v, H2, J2, rv, q2⟩ := hf
      exact ⟨v, H2, J2.os, J2.bare, J2.base, J2.hok, rv, q2⟩
end
end Sg
/-! part SgHk -/
set_option Elab.async false
set_option maxRecDepth 100000
set_option linter.unusedVariables false
set_option maxHeartbeats 2000000
namespace Sg
open PySem PySem.Spec PyProof.Rows L2 He
/-! ### the head's facts: those of the kit's hooks, functions that stand elsewhere, a closure -/
abbrev FnZ : Type := Option (Str × Str × Arguments × FuncBody × Scope × Addr × Addr)
def fnZ (K : PySem.W.Frag) (a : Addr) : FnZ := match K.lookup a with
  | some ⟨_, _, .func fd, _⟩ => some (fd.name, fd.qualname, fd.params, fd.body, fd.scope, fd.globals, fd.builtins)
  | _ => none
/-- a function by its statement -/
def valZ (x q : Str) (st : Stmt) : FnZ := some (x, q, defArgs st, .stmts (defBody st), defScope st, mainGlobals, builtinsNs)
abbrev Fx : Type := (PySem.W.Frag → Addr) × FnZ
/-- the property m of the class C, its getter -/
def prA (K : PySem.W.Frag) (C m : Str) : Addr := ma K (ga K C) m
def gtA (K : PySem.W.Frag) (C m : Str) : Addr := match PySem.W.recIn K (prA K C m) "property" with
  | some (.ref g :: _) => g
  | _ => 0
def codeOfA (K : PySem.W.Frag) (a : Addr) : Value := match K.lookup a with
  | some ⟨_, _, .func fd, _⟩ => fd.code
  | _ => .none
/-- a function at a: no defaults, its closure these cells -/
def fnB (K : PySem.W.Frag) (a : Addr) (q : Str) (cl : List (Str × Addr)) : Bool := match K.lookup a with
  | some ⟨_, _, .func fd, _⟩ => PySem.W.codeIn K fd.code q && (decide (fd.closure = cl) && decide (fd.defaults = .none))
  | _ => false
def propB (K : PySem.W.Frag) (C m q : Str) : Bool :=
  eqO (PySem.W.findIn K (.ref (ga K C)) m) (some (some (.ref (prA K C m)))) && (eqO (PySem.W.specialIn K (.ref (prA K C m)) "__get__") (some (some (.builtin "property.__get__"))) && (decide (PySem.W.takesIn K (.ref (prA K C m)) = some true) &&
    ((match PySem.W.recIn K (prA K C m) "property" with
      | some (.ref _ :: _) => true
      | _ => false) && (PySem.W.keepIn K (.ref (gtA K C m)) && fnB K (gtA K C m) q []))))
theorem fnZ_at {K : PySem.W.Frag} {a : Addr} {x q : Str} {st : Stmt} {cl : List (Str × Addr)} (e : fnZ K a = valZ x q st) (c : fnB K a q cl = true) :
    ∃ (oc : Value) (od : Option Addr) (kV doc pm : Value) (an : Option Addr) (cdv ct : Value) (osl : Array (Option Value)), K.lookup a = some ⟨oc, od, .func (PySem.W.fnX x q (defArgs st) (defBody st) (defScope st) cl .none kV doc pm an cdv ct), osl⟩ ∧ PySem.W.codeIn K cdv q = true ∧ codeOfA K a = cdv := by
  unfold fnZ at e
  unfold fnB at c
  unfold codeOfA
  cases w : K.lookup a with
  | none => rw [w] at c; cases c
  | some o =>
    obtain ⟨oc, od, dt, osl⟩ := o
    rw [w] at c e
    cases dt with
    | func fd =>
      obtain ⟨n1, n2, n3, n4, n5, n6, n7, n8, n9, n10, n11, n12, n13, n14, n15⟩ := fd
      have e2 : (some (n1, n2, n3, n4, n5, n6, n15) : FnZ) = some (x, q, defArgs st, .stmts (defBody st), defScope st, mainGlobals, builtinsNs) := e
      simp only [Option.some.injEq, Prod.mk.injEq] at e2
      obtain ⟨h1, h2, h3, h4, h5, h6, h7⟩ := e2
      subst h1 h2 h3 h4 h5 h6 h7
      obtain ⟨c1, c2⟩ := ba (show (PySem.W.codeIn K n13 n2 && (decide (n7 = cl) && decide (n8 = .none))) = true from c)
      obtain ⟨c3, c4⟩ := ba c2
      have e7 := of_decide_eq_true c3
      have e8 := of_decide_eq_true c4
      subst e7 e8
      exact ⟨oc, od, _, _, _, _, _, _, osl, rfl, c1, rfl⟩
    | _ => cases c
theorem propB_ok {K : PySem.W.Frag} {C m q : Str} (c : propB K C m q = true) : PropOf K (ga K C) m (prA K C m) (gtA K C m) ∧ PySem.W.keepIn K (.ref (gtA K C m)) = true ∧ fnB K (gtA K C m) q [] = true := by
  obtain ⟨c1, c⟩ := ba c
  obtain ⟨c2, c⟩ := ba c
  obtain ⟨c3, c⟩ := ba c
  obtain ⟨c4, c⟩ := ba c
  obtain ⟨c5, c6⟩ := ba c
  refine ⟨⟨eqO_ok c1, eqO_ok c2, of_decide_eq_true c3, ?_⟩, c5, c6⟩
  unfold gtA
  split at c4
  · rename_i g rest e
    rw [e]
    exact ⟨rest, rfl⟩
  · cases c4
theorem funD_at {K : PySem.W.Frag} {a : Addr} {x q : Str} {st : Stmt} (e : fnZ K a = valZ x q st) (c : fnB K a q [] = true) (kp : PySem.W.keepIn K (.ref a) = true) : ∃ fd, FunD K x q (defArgs st) (defBody st) (defScope st) [] [] a fd := by
  obtain ⟨oc, od, kV, doc, pm, an, cdv, ct, osl, lk, hc, _⟩ := fnZ_at e c
  exact ⟨_, ⟨oc, od, .none, kV, doc, pm, an, cdv, ct, osl, rfl, lk, hc, .inl ⟨rfl, rfl⟩, .inl rfl⟩, kp⟩
/-! ### super() -/
def celA (K : PySem.W.Frag) (a : Addr) (x : Str) : Addr := match K.lookup a with
  | some ⟨_, _, .func fd, _⟩ => (match fd.closure.lookup x with
    | some c => c
    | none => 0)
  | _ => 0
def codA (K : PySem.W.Frag) (a : Addr) : Addr := match codeOfA K a with
  | .ref c => c
  | _ => 0
def supB (K : PySem.W.Frag) (D m q fi : Str) : Bool :=
  fnB K (ma K (ga K D) m) q [("__class__", celA K (ma K (ga K D) m) "__class__")] && ((match K.lookup (codA K (ma K (ga K D) m)) with
    | some ⟨_, _, .fields vs, _⟩ => (match (vs[2]? : Option Value) with
      | some (Value.str z _) => fi == z
      | _ => false)
    | _ => false) && ((match K.lookup (celA K (ma K (ga K D) m) "__class__") with
    | some ⟨_, _, .cell (some (.ref E)), _⟩ => decide (E = ga K D)
    | _ => false) && (PySem.W.isClsIn K (ga K D) && eqO (PySem.W.nsIn K cStatics "thirdparty.any") (some none))))
theorem supB_ok {P : Program} {K : PySem.W.Frag} {D m q : Str} {st : Stmt} (c : supB K D m q P.main.file = true) (e : fnZ K (ma K (ga K D) m) = valZ m q st) (ht : (P.main.scope.names.lookup ("super" : Str)).isSome = false) :
    ∃ fd, FunS P K (ga K D) m q (defArgs st) (defBody st) (defScope st) (ma K (ga K D) m) (celA K (ma K (ga K D) m) "__class__") (codA K (ma K (ga K D) m)) fd := by
  obtain ⟨c1, c⟩ := ba c
  obtain ⟨c2, c⟩ := ba c
  obtain ⟨c3, c⟩ := ba c
  obtain ⟨c4, c5⟩ := ba c
  obtain ⟨oc, od, kV, doc, pm, an, cdv, ct, osl, lk, hc, hco⟩ := fnZ_at e c1
  obtain ⟨ca, rfl⟩ := codeIn_ref hc
  have eca : codA K (ma K (ga K D) m) = ca := by
    unfold codA
    rw [hco]
  rw [eca] at c2 ⊢
  refine ⟨_, ⟨⟨oc, od, kV, doc, pm, an, ct, osl, rfl, lk⟩, hc, ?_, ?_, ?_, eqO_ok c5, ht⟩⟩
  · split at c2
    · rename_i oc2 od2 vs osl2 e2
      split at c2
      · rename_i z tz e3
        exact ⟨oc2, od2, vs, osl2, z, tz, e2, e3, c2⟩
      · cases c2
    · cases c2
  · split at c3
    · rename_i oc2 od2 E osl2 e2
      have eE := of_decide_eq_true c3
      subst eE
      exact ⟨oc2, od2, osl2, e2⟩
    · cases c3
  · unfold PySem.W.isClsIn at c4
    exact Option.isSome_iff_exists.mp c4
def subB (K : PySem.W.Frag) (D B m : Str) : Bool := decide (PySem.W.ks_superIn K (ga K D) (ga K D) m = some (some (.ref (ma K (ga K B) m)))) && (decide (PySem.W.typeIn K (.ref (ma K (ga K B) m)) = some (.type "function")) && (PySem.W.fnIn K (ma K (ga K B) m) && decide (PySem.W.mroIn K (ga K D) (.ref (ga K D)) = some true)))
theorem subB_ok {K : PySem.W.Frag} {D B m : Str} (c : subB K D B m = true) : PySem.W.ks_superIn K (ga K D) (ga K D) m = some (some (.ref (ma K (ga K B) m))) ∧ PySem.W.typeIn K (.ref (ma K (ga K B) m)) = some (.type "function") ∧ PySem.W.fnIn K (ma K (ga K B) m) = true ∧ PySem.W.mroIn K (ga K D) (.ref (ga K D)) = some true := by
  obtain ⟨c1, c⟩ := ba c
  obtain ⟨c2, c⟩ := ba c
  obtain ⟨c3, c4⟩ := ba c
  exact ⟨of_decide_eq_true c1, of_decide_eq_true c2, c3, of_decide_eq_true c4⟩
def insB (K : PySem.W.Frag) (C : Str) : Bool := eqO (PySem.W.findIn K (.ref (ga K C)) "__class__") (some (some (.builtin "object.__class__"))) && (eqO (PySem.W.specialIn K (.builtin "object.__class__") "__get__") (some (some (.builtin "getset_descriptor.__get__"))) &&
  (decide (PySem.W.takesIn K (.builtin "object.__class__") = some true) && (decide (PySem.W.mroIn K (ga K C) (.type "object") = some true) && decide (PySem.W.kitOne K (.ref (ga K C)) (.ref (ga K C)) = some true))))
theorem insB_ok {K : PySem.W.Frag} {C : Str} (c : insB K C = true) (h : Cls K (ga K C)) : C8.InsC K (ga K C) := by
  obtain ⟨c1, c⟩ := ba c
  obtain ⟨c2, c⟩ := ba c
  obtain ⟨c3, c⟩ := ba c
  obtain ⟨c4, c5⟩ := ba c
  exact ⟨h, eqO_ok c1, eqO_ok c2, of_decide_eq_true c3, of_decide_eq_true c4, of_decide_eq_true c5⟩
/-! ### the hook -/
def asZ (fx : List Fx) (g : Addr → Option Obj) (n : Nat) : List Addr := cStatics :: (asD g n ++ fx.flatMap fun q => match g (q.1 (frG g (asD g n))) with
  | some o => refsO o
  | none => [])
abbrev AlZ : Type := AlD × Bool × List FnZ
def obsZ (n : Nat) (fa : List Fa) (fn : List DefD) (tf : List Defn) (ex : PySem.W.Frag → Bool) (fx : List Fx) (g : Addr → Option Obj) : AlZ :=
  (obsD fa fn (frT g (asZ fx g n)), ex (frT g (asZ fx g n)) && tabsB g tf (frT g (asZ fx g n)), fx.map fun q => fnZ (frT g (asZ fx g n)) (q.1 (frT g (asZ fx g n))))
structure SaysZ (fa : List Fa) (fn : List DefD) (tf : List Defn) (ex : PySem.W.Frag → Bool) (fx : List Fx) (h : Heap) (K : PySem.W.Frag) : Prop where
  d : SaysD fa fn K
  more : ex K = true
  hd : ∀ p ∈ tf, PySem.W.codeHdIn K (cT K p).1 (cT K p).2 = true
  out : ∀ p ∈ tf, K.lookup (cT K p).2 = none
  empty : ∀ p ∈ tf, h.get? (cT K p).2 = some { cls := .none, data := .fields #[] }
  fns : fx.map (fun q => fnZ K (q.1 K)) = fx.map (·.2)
theorem saysZ_of {n : Nat} {fa : List Fa} {fn : List DefD} {tf : List Defn} {ex : PySem.W.Frag → Bool} {fx : List Fx} {h : Heap} (e : obsZ n fa fn tf ex fx h.get? = (valD fn, true, fx.map (·.2))) : SaysZ fa fn tf ex fx h (frT h.get? (asZ fx h.get? n)) := by
  have e1 : obsD fa fn (frT h.get? (asZ fx h.get? n)) = valD fn := congrArg (fun z : AlZ => z.1) e
  have e2 : (ex (frT h.get? (asZ fx h.get? n)) && tabsB h.get? tf (frT h.get? (asZ fx h.get? n))) = true := congrArg (fun z : AlZ => z.2.1) e
  have e3 : (fx.map fun q => fnZ (frT h.get? (asZ fx h.get? n)) (q.1 (frT h.get? (asZ fx h.get? n)))) = fx.map (·.2) := congrArg (fun z : AlZ => z.2.2) e
  generalize hK : frT h.get? (asZ fx h.get? n) = K at *
  obtain ⟨h1, h2⟩ := ba e2
  have key : ∀ p ∈ tf, PySem.W.codeHdIn K (cT K p).1 (cT K p).2 = true ∧ ∃ o, h.get? (cT K p).2 = some o ∧ emptyTab o = true := fun p hp => by
    obtain ⟨h3, h4⟩ := ba (List.all_eq_true.mp h2 p hp)
    refine ⟨h3, ?_⟩
    cases q : h.get? (cT K p).2 with
    | none => rw [q] at h4; cases h4
    | some o => rw [q] at h4; exact ⟨o, rfl, h4⟩
  refine ⟨e1, h1, fun p hp => (key p hp).1, fun p hp => ?_, fun p hp => ?_, e3⟩
  · obtain ⟨_, o, q, z⟩ := key p hp
    rw [← hK] at q ⊢
    exact frT_none q z
  · obtain ⟨_, o, q, z⟩ := key p hp
    rw [q, emptyTab_eq z]
def hookZ (n : Nat) (fa : List Fa) (fn : List DefD) (tf : List Defn) (ex : PySem.W.Frag → Bool) (fx : List Fx) : PySem.W.Hook where
  α := AlZ
  obs := fun s => obsZ n fa fn tf ex fx s.heap.get?
  val := fun _ => (valD fn, true, fx.map (·.2))
  says := fun _ h => ∃ K : PySem.W.Frag, K.In h ∧ SaysZ fa fn tf ex fx h K
  of := fun _ _ e => ⟨_, frT_in, saysZ_of e⟩
  keeps := fun _ _ _ ⟨K, hK, c⟩ k => ⟨K, PySem.W.Frag.In.keeps hK k, c.d, c.more, c.hd, c.out, fun p hp => k _ _ (c.empty p hp), c.fns⟩
theorem obsZ_eq {n : Nat} {fa : List Fa} {fn : List DefD} {tf : List Defn} {ex : PySem.W.Frag → Bool} {fx : List Fx} {g : Addr → Option Obj} {s : Shared} (h : ∀ a, g a = s.heap.get? a) : obsZ n fa fn tf ex fx g = (hookZ n fa fn tf ex fx).obs s := by
  have e : g = s.heap.get? := funext h
  rw [e] <;> rfl
theorem SaysZ.fnAt {fa : List Fa} {fn : List DefD} {tf : List Defn} {ex : PySem.W.Frag → Bool} {fx : List Fx} {h : Heap} {K : PySem.W.Frag} (c : SaysZ fa fn tf ex fx h K) (i : Nat) {q : Fx} (e : fx[i]? = some q := by rfl) : fnZ K (q.1 K) = q.2 := by
  have e2 : (fx.map fun q => fnZ K (q.1 K))[i]? = (fx.map (·.2))[i]? := by rw [c.fns]
  rw [List.getElem?_map, List.getElem?_map, e] at e2
  exact Option.some.inj e2
end Sg
/-! part SgHd -/
set_option Elab.async false
set_option maxRecDepth 100000
set_option linter.unusedVariables false
set_option maxHeartbeats 0
namespace Sg
open PySem PySem.Spec PyProof.Rows L2
def dI_RuleBuilder_init : He.DefD := ⟨("RuleBuilder", some "__init__"), "__init__", "Builder.__init__", defArgs s_Builder_init, defBody s_Builder_init, defScope s_Builder_init, [], []⟩
def dI_RuleBuilder_pair_of : He.DefD := ⟨("RuleBuilder", some "pair_of"), "pair_of", "Builder.pair_of", defArgs s_Builder_pair_of, defBody s_Builder_pair_of, defScope s_Builder_pair_of, [], []⟩
def dI_RuleBuilder_level_of : He.DefD := ⟨("RuleBuilder", some "level_of"), "level_of", "Builder.level_of", defArgs s_Builder_level_of, defBody s_Builder_level_of, defScope s_Builder_level_of, [], []⟩
def hFn0 : List He.DefD := [d_Units_init, d_Units_add_clause, d_Units_settle, d_Units_spread, d_Units_follows, d_in_frame, d_frame_clauses, d_start_clauses, d_same_clauses, d_link_clauses, d_Net_init, d_Joined_init, d_Joined_from_left, d_Joined_from_right, d_in_range, d_fault_of_lines, d_fault_at_start, d_fault_in_cycle, d_fault_in_next, d_fault_of_alike, d_fault_of_chain, d_is_name, d_fault_of_leaves, d_fault_of_ands, d_fault_of_outputs]
def hFn1 : List He.DefD := [d_Circuit_init, d_Circuit_eq, d_Circuit_as_net, d_image_of, d_Builder_init, d_Builder_pair_of, d_Builder_level_of, d_Builder_both, d_rebuilt, d_leaf_images, d_AlikeCertificate_init, d_image_certificate, d_inner_nodes, d_operands_of, d_combined, d_balanced, d_balance, d_by_one_pair, d_by_two_ands, d_by_complement, d_by_two_complements, d_RuleBuilder_simpler, d_carried_over, d_hash_circuit, d_apply_rules]
def hFn2 : List He.DefD := [d_needed_nodes, d_trim_images, d_trim, d_value_of, d_node_values, d_start_state, d_step, d_check_course, d_run, d_cycles, d_law_rows, d_law_name, d_law_literal, d_law_ands, d_law_parts, d_law_bits, d_law_bit, d_law_values, d_law_next, d_law_apart, d_law_pass, d_law, dI_RuleBuilder_init, dI_RuleBuilder_pair_of, dI_RuleBuilder_level_of]
def hFn : List He.DefD := hFn0 ++ hFn1 ++ hFn2
def hFa0 : List He.Fa := [.glo "in_frame", .glo "frame_clauses", .glo "start_clauses", .glo "same_clauses", .glo "link_clauses", .glo "in_range", .glo "fault_of_lines", .glo "fault_at_start", .glo "fault_in_cycle", .glo "fault_in_next", .glo "fault_of_alike", .glo "fault_of_chain", .glo "is_name", .glo "fault_of_leaves", .glo "fault_of_ands", .glo "fault_of_outputs", .glo "image_of", .glo "rebuilt", .glo "leaf_images", .glo "image_certificate", .glo "inner_nodes", .glo "operands_of", .glo "combined", .glo "balanced", .glo "balance"]
def hFa1 : List He.Fa := [.glo "by_one_pair", .glo "by_two_ands", .glo "by_complement", .glo "by_two_complements", .glo "carried_over", .glo "hash_circuit", .glo "apply_rules", .glo "needed_nodes", .glo "trim_images", .glo "trim", .glo "value_of", .glo "node_values", .glo "start_state", .glo "step", .glo "check_course", .glo "run", .glo "cycles", .glo "_law_rows", .glo "_law_name", .glo "_law_literal", .glo "_law_ands", .glo "_law_parts", .glo "_law_bits", .glo "_law_bit", .glo "_law_values"]
def hFa2 : List He.Fa := [.glo "_law_next", .glo "_law_apart", .glo "_law_pass", .glo "law", .glo "Units", .cls "Units", .mkr "Units", .glo "Net", .cls "Net", .mkr "Net", .glo "Joined", .cls "Joined", .mkr "Joined", .glo "Circuit", .cls "Circuit", .mkr "Circuit", .glo "Builder", .cls "Builder", .mkr "Builder", .glo "RuleBuilder", .cls "RuleBuilder", .mkr "RuleBuilder", .glo "AlikeCertificate", .cls "AlikeCertificate", .mkr "AlikeCertificate"]
def hFa3 : List He.Fa := [.noat "Units" "clauses", .noat "Units" "holders", .noat "Units" "shorts", .noat "Net" "input_count", .noat "Net" "latches", .noat "Net" "ands", .noat "Joined" "_last_input", .noat "Joined" "_left_limit", .noat "Joined" "_right_limit", .noat "Joined" "_left_latches", .noat "Joined" "_right_latches", .noat "Joined" "_left_ands", .noat "Joined" "joint", .noat "Joined" "goals", .noat "Circuit" "inputs", .noat "Circuit" "latches", .noat "Circuit" "ands", .noat "Circuit" "outputs", .noat "Builder" "leaf_count", .noat "Builder" "pairs", .noat "Builder" "_nodes", .noat "Builder" "_levels", .noat "RuleBuilder" "leaf_count", .noat "RuleBuilder" "pairs", .noat "RuleBuilder" "_nodes"]
def hFa4 : List He.Fa := [.noat "RuleBuilder" "_levels", .noat "AlikeCertificate" "facts", .noat "AlikeCertificate" "start_lines", .noat "AlikeCertificate" "lines", .noat "AlikeCertificate" "next_lines", .meth "Units" "add_clause", .meth "Units" "settle", .meth "Units" "spread", .meth "Units" "follows", .meth "Joined" "from_left", .meth "Joined" "from_right", .meth "Circuit" "__eq__", .meth "Circuit" "as_net", .meth "Builder" "pair_of", .meth "Builder" "level_of", .meth "Builder" "both", .meth "RuleBuilder" "simpler", .meth "RuleBuilder" "both", .meth "RuleBuilder" "pair_of", .meth "RuleBuilder" "level_of", .free "len", .free "sorted", .free "set", .free "tuple", .free "list"]
def hFa5 : List He.Fa := [.free "range", .free "enumerate", .free "min", .free "max", .free "int", .free "str", .free "isinstance", .free "super", .int "MOST_INPUTS" 16, .int "MOST_LATCHES" 40, .int "MOST_ANDS" 2000, .int "MOST_OUTPUTS" 32, .int "MOST_SIGNS" 12, .str "FIRST_SIGNS" "abcdefghijklmnopqrstuvwxyz", .str "SIGNS" "abcdefghijklmnopqrstuvwxyz0123456789_", .int "MOST_ROWS" 1000]
def hFa : List He.Fa := hFa0 ++ hFa1 ++ hFa2 ++ hFa3 ++ hFa4 ++ hFa5
def hFx : List Fx := [(fun K => gtA K "Net" "first_latch", valZ "first_latch" "Net.first_latch" s_Net_first_latch), (fun K => gtA K "Net" "first_and", valZ "first_and" "Net.first_and" s_Net_first_and), (fun K => gtA K "Net" "node_count", valZ "node_count" "Net.node_count" s_Net_node_count), (fun K => He.ma K (He.ga K "RuleBuilder") "both", valZ "both" "RuleBuilder.both" s_RuleBuilder_both)]
def hTf : List He.Defn := [("combined", none)]
def hEx (K : PySem.W.Frag) : Bool := propB K "Net" "first_latch" "Net.first_latch" && (propB K "Net" "first_and" "Net.first_and" && (propB K "Net" "node_count" "Net.node_count" && (insB K "Circuit" && (supB K "RuleBuilder" "both" "RuleBuilder.both" PySem.Challenge.pw_suregate_k24_whole_passes_in_any_order.main.file && subB K "RuleBuilder" "Builder" "both"))))
def hNm0 : List PySem.Str := ["_wall", "Units", "SuregateError", "InvalidCircuit", "InvalidCourse", "UnlikeInterfaces", "in_frame", "frame_clauses", "start_clauses", "same_clauses", "link_clauses", "Net", "Joined", "in_range", "fault_of_lines", "fault_at_start", "fault_in_cycle", "fault_in_next", "fault_of_alike", "fault_of_chain", "MOST_INPUTS", "MOST_LATCHES", "MOST_ANDS", "MOST_OUTPUTS", "MOST_SIGNS", "FIRST_SIGNS", "SIGNS", "is_name", "fault_of_leaves", "fault_of_ands"]
def hNm1 : List PySem.Str := ["fault_of_outputs", "Circuit", "image_of", "Builder", "rebuilt", "leaf_images", "AlikeCertificate", "image_certificate", "inner_nodes", "operands_of", "combined", "balanced", "balance", "by_one_pair", "by_two_ands", "by_complement", "by_two_complements", "RuleBuilder", "carried_over", "hash_circuit", "apply_rules", "needed_nodes", "trim_images", "trim", "MOST_ROWS", "value_of", "node_values", "start_state", "step", "check_course"]
def hNm2 : List PySem.Str := ["cycles", "run", "_law_rows", "_law_name", "_law_literal", "_law_ands", "_law_parts", "_law_bits", "_law_bit", "_law_values", "_law_next", "_law_apart", "_law_pass"]
def hNm : List PySem.Str := hNm0 ++ hNm1 ++ hNm2
abbrev hR : PySem.W.OpenRow := PySem.W.OpenLaw.row PySem.Challenge.rw_suregate_k24_whole_passes_in_any_order
abbrev hHk : PySem.W.Hook := hookZ 4 hFa hFn hTf hEx hFx
def hOb (s : PySem.W.SharedT) : AlZ := obsZ 4 hFa hFn hTf hEx hFx (HandSHeadRun.getT s)
theorem hOb_eq (s : PySem.W.SharedT) : hOb s = hHk.obs s.abs := obsZ_eq (HandSHeadRun.getT_eq s)
theorem hRun (w : World) : HandSHeadRun.RunEq hR (PySem.W.view hR.prog [88]) hHk hOb 30000 hNm w := by
  intro os
  kernel_rfl
end Sg
/-! part SgHd2 -/
set_option Elab.async false
set_option maxRecDepth 100000
set_option linter.unusedVariables false
set_option maxHeartbeats 0
open PySem PySem.W PySem.Calls PyProof.Rows
/-- all that is left: the law's promise at the head's heap -/
theorem Sg.head_holds (F : ∀ (w : World) (mg : Str → Option Value) (fa : Addr) (h : Heap), (∃ K : PySem.W.Frag, K.In h ∧ Sg.SaysZ Sg.hFa Sg.hFn Sg.hTf Sg.hEx Sg.hFx h K) → h.Ns mainGlobals mg → mg ("law" : Str) = some (.ref fa) →
    ∃ K : PySem.W.Frag, K.In h ∧ LamX.LawAtS PySem.Challenge.rw_suregate_k24_whole_passes_in_any_order w K L2.CX0 10 63 "_law_script" mg fa h) : PySem.Challenge.rw_suregate_k24_whole_passes_in_any_order.Holds := by
  w_on; o_law
  refine HandSHeadRun.head_any (r := OpenLaw.row PySem.Challenge.rw_suregate_k24_whole_passes_in_any_order) (q := view (OpenLaw.row PySem.Challenge.rw_suregate_k24_whole_passes_in_any_order).prog [88]) (H := Sg.hHk) (ob := Sg.hOb) (M := 30000) (loose := Sg.hNm) (d := HandSHeadRun.topDef (OpenLaw.row PySem.Challenge.rw_suregate_k24_whole_passes_in_any_order).prog 88) (kwd := []) Sg.hOb_eq
    (by kernel_rfl) (fun s => by kernel_rfl) Sg.hRun (by kernel_rfl) (by kernel_rfl) (by kernel_rfl) (by rfl) (by first | assumption | decide +kernel) (by decide +kernel) ⟨rfl, rfl, rfl, rfl, rfl, by decide +kernel⟩ ?hw ?hc
  case hw => w_witness2
  case hc =>
    refine LamX.walk_ofTsE (l := PySem.Challenge.rw_suregate_k24_whole_passes_in_any_order) (n := 63) (k := 10) (x := "_law_script") (CX := fun _ => L2.CX0) rfl (by decide) (by kernel_rfl) ⟨rfl, by decide, by decide⟩ ?F (fun _ _ _ _ _ z => z)
    intro w mg fa h Y G hmg0
    have hmg : mg ("law" : PySem.Str) = some (.ref fa) := by
      have e : (HandSHeadRun.topDef (OpenLaw.row PySem.Challenge.rw_suregate_k24_whole_passes_in_any_order).prog 88).name = ("law" : PySem.Str) := by kernel_rfl
      rw [← e]
      exact hmg0
    exact F w mg fa h Y G hmg
/-! part SgR -/
set_option Elab.async false
set_option maxRecDepth 100000
set_option linter.unusedVariables false
set_option maxHeartbeats 1000000
namespace Sg
open PySem PySem.Spec PyProof.Rows L2
/-! ### rules that the hand layer has not -/
section
variable {X : Cx}
/-- set(t), t a tuple of ints -/
def rSetTup (w : World) (K : PySem.W.Frag) : List V → Hp → VK → Prop := fun vs H Q => ∃ (a : Addr) (ns : List Int), vs = [.ref a] ∧ SqT K H a (ns.map V.int) ∧ ns.length < 60 ∧
  ∀ p c, H p = none → c ≤ ns.length → Q (.ref p) (upd H p (SetO w p (fun j => decide (j ∈ ns)) c))
theorem cr_setTup (hc : X.calm = true) : CallR X (.type "set") (rSetTup X.w X.K) := by
  intro pins s σ H vs us Q I r h
  obtain ⟨a, ns, rfl, hq, hl, q⟩ := h
  rw [Vals.ref1 r]
  obtain ⟨its, rv, pt, hz⟩ := I.tuple hq
  have hi : IntsAre its.toArray.toList ns := ints_of_vals rv
  refine call_set_tupI ns (I.ok.hd hc) (show s.heap.IsTuple a its.toArray from pt) hi (by unfold scanBound; omega) fun h' tk c R1 hcn k => ?_
  exact ⟨.ref _, upd H s.heap.objs.size (SetO X.w s.heap.objs.size (fun j => decide (j ∈ ns)) c), I.laid (t' := tk) k (Nat.le_refl _) (setO_new R1), rfl, q _ _ (I.hok.fresh (Nat.le_refl _)) hcn⟩
theorem call_setT {w : World} {K : PySem.W.Frag} (hc : X.calm = true) (hw : X.w = w) (hK : X.K = K) : CallR X (.type "set") (rSetTup w K) := by
  subst hw hK; exact cr_setTup hc
theorem call_sortedSet {w : World} (hc : X.calm = true) (hw : X.w = w) : CallR X (.builtin "sorted") (rSortedSet w) := by
  subst hw; exact cr_sortedSet hc
/-- l.extend(t), t a tuple -/
def rExtendT (K : PySem.W.Frag) : V → List V → Hp → VK → Prop := fun x vs H Q => ∃ l b xs zs, x = .ref l ∧ vs = [.ref b] ∧ H l = some (.lst xs) ∧ H b = some (.tup zs) ∧ xs.length + zs.length ≤ 100000 ∧ Q .non (upd H l (.lst (xs ++ zs)))
theorem list_extend_tup (l : Addr) (items : Array Value) (n : Nat) (b : Addr) (o : Obj) (items2 : Array Value) (n2 : Nat) (hc : o.cls = .type "tuple") (hd : o.data = .seq items2 n2) (hs0 : ¬(!items.isEmpty && Builtin.List.listTooLong (items.size + items2.size)) = true) (hs1 : items.size ≤ sizeLine) (hs2 : items.size + items2.size ≤ sizeLine + 1) :
    Meets (Builtin.«list.extend» ⟨[.ref l, .ref b], []⟩) (fun _ R s => s.heap.get? l = some { cls := .type "list", dict := none, data := .seq items n, slots := #[] } ∧ s.heap.get? b = some o ∧ R (.ok (.ret Value.none)) { s with heap := s.heap.update l (Obj.mapSeq fun x => x ++ items2), toks := s.toks }) := by
  obtain ⟨c, d, dt, sl⟩ := o
  cases hc
  cases hd
  exact .of_wp fun prog w A R s h => by
    obtain ⟨hp, g, d, tk, os⟩ := s; obtain ⟨hl, hb, h⟩ := h; have f1 := AutoSeq1.idx_int; have f2 := AutoSeq1.sub_tuple_tuple; have f3 := AutoSeq1.sub_list_list; have f4 := AutoSeq1.sub_tuple_list; have f5 := AutoSeq1.sub_list_tuple;
    have hz' : (items ++ items2).size ≤ sizeLine + 1 := by rw [Array.size_append]; exact hs2
    wp_walk using (wpAny_updateSeq hl rfl (hz := hs1) (_hz' := hz')), AutoSeq1.wpAny_loadPart' hl, AutoSeq1.wpAny_loadPart' hb; exact ⟨_, rfl, h⟩
theorem mt_extendT : MtM X "list.extend" (rExtendT X.K) := by
  intro pins s σ H x vs v us Q I rx rv h
  obtain ⟨l, b, xs, zs, rfl, rfl, hH, hB, hz, q⟩ := h
  cases rx
  obtain ⟨u, rfl, ru⟩ := rv.one
  cases ru
  obtain ⟨z, its, n, r, hl, e⟩ := I.lstM hH
  obtain ⟨its2, r2, ⟨o, e2, hc2, n2, hd2⟩, z2⟩ := I.tuple (SqT.of (K := X.K) hB)
  have hl2 := r2.length
  have hbig : 100000 ≤ sizeLine := by decide
  have hsz : its.toArray.size + its2.toArray.size ≤ sizeLine := by rw [List.size_toArray, List.size_toArray]; omega
  have hlong : ¬ (!its.toArray.isEmpty && Builtin.List.listTooLong (its.toArray.size + its2.toArray.size)) = true := by
    rw [notLongL hsz, Bool.and_false]
    exact Bool.false_ne_true
  refine call_meets F.slot_list_extend ⟨_, e, rfl⟩ F.entry_list_extend (F.args_list_extend_2 _ _)
    (list_extend_tup l its.toArray n b o its2.toArray n2 hc2 hd2 hlong (by rw [List.size_toArray]; omega) (by omega)) ⟨e, e2, ?_⟩
  refine ⟨.non, _, I.lset (its' := its ++ its2) hH e (by simp) (r.append r2) ?_, rfl, q⟩
  rw [List.length_append]
  omega
/-- xs[i] op= v -/
def sLAug (K : PySem.W.Frag) (td ty tv : TE) (rd : V → V → Hp → VK → Prop) : TS := fun D σ H => td σ H fun x H1 => ty σ H1 fun y H2 => ∃ (a : Addr) (xs : List V) (i : Nat) (v : V), x = .ref a ∧ y = .int (i : Int) ∧ i < 100000 ∧ H2 a = some (.lst xs) ∧ xs[i]? = some v ∧
  tv σ H2 fun y2 H3 => rd v y2 H3 fun z H4 => rSetL x y z H4 fun H5 => D.nx σ H5
theorem ps_augL {op : Operator} {rd : V → V → Hp → VK → Prop} {o i value : Expr} {td ty tv : TE} {tpos pos : Pos} (ho : PE X o td) (hi : PE X i ty) (hv : PE X value tv) (hop : InOp X op rd)
    (ha : ∀ ov iv new, augStore i ov iv new = (do holding [new, ov, iv] (setItem ov iv new); release [new, ov, iv] []; pure .next) := by intros; rfl) : PS X (.AugAssign (.Subscript o i tpos) op value pos) (sLAug X.K td ty tv rd) := by
  refine ⟨fun pins s σ H D I h => ?_⟩
  refine wpAny_AugAssign_SubscriptAny (thn (ho.run pins s σ H _ I h) fun u s1 ⟨x, H1, I1, rx, q1⟩ => thn (hi.run pins s1 σ H1 _ I1 q1) fun iv s2 ⟨y, H2, I2, ry, a, xs, i, v, ex, ey, hi', hl, hx, q2⟩ => ?_) ha
  subst ex ey
  obtain rfl : u = Value.ref a := rx
  have ry' := ry
  obtain ⟨t, rfl⟩ := ry
  obtain ⟨its, n, r, ho', hz⟩ := I2.lst hl
  obtain ⟨w', hw, rw'⟩ := r.get hx
  have pl : s2.heap.IsList a its.toArray := (I2.list (SqL.of (K := X.K) hl)).elim fun its' h => by
    obtain ⟨r', p', _⟩ := h
    exact ⟨_, ho', rfl, _, rfl⟩
  refine wpAny_getItem_list pl (Int.natCast_nonneg _) (by omega) (by rw [Int.toNat_natCast]; simpa using hw) ?_
  refine thn (hv.run pins s2 σ H2 _ I2 q2) fun w2 s4 ⟨y2, H3, I4, ry2, q3⟩ => thn (hop pins s4 σ H3 v y2 w' w2 _ I4 rw' ry2 q3) fun w3 s5 ⟨z, H4, I5, rz, q4⟩ => ?_
  exact thn (set_list pins s5 σ H4 (.ref a) (.int (i : Int)) z (.ref a) _ w3 _ I5 rfl ry' rz q4) fun _ s6 ⟨H5, I6, q5⟩ => ⟨σ, H5, I6, q5⟩
end
end Sg
/-! part SgGn -/
set_option Elab.async false
set_option maxRecDepth 100000
set_option linter.unusedVariables false
set_option maxHeartbeats 1000000
namespace Sg
open PySem PySem.Spec PyProof.Rows L2 GenW
/-! ### a generator that fills a list comprehension's list: S the list, L the block's names -/
/-- a namespace's object -/
def NsO (o : Obj) : Prop := ∃ (m : Str → Option Value) (es : Array DictEntry) (ep : Nat), o.data = .dict es ep ∧ StrKeys es ∧ ∀ name, nsFind es name = m name
theorem NsO.of {h : Heap} {a : Addr} {m : Str → Option Value} (n : h.Ns a m) : ∃ o, h.get? a = some o ∧ NsO o := by
  obtain ⟨o, es, ep, e, r1, r2, r3⟩ := n
  exact ⟨o, e, m, es, ep, r1, r2, r3⟩
theorem NsO.at {h : Heap} {a : Addr} {o : Obj} (n : NsO o) (e : h.get? a = some o) : ∃ m, h.Ns a m := by
  obtain ⟨m, es, ep, r1, r2, r3⟩ := n
  exact ⟨m, o, es, ep, e, r1, r2, r3⟩
theorem NsO.nocell {o : Obj} (n : NsO o) : ∀ v, o.data ≠ .cell v := fun v q => by
  obtain ⟨m, es, ep, r1, _⟩ := n
  rw [q] at r1; cases r1
/-- asleep: the consumer binds its block's names and puts u behind its list -/
structure Doz (S L : Addr) (u : Value) (s t : Shared) : Prop where
  sos : t.os = s.os
  gbare : AllBare t.gens
  rest : ∀ b o, b ≠ S → b ≠ L → s.heap.get? b = some o → t.heap.get? b = some o
  put : ∀ acc c, s.heap.get? S = some (lstObj acc c) → ∃ d, t.heap.get? S = some (lstObj (acc.push u) d)
  blk : ∃ o, t.heap.get? L = some o ∧ NsO o
/-- running; ys: what stands in the consumer's list -/
def WI (X : Cx) (S L : Addr) (ip : List (Addr × Obj)) (ys : List V) (σ : L2.St) (H : Hp) (s : Shared) : Prop :=
  ∃ (acc : Array Value) (c : Nat) (o : Obj), NsO o ∧ Vals ys acc.toList ∧ Inv X ((S, lstObj acc c) :: (L, o) :: ip) σ H s
theorem WI.facts {X : Cx} {S L : Addr} {ip : List (Addr × Obj)} {ys : List V} {σ : L2.St} {H : Hp} {s : Shared} (h : WI X S L ip ys σ H s) :
    (H S = none ∧ S ≠ X.env.locals ∧ S ∉ X.fs ∧ ∃ (acc : Array Value) (c : Nat), Vals ys acc.toList ∧ s.heap.get? S = some (lstObj acc c)) ∧ H L = none ∧ L ≠ X.env.locals ∧ L ∉ X.fs ∧ ∃ o, s.heap.get? L = some o ∧ NsO o := by
  obtain ⟨acc, c, o, no, r, I⟩ := h
  obtain ⟨a1, a2, a3, a4, _⟩ := I.pin (S, lstObj acc c) (List.mem_append_right _ List.mem_cons_self)
  obtain ⟨b1, b2, b3, b4, _⟩ := I.pin (L, o) (List.mem_append_right _ (List.mem_cons_of_mem _ List.mem_cons_self))
  exact ⟨⟨a2, a3, a4, acc, c, r, a1⟩, b2, b3, b4, o, b1, no⟩
/-- where the generator's code stands -/
structure WC (X : Cx) (S L : Addr) (ip : List (Addr × Obj)) (A : Around) (c : Code) (fs : List Frame) (gd : Bool → Bool) : Prop where
  pins : ∀ p ∈ X.pn ++ ip, p.1 ≠ S ∧ p.1 ≠ L
  farS : Apart X S
  farL : Apart X L
  two : S ≠ L
  over : A.over c fs = X.A
  split : splitAtGen fs = none
  guard : fs.any Frame.guarded = false
  gd : gd false = false
  nox : ∀ e s, X.xe e s → False
theorem WI.woken {X : Cx} {S L : Addr} {ip : List (Addr × Obj)} {ys : List V} {x : V} {u : Value} {σ : L2.St} {H : Hp} {s t : Shared} (hp : ∀ p ∈ X.pn ++ ip, p.1 ≠ S ∧ p.1 ≠ L) (fS : Apart X S) (fL : Apart X L) (two : S ≠ L) (h : WI X S L ip ys σ H s) (rv : RelV x u) (z : Doz S L u s t) :
    WI X S L ip (ys ++ [x]) σ H t := by
  obtain ⟨⟨hS0, hS1, hS2, _⟩, hL0, hL1, hL2, _⟩ := h.facts
  obtain ⟨acc, c, o, no, r, I⟩ := h
  have eS : s.heap.get? S = some (lstObj acc c) := (I.pin (S, lstObj acc c) (List.mem_append_right _ List.mem_cons_self)).1
  have I0 : Inv X ip σ H s := I.pins_of fun p hp => I.pin p (List.mem_append_right _ (List.mem_cons_of_mem _ (List.mem_cons_of_mem _ hp)))
  obtain ⟨d, eS'⟩ := z.put acc c eS
  obtain ⟨o', eL', no'⟩ := z.blk
  have nc : ∀ b, b ∉ [S, L] → b ≠ S ∧ b ≠ L := fun b hb => ⟨fun e => hb (by rw [e]; exact List.mem_cons_self), fun e => hb (by rw [e]; exact List.mem_cons_of_mem _ List.mem_cons_self)⟩
  have nt : ∀ b v, H b = some v → b ≠ S ∧ b ≠ L := fun b v q => ⟨fun e => (by rw [e, hS0] at q; cases q), fun e => (by rw [e, hL0] at q; cases q)⟩
  have J : Inv X ip σ H t := by
    refine I0.call' (ch := [S, L]) z.sos ⟨fun b ob q _ _ hx => z.rest b ob (nc b hx).1 (nc b hx).2 q, fun b ob q _ _ hx => ⟨ob.slots, z.rest b ob (nc b hx).1 (nc b hx).2 q⟩, fun _ _ _ n _ => n, fun b ob q hx => ⟨ob, z.rest b ob (nc b hx).1 (nc b hx).2 q⟩, fun _ _ q => q, fun _ _ _ q => q, fun b ps q => ⟨#[], by rw [q]; simp⟩⟩ (fun b v q => ?_) z.gbare fun b hb => ?_
    · refine (I0.hok b v q).stay (fun c v2 hc y => z.rest c v2 ?_ ?_ y) (fun _ y => y) fun _ _ y => y
      · rcases hc with y | y
        · rw [y]; exact (nt b v q).1
        · exact (nt c _ y).1
      · rcases hc with y | y
        · rw [y]; exact (nt b v q).2
        · exact (nt c _ y).2
    · rcases List.mem_cons.mp hb with e | e
      · rw [e]
        exact ⟨.inr fS.1, fS.2.1, fS.2.2, fun p hq => (hp p hq).1⟩
      · rw [List.mem_singleton.mp e]
        exact ⟨.inr fL.1, fL.2.1, fL.2.2, fun p hq => (hp p hq).2⟩
  refine ⟨acc.push u, d, o', no', ?_, J.pins_of fun p hq => ?_⟩
  · rw [Array.toList_push]
    exact r.append (.cons rv .nil)
  · rcases List.mem_cons.mp hq with e | hq
    · rw [e]
      exact ⟨eS', hS0, hS1, hS2, fun v q => by cases q⟩
    · rcases List.mem_cons.mp hq with e | hq
      · rw [e]
        exact ⟨eL', hL0, hL1, hL2, no'.nocell⟩
      · exact J.pin p (List.mem_append_right _ hq)
/-- the pair at t is handed out -/
def WY (X : Cx) (S L : Addr) : Protocol := fun n s₀ v s kap =>
  ∃ ys x y t ip σ H, n + 1 + ys.length = sizeLine ∧ v = .ref t ∧ H t = some (.tup [x, y]) ∧ WI X S L ip ys σ H s ∧ ∀ u t', RelV x u → Doz S L u s t' → kap (.send .none) t'
def WR (X : Cx) (S L : Addr) (Q : List V → VK) : GenEnd := fun n s₀ r s => match r with
  | .ok (.ret u) => ∃ ys v ip σ H, n + ys.length = sizeLine ∧ WI X S L ip ys σ H s ∧ RelV v u ∧ Q ys v H
  | _ => False
def WSP (X : Cx) (S L : Addr) (ip : List (Addr × Obj)) (D : GEnds) (ys : List V) (f : Flow) (s : Shared) : Prop :=
  match f with
  | .next => ∃ σ H, WI X S L ip ys σ H s ∧ D.nx ys σ H
  | .brk => ∃ σ H, WI X S L ip ys σ H s ∧ D.bk ys σ H
  | .cont => ∃ σ H, WI X S L ip ys σ H s ∧ D.ct ys σ H
  | .ret u => ∃ v σ H, WI X S L ip ys σ H s ∧ RelV v u ∧ D.rt ys v H
def WK (X : Cx) (S L : Addr) (ip : List (Addr × Obj)) (A : Around) (R : GenEnd) (c : Code) (fs : List Frame) (K : Flow → Sem PySem.Fin) (D : GEnds) : Prop :=
  ∀ (n : Nat) (ys : List V) (s₀ s : Shared) (f : Flow), n + ys.length = sizeLine → WSP X S L ip D ys f s → Seg (model X.prog X.w) A R (WY X S L) n s₀ c (K f) fs s
def WRun (X : Cx) (m : Sem Flow) (t : TGn) : Prop :=
  ∀ (A : Around) (S L : Addr) (ip : List (Addr × Obj)) (R : GenEnd) (n : Nat) (ys : List V) (s₀ : Shared) (c : Code) (fs : List Frame) (K : Flow → Sem PySem.Fin) (J : Value → Sem PySem.Fin) (gd : Bool → Bool) (lv : List Value → List Value) (s : Shared) (σ : L2.St) (H : Hp) (D : GEnds),
    WC X S L ip A c fs gd → n + ys.length = sizeLine → WK X S L ip A R c fs K D → WI X S L ip ys σ H s → t D ys σ H → Seg (model X.prog X.w) A R (WY X S L) n s₀ c (m.wrap K J gd lv) fs s
def WS (X : Cx) (st : Stmt) (t : TGn) : Prop := WRun X (exec st X.env) t
def WSs (X : Cx) (st : List Stmt) (t : TGn) : Prop := WRun X (execs st X.env) t
section
variable {X : Cx} {st : Stmt} {rest : List Stmt}
theorem ws_ps {t : TS} (h : PS X st t) : WS X st (tPlain t) := by
  intro A S L ip R n ys s₀ c fs K J gd lv s σ H D g hn k hI ht
  obtain ⟨acc, cc, o, no, r, I⟩ := hI
  refine seg_wrap ?_
  rw [g.over]
  refine wpAny_mono (h.run _ s σ H (D.at ys) I ht) (fun f s' hs => k n ys s₀ s' f hn ?_) fun x s' hx => (g.nox x s' hx).elim
  cases f with
  | next => obtain ⟨σ, H, I, q⟩ := hs; exact ⟨σ, H, ⟨acc, cc, o, no, r, I⟩, q⟩
  | brk => obtain ⟨σ, H, I, q⟩ := hs; exact ⟨σ, H, ⟨acc, cc, o, no, r, I⟩, q⟩
  | cont => obtain ⟨σ, H, I, q⟩ := hs; exact ⟨σ, H, ⟨acc, cc, o, no, r, I⟩, q⟩
  | ret u => obtain ⟨v, σ, H, I, r1, q⟩ := hs; exact ⟨v, σ, H, ⟨acc, cc, o, no, r, I⟩, r1, q⟩
theorem wss_nil : WSs X [] tG0 := fun A S L ip R n ys s₀ c fs K J gd lv s σ H D g hn k hI ht => seg_execs_nil (k n ys s₀ s .next hn ⟨σ, H, hI, ht⟩)
theorem wss_cons {t u : TGn} (a : WS X st t) (b : WSs X rest u) : WSs X (st :: rest) (tGThen t u) := by
  intro A S L ip R n ys s₀ c fs K J gd lv s σ H D g hn k hI ht
  refine seg_execs_cons ?_
  refine a A S L ip R n ys s₀ c fs _ J gd lv s σ H { D with nx := fun y2 σ2 H2 => u D y2 σ2 H2 } g hn (fun n2 y2 s2 s3 f hn2 hs => ?_) hI ht
  cases f with
  | next =>
    obtain ⟨σ2, H2, I2, q⟩ := hs
    exact b A S L ip R n2 y2 s2 c fs K J gd lv s3 σ2 H2 D g hn2 k I2 q
  | brk => exact k n2 y2 s2 s3 .brk hn2 hs
  | cont => exact k n2 y2 s2 s3 .cont hn2 hs
  | ret u => exact k n2 y2 s2 s3 (.ret u) hn2 hs
theorem wss_one {t : TGn} (a : WS X st t) : WSs X [st] t := by
  intro A S L ip R n ys s₀ c fs K J gd lv s σ H D g hn k hI ht
  exact wss_cons a wss_nil A S L ip R n ys s₀ c fs K J gd lv s σ H D g hn k hI ht
/-- a pair is handed out -/
def tWYield (te : TE) : TGn := fun D ys σ H => ys.length < sizeLine ∧ te σ H fun v H1 => ∃ t x y, v = .ref t ∧ H1 t = some (.tup [x, y]) ∧ D.nx (ys ++ [x]) σ H1
theorem ws_yield {e : Expr} {yp pos : Pos} {te : TE} (he : PE X e te) (hco : X.env.scope.isCoroutine = false := by rfl) (hi : interactive X.env = false := by rfl) : WS X (.Expr (.Yield (some e) yp) pos) (tWYield te) := by
  intro A S L ip R n ys s₀ c fs K J gd lv s σ H D g hn k hI ht
  obtain ⟨hlt, ht⟩ := ht
  obtain ⟨n, rfl⟩ : ∃ m, n = m + 1 := ⟨n - 1, by omega⟩
  obtain ⟨acc, cc, o, no, r, I⟩ := hI
  refine seg_Expr_Yield g.split g.gd g.guard ?_ hco hi
  rw [g.over]
  refine wpAny_mono (he.run _ s σ H _ I ht) (fun v s2 hv => ?_) fun x s2 hx => (g.nox x s2 hx).elim
  obtain ⟨w, H1, I1, rv, t, x, y, ew, et, q⟩ := hv
  subst ew
  obtain rfl : v = Value.ref t := rv
  have G1 : WI X S L ip ys σ H1 s2 := ⟨acc, cc, o, no, r, I1⟩
  intro kap hk
  refine ⟨ys, x, y, t, ip, σ, H1, hn, rfl, et, G1, fun u s3 ru z => hk .none s3 ?_⟩
  refine k n (ys ++ [x]) s3 s3 .next ?_ ⟨σ, H1, G1.woken g.pins g.farS g.farL g.two ru z, q⟩
  rw [List.length_append, List.length_singleton]; omega
/-! ### for -/
theorem WC.loop {S L : Addr} {ip : List (Addr × Obj)} {A : Around} {c c' : Code} {fs : List Frame} {gd : Bool → Bool} {k : Result → Sem PySem.Fin} {l kp : List Value} {p : Pos} (g : WC X S L ip A c fs gd) (hw : c'.weight = 0) (hu : c'.cUnits = 0) :
    WC X S L ip A c' (.ret k none (gd false) l c p kp :: fs) id where
  pins := g.pins
  farS := g.farS
  farL := g.farL
  two := g.two
  over := (over_loop hw hu).trans g.over
  split := by
    show Option.map _ (splitAtGen fs) = none
    rw [g.split]; rfl
  guard := by
    show (gd false || List.any fs Frame.guarded) = false
    rw [g.gd, g.guard]; rfl
  gd := rfl
  nox := g.nox
theorem WC.pinned {S L : Addr} {ip ip2 : List (Addr × Obj)} {A : Around} {c : Code} {fs : List Frame} {gd : Bool → Bool} (g : WC X S L ip A c fs gd) (h : ∀ p ∈ X.pn ++ ip2, p.1 ≠ S ∧ p.1 ≠ L) : WC X S L ip2 A c fs gd :=
  ⟨h, g.farS, g.farL, g.two, g.over, g.split, g.guard, g.gd, g.nox⟩
def tWFor (wi : TI) (g : TG) (tb : TGn) : TGn := fun D ys σ H => wi σ H fun J H1 => ∃ W : Nat → Nat → List V → L2.St → Hp → Prop, (∃ m, W 0 m ys σ H1) ∧ ∀ i m ys σ H, W i m ys σ H →
  (J.stop i H ∧ D.nx ys σ H) ∨ (J.go i H ∧ ∃ N : List V → L2.St → Hp → Prop, (∀ y2 σ2 H2, N y2 σ2 H2 → ∃ m2, m2 < m ∧ W (i + 1) m2 y2 σ2 H2) ∧ ∀ x H2, J.yld i H x H2 → g x σ H2 fun σ3 H3 => tb { D with nx := N, ct := N, bk := D.nx } ys σ3 H3)
theorem ws_for {tg iter : Expr} {body : List Stmt} {wi : TI} {g : TG} {tb : TGn} {pos : Pos} (hc : X.calm = true) (hi : PI X tg iter wi) (hg : PG X tg g) (hb : WSs X body tb) (hs : ∀ x, foldedSetIterable iter X.env x = pure x := by intro _; rfl) : WS X (.For tg iter body [] pos) (tWFor wi g tb) := by
  intro A S L ip R n ys s₀ c fs K J gd lv s σ H D gc hn k hI ht
  rw [exec_For]
  refine seg_bind_wrap (wpAny_standAt ?_)
  obtain ⟨acc, cc, o, no, r, I⟩ := hI
  refine seg_bind_wrap ?_
  rw [gc.over]
  refine wpAny_mono (hi.run _ s σ H _ I ht) (fun v s1 h1 => ?_) fun x s' hx => (gc.nox x s' hx).elim
  refine seg_bind_wrap (wpAny_of_eq (hs v) ?_)
  refine seg_bind_wrap (wpAny_standAt ?_)
  refine seg_bind_wrap (wpAny_holding ?_)
  rw [gc.over]
  refine wpAny_mono h1 (fun itv s2 h2 => ?_) fun x s' hx => (gc.nox x s' hx).elim
  obtain ⟨it, fp, tn, J2, H2, e, I2, T, st2, f2, W, ⟨m0, w0⟩, turn⟩ := h2
  subst e
  refine seg_call fun p => ?_
  have gl := fun (kk : Result → Sem PySem.Fin) => gc.loop (k := kk) (c' := .forLoop tg (.ref it) body [] X.env) (l := lv []) (kp := []) (p := p) rfl rfl
  have fpn : ∀ b ∈ fp, (H2 b = none) ∧ S ≠ b ∧ L ≠ b := fun b hb => ⟨(f2 b hb).1, (f2 b hb).2.2.2.2.2 (S, lstObj acc cc) (List.mem_append_right _ List.mem_cons_self), (f2 b hb).2.2.2.2.2 (L, o) (List.mem_append_right _ (List.mem_cons_of_mem _ List.mem_cons_self))⟩
  have stat : ∀ {acc2 : Array Value} {cc2 : Nat} {o2 : Obj} {H' : Hp}, (∀ b ∈ fp, H' b = none) → ∀ b ∈ fp, FpOk X ((S, lstObj acc2 cc2) :: (L, o2) :: ip) H' b := fun {acc2 cc2 o2 H'} hn b hb => by
    obtain ⟨q1, q2, q3, q4, q5, q6⟩ := f2 b hb
    refine ⟨hn b hb, q2, q3, q4, q5, fun p hp => ?_⟩
    rcases List.mem_append.mp hp with hp | hp
    · exact q6 p (List.mem_append_left _ hp)
    · rcases List.mem_cons.mp hp with hp | hp
      · rw [hp]; exact (fpn b hb).2.1
      · rcases List.mem_cons.mp hp with hp | hp
        · rw [hp]; exact (fpn b hb).2.2
        · exact q6 p (List.mem_append_right _ (List.mem_cons_of_mem _ (List.mem_cons_of_mem _ hp)))
  have loop : ∀ (m i n : Nat) (ys : List V) (s₀ s : Shared) (σ : L2.St) (H : Hp), n + ys.length = sizeLine → W i m ys σ H → WI X S L ip ys σ H s → tn i s.heap → (∀ b ∈ fp, H b = none) →
      Seg (model X.prog X.w) A R (WY X S L) n s₀ (.forLoop tg (.ref it) body [] X.env) ((model X.prog X.w).den (.forLoop tg (.ref it) body [] X.env))
        (.ret (fun r => ((match r with | .ok f => (.pure f : Sem Flow) | .error e => .raise e).onRaise (cameBack X.env)).wrap K J gd lv) none (gd false) (lv []) c p [] :: fs) s := by
    intro m
    induction m using Nat.strongRecOn with
    | ind m ih =>
      intro i n ys s₀ s σ H hn w hI st fr
      obtain ⟨acc, cc, o, no, r, I⟩ := hI
      show Seg _ _ _ _ _ _ _ ((forTurn tg (.ref it) body [] X.env).onRaise (fun x => do noteFrame x X.env; theTreesLotGoes x)) _ _
      rw [Sem.onRaise_eq_wrap]
      unfold forTurn
      refine seg_bind_wrap (wpAny_standAt ?_)
      refine seg_bind_wrap (wpAny_onRaise ?_)
      rw [(gl _).over]
      rcases turn i m ys σ H w with ⟨stop, qn⟩ | ⟨go, N, hN, step⟩
      · refine thnF (T.done X rfl rfl rfl hc i _ s σ H (fun _ _ => False) I (stat fr) st stop) fun r4 s4 ⟨hr, I4⟩ => ?_
        subst hr
        refine seg_again rfl ?_
        exact seg_leaf (.ok .next) (k n ys s₀ s4 .next hn ⟨σ, H, ⟨acc, cc, o, no, r, I4⟩, qn⟩)
      · refine thnF (T.item X rfl rfl rfl hc i _ s σ H (fun _ _ => False) I (stat fr) st go) fun r4 s4 ⟨u, hr, h4⟩ => ?_
        subst hr
        refine seg_bind_wrap ?_
        rw [(gl _).over]
        refine thnF h4 fun _ s5 ⟨x, H5, I5, r5, y5, st5, fr5⟩ => ?_
        have I5' := I5.pinned (stat fr5) (T.obj _ _ st5)
        refine seg_bind_wrap ?_
        rw [(gl _).over]
        refine wpAny_mono (hg.run _ s5 σ H5 x u _ I5' r5 (step x H5 y5)) (fun _ s6 ⟨σ6, H6, I6, q6⟩ => ?_) fun x s' hx => (gc.nox x s' hx).elim
        rw [Sem.bind_eq_wrap', Sem.wrap_wrap]
        have pins2 : ∀ q ∈ X.pn ++ (ip ++ pinsAt fp s5.heap), q.1 ≠ S ∧ q.1 ≠ L := fun q hq => by
          rcases List.mem_append.mp hq with hq | hq
          · exact gc.pins q (List.mem_append_left _ hq)
          · rcases List.mem_append.mp hq with hq | hq
            · exact gc.pins q (List.mem_append_right _ hq)
            · obtain ⟨hb, _⟩ := of_pinsAt hq
              exact ⟨Ne.symm (fpn _ hb).2.1, Ne.symm (fpn _ hb).2.2⟩
        have gl2 := fun (kk : Result → Sem PySem.Fin) => (gl kk).pinned pins2
        refine hb A S L (ip ++ pinsAt fp s5.heap) R n ys s₀ _ _ _ _ _ _ s6 σ6 H6 { D with nx := N, ct := N, bk := D.nx } (gl2 _) hn (fun n7 y7 s7 s8 f hn7 hs7 => ?_) ⟨acc, cc, o, no, r, I6⟩ q6
        have back : ∀ {σ8 : L2.St} {H8 : Hp}, WI X S L (ip ++ pinsAt fp s5.heap) y7 σ8 H8 s8 → WI X S L ip y7 σ8 H8 s8 ∧ tn (i + 1) s8.heap ∧ ∀ b ∈ fp, H8 b = none := fun {σ8 H8} ⟨acc8, cc8, o8, no8, r8, I8⟩ => by
          have pin8 : ∀ b ∈ fp, ∀ o, s5.heap.get? b = some o → s8.heap.get? b = some o ∧ H8 b = none := fun b hb o e =>
            let z := I8.pin (b, o) (List.mem_append_right _ (List.mem_cons_of_mem _ (List.mem_cons_of_mem _ (List.mem_append_right _ (mem_pinsAt hb e)))))
            ⟨z.1, z.2.1⟩
          refine ⟨⟨acc8, cc8, o8, no8, r8, I8.unpinned (pins := (S, lstObj acc8 cc8) :: (L, o8) :: ip)⟩, T.keep _ _ _ st5 fun b hb o e => (pin8 b hb o e).1, fun b hb => ?_⟩
          obtain ⟨o, e, _⟩ := T.obj _ _ st5 b hb
          exact (pin8 b hb o e).2
        cases f with
        | next =>
          obtain ⟨σ8, H8, I8, n8⟩ := hs7
          obtain ⟨J8, st8, fr8⟩ := back I8
          obtain ⟨m8, hm, w8⟩ := hN y7 σ8 H8 n8
          exact seg_again rfl (ih m8 hm (i + 1) n7 y7 s7 s8 σ8 H8 hn7 w8 J8 st8 fr8)
        | cont =>
          obtain ⟨σ8, H8, I8, n8⟩ := hs7
          obtain ⟨J8, st8, fr8⟩ := back I8
          obtain ⟨m8, hm, w8⟩ := hN y7 σ8 H8 n8
          exact seg_again rfl (ih m8 hm (i + 1) n7 y7 s7 s8 σ8 H8 hn7 w8 J8 st8 fr8)
        | brk =>
          obtain ⟨σ8, H8, I8, q8⟩ := hs7
          exact seg_leaf (.ok .next) (k n7 y7 s7 s8 .next hn7 ⟨σ8, H8, (back I8).1, q8⟩)
        | ret v =>
          obtain ⟨v8, σ8, H8, I8, r8, q8⟩ := hs7
          exact seg_leaf (.ok (.ret v)) (k n7 y7 s7 s8 (.ret v) hn7 ⟨v8, σ8, H8, (back I8).1, r8, q8⟩)
  exact loop m0 0 n ys s₀ s2 σ H2 hn w0 ⟨acc, cc, o, no, r, I2⟩ st2 fun b hb => (fpn b hb).1
end
end Sg
/-! part SgGn2 -/
set_option Elab.async false
set_option maxRecDepth 100000
set_option linter.unusedVariables false
set_option maxHeartbeats 1000000
namespace Sg
open PySem PySem.Spec PyProof.Rows L2 GenW
/-- the context of such a body: nothing is raised -/
abbrev gxOf (P : Program) (w : World) (K : PySem.W.Frag) (mg : Str → Option Value) (base : Heap) (N : List Str) (qual : Str) (scope : Scope) (f : Addr) (cd : Value) (A : Around) (outer : List Env) (s : Shared) (H : Hp) (pn : List (Addr × Obj)) : Cx :=
  { (cxOf CX0 P w K mg base N qual scope f cd A outer s H E0).nox with pn := pn }
theorem Inv.gx {P : Program} {w : World} {K : PySem.W.Frag} {mg : Str → Option Value} {base : Heap} {N : List Str} {qual : Str} {scope : Scope} {f : Addr} {cd : Value} {A : Around} {outer : List Env} {s t : Shared} {H H' : Hp} {pn pins : List (Addr × Obj)} {σ : L2.St}
    (I : L2.Inv (gcxOf P w K mg base N qual scope f cd A outer s H E0 []) [] σ H' t)
    (h : ∀ p ∈ pn ++ pins, t.heap.get? p.1 = some p.2 ∧ H' p.1 = none ∧ p.1 ≠ (envOfC qual scope s.heap.objs.size f cd).locals ∧ p.1 ∉ frs outer ∧ ∀ v, p.2.data ≠ .cell v) :
    L2.Inv (gxOf P w K mg base N qual scope f cd A outer s H pn) pins σ H' t := by
  obtain ⟨⟨a1, a2, a3, a4, a5, a6, a7, a8, a9, a10, a11, a12, a13, a14, a15, a16, a17, a18⟩, b1, b2, b3, b4, b5, b6, b7, b8, b9, b10⟩ := I
  exact ⟨⟨a1, a2, a3, a4, a5, a6, a7, a8, a9, a10, a11, a12, a13, a14, a15, a16, a17, a18⟩, b1, b2, b3, b4, b5, b6, b7, h, b9, b10⟩
/-- the arguments, the heap, what is wanted of all that is handed out -/
abbrev SpW := List V → Hp → (List V → Hp → Prop) → Prop
/-- the run's end -/
def WF (P : Program) (w : World) (outer : List Env) (H : Hp) (s : Shared) (S L : Addr) (Q : List V → Hp → Prop) (t : Shared) : Prop :=
  ∃ H' ys acc c o, t.os = s.os ∧ AllBare t.gens ∧ Un (frs outer) [] H H' s.heap t.heap ∧ HOk P w H' t.heap ∧ H' S = none ∧ H' L = none ∧ t.heap.get? S = some (lstObj acc c) ∧ t.heap.get? L = some o ∧ NsO o ∧ Vals ys acc.toList ∧ ys.length ≤ sizeLine ∧ Q ys H'
def WEnd (P : Program) (w : World) (outer : List Env) (H : Hp) (s : Shared) (S L : Addr) (Q : List V → Hp → Prop) : GenEnd := fun n s₀ r s₁ =>
  ((r = .ok (.ret .none) ∨ r = .ok .next) ∧ WF P w outer H s S L Q s₁) ∨ ∃ e, r = .error e ∧ False
/-- a pair is handed out -/
def WItem (s : Shared) (S L a : Addr) (g : Nat) : Protocol := fun n s₀ v t kap =>
  t.os = s.os ∧ AllBare t.gens ∧ t.heap.NoLimit ∧ t.heap.IsGen a g ∧ (∃ (acc : Array Value) (c : Nat), t.heap.get? S = some (lstObj acc c) ∧ n + 1 + acc.size = sizeLine) ∧ (∃ o, t.heap.get? L = some o ∧ NsO o) ∧ ∃ p u y, v = .ref p ∧ IsTup t.heap p #[u, y] ∧ ∀ t', Doz S L u t t' → kap (.send .none) t'
/-- a generator that has not begun -/
def WMade (P : Program) (w : World) (k : Nat) (outer : List Env) (H : Hp) (s : Shared) (Q : List V → Hp → Prop) (u : Value) (t : Shared) : Prop :=
  ∃ (a : Addr) (g : Nat) (c : Code), u = .ref a ∧ s.heap.objs.size ≤ a ∧ a < t.heap.objs.size ∧ t.heap.IsGen a g ∧ t.gens[g]? = some (.fresh c) ∧ t.os = s.os ∧ AllBare t.gens ∧ t.heap.NoLimit ∧ (∀ b o, s.heap.get? b = some o → t.heap.get? b = some o) ∧
    ∀ (A : Around) (S L : Addr) (s2 : Shared), Room k A → A.frames = some outer → t.heap.objs.size ≤ S → t.heap.objs.size ≤ L → S ≠ L → (∀ b o, t.heap.get? b = some o → s2.heap.get? b = some o) → (∃ c, s2.heap.get? S = some (lstObj #[] c)) → (∃ o, s2.heap.get? L = some o ∧ NsO o) → s2.os = s.os → AllBare s2.gens →
      Seg (model P w) A (WEnd P w outer H s S L Q) (WItem s S L a g) sizeLine s2 c ((model P w).den c) [] s2
structure WFn (P : Program) (w : World) (K : PySem.W.Frag) (mg : Str → Option Value) (base : Heap) (k : Nat) (f : Addr) (fd : FuncData) (ps : List Str) (sp : SpW) : Prop where
  len : ∀ vs H Q, sp vs H Q → vs.length = ps.length
  run : ∀ (A : Around) (outer : List Env) (s : Shared) (H : Hp) (args : Args) (us : List Value) (vs : List V) (Q : List V → Hp → Prop), Room k A → Env0 P w K mg base A outer s H → BindsTo s fd args (ps.zip us) → Vals vs us → sp vs H Q →
    codeAny (model P w) A (.call (.ref f) args) (fun r t => match r with | .ok (.ret u) => WMade P w k outer H s Q u t | _ => False) s
theorem wfn_of {P : Program} {w : World} {K : PySem.W.Frag} {mg : Str → Option Value} {base : Heap} {k : Nat} {f : Addr} {name qual : Str} {params : Arguments} {body : List Stmt} {scope : Scope} {dV kV doc pm cdv ct oc : Value} {an od : Option Addr}
    {osl : Array (Option Value)} {N ps : List Str} {sp : SpW} (lk : K.lookup f = some ⟨oc, od, .func (PySem.W.fnOf name qual params body scope dV kV doc pm an cdv ct), osl⟩) (hcd : PySem.W.codeIn K cdv qual = true) (G : GScope N ps scope)
    (len : ∀ vs H Q, sp vs H Q → vs.length = ps.length)
    (hbody : ∀ (A : Around) (outer : List Env) (s : Shared) (H : Hp) (vs : List V) (Q : List V → Hp → Prop) (pn : List (Addr × Obj)), Room k (A.deeper (envOfC qual scope s.heap.objs.size f cdv)) → sp vs H Q →
      ∃ t, WSs (gxOf P w K mg base N qual scope f cdv A outer s H pn) body t ∧ t { nx := fun ys _ H' => Q ys H', rt := fun ys v H' => v = .non ∧ Q ys H' } [] (start N vs) H) :
    WFn P w K mg base (k + 1) f (PySem.W.fnOf name qual params body scope dV kV doc pm an cdv ct) ps sp := by
  refine ⟨len, fun A outer s H args us vs Q hr e0 hb r hsp => ?_⟩
  have hl := len _ _ _ hsp
  have KX : K.In s.heap := e0.mod.kin.keeps fun b o e => (e0.bs b o e).1
  have lim : s.heap.NoLimit := e0.mod.nolimit.keeps fun b o e => (e0.bs b o e).1
  have hkind : ∀ y ∈ ps.zip us, scope.names.lookup y.1 = some .local ∨ (scope.names.lookup y.1 = some .cell ∧ ((cellsFrom (s.heap.objs.size + 1) scope.names []).lookup y.1).isSome = true) := fun ⟨n, v⟩ hy => (G.par n (List.of_mem_zip hy).1).elim .inl fun q => .inr ⟨q, PySem.W.cellsFrom_some _ _ _ (.inl q)⟩
  refine codeAny_call_generator hr.depth (KX _ _ lk) rfl G.co G.gen rfl (PySem.W.codeRec_of KX hcd) (hb _ _ _ _ ?_)
  refine wpAny_newFunctionEnv_cells G.kind hkind fun env he s1 x => ?_
  subst he
  have lim1 : s1.heap.NoLimit := lim.keeps x.toInCall.keep
  refine ⟨lim1, ?_⟩
  obtain ⟨h1, tk, es1, hk1⟩ := x.done
  have os1 : s1.os = s.os := by rw [es1]
  have gen1 : s1.gens = s.gens := by rw [es1]
  have lt1 : s.heap.objs.size < s1.heap.objs.size := x.toInCall.ns.lt
  have kp1 : ∀ b o, s.heap.get? b = some o → s1.heap.get? b = some o := x.toInCall.keep
  have main : ∀ (go : Obj) (nm qn : Value) (tk2 : Nat), go.cls = .type "generator" → go.data = .fields #[.int s1.gens.size 0, nm, qn] → go.slots = #[] → (∀ h : Heap, (h.push go).get? h.objs.size = some go) →
      WMade P w (k + 1) outer H s Q (.ref s1.heap.objs.size) { s1 with gens := s1.gens.push (.fresh (.func body (envOfC qual scope s.heap.objs.size f cdv))), toks := tk2, heap := s1.heap.push go } := by
    intro go nm qn tk2 hgc hgd0 hgs hgp
    have hgen : ∀ h : Heap, h.get? s1.heap.objs.size = some go → h.IsGen s1.heap.objs.size s1.gens.size := fun h e => ⟨go, nm, qn, e, hgc, hgd0, hgs⟩
    have hpushed : (s1.heap.push go).get? s1.heap.objs.size = some go := hgp _
    refine ⟨s1.heap.objs.size, s1.gens.size, _, rfl, Nat.le_of_lt lt1, ?_, hgen _ hpushed, Array.getElem?_push_size .., os1, ?_, lim1.keeps fun b o e => Heap.get?_push_of_some _ e, fun b o e => Heap.get?_push_of_some _ (kp1 b o e), ?_⟩
    · show _ < Array.size (s1.heap.push _).objs
      rw [Heap.size_push]; exact Nat.lt_succ_self _
    · exact AllBare.push (by rw [gen1]; exact e0.bare) rfl
    intro Aw S L s2 hrw hfr hS hL two hk2 hSo hLo hos hba
    have e0w : Env0 P w K mg base Aw outer s H := ⟨hfr, e0.mod, e0.bs, e0.bsz, e0.funs, e0.frf, e0.hok, e0.bare⟩
    obtain ⟨t, ht, hq⟩ := hbody Aw outer s H vs Q [(s1.heap.objs.size, go)] (hrw.deeper _) hsp
    have I1 : L2.Inv (gcxOf P w K mg base N qual scope f cdv Aw outer s H E0 []) [] (start N vs) H s1 := inv_startG G hrw.hd e0w hl r x
    have kp2 : ∀ b o, s1.heap.get? b = some o → s2.heap.get? b = some o := fun b o e => hk2 b o (Heap.get?_push_of_some _ e)
    have I2 : L2.Inv (gcxOf P w K mg base N qual scope f cdv Aw outer s H E0 []) [] (start N vs) H s2 :=
      I1.call' (ch := []) (hos.trans os1.symm) (Un.kept kp2) (I1.hok.kept kp2) hba fun b z => by simp at z
    have szp : (s1.heap.push go).objs.size = s1.heap.objs.size + 1 := Heap.size_push ..
    have hSz : s1.heap.objs.size < S := by
      have z : Array.size (s1.heap.push go).objs ≤ S := hS
      rw [szp] at z; exact z
    have hLz : s1.heap.objs.size < L := by
      have z : Array.size (s1.heap.push go).objs ≤ L := hL
      rw [szp] at z; exact z
    obtain ⟨cS, heS⟩ := hSo
    obtain ⟨oL, heL, noL⟩ := hLo
    have hea : s2.heap.get? s1.heap.objs.size = some go := hk2 s1.heap.objs.size go hpushed
    have hgd : ∀ v, go.data ≠ .cell v := fun v q => by rw [hgd0] at q; cases q
    have young : ∀ b, s1.heap.objs.size ≤ b → H b = none ∧ b ≠ s.heap.objs.size ∧ b ∉ frs outer ∧ s.heap.objs.size ≤ b ∧ ∀ y c, (cellsFrom (s.heap.objs.size + 1) scope.names []).lookup y = some c → c ≠ b := fun b hb => by
      refine ⟨I1.hok.fresh hb, Nat.ne_of_gt (Nat.lt_of_lt_of_le lt1 hb), I1.nofs hb, Nat.le_trans (Nat.le_of_lt lt1) hb, fun y c e z => ?_⟩
      obtain ⟨v, ob, ho, _⟩ := I1.cell y c e
      have := Heap.lt_size ho
      rw [z] at this
      exact absurd (Nat.lt_of_lt_of_le this hb) (Nat.lt_irrefl _)
    have hG : WI (gxOf P w K mg base N qual scope f cdv Aw outer s H [(s1.heap.objs.size, go)]) S L [] [] (start N vs) H s2 := by
      refine ⟨#[], cS, oL, noL, .nil, Inv.gx I2 fun p hp => ?_⟩
      have hp : p ∈ [(s1.heap.objs.size, go), (S, lstObj #[] cS), (L, oL)] := hp
      rcases List.mem_cons.mp hp with z | hp
      · rw [z]
        obtain ⟨y1, y2, y3, _, _⟩ := young s1.heap.objs.size (Nat.le_refl _)
        exact ⟨hea, y1, y2, y3, hgd⟩
      · rcases List.mem_cons.mp hp with z | hp
        · rw [z]
          obtain ⟨y1, y2, y3, _, _⟩ := young S (Nat.le_of_lt hSz)
          exact ⟨heS, y1, y2, y3, fun v q => by cases q⟩
        · rw [List.mem_singleton.mp hp]
          obtain ⟨y1, y2, y3, _, _⟩ := young L (Nat.le_of_lt hLz)
          exact ⟨heL, y1, y2, y3, noL.nocell⟩
    have hAp : ∀ Z, s1.heap.objs.size < Z → Apart (gxOf P w K mg base N qual scope f cdv Aw outer s H [(s1.heap.objs.size, go)]) Z := fun Z hZ => by
      obtain ⟨_, y2, _, y4, y5⟩ := young Z (Nat.le_of_lt hZ)
      exact ⟨y4, y2, y5⟩
    have pinned : ∀ {ip : List (Addr × Obj)} {ys : List V} {s' : Shared} {σ' : L2.St} {H' : Hp}, WI (gxOf P w K mg base N qual scope f cdv Aw outer s H [(s1.heap.objs.size, go)]) S L ip ys σ' H' s' → s'.heap.IsGen s1.heap.objs.size s1.gens.size := fun {ip ys s' σ' H'} hI => by
      obtain ⟨_, _, _, _, _, J⟩ := hI
      exact hgen _ (J.pin (s1.heap.objs.size, go) (List.mem_append_left _ (List.mem_singleton.mpr rfl))).1
    refine seg_func ?_
    refine seg_imp (R := WR (gxOf P w K mg base N qual scope f cdv Aw outer s H [(s1.heap.objs.size, go)]) S L (fun ys v H' => v = .non ∧ Q ys H'))
      (Y := WY (gxOf P w K mg base N qual scope f cdv Aw outer s H [(s1.heap.objs.size, go)]) S L) (fun n s₀ r s3 hR => ?_) (fun n s₀ v s3 kap kap' hkk hY => ?_) sizeLine ?_
    · cases r with
      | error e => exact False.elim hR
      | ok fl =>
        cases fl with
        | next => exact False.elim hR
        | brk => exact False.elim hR
        | cont => exact False.elim hR
        | ret u =>
          obtain ⟨ys, v, ip, σ', H', hn, hI, rv, ev, hQ⟩ := hR
          subst ev
          have eu : u = Value.none := rv
          subst eu
          obtain ⟨⟨a1, _, _, acc, cc, ra, ea⟩, a5, _, _, o, eo, no⟩ := hI.facts
          obtain ⟨_, _, _, _, _, J⟩ := hI
          exact .inl ⟨.inl rfl, H', ys, acc, cc, o, J.os, J.bare, J.base, J.hok, a1, a5, ea, eo, no, ra, by omega, hQ⟩
    · obtain ⟨ys, xx, yy, p, ip, σ', H', hn, ev, ep, hI, h3⟩ := hY
      obtain ⟨⟨_, _, _, acc, cc, ra, ea⟩, _, _, _, o, eo, no⟩ := hI.facts
      have hg := pinned hI
      obtain ⟨_, _, _, _, _, J⟩ := hI
      have hsz : acc.size = ys.length := by
        have e1 := ra.length
        have e2 : acc.toList.length = acc.size := by simp
        omega
      obtain ⟨_, its, rits, htp⟩ := J.hok p _ ep
      cases rits with
      | cons ru rest =>
        cases rest with
        | cons ry nil =>
          cases nil with
          | nil => exact ⟨J.os, J.bare, J.nolimit, hg, ⟨acc, cc, ea, by rw [hsz]; exact hn⟩, ⟨o, eo, no⟩, p, _, _, ev, htp, fun s' z => hkk _ _ (h3 _ s' ru z)⟩
    · refine ht Aw S L [] _ sizeLine [] s2 _ [] _ _ id id s2 (start N vs) H _ ⟨fun p hp => ?_, hAp S hSz, hAp L hLz, two, over_func, rfl, rfl, rfl, fun _ _ z => z⟩ (Nat.add_zero _) (fun n ys s₀ s' fl hn hs => ?_) hG hq
      · have hp : p ∈ [(s1.heap.objs.size, go)] := hp
        rw [List.mem_singleton.mp hp]
        exact ⟨Nat.ne_of_lt hSz, Nat.ne_of_lt hLz⟩
      · cases fl with
        | next =>
          obtain ⟨σ', H', hI, hQ⟩ := hs
          exact seg_end (.ok (.ret .none)) ⟨ys, .non, [], σ', H', hn, hI, rfl, rfl, hQ⟩
        | brk => obtain ⟨_, _, _, q⟩ := hs; exact False.elim q
        | cont => obtain ⟨_, _, _, q⟩ := hs; exact False.elim q
        | ret u =>
          obtain ⟨v, σ', H', hI, rv, ev, hQ⟩ := hs
          exact seg_end (.ok (.ret u)) ⟨ys, v, [], σ', H', hn, hI, rv, ev, hQ⟩
  exact main _ _ _ _ rfl rfl rfl fun h => Heap.get?_push_size _ rfl
end Sg
/-! part SgGn3 -/
set_option Elab.async false
set_option maxRecDepth 100000
set_option linter.unusedVariables false
set_option maxHeartbeats 1000000
namespace Sg
open PySem PySem.Spec PyProof.Rows L2 GenW
abbrev TGen2 := L2.St → Hp → (List V → Hp → Prop) → Prop
structure PGen2 (X : Cx) (k : Nat) (e : Expr) (tg : TGen2) : Prop where
  run : ∀ (pins : List (Addr × Obj)) (s : Shared) (σ : L2.St) (H : Hp) (cont : List V → Hp → Prop), L2.Inv X pins σ H s → tg σ H cont →
    wpAny (model X.prog X.w) X.A (eval e X.env) (fun u t => ∃ H1 sc, L2.Inv X pins σ H1 sc ∧ WMade X.prog X.w k X.stack H1 sc cont u t) X.xe s
def tCallW (sp : SpW) (t : TA) : TGen2 := fun σ H cont => t σ H fun vs H1 => sp vs H1 cont
section
variable {X : Cx} {k : Nat}
/-- f(e, ..) of such a generator def -/
theorem pgen2_call {f : Addr} {fd : FuncData} {ps : List Str} {sp : SpW} {x : Str} {p pos : Pos} {e : Expr} {es : List Expr} {t : TA} (F : WFn X.prog X.w X.K X.mg X.base k f fd ps sp) (hr : Room k X.A) (hg : Gl X x) (hm : X.mg x = some (.ref f)) (hk : PySem.W.keepIn X.K (.ref f) = true) (hb : Binds X.K fd ps [])
    (ha : PA X (e :: es) t) (hdb : (x == ("__debug__" : Str)) = false := by decide) (he : starEach (e :: es) X.env = (false, eval e X.env) :: starEach es X.env := by rfl) (hpl : (backTo pos (starEach es X.env)).any (·.1) = false := by rfl) :
    PGen2 X k (.Call (.Name x p) (e :: es) [] pos) (tCallW sp t) := by
  refine ⟨fun pins s σ H cont I h => ?_⟩
  refine wpAny_Call_Name_kw (ld_glob I hg hm ?_ hdb)
  refine PySem.W.callWith_K (h₀ := X.base) I.ok.mod.kin hk (thn (ha.run pos pins s σ H _ I h) fun us s1 ⟨vs, H1, I1, r, q⟩ => ⟨I1.kIn, ?_⟩) he hpl
  have hl2 : us.length = ps.length := by rw [← r.length]; exact F.len _ _ _ q
  have hb1 := hb s1 us I1.kIn (by rw [List.append_nil]; exact hl2)
  rw [List.append_nil] at hb1
  refine wpAny_call (codeAny_mono (F.run X.A X.stack s1 H1 ⟨us, []⟩ us vs cont hr I1.env0 hb1 r q) fun r2 s' hq => ?_)
  cases r2 with
  | error e => exact False.elim hq
  | ok fl =>
    cases fl with
    | ret u => exact ⟨H1, s1, I1, hq⟩
    | next => exact False.elim hq
    | brk => exact False.elim hq
    | cont => exact False.elim hq
def tLcG (tg : TGen2) : TE := fun σ H Q => tg σ H fun out H2 => ∀ p, H2 p = none → Q (.ref p) (upd H2 p (.lst out))
theorem Doz.push {S L : Addr} {u : Value} {s : Shared} {acc : Array Value} {c : Nat} {G : Array GenState} (hS : s.heap.get? S = some (lstObj acc c)) (two : S ≠ L) (hL : ∃ o, s.heap.get? L = some o ∧ NsO o) (hG : AllBare G) : Doz S L u s { s with gens := G, heap := s.heap.update S (Obj.mapSeq (·.push u)) } where
  sos := rfl
  gbare := hG
  rest := fun b o hb _ e => (Heap.get?_update_other _ _ (Ne.symm hb)).trans e
  put := fun acc2 c2 e => by
    rw [hS] at e
    cases e
    exact ⟨_, Heap.get?_update_self _ hS rfl⟩
  blk := let ⟨o, e, n⟩ := hL; ⟨o, (Heap.get?_update_other _ _ two).trans e, n⟩
theorem NoLimit.rest {S L : Addr} {h t : Heap} (n : h.NoLimit) (k : ∀ b o, b ≠ S → b ≠ L → h.get? b = some o → t.get? b = some o) (hS : S ≠ cStatics) (hL : L ≠ cStatics) : t.NoLimit := by
  obtain ⟨mc, hns, hnn⟩ := n
  exact ⟨mc, hns.at' fun o e => k _ o (Ne.symm hS) (Ne.symm hL) e, hnn⟩
theorem pe_lcGen {a b : Str} {pa pb pe tp pos : Pos} {iter : Expr} {scope : Scope} {own : List (Str × Nat)} {tg : TGen2} {tx} (hc : X.calm = true) (G : PGen2 X k iter tg) (hr : Room (k + 1) X.A) (ok : BlkOk X.N X.env.scope scope own)
    (ha : scope.names.lookup a = some .local) (hb : scope.names.lookup b = some .local) (hab : a ≠ b) (hda : (a == ("__debug__" : Str)) = false) (hs : ∀ x, foldedSetIterable iter X.env x = pure x := by intro _; rfl) :
    PE X (.ListComp (.Name a pe) [⟨.Tuple [.Name a pa, .Name b pb] tx tp, iter, [], 0⟩] scope pos) (tLcG tg) := by
  refine ⟨fun pins s σ H Q I h => ?_⟩
  rw [eval_ListComp]
  have hfree : ∀ y ∈ scope.names, y.2 = .free → ∃ c, X.env.cells.lookup y.1 = some c := fun y hy e => by
    rcases ok.free y hy e with k | k
    · exact I.ok.has _ (.inl k)
    · exact I.ok.has _ (.inr k)
  refine wpAny_comprehension_free (use := none) rfl hs (closure_ok hfree) ok.kind (fun y hy e => by rw [ok.uniq y hy, e]) (thn (G.run pins s σ H _ I h) fun u s1 ⟨H1, sc, I1, hG⟩ => ?_)
  obtain ⟨ga, g, c, rfl, ha1, ha2, hg, hgs, hos, hbar, hl, hkp, wake⟩ := hG
  refine wpAny_pyIter_gen hg ?_
  refine wpAny_newObj_type (newEnv_comp ?_) (by show 0 ≤ sizeLine; decide)
  generalize hs3 : ({ s1 with heap := s1.heap.push { cls := .type "list", data := .seq ([] : List Value).toArray } } : Shared) = s3
  have h3 : s3.heap = s1.heap.push { cls := .type "list", data := .seq ([] : List Value).toArray } := by rw [← hs3]
  have z3 : s3.heap.objs.size = s1.heap.objs.size + 1 := by rw [h3, Heap.size_push]
  show codeAny _ _ (.compStart (.ListComp (.Name a pe) [⟨.Tuple [.Name a pa, .Name b pb] tx tp, iter, [], 0⟩] scope pos) 0 (.ref ga) (.ref s1.heap.objs.size) (compEnvC scope (cellsFrom (s3.heap.objs.size + 1) scope.names (cloFrom X.env.cells scope.names [])) s3.heap.objs.size X.env)) (compPost (model X.prog X.w) X.A X.xe none _ (.ref s1.heap.objs.size) s3.heap.objs.size) { s3 with heap := pushCells (s3.heap.push { cls := .type "dict", data := .dict #[] }) scope.names }
  generalize hS : s1.heap.objs.size = S
  generalize hL : s3.heap.objs.size = L
  have two : S ≠ L := by rw [← hS, ← hL, z3]; exact Nat.ne_of_lt (Nat.lt_succ_self _)
  generalize hce : compEnvC scope (cellsFrom (L + 1) scope.names (cloFrom X.env.cells scope.names [])) L X.env = ce
  have cL : ce.locals = L := by subst hce; rfl
  have cK : ce.scope.kind = .function := by subst hce; exact ok.kind
  have cLa : ce.kindOf a = some .local := by subst hce; exact lookup_relabel_local ha
  have cLb : ce.kindOf b = some .local := by subst hce; exact lookup_relabel_local hb
  have cP : (ce.scope.kind == .class || (ce.scope.kind == .module && ce.locals != ce.globals)) = false := by rw [cK]; rfl
  generalize hs4 : ({ s3 with heap := pushCells (s3.heap.push { cls := .type "dict", data := .dict #[] }) scope.names } : Shared) = s4
  have kp4 : ∀ b o, s1.heap.get? b = some o → s4.heap.get? b = some o := fun b o e => by
    rw [← hs4]
    exact pushCells_keeps _ _ _ _ (Heap.get?_push_of_some _ (by rw [h3]; exact Heap.get?_push_of_some _ e))
  have eS4 : s4.heap.get? S = some (lstObj #[] 0) := by
    rw [← hs4]
    refine pushCells_keeps _ _ _ _ (Heap.get?_push_of_some _ ?_)
    rw [h3, ← hS]
    exact Heap.get?_push_size _ rfl
  have eL4 : ∃ o, s4.heap.get? L = some o ∧ NsO o := by
    refine NsO.of (m := fun _ => none) ?_
    rw [← hs4, ← hL]
    exact Heap.Ns.keeps (Heap.Ns.new ..) fun b o e => pushCells_keeps _ _ _ _ e
  have g4 : s4.gens = s1.gens := by rw [← hs4, ← hs3]
  have o4 : s4.os = sc.os := by rw [← hs4, ← hs3]; exact hos
  have gS : S ≠ ga := by rw [← hS]; exact Nat.ne_of_gt ha2
  have gL : L ≠ ga := by rw [← hL, z3]; exact Nat.ne_of_gt (Nat.lt_succ_of_lt ha2)
  have cl : cStatics < s1.heap.objs.size := let ⟨_, hn, _⟩ := hl; hn.lt
  have nS : S ≠ cStatics := by rw [← hS]; exact Nat.ne_of_gt cl
  have nL : L ≠ cStatics := by rw [← hL, z3]; exact Nat.ne_of_gt (Nat.lt_succ_of_lt cl)
  have szS : sc.heap.objs.size ≤ S := by rw [← hS]; exact Nat.le_trans ha1 (Nat.le_of_lt ha2)
  have szL : sc.heap.objs.size ≤ L := by rw [← hL, z3, hS]; exact Nat.le_succ_of_le szS
  have loop : codeAny (model X.prog X.w) X.A (.compLoop (.ListComp (.Name a pe) [⟨.Tuple [.Name a pa, .Name b pb] tx tp, iter, [], 0⟩] scope pos) 0 (.ref ga) (.ref S) ce)
      (compPost (model X.prog X.w) X.A X.xe none (fun u s' => ∃ v H', L2.Inv X pins σ H' s' ∧ L2.RelV v u ∧ Q v H') (.ref S) L) s4 := by
    refine compLoop_any (fun m t => t.heap.IsGen ga g ∧ t.heap.NoLimit ∧ ∃ gs, t.gens[g]? = some gs ∧ gs.Goes (model X.prog X.w) X.A.in1 (WEnd X.prog X.w X.stack H1 sc S L fun out H2 => ∀ p, H2 p = none → Q (.ref p) (upd H2 p (.lst out))) (WItem sc S L ga g) m (.send .none) (t.setGen g .running)) ?_ sizeLine
      ⟨hg.keeps kp4, hl.keeps kp4, .fresh c, by rw [g4]; exact hgs, rfl, ?_⟩
    · rintro n s5 ⟨hg5, hl5, gs, hgs5, hgo⟩
      have hgl : g < s5.gens.size := (Array.getElem?_eq_some_iff.mp hgs5).1
      refine wpAny_gsz (n := g + 1) hgl (next_genG hr.hd hl5 (by have := hr.dp; omega) hg5 hgs5 hgo (fun v t gs2 hbare hv => ?_) (fun t hp h' hk => ?_) fun e t z => z.elim)
      · intro hsz
        obtain ⟨os6, hb6, hl6, hg6, ⟨acc, cc, eS, hasz⟩, eL, p, u, y, rfl, hp, hk⟩ := hv
        cases n with
        | zero => exact (hk _ (Doz.push eS two eL hb6)).elim
        | succ n =>
          have has : acc.size < sizeLine := by omega
          obtain ⟨og, nm, qn, hog, hocl, hod, hosl⟩ := id hg6
          refine go_of (o := og) (n := "generator") hog hocl hod (by decide) ?_
          refine wpAny_assign_Tuple (items := #[u, y]) hr.hd hp rfl rfl fun h7 x7 => ?_
          have k7 : ∀ b o, t.heap.get? b = some o → h7.get? b = some o := fun b o e => x7 b o (Nat.ne_of_lt (Heap.lt_size e)) e
          obtain ⟨oL, eoL, noL⟩ := eL
          obtain ⟨m7, n7⟩ := noL.at (k7 _ _ eoL)
          rw [← cL] at n7
          refine assignInOrder_cons ?_
          refine wpAny_assign_Name (wpAny_storeName_local cLa n7 (fun h8 n8 x8 => ?_) cP)
          refine assignInOrder_cons ?_
          refine wpAny_assign_Name (wpAny_storeName_local cLb n8 (fun h9 n9 x9 => ?_) cP)
          refine assignInOrder_nil ?_
          refine wpAny_tests_nil ?_
          rw [if_pos rfl]
          refine wpAny_Name (wpAny_loadName_local cK cLa n9 (v := u) (by rw [if_neg hab, if_pos rfl]) ?_) hda
          have k9 : ∀ b o, b ≠ L → t.heap.get? b = some o → h9.get? b = some o := fun b o hb e => by
            rw [← cL] at hb
            rw [x9.2 b hb, x8.2 b hb]
            exact k7 b o e
          refine append_at (its := acc) (n := cc) (k9 S _ two eS) (fun h10 x10 e10 => ?_) (Nat.le_of_lt has)
          have k10 : ∀ b o, b ≠ S → b ≠ L → t.heap.get? b = some o → h10.get? b = some o := fun b o hb hc e => (x10.2 b hb).trans (k9 b o hc e)
          have sz6 : g < t.gens.size := by
            have q : (t.setGen g gs2).gens.size = t.gens.size := setGen_size _ _ _
            have z : g + 1 ≤ (t.setGen g gs2).gens.size := hsz
            omega
          obtain ⟨o9, eo9, no9⟩ := NsO.of n9
          rw [cL] at eo9
          refine ⟨n, Nat.lt_succ_self n, ⟨og, nm, qn, k10 ga og (Ne.symm gS) (Ne.symm gL) hog, hocl, hod, hosl⟩, NoLimit.rest hl6 k10 nS nL, gs2, setGen_at sz6, ?_⟩
          refine hk _ ⟨rfl, allBare_setGen (allBare_setGen hb6 hbare) rfl, k10, fun acc2 c2 e => ?_, o9, (x10.2 L (Ne.symm two)).trans eo9, no9⟩
          rw [eS] at e
          cases e
          exact ⟨_, e10⟩
      · intro hsz
        obtain ⟨H', ys, acc, cc, o, os6, hb6, un, hok, hn1, hn2, eS, eL, no, hv, hle, hQ⟩ := hp
        obtain ⟨m, hm⟩ := no.at (hk _ _ eL)
        have I6 := I1.drained (s' := { t.setGen g .finished with heap := h' }) szS hle (hk _ _ eS) hv ExOk.nil os6 (allBare_setGen hb6 rfl) (un.trans (Un.kept hk)) (hok.kept hk) hn1
        have f := I1.fpOk (b := L) (H' := upd H' S (.lst ys)) szL (by rw [upd_ne (Ne.symm two)]; exact hn2)
        obtain ⟨f0, f1, f2, f3, f4, f5⟩ := f
        refine ⟨m, hm, fun h2 sb => ⟨.ref S, _, I6.turned (t' := t.toks) (fun b o hb e => (sb.2 b hb).trans e) f0 f1 f3 f4 f5, rfl, hQ S hn1⟩⟩
    · refine wake X.A.in1 S L _ hr.in1 I1.ok.frames (Nat.le_of_eq hS) (by rw [← hL, z3]; exact Nat.le_succ _) two kp4 ⟨_, eS4⟩ eL4 o4 (allBare_setGen (by rw [g4]; exact hbar) rfl)
  exact codeAny_compStart_list loop (wpAny_pyIter_gen (hg.keeps kp4) loop)
end
end Sg
set_option Elab.async false
set_option maxRecDepth 100000
set_option linter.unusedVariables false
set_option maxHeartbeats 1000000
namespace Sg
open PySem PySem.Spec PyProof.Rows L2
local macro_rules | `(tactic| walk_at "la") => `(tactic| first | assumption | (refine' LstAt.mono ?la_m ?la_s ?la_e; (case la_e => assumption); (case la_m => first | exact mono_C | exact mono_P | exact mono_I | exact mono_S | exact mono_L | exact mono_O); (case la_s => walk_at "ex")))
local macro_rules | `(tactic| walk_at "fz") => `(tactic| first | with_reducible exact len0 | assumption | with_reducible exact len_put (by assumption) | with_reducible exact (len_put len0) | with_reducible exact (len_put (len_put len0)) | with_reducible exact (len_put (len_put (len_put len0))) | with_reducible exact (len_put (len_put (len_put (len_put len0)))) | with_reducible exact (len_put (len_put (len_put (len_put (len_put len0))))) | with_reducible exact (len_put (len_put (len_put (len_put (len_put (len_put len0)))))) | with_reducible exact (len_put (len_put (len_put (len_put (len_put (len_put (len_put len0))))))) | with_reducible exact (len_put (len_put (len_put (len_put (len_put (len_put (len_put (len_put len0)))))))))
local macro_rules | `(tactic| walk_at "nn") => `(tactic| first | assumption | (refine' Sg.Same.free ?nn_s ?nn_e; (case nn_e => assumption); (case nn_s => walk_at "ex")))
local macro_rules | `(tactic| walk_at "ex") => `(tactic| first | assumption | exact L2.Same.refl _ | (refine' Same.mut ?ex_a ?ex_b; (case ex_a => walk_at "ex"); (case ex_b => walk_at "nn")) | (refine' Same.keep ?ex_k ?ex_a ?ex_b; (case ex_k => assumption); (case ex_a => walk_at "ex"); (case ex_b => walk_at "nn")) | (refine' L2.Same.trans ?ex_a ?ex_b; (case ex_b => assumption); (case ex_a => walk_at "ex")))
local macro_rules | `(tactic| walk_at "lk") => `(tactic| first | exact upd_same | assumption | (refine' lk_new ?lk_a ?lk_b; (case lk_a => assumption); (case lk_b => walk_at "lk")) | (refine' lk_ne ?lk_a ?lk_b; (case lk_a => assumption); (case lk_b => walk_at "lk")) | (refine' lk_same ?lk_s ?lk_e; (case lk_e => assumption); (case lk_s => walk_at "ex")) | (refine' lk_same ?lk_s ?lk_e; (case lk_s => assumption); (case lk_e => walk_at "lk")))
local macro_rules | `(tactic| walk_at "ln") => `(tactic| (intro vs H Q E h; repeat (first | (have e := h.1; subst e; exact rfl) | (obtain ⟨_, h⟩ := h))))
local macro_rules | `(tactic| walk_at "fl") => `(tactic| with_reducible first | assumption | exact F_Circuit_inputs _ _ _ _ | exact F_Circuit_latches _ _ _ _ | exact F_Circuit_ands _ _ _ _ | exact F_Circuit_outputs _ _ _ _ | exact F_Net_input_count _ _ _ | exact F_Net_latches _ _ _ | exact F_Net_ands _ _ _ | exact F_Units_clauses _ _ _ | exact F_Units_holders _ _ _ | exact F_Units_shorts _ _ _ | exact F_Builder_leaf_count _ _ _ _ | exact F_Builder_pairs _ _ _ _ | exact F_Builder__nodes _ _ _ _ | exact F_Builder__levels _ _ _ _ | exact F_AlikeCertificate_facts _ _ _ _ | exact F_AlikeCertificate_start_lines _ _ _ _ | exact F_AlikeCertificate_lines _ _ _ _ | exact F_AlikeCertificate_next_lines _ _ _ _ | exact F_Joined_joint _ _ _ _ _ _ _ _ | exact F_Joined_goals _ _ _ _ _ _ _ _ | exact F_Joined__last_input _ _ _ _ _ _ _ _ | exact F_Joined__left_limit _ _ _ _ _ _ _ _ | exact F_Joined__right_limit _ _ _ _ _ _ _ _ | exact F_Joined__left_latches _ _ _ _ _ _ _ _ | exact F_Joined__right_latches _ _ _ _ _ _ _ _ | exact F_Joined__left_ands _ _ _ _ _ _ _ _)
local macro_rules | `(tactic| walk_at "g1") => `(tactic| first
  | ((with_reducible refine' g_var ?go_h ?_); (case go_h => exact rfl))
  | with_reducible refine' g_c ?_
  | with_reducible refine' g_op ?_
  | with_reducible refine' g_seq ?_
  | with_reducible refine' g_asg ?_
  | ((with_reducible refine' g_name2 ?go_e ?_); (case go_e => first | (simp only [wipe, List.map_cons, List.map_nil, List.set_cons_succ, List.set_cons_zero]; exact rfl) | exact rfl))
  | with_reducible refine' g_cons ?_
  | with_reducible refine' g_nil ?_
  | with_reducible refine' g_call ?_
  | with_reducible refine' g_f ?_
  | ((with_reducible refine' g_fx ?go_h ?go_l ?_); (case go_h => walk_at "lk"); (case go_l => walk_at "fl"))
  | with_reducible refine' g_if ?_
  | with_reducible refine' g_andV ?_
  | with_reducible refine' g_orV ?_
  | with_reducible refine' g_notV ?_
  | with_reducible refine' g_meth ?_
  | with_reducible refine' g_prop ?_
  | with_reducible refine' g_make ?_
  | with_reducible refine' g_sF ?_
  | with_reducible refine' g_bm ?_
  | ((with_reducible refine' g_mul ?go_b ?_); (case go_b => first | decide | omega))
  | ((with_reducible refine' g_sub ?go_b ?_); (case go_b => omega))
  | ((with_reducible refine' g_appC2 ?go_h ?go_t ?z ?_); (case go_h => walk_at "la"); (case go_t => walk_at "lk"); rotate_left; intro _ _ _)
  | ((with_reducible refine' g_appC1 ?go_h ?go_t ?z ?_); (case go_h => walk_at "la"); (case go_t => walk_at "lk"); rotate_left; intro _ _ _)
  | ((with_reducible refine' g_appP ?go_h ?go_t ?z ?_); (case go_h => walk_at "la"); (case go_t => walk_at "lk"); rotate_left; intro _ _ _)
  | ((with_reducible refine' g_appN ?go_h ?z ?_); (case go_h => walk_at "lk"); rotate_left)
  | ((with_reducible refine' g_extN ?go_h ?go_i ?z ?_); (case go_h => walk_at "lk"); (case go_i => walk_at "lk"); rotate_left)
  | ((with_reducible refine' g_appI ?go_h ?z ?_); (case go_h => walk_at "la"); rotate_left; intro _ _ _)
  | ((with_reducible refine' g_appC3 ?go_h ?go_t ?z ?_); (case go_h => walk_at "la"); (case go_t => walk_at "lk"); rotate_left; intro _ _ _)
  | ((with_reducible refine' g_wipe ?go_w ?_); (case go_w => exact rfl))
  | ((with_reducible refine' g_extendR (R := IsC) ?go_h ?go_i ?go_s ?z ?_); (case go_h => walk_at "la"); (case go_i => walk_at "la"); (case go_s => exact stab_C); rotate_left; intro _ _ _)
  | ((with_reducible refine' g_extendR (R := IsP) ?go_h ?go_i ?go_s ?z ?_); (case go_h => walk_at "la"); (case go_i => walk_at "la"); (case go_s => exact stab_P); rotate_left; intro _ _ _)
  | ((with_reducible refine' g_extendR (R := IsI) ?go_h ?go_i ?go_s ?z ?_); (case go_h => walk_at "la"); (case go_i => walk_at "la"); (case go_s => exact stab_I); rotate_left; intro _ _ _)
  | walk_at "gs"
  | with_reducible refine' g_forL ?_
  | with_reducible refine' g_forS ?_
  | with_reducible refine' g_dIn ?_
  | with_reducible refine' g_dNotIn ?_
  | with_reducible refine' g_dPut ?_
  | (with_reducible refine' g_dNewK ?_; intro _ _)
  | (with_reducible refine' g_dNewT ?_; intro _ _)
  | with_reducible refine' g_inSign ?_
  | with_reducible refine' g_dGet2 ?_
  | with_reducible refine' g_dGet ?_
  | ((with_reducible refine' g_rDGet2 ?go_h ?_); (case go_h => walk_at "lk"))
  | with_reducible refine' g_un ?_
  | with_reducible refine' g_neg ?_
  | with_reducible refine' g_ninSign ?_
  | ((with_reducible refine' g_rDInN ?go_h ?_); (case go_h => walk_at "lk"))
  | ((with_reducible refine' g_rDInI ?go_h ?_); (case go_h => walk_at "lk"))
  | ((with_reducible refine' g_rDNotInN ?go_h ?_); (case go_h => walk_at "lk"))
  | ((with_reducible refine' g_rDNotInI ?go_h ?_); (case go_h => walk_at "lk"))
  | with_reducible refine' g_forE ?_
  | with_reducible refine' g_forR ?_
  | with_reducible refine' g_forR2 ?_
  | with_reducible refine' g_forT ?_
  | with_reducible refine' g_lcL ?_
  | with_reducible refine' g_lcR ?_
  | with_reducible refine' g_lcT ?_
  | ((with_reducible refine' g_mod ?go_b ?_); (case go_b => first | decide | omega))
  | ((with_reducible refine' g_fdiv ?go_b ?go_c ?_); (case go_b => first | decide | omega); (case go_c => first | decide | omega))
  | ((with_reducible refine' g_fdivW ?go_b ?go_c ?_); (case go_b => first | decide | omega); (case go_c => first | decide | omega))
  | with_reducible refine' g_min ?_
  | with_reducible refine' g_max ?_
  | with_reducible refine' g_int ?_
  | ((with_reducible refine' g_tupOf ?go_h ?_); (case go_h => walk_at "lk"))
  | ((with_reducible refine' g_tupOfT ?go_h ?_); (case go_h => walk_at "lk"))
  | ((with_reducible refine' g_gtup ?go_h ?go_l ?_); (case go_h => walk_at "lk"); (case go_l => exact rfl))
  | ((with_reducible refine' g_rSF ?go_h ?go_l ?go_b ?_); (case go_h => walk_at "lk"); (case go_l => walk_at "fz"); (case go_b => exact rfl))
  | ((with_reducible refine' g_listOf ?go_h ?_); (case go_h => walk_at "lk"))
  | ((with_reducible refine' g_disp ?go_h ?_); (case go_h => exact rfl); intro _ _)
  | ((with_reducible refine' g_rProp ?go_h ?_); (case go_h => walk_at "lk"))
  | ((with_reducible refine' g_rMeth ?go_h ?go_l ?_); (case go_h => walk_at "lk"); (case go_l => walk_at "fn"))
  | ((with_reducible refine' g_rBM ?go_h ?_); (case go_h => walk_at "lk"))
  | ((with_reducible refine' g_rBMR (R := IsC) ?go_h ?_); (case go_h => walk_at "la"))
  | ((with_reducible refine' g_rBMR (R := IsP) ?go_h ?_); (case go_h => walk_at "la"))
  | ((with_reducible refine' g_rBMR (R := IsI) ?go_h ?_); (case go_h => walk_at "la"))
  | ((with_reducible refine' g_rBMR (R := IsL) ?go_h ?_); (case go_h => walk_at "la"))
  | ((with_reducible refine' g_rBMR (R := IsO) ?go_h ?_); (case go_h => walk_at "la"))
  | ((with_reducible refine' g_rBMR (R := IsS) ?go_h ?_); (case go_h => walk_at "la"))
  | ((with_reducible refine' g_len ?go_h ?_); (case go_h => walk_at "lk"))
  | ((with_reducible refine' g_lenR (R := IsP) ?go_h ?_); (case go_h => walk_at "la"))
  | ((with_reducible refine' g_in2 ?go_h ?_); (case go_h => walk_at "lk"))
  | with_reducible refine' g_test ?_
  | with_reducible refine' g_rB ?_
  | with_reducible refine' g_B ?_
  | with_reducible refine' g_add ?_
  | with_reducible refine' g_mul2 ?_
  | with_reducible refine' g_shr1 ?_
  | with_reducible refine' g_and1 ?_
  | with_reducible refine' g_xor1 ?_
  | with_reducible refine' g_lt ?_
  | with_reducible refine' g_le ?_
  | with_reducible refine' g_gt ?_
  | with_reducible refine' g_ge ?_
  | with_reducible refine' g_eq ?_
  | with_reducible refine' g_ne ?_
  | with_reducible refine' g_ret ?_
  | with_reducible refine' g_drop ?_
  | with_reducible refine' g_and ?_
  | with_reducible refine' g_or ?_
  | with_reducible refine' g_not ?_
  | with_reducible refine' g_cb ?_
  | with_reducible refine' g_tup ?_
  | with_reducible refine' g_lst ?_
  | with_reducible refine' g_next ?_
  | with_reducible refine' g_par ?_
  | ((with_reducible refine' g_par2 ?go_e ?_); (case go_e => first | (simp only [wipe, List.map_cons, List.map_nil, List.set_cons_succ, List.set_cons_zero]; exact rfl) | exact rfl))
  | with_reducible refine' g_gcons ?_
  | with_reducible refine' g_gnil ?_
  | with_reducible refine' g_chain ?_
  | with_reducible refine' g_isT ?_
  | with_reducible refine' g_isF_int ?_
  | with_reducible refine' g_isF_ref ?_
  | with_reducible refine' g_noT ?_
  | with_reducible refine' g_noF_int ?_
  | with_reducible refine' g_noF_ref ?_
  | with_reducible refine' ite_t ?_
  | with_reducible refine' ite_f ?_
  | with_reducible refine' iteN_t ?_
  | with_reducible refine' iteN_f ?_
  | with_reducible refine' g_band ?_
  | with_reducible refine' g_xor ?_
  | ((with_reducible refine' g_ixL ?go_h ?go_x ?_); (case go_h => walk_at "lk"); (case go_x => exact rfl))
  | ((with_reducible refine' g_ixT ?go_h ?go_x ?_); (case go_h => walk_at "lk"); (case go_x => exact rfl))
  | ((with_reducible refine' br_t ?go_h ?_); (case go_h => first | assumption | omega))
  | ((with_reducible refine' br_f ?go_h ?_); (case go_h => first | assumption | omega))
  | ((with_reducible refine' brn_t ?go_h ?_); (case go_h => first | assumption | omega))
  | ((with_reducible refine' brn_f ?go_h ?_); (case go_h => first | assumption | omega)))
local macro_rules | `(tactic| walk_at "go") => `(tactic| repeat walk_at "g1")
local macro_rules | `(tactic| walk_at "st") => `(tactic| (refine' st_eq ?go_s ?_; (case go_s => (simp only [L2.start, List.map_cons, List.map_nil, List.length_cons, List.length_nil, Nat.reduceAdd, Nat.reduceSub, List.replicate_succ, List.replicate_zero, List.cons_append, List.nil_append]; exact rfl))))
local macro_rules | `(tactic| walk_at "fn") => `(tactic| with_reducible first | assumption | exact F_Circuit_no_as_net _ _ _ _ | exact F_Units_no_add_clause _ _ _ | exact F_Units_no_settle _ _ _ | exact F_Units_no_spread _ _ _ | exact F_Units_no_follows _ _ _ | exact F_Builder_no_pair_of _ _ _ _ | exact F_Builder_no_level_of _ _ _ _ | exact F_Builder_no_both _ _ _ _ | exact F_Builder_no_simpler _ _ _ _ | exact F_Joined_no_from_left _ _ _ _ _ _ _ _ | exact F_Joined_no_from_right _ _ _ _ _ _ _ _)
local macro_rules | `(tactic| walk_at "gs") => `(tactic| fail "gs")
section
/-! part SgNet -/
set_option Elab.async false
set_option maxRecDepth 100000
set_option linter.unusedVariables false
set_option maxHeartbeats 1000000
open PySem PySem.Spec PyProof.Rows L2


def NetAt (K : PySem.W.Frag) (H : Hp) (p : Addr) (n : NetD) : Prop := ∃ dx ll la, H p = some (.ins (He.ga K "Net") dx (F_Net (.int (n.ni : Int)) (.ref ll) (.ref la))) ∧ LstAt H ll IsP n.lat ∧ LstAt H la IsP n.ands
theorem NetAt.mono {K : PySem.W.Frag} {H H' : Hp} {p : Addr} {n : NetD} (s : Same H H') (h : NetAt K H p n) : NetAt K H' p n := by
  obtain ⟨dx, ll, la, h1, h2, h3⟩ := h
  exact ⟨dx, ll, la, s _ _ h1, h2.mono mono_P s, h3.mono mono_P s⟩
def spNetNat (K : PySem.W.Frag) (f : NetD → Nat) : Sp := fun vs H Q _ => ∃ p n, vs = [.ref p] ∧ NetAt K H p n ∧ Q (.int (f n : Int)) H
section
variable {P : Program} {w : World} {K : PySem.W.Frag} {mg : Str → Option Value} {base : Heap} {f pr : Addr} {fd : FuncData}
theorem ok_first_latch (F : FunD K "first_latch" "Net.first_latch" (defArgs s_Net_first_latch) (defBody s_Net_first_latch) (defScope s_Net_first_latch) [] [] f fd) (hm : PropOf K (He.ga K "Net") "first_latch" pr f) (T : Txt K mg) : PropOk P w K mg base 1 (He.ga K "Net") "first_latch" (spNetNat K NetD.fl) := by
  refine ⟨pr, f, fd, hm, (FunD.bindsN (ps := ["self"]) F fun _ _ _ _ _ _ us hl => match us, hl with | [_], _ => rfl), fn_ok F sc_Net_first_latch ?len (fun cdv A outer s H vs Q E hr h => ⟨_, (pss_one (ps_ret (pe_op op_add (pe_int (i := ((1 : Nat) : Int))) (pe_f T.c_Net T.n_Net_input_count (pv 0))))), ?_⟩)⟩
  case len => walk_at "ln"
  
  obtain ⟨p, n, rfl, ⟨dx, ll, la, h1, h2, h3⟩, q⟩ := h
  walk_at "st"
  walk_at "go"
  exact q
theorem ok_first_and (F : FunD K "first_and" "Net.first_and" (defArgs s_Net_first_and) (defBody s_Net_first_and) (defScope s_Net_first_and) [] [] f fd) (hm : PropOf K (He.ga K "Net") "first_and" pr f) (T : Txt K mg) : PropOk P w K mg base 1 (He.ga K "Net") "first_and" (spNetNat K NetD.fa) := by
  refine ⟨pr, f, fd, hm, (FunD.bindsN (ps := ["self"]) F fun _ _ _ _ _ _ us hl => match us, hl with | [_], _ => rfl), fn_ok F sc_Net_first_and ?len (fun cdv A outer s H vs Q E hr h => ⟨_, (pss_one (ps_ret (pe_op op_add (pe_op op_add (pe_int (i := ((1 : Nat) : Int))) (pe_f T.c_Net T.n_Net_input_count (pv 0))) (pe_callB (call_lenK (K := K) (by rfl)) (by rfl) T.m_len (by decide +kernel) (pa_cons (pe_f T.c_Net T.n_Net_latches (pv 0)) pa_nil))))), ?_⟩)⟩
  case len => walk_at "ln"
  
  obtain ⟨p, n, rfl, ⟨dx, ll, la, h1, ⟨vl, h2, r2⟩, h3⟩, q⟩ := h
  walk_at "st"
  walk_at "go"
  rw [r2.1]
  exact q
theorem ok_node_count (F : FunD K "node_count" "Net.node_count" (defArgs s_Net_node_count) (defBody s_Net_node_count) (defScope s_Net_node_count) [] [] f fd) (hm : PropOf K (He.ga K "Net") "node_count" pr f) (T : Txt K mg) : PropOk P w K mg base 1 (He.ga K "Net") "node_count" (spNetNat K NetD.nn) := by
  refine ⟨pr, f, fd, hm, (FunD.bindsN (ps := ["self"]) F fun _ _ _ _ _ _ us hl => match us, hl with | [_], _ => rfl), fn_ok F sc_Net_node_count ?len (fun cdv A outer s H vs Q E hr h => ⟨_, (pss_one (ps_ret (pe_op op_add (pe_op op_add (pe_op op_add (pe_int (i := ((1 : Nat) : Int))) (pe_f T.c_Net T.n_Net_input_count (pv 0))) (pe_callB (call_lenK (K := K) (by rfl)) (by rfl) T.m_len (by decide +kernel) (pa_cons (pe_f T.c_Net T.n_Net_latches (pv 0)) pa_nil))) (pe_callB (call_lenK (K := K) (by rfl)) (by rfl) T.m_len (by decide +kernel) (pa_cons (pe_f T.c_Net T.n_Net_ands (pv 0)) pa_nil))))), ?_⟩)⟩
  case len => walk_at "ln"
  
  obtain ⟨p, n, rfl, ⟨dx, ll, la, h1, ⟨vl, h2, r2⟩, ⟨va, h3, r3⟩⟩, q⟩ := h
  walk_at "st"
  walk_at "go"
  rw [r2.1, r3.1]
  exact q
theorem g_netnat {K : PySem.W.Frag} {h : NetD → Nat} {H : Hp} {p : Addr} {n : NetD} {Q : VK} {E : XK} (hn : NetAt K H p n) (q : Q (.int (h n : Int)) H) : spNetNat K h [.ref p] H Q E := ⟨p, n, rfl, hn, q⟩
/-- a new object p, all else kept; where what stood before the lists is still to be read -/
def spNetInit (K : PySem.W.Frag) : Sp := fun vs H Q _ => ∃ (p dx ll la : Addr) (n : NetD) (H0 : Hp), vs = [.ref p, .int (n.ni : Int), .ref ll, .ref la] ∧ H p = some (.ins (He.ga K "Net") dx []) ∧ H0 p = none ∧ Same H0 H ∧ LstAt H0 ll IsP n.lat ∧ LstAt H0 la IsP n.ands ∧
  ∀ H', Same H0 H' → NetAt K H' p n → Q .non H'
theorem ok_Net_init (F : FunD K "__init__" "Net.__init__" (defArgs s_Net_init) (defBody s_Net_init) (defScope s_Net_init) [] [] f fd) (hm : mg "Net" = some (.ref (He.ga K "Net"))) (M : Mk K (He.ga K "Net") f) (T : Txt K mg) : InitOk P w K mg base 1 "Net" (He.ga K "Net") ["self", "input_count", "latches", "ands"] (spNetInit K) := by
  refine ⟨f, fd, hm, M, (FunD.bindsN (ps := ["self", "input_count", "latches", "ands"]) F fun _ _ _ _ _ _ us hl => match us, hl with | [_, _, _, _], _ => rfl), fn_ok F sc_Net_init ?len (fun cdv A outer s H vs Q E hr h => ⟨_, (pss_cons (ps_f T.c_Net T.n_Net_input_count (pv 0) (pv 1))
  (pss_cons (ps_f T.c_Net T.n_Net_latches (pv 0) (pe_callTy (call_listK (K := K) (by rfl)) (by rfl) T.m_list (by decide +kernel) (pa_cons (pv 2) pa_nil)))
  (pss_one (ps_f T.c_Net T.n_Net_ands (pv 0) (pe_callTy (call_listK (K := K) (by rfl)) (by rfl) T.m_list (by decide +kernel) (pa_cons (pv 3) pa_nil)))))), ?_⟩)⟩
  case len => walk_at "ln"
  
  obtain ⟨p, dx, ll, la, n, H0, rfl, hp, hp0, hS, ⟨vl, h2, r2⟩, ⟨va, h3, r3⟩, q⟩ := h
  walk_at "st"
  walk_at "go"
  intro l1 hl1
  have n1 : l1 ≠ p := ne_new upd_same hl1
  walk_at "go"
  intro l2 hl2
  have n2 : l2 ≠ p := ne_new upd_same hl2
  walk_at "go"
  have hS' := hS
  refine q _ (by walk_at "ex") ⟨dx, l1, l2, upd_same, ⟨vl, by walk_at "lk", r2.imp fun v x => mono_P _ _ v x (by walk_at "ex")⟩, ⟨va, by walk_at "lk", r3.imp fun v x => mono_P _ _ v x (by walk_at "ex")⟩⟩
end
end
section
/-! part SgM2 -/
set_option maxRecDepth 100000
set_option linter.unusedVariables false
set_option maxHeartbeats 1000000
open PySem
/-! ### images -/
/-- the literal l, its node's image being y -/
def xl (y l : Nat) : Nat := if l % 2 = 0 then y else neg y
theorem xl_xor (y l : Nat) : y ^^^ (l % 2) = xl y l := by
  unfold xl
  split
  · rename_i h; rw [h, Nat.xor_zero]
  · rename_i h
    rw [show l % 2 = 1 by omega, xor_one]
/-- the image of a literal -/
def imOf (imgs : List (Option Nat)) (l : Nat) : Nat := xl ((imgs[l / 2]?.getD none).getD 0) l
theorem imOf_eq {imgs : List (Option Nat)} {l y : Nat} (h : imgs[l / 2]? = some (some y)) : imOf imgs l = xl y l := by unfold imOf; rw [h]; rfl
def leafI (n : Nat) : List (Option Nat) := (List.range n).map fun k => some (2 * k)
/-- what stands for a builder: the leaves, the pairs of its ands, the level of every node -/
structure Bld where
  lc : Nat
  pairs : List (Nat × Nat)
  levels : List Nat
/-- the circuit that is built anew -/
def rebC (c : Cir Str) (b : Bld) (imgs : List (Option Nat)) : Cir Str := ⟨c.ins, c.lat.map fun l => (l.1, l.2.1, imOf imgs l.2.2), b.pairs, c.outs.map fun o => (o.1, imOf imgs o.2)⟩
/-! ### two circuits joined -/
def fromL (c d : Cir Str) (x : Nat) : Nat := if x / 2 < c.fa then x else x + 2 * d.lat.length
def fromR (c d : Cir Str) (x : Nat) : Nat := if x / 2 ≤ c.ins.length then x else if x / 2 < d.fa then x + 2 * c.lat.length else x + 2 * (c.lat.length + c.ands.length)
def joinN (c d : Cir Str) : NetD := ⟨c.ins.length, c.lat.map (fun l => (l.2.1, fromL c d l.2.2)) ++ d.lat.map (fun l => (l.2.1, fromR c d l.2.2)), c.ands.map (fun p => (fromL c d p.1, fromL c d p.2)) ++ d.ands.map (fun p => (fromR c d p.1, fromR c d p.2))⟩
def joinG (c d : Cir Str) : List (Nat × Nat) := List.zipWith (fun o o' => (fromL c d o.2, fromR c d o'.2)) c.outs d.outs
theorem nodup_at {α : Type} {xs : List α} {i : Nat} {x : α} (hn : xs.Nodup) (h : xs[i]? = some x) : ¬ x ∈ xs.take i := by
  intro m
  obtain ⟨j, hj⟩ := List.getElem?_of_mem m
  rw [List.getElem?_take] at hj
  split at hj
  · rename_i hlt
    obtain ⟨a, ha⟩ := List.getElem?_eq_some_iff.mp hj
    obtain ⟨b, hb⟩ := List.getElem?_eq_some_iff.mp h
    exact (List.pairwise_iff_getElem.mp hn) j i a b hlt (by rw [ha, hb])
  · cases hj
theorem nodup_at' {xs : List Nat} {i x : Nat} (hn : xs.Nodup) (h : xs[i]? = some x) : ¬ x ∈ xs.take i := nodup_at hn h
/-! ### unit propagation -/
/-- the clause ks is content with the literals S: one of it is in S, or two of it are not false -/
def OkC (ks S : List Nat) : Prop := (∃ x ∈ ks, x ∈ S) ∨ ∃ x ∈ ks, ∃ y ∈ ks, x ≠ y ∧ ¬ neg x ∈ S ∧ ¬ neg y ∈ S
/-- what settle does with the clause ks -/
def SettleR (ks known : List Nat) (res : Bool) (known' : List Nat) : Prop :=
  (res = false ∧ known' = known ∧ ∀ y ∈ ks, neg y ∈ known) ∨ (res = true ∧ known' = known ∧ OkC ks known) ∨
  ∃ x, res = true ∧ known' = known ++ [x] ∧ x ∈ ks ∧ ¬ x ∈ known ∧ ¬ neg x ∈ known ∧ ∀ y ∈ ks, y ≠ x → neg y ∈ known
def fVal (o : Option Nat) : Int := match o with | none => -1 | some x => (x : Int)
def ScanI (ks known : List Nat) (i : Nat) (o : Option Nat) : Prop := (∀ y ∈ ks.take i, ¬ y ∈ known) ∧ match o with
  | none => ∀ y ∈ ks.take i, neg y ∈ known
  | some x => x ∈ ks.take i ∧ ¬ neg x ∈ known ∧ ∀ y ∈ ks.take i, y ≠ x → neg y ∈ known
theorem ScanI.zero (ks known : List Nat) : ScanI ks known 0 none := ⟨fun y h => by simp at h, fun y h => by simp at h⟩
theorem ScanI.false {ks known : List Nat} {i x : Nat} {o : Option Nat} (hx : ks[i]? = some x) (h : ScanI ks known i o) (h1 : ¬ x ∈ known) (h2 : neg x ∈ known) : ScanI ks known (i + 1) o := by
  obtain ⟨a, b⟩ := h
  unfold ScanI
  rw [take_snoc hx]
  refine ⟨fun y hy => ?_, ?_⟩
  · rcases List.mem_append.mp hy with hy | hy
    · exact a y hy
    · rw [List.mem_singleton.mp hy]; exact h1
  · cases o with
    | none =>
      intro y hy
      rcases List.mem_append.mp hy with hy | hy
      · exact b y hy
      · rw [List.mem_singleton.mp hy]; exact h2
    | some z =>
      obtain ⟨b1, b2, b3⟩ := b
      refine ⟨List.mem_append_left _ b1, b2, fun y hy ne => ?_⟩
      rcases List.mem_append.mp hy with hy | hy
      · exact b3 y hy ne
      · rw [List.mem_singleton.mp hy]; exact h2
theorem ScanI.free {ks known : List Nat} {i x : Nat} (hx : ks[i]? = some x) (h : ScanI ks known i none) (h1 : ¬ x ∈ known) (h2 : ¬ neg x ∈ known) : ScanI ks known (i + 1) (some x) := by
  obtain ⟨a, b⟩ := h
  unfold ScanI
  rw [take_snoc hx]
  refine ⟨fun y hy => ?_, List.mem_append_right _ (List.mem_singleton_self x), h2, fun y hy ne => ?_⟩
  · rcases List.mem_append.mp hy with hy | hy
    · exact a y hy
    · rw [List.mem_singleton.mp hy]; exact h1
  · rcases List.mem_append.mp hy with hy | hy
    · exact b y hy
    · exact absurd (List.mem_singleton.mp hy) ne
theorem ScanI.two {ks known : List Nat} {i x z : Nat} (hn : ks.Nodup) (hx : ks[i]? = some x) (h : ScanI ks known i (some z)) (h2 : ¬ neg x ∈ known) : OkC ks known := by
  obtain ⟨a, b1, b2, b3⟩ := h
  refine .inr ⟨z, List.mem_of_mem_take b1, x, List.mem_of_getElem? hx, fun e => ?_, b2, h2⟩
  subst e
  exact nodup_at' hn hx b1
theorem ScanI.end {ks known : List Nat} {o : Option Nat} (h : ScanI ks known ks.length o) : match o with | none => ∀ y ∈ ks, neg y ∈ known | some x => x ∈ ks ∧ ¬ x ∈ known ∧ ¬ neg x ∈ known ∧ ∀ y ∈ ks, y ≠ x → neg y ∈ known := by
  obtain ⟨a, b⟩ := h
  rw [List.take_length] at a b
  cases o with
  | none => exact b
  | some x => exact ⟨b.1, a x b.1, b.2.1, b.2.2⟩
/-- sets of literals: never both, content with the clauses, and what follows -/
def Con (S : Nat → Prop) : Prop := ∀ x, S x → ¬ S (neg x)
def Clo (C : List (List Nat)) (S : Nat → Prop) : Prop := ∀ c ∈ C, (∃ x ∈ c, S x) ∨ ∃ x ∈ c, ∃ y ∈ c, x ≠ y ∧ ¬ S (neg x) ∧ ¬ S (neg y)
def FolN (C : List (List Nat)) (lits : List Nat) : Prop := ∀ S, Con S → Clo C S → (∀ x ∈ lits, S x) → False
def Fol (C : List (List Nat)) (line : List Nat) : Prop := FolN C (line.map neg)
theorem nodup_len : ∀ (L : Nat) (K : List Nat), K.Nodup → (∀ x ∈ K, x < L) → K.length ≤ L
  | 0, K, _, h => by
    cases K with
    | nil => exact Nat.le_refl _
    | cons x t => exact absurd (h x List.mem_cons_self) (Nat.not_lt_zero _)
  | L + 1, K, hn, h => by
    by_cases m : L ∈ K
    · have e := List.length_erase_of_mem m
      have p : 0 < K.length := List.length_pos_of_mem m
      have := nodup_len L (K.erase L) (hn.erase L) fun x hx => by
        have h1 := h x (List.mem_of_mem_erase hx)
        have h2 : x ≠ L := fun q => by rw [q] at hx; exact (List.Nodup.not_mem_erase hn) hx
        omega
      omega
    · have := nodup_len L K hn fun x hx => by
        have h1 := h x hx
        have h2 : x ≠ L := fun q => m (q ▸ hx)
        omega
      omega
/-- content so far: with the first n of K -/
def OkAt (c K : List Nat) (n : Nat) : Prop := (∃ x ∈ c, x ∈ K) ∨ ∃ x ∈ c, ∃ y ∈ c, x ≠ y ∧ ¬ neg x ∈ K.take n ∧ ¬ neg y ∈ K.take n
theorem OkAt.grow {c K : List Nat} {n : Nat} (h : OkAt c K n) (hn : n ≤ K.length) (x : Nat) : OkAt c (K ++ [x]) n := by
  rcases h with ⟨y, h1, h2⟩ | ⟨y, h1, z, h2, h3, h4, h5⟩
  · exact .inl ⟨y, h1, List.mem_append_left _ h2⟩
  · exact .inr ⟨y, h1, z, h2, h3, by rw [List.take_append_of_le_length hn]; exact h4, by rw [List.take_append_of_le_length hn]; exact h5⟩
theorem OkC.at {c K : List Nat} (n : Nat) (h : OkC c K) : OkAt c K n := by
  rcases h with h | ⟨y, h1, z, h2, h3, h4, h5⟩
  · exact .inl h
  · exact .inr ⟨y, h1, z, h2, h3, fun m => h4 (List.mem_of_mem_take m), fun m => h5 (List.mem_of_mem_take m)⟩
theorem OkC.short {c K : List Nat} (hl : c.length < 2) (h : OkC c K) : ∃ x ∈ c, x ∈ K := by
  rcases h with h | ⟨y, h1, z, h2, h3, _⟩
  · exact h
  · match c, hl with
    | [], _ => cases h1
    | [a], _ =>
      rw [List.mem_singleton] at h1 h2
      exact absurd (h1.trans h2.symm) h3
theorem last_of {P : Nat → Prop} : ∀ (n : Nat), (∃ i, i < n ∧ P i) → ∃ i, i < n ∧ P i ∧ ∀ j, i < j → j < n → ¬ P j
  | 0, ⟨i, h, _⟩ => absurd h (Nat.not_lt_zero i)
  | n + 1, ⟨i, h, p⟩ => by
    by_cases q : P n
    · exact ⟨n, Nat.lt_succ_self n, q, fun j h1 h2 => by omega⟩
    · have hi : i < n := by
        rcases Nat.lt_succ_iff_lt_or_eq.mp h with h | h
        · exact h
        · exact absurd (h ▸ p) q
      obtain ⟨k, k1, k2, k3⟩ := last_of n ⟨i, hi, p⟩
      refine ⟨k, by omega, k2, fun j h1 h2 => ?_⟩
      by_cases e : j = n
      · rw [e]; exact q
      · exact k3 j h1 (by omega)
theorem two_of : ∀ {c : List Nat}, c.Nodup → ¬ c.length < 2 → ∃ x ∈ c, ∃ y ∈ c, x ≠ y
  | [], _, h => absurd (by decide : ([] : List Nat).length < 2) h
  | [a], _, h => absurd (by show 1 < 2; decide) h
  | a :: b :: t, hn, _ => ⟨a, List.mem_cons_self, b, List.mem_cons_of_mem _ List.mem_cons_self, fun e => (List.nodup_cons.mp hn).1 (by rw [e]; exact List.mem_cons_self)⟩
/-- where spread ends, its literals are a good set -/
theorem spread_clo {C : List (List Nat)} {K : List Nat} (hC : ∀ c ∈ C, c.Nodup) (hs : ∀ c ∈ C, c.length < 2 → ∃ x ∈ c, x ∈ K)
    (hf : ∀ J z, K[J]? = some z → ∀ c ∈ C, neg z ∈ c → OkAt c K (J + 1)) : Clo C (· ∈ K) := by
  intro c hc
  by_cases sat : ∃ x ∈ c, x ∈ K
  · exact .inl sat
  by_cases two : ∃ x ∈ c, ∃ y ∈ c, x ≠ y ∧ ¬ neg x ∈ K ∧ ¬ neg y ∈ K
  · exact .inr two
  exfalso
  have hl : ¬ c.length < 2 := fun h => sat (hs c hc h)
  obtain ⟨x, hx, y, hy, ne⟩ := two_of (hC c hc) hl
  have h1 : ∃ z ∈ c, neg z ∈ K := by
    by_cases h : neg x ∈ K
    · exact ⟨x, hx, h⟩
    · by_cases h' : neg y ∈ K
      · exact ⟨y, hy, h'⟩
      · exact absurd ⟨x, hx, y, hy, ne, h, h'⟩ two
  obtain ⟨z, hz, hzK⟩ := h1
  obtain ⟨J0, hJ0⟩ := List.getElem?_of_mem hzK
  obtain ⟨J, j1, ⟨z', j2, j3⟩, j4⟩ := last_of (P := fun J => ∃ z, z ∈ c ∧ K[J]? = some (neg z)) K.length ⟨J0, (List.getElem?_eq_some_iff.mp hJ0).1, z, hz, hJ0⟩
  have key : ∀ u, u ∈ c → neg u ∈ K → neg u ∈ K.take (J + 1) := fun u hu hk => by
    obtain ⟨j, hj⟩ := List.getElem?_of_mem hk
    have hjl := (List.getElem?_eq_some_iff.mp hj).1
    have : j ≤ J := by
      by_cases q : J < j
      · exact absurd ⟨u, hu, hj⟩ (j4 j q hjl)
      · omega
    exact List.mem_of_getElem? (i := j) (by rw [List.getElem?_take, if_pos (by omega)]; exact hj)
  rcases hf J (neg z') j3 c hc (by rw [neg_neg]; exact j2) with h | ⟨u, hu, v, hv, huv, h2, h3⟩
  · exact sat h
  · refine two ⟨u, hu, v, hv, huv, fun h => h2 (key u hu h), fun h => h3 (key v hv h)⟩
/-- the clauses as they are kept: each once, sorted -/
def KeptOf (C kept : List (List Nat)) : Prop := kept.length = C.length ∧ ∀ (i : Nat) (c : List Nat), C[i]? = some c → ∃ ks : List Nat, kept[i]? = some ks ∧ ks.Nodup ∧ ∀ x, x ∈ ks ↔ x ∈ c
theorem KeptOf.nil : KeptOf [] [] := ⟨rfl, fun i c h => by simp at h⟩
theorem KeptOf.add {C kept : List (List Nat)} {c ks : List Nat} (h : KeptOf C kept) (hn : ks.Nodup) (hm : ∀ x, x ∈ ks ↔ x ∈ c) : KeptOf (C ++ [c]) (kept ++ [ks]) := by
  obtain ⟨h1, h2⟩ := h
  refine ⟨by rw [List.length_append, List.length_append, h1]; rfl, fun i d hd => ?_⟩
  by_cases hi : i < C.length
  · rw [List.getElem?_append_left hi] at hd
    obtain ⟨k, k1, k2⟩ := h2 i d hd
    exact ⟨k, by rw [List.getElem?_append_left (by omega)]; exact k1, k2⟩
  · rw [List.getElem?_append_right (by omega)] at hd
    have h0 : i - C.length = 0 := by
      have := (List.getElem?_eq_some_iff.mp hd).1
      simp at this; omega
    rw [h0] at hd
    cases hd
    exact ⟨ks, by rw [List.getElem?_append_right (by omega), h1, h0]; rfl, hn, hm⟩
theorem KeptOf.of {C kept : List (List Nat)} (h : KeptOf C kept) {k : List Nat} (hk : k ∈ kept) : ∃ c ∈ C, k.Nodup ∧ ∀ x, x ∈ k ↔ x ∈ c := by
  obtain ⟨i, hi⟩ := List.getElem?_of_mem hk
  have hl := (List.getElem?_eq_some_iff.mp hi).1
  obtain ⟨c, hc⟩ : ∃ c, C[i]? = some c := ⟨_, List.getElem?_eq_getElem (by rw [← h.1]; exact hl)⟩
  obtain ⟨k', k1, k2, k3⟩ := h.2 i c hc
  rw [hi] at k1; cases k1
  exact ⟨c, List.mem_of_getElem? hc, k2, k3⟩
theorem KeptOf.clo {C kept : List (List Nat)} (h : KeptOf C kept) {S : Nat → Prop} (hc : Clo kept S) : Clo C S := by
  intro c hm
  obtain ⟨i, hi⟩ := List.getElem?_of_mem hm
  obtain ⟨k, k1, k2, k3⟩ := h.2 i c hi
  rcases hc k (List.mem_of_getElem? k1) with ⟨x, x1, x2⟩ | ⟨x, x1, y, y1, r⟩
  · exact .inl ⟨x, (k3 x).mp x1, x2⟩
  · exact .inr ⟨x, (k3 x).mp x1, y, (k3 y).mp y1, r⟩
theorem KeptOf.fol {C kept : List (List Nat)} (h : KeptOf C kept) {line : List Nat} (hf : Fol C line) : Fol kept line := fun S a b c => hf S a (h.clo b) c
theorem sorted_nums {c : List Nat} {ns : List Int} (hp : ns.Pairwise (· < ·)) (hm : ∀ k : Int, k ∈ ns ↔ decide (k ∈ c.map (fun n : Nat => (n : Int))) = true) : ∃ ks : List Nat, ns = ks.map (fun n : Nat => (n : Int)) ∧ ks.Nodup ∧ ∀ x, x ∈ ks ↔ x ∈ c := by
  have hnn : ∀ k ∈ ns, ∃ n : Nat, k = (n : Int) ∧ n ∈ c := fun k hk => by
    have := of_decide_eq_true ((hm k).mp hk)
    obtain ⟨n, n1, n2⟩ := List.mem_map.mp this
    exact ⟨n, n2.symm, n1⟩
  have e : ns = (ns.map Int.toNat).map (fun n : Nat => (n : Int)) := by
    rw [List.map_map]
    conv => lhs; rw [← List.map_id ns]
    refine List.map_congr_left fun k hk => ?_
    obtain ⟨n, rfl, _⟩ := hnn k hk
    rfl
  refine ⟨ns.map Int.toNat, e, ?_, fun x => ?_⟩
  · refine List.pairwise_map.mpr (hp.imp_of_mem fun {a b} ha hb hlt => ?_)
    obtain ⟨n, rfl, _⟩ := hnn a ha
    obtain ⟨m, rfl, _⟩ := hnn b hb
    show ¬ _ = _
    omega
  · rw [List.mem_map]
    constructor
    · rintro ⟨k, hk, rfl⟩
      obtain ⟨n, rfl, hn⟩ := hnn k hk
      exact hn
    · intro hx
      exact ⟨(x : Int), (hm x).mpr (decide_eq_true (List.mem_map.mpr ⟨x, hx, rfl⟩)), rfl⟩
/-- all literals below L -/
def CLt (C : List (List Nat)) (L : Nat) : Prop := ∀ c ∈ C, ∀ x ∈ c, x < L
/-- line after line follows -/
def FolS (C lines : List (List Nat)) : Prop := ∀ (i : Nat) (c : List Nat), lines[i]? = some c → Fol (C ++ lines.take i) c
def Short (C : List (List Nat)) : Prop := ∀ c ∈ C, c.length ≤ 10
theorem neg_lt {x L : Nat} (hL : L % 2 = 0) (h : x < L) : neg x < L := by
  unfold neg; split <;> omega
/-- a net within its bounds -/
structure NetOk (n : NetD) : Prop where
  z : n.nn ≤ 300
  a : ∀ (i l r : Nat), n.ands[i]? = some (l, r) → l < 2 * n.nn ∧ r < 2 * n.nn
  s : ∀ l ∈ n.lat, l.1 ≤ 1
  l : ∀ l ∈ n.lat, l.2 < 2 * n.nn
theorem andsC_lt {L : Nat} (hL : L % 2 = 0) : ∀ (t : List (Nat × Nat)) (w : Nat), w % 2 = 0 → w + 2 * t.length ≤ L → (∀ p ∈ t, p.1 < L ∧ p.2 < L) → CLt (andsC w t) L
  | [], w, _, _, _, c, hc => nomatch hc
  | (a, b) :: t, w, hw, hl, hp, c, hc => by
    have hab := hp (a, b) List.mem_cons_self
    dsimp only at hab
    have hlen : ((a, b) :: t).length = t.length + 1 := rfl
    rcases List.mem_cons.mp hc with rfl | hc
    · intro x hx
      simp only [List.mem_cons, List.not_mem_nil, or_false] at hx
      rcases hx with rfl | rfl
      · omega
      · exact hab.1
    · rcases List.mem_cons.mp hc with rfl | hc
      · intro x hx
        simp only [List.mem_cons, List.not_mem_nil, or_false] at hx
        rcases hx with rfl | rfl
        · omega
        · exact hab.2
      · rcases List.mem_cons.mp hc with rfl | hc
        · intro x hx
          simp only [List.mem_cons, List.not_mem_nil, or_false] at hx
          rcases hx with rfl | rfl | rfl
          · omega
          · exact neg_lt hL hab.1
          · exact neg_lt hL hab.2
        · exact andsC_lt hL t (w + 2) (by omega) (by omega) (fun p hp' => hp p (List.mem_cons_of_mem _ hp')) c hc
theorem NetD.nn_eq (n : NetD) : n.nn = n.fa + n.ands.length := rfl
theorem baseC_lt {n : NetD} (h : NetOk n) : CLt (baseC n) (2 * n.nn) := by
  intro c hc
  rcases List.mem_cons.mp hc with rfl | hc
  · intro x hx
    rw [List.mem_singleton] at hx
    subst hx
    unfold NetD.nn; omega
  · refine andsC_lt (by omega) n.ands (2 * n.fa) (by omega) (by rw [NetD.nn_eq]; omega) (fun p hp => ?_) c hc
    obtain ⟨i, hi⟩ := List.getElem?_of_mem hp
    exact h.a i p.1 p.2 hi
theorem frameC_lt {n : NetD} (h : NetOk n) (f : Nat) : CLt (frameC n f) ((f + 1) * (2 * n.nn)) := by
  intro c hc x hx
  obtain ⟨d, hd, rfl⟩ := List.mem_map.mp hc
  obtain ⟨y, hy, rfl⟩ := List.mem_map.mp hx
  have := baseC_lt h d hd y hy
  rw [Nat.add_mul, Nat.one_mul, Nat.mul_assoc]
  omega
theorem frameC_len (n : NetD) (f : Nat) : (frameC n f).length = 1 + 3 * n.ands.length := by unfold frameC; rw [List.length_map, baseC_len]
theorem frameC_short (n : NetD) (f : Nat) : Short (frameC n f) := by
  intro c hc
  obtain ⟨d, hd, rfl⟩ := List.mem_map.mp hc
  unfold shiftC
  rw [List.length_map]
  exact Nat.le_trans (baseC_short hd) (by decide)
theorem startsC_lt {L : Nat} : ∀ (t : List (Nat × Nat)) (w : Nat), w + 2 * t.length ≤ L → CLt (startsC w t) L
  | [], w, _, c, hc => nomatch hc
  | (s, b) :: t, w, hl, c, hc => by
    have hlen : ((s, b) :: t).length = t.length + 1 := rfl
    rcases List.mem_cons.mp hc with rfl | hc
    · intro x hx
      rw [List.mem_singleton] at hx
      omega
    · exact startsC_lt t (w + 2) (by omega) c hc
theorem startsC_short : ∀ (t : List (Nat × Nat)) (w : Nat), Short (startsC w t)
  | [], w, c, hc => nomatch hc
  | (s, b) :: t, w, c, hc => by
    rcases List.mem_cons.mp hc with rfl | hc
    · exact Nat.le_add_left 1 9
    · exact startsC_short t (w + 2) c hc
theorem sameC_short (x y : Nat) : Short (sameC x y) := by
  intro c hc
  simp only [sameC, List.mem_cons, List.not_mem_nil, or_false] at hc
  rcases hc with rfl | rfl <;> exact Nat.le_add_left 2 8
theorem sameC_lt {x y L : Nat} (hL : L % 2 = 0) (hx : x < L) (hy : y < L) : CLt (sameC x y) L := by
  intro c hc z hz
  simp only [sameC, List.mem_cons, List.not_mem_nil, or_false] at hc
  rcases hc with rfl | rfl
  · simp only [List.mem_cons, List.not_mem_nil, or_false] at hz
    rcases hz with rfl | rfl
    · exact neg_lt hL hx
    · exact hy
  · simp only [List.mem_cons, List.not_mem_nil, or_false] at hz
    rcases hz with rfl | rfl
    · exact hx
    · exact neg_lt hL hy
theorem linksC_lt {L a b : Nat} (hL : L % 2 = 0) : ∀ (t : List (Nat × Nat)) (w : Nat), w + 2 * t.length + a ≤ L → (∀ p ∈ t, p.2 + b < L) → CLt (linksC w a b t) L
  | [], w, _, _, c, hc => nomatch hc
  | (s, x) :: t, w, hl, hp, c, hc => by
    have hlen : ((s, x) :: t).length = t.length + 1 := rfl
    rcases List.mem_append.mp hc with hc | hc
    · exact sameC_lt hL (by omega) (hp (s, x) List.mem_cons_self) c hc
    · exact linksC_lt hL t (w + 2) (by omega) (fun p hp' => hp p (List.mem_cons_of_mem _ hp')) c hc
theorem linksC_short (a b : Nat) : ∀ (t : List (Nat × Nat)) (w : Nat), Short (linksC w a b t)
  | [], w, c, hc => nomatch hc
  | (s, x) :: t, w, c, hc => by
    rcases List.mem_append.mp hc with hc | hc
    · exact sameC_short _ _ c hc
    · exact linksC_short a b t (w + 2) c hc
theorem CLt.app {C D : List (List Nat)} {L : Nat} (h : CLt C L) (h' : CLt D L) : CLt (C ++ D) L := fun c hc => (List.mem_append.mp hc).elim (h c) (h' c)
theorem CLt.le {C : List (List Nat)} {L M : Nat} (h : CLt C L) (l : L ≤ M) : CLt C M := fun c hc x hx => Nat.lt_of_lt_of_le (h c hc x hx) l
theorem FolS.nil (C : List (List Nat)) : FolS C [] := fun i c h => by simp at h
/-! ### runs -/
def bitOf (vs : List Nat) (l : Nat) : Nat := xl (vs.getD (l / 2) 0) l
def valsF : List Nat → List (Nat × Nat) → List Nat
  | vs, [] => vs
  | vs, p :: t => valsF (vs ++ [bitOf vs p.1 &&& bitOf vs p.2]) t
theorem valsF_snoc : ∀ (t : List (Nat × Nat)) (vs : List Nat) (p : Nat × Nat), valsF vs (t ++ [p]) = valsF vs t ++ [bitOf (valsF vs t) p.1 &&& bitOf (valsF vs t) p.2]
  | [], vs, p => rfl
  | q :: t, vs, p => valsF_snoc t _ p
theorem valsF_len : ∀ (t : List (Nat × Nat)) (vs : List Nat), (valsF vs t).length = vs.length + t.length
  | [], vs => rfl
  | q :: t, vs => by
    show (valsF _ t).length = _
    rw [valsF_len t, List.length_append]
    show vs.length + 1 + t.length = vs.length + (t.length + 1)
    omega
def netVals (n : NetD) (st row : List Nat) : List Nat := valsF (0 :: (row ++ st)) n.ands
def cirVals {α : Type} (c : Cir α) (st row : List Nat) : List Nat := netVals c.net st row
def outF {α : Type} (c : Cir α) (st row : List Nat) : List Nat := c.outs.map fun o => bitOf (cirVals c st row) o.2
def nextF {α : Type} (c : Cir α) (st row : List Nat) : List Nat := c.lat.map fun l => bitOf (cirVals c st row) l.2.2
def startS {α : Type} (c : Cir α) : List Nat := c.lat.map fun l => l.2.1
def runF {α : Type} (c : Cir α) : List Nat → List (List Nat) → List (List Nat)
  | _, [] => []
  | st, row :: t => outF c st row :: runF c (nextF c st row) t
/-! ### builders -/
structure BldOk (b : Bld) : Prop where
  lv : b.levels.length = b.lc + 1 + b.pairs.length
  pl : ∀ (i l r : Nat), b.pairs[i]? = some (l, r) → l / 2 < b.lc + 1 + i ∧ r / 2 < b.lc + 1 + i
def Bld.nn (b : Bld) : Nat := b.lc + 1 + b.pairs.length
/-- what Builder.both makes of two literals -/
def BothR (b : Bld) (l r y : Nat) (b' : Bld) : Prop :=
  ((min l r = 0 ∨ max l r = neg (min l r)) ∧ y = 0 ∧ b' = b) ∨
  (¬ (min l r = 0 ∨ max l r = neg (min l r)) ∧ (min l r = 1 ∨ min l r = max l r) ∧ y = max l r ∧ b' = b) ∨
  (¬ (min l r = 0 ∨ max l r = neg (min l r)) ∧ ¬ (min l r = 1 ∨ min l r = max l r) ∧ ∃ i, b.pairs[i]? = some (min l r, max l r) ∧ y = 2 * (b.lc + 1 + i) ∧ b' = b) ∨
  (¬ (min l r = 0 ∨ max l r = neg (min l r)) ∧ ¬ (min l r = 1 ∨ min l r = max l r) ∧ ¬ (min l r, max l r) ∈ b.pairs ∧ y = 2 * (b.lc + 1 + b.pairs.length) ∧
    ∃ lv, b' = ⟨b.lc, b.pairs ++ [(min l r, max l r)], b.levels ++ [lv]⟩)
/-- what is known of a builder's step -/
structure StepOk (b : Bld) (y : Nat) (b' : Bld) : Prop where
  ok : BldOk b'
  lc : b'.lc = b.lc
  nn : b.nn ≤ b'.nn
  n1 : b'.nn ≤ b.nn + 1
  y : y / 2 < b'.nn
  pre : ∀ (i : Nat) (p : Nat × Nat), b.pairs[i]? = some p → b'.pairs[i]? = some p
theorem both_ok {b b' : Bld} {l r y : Nat} (hb : BldOk b) (hl : l / 2 < b.nn) (hr : r / 2 < b.nn) (h : BothR b l r y b') : StepOk b y b' := by
  have hmin : (min l r) / 2 < b.nn := by omega
  have hmax : (max l r) / 2 < b.nn := by omega
  have h0 : 0 < b.nn := by omega
  rcases h with ⟨_, rfl, rfl⟩ | ⟨_, _, rfl, rfl⟩ | ⟨_, _, i, hi, rfl, rfl⟩ | ⟨_, _, _, rfl, lv, rfl⟩
  · exact ⟨hb, rfl, Nat.le_refl _, Nat.le_succ _, h0, fun _ _ e => e⟩
  · exact ⟨hb, rfl, Nat.le_refl _, Nat.le_succ _, hmax, fun _ _ e => e⟩
  · refine ⟨hb, rfl, Nat.le_refl _, Nat.le_succ _, ?_, fun _ _ e => e⟩
    have := lt_of_get hi
    unfold Bld.nn
    omega
  · have hlen : (b.pairs ++ [(min l r, max l r)]).length = b.pairs.length + 1 := by rw [List.length_append]; rfl
    refine ⟨⟨?_, fun i l' r' e => ?_⟩, rfl, ?_, ?_, ?_, fun i p e => ?_⟩
    · show (b.levels ++ [lv]).length = b.lc + 1 + (b.pairs ++ [(min l r, max l r)]).length
      rw [List.length_append, hlen, hb.lv]
      rfl
    · by_cases q : i < b.pairs.length
      · have e' : (b.pairs ++ [(min l r, max l r)])[i]? = some (l', r') := e
        rw [List.getElem?_append_left q] at e'
        exact hb.pl i l' r' e'
      · have e' : (b.pairs ++ [(min l r, max l r)])[i]? = some (l', r') := e
        rw [List.getElem?_append_right (by omega)] at e'
        have hi0 : i - b.pairs.length = 0 := by
          have := (List.getElem?_eq_some_iff.mp e').1
          simp at this; omega
        rw [hi0] at e'
        cases e'
        unfold Bld.nn at hmin hmax
        show (min l r) / 2 < b.lc + 1 + i ∧ (max l r) / 2 < b.lc + 1 + i
        omega
    · unfold Bld.nn
      show _ ≤ b.lc + 1 + (b.pairs ++ [(min l r, max l r)]).length
      omega
    · unfold Bld.nn
      show b.lc + 1 + (b.pairs ++ [(min l r, max l r)]).length ≤ _
      omega
    · unfold Bld.nn
      show 2 * (b.lc + 1 + b.pairs.length) / 2 < b.lc + 1 + (b.pairs ++ [(min l r, max l r)]).length
      omega
    · show (b.pairs ++ [(min l r, max l r)])[i]? = some p
      rw [List.getElem?_append_left (lt_of_get e)]
      exact e
/-! ### the rules -/
def byOne (w a b o : Nat) : Option (Nat × Nat) :=
  if w % 2 = 0 then (if o = a ∨ o = b then some (w, 1) else if o = neg a ∨ o = neg b then some (0, 1) else none)
  else if o = neg a ∨ o = neg b then some (o, 1) else if o = a then some (o, neg b) else if o = b then some (o, neg a) else none
def byTwo (w a b c d : Nat) : Option (Nat × Nat) :=
  if (neg a = c ∨ neg a = d) ∨ neg b = c ∨ neg b = d then some (0, 1) else if c = a ∨ c = b then some (w, d) else if d = a ∨ d = b then some (w, c) else none
def byCompl (a b o c d : Nat) : Option (Nat × Nat) :=
  if (neg a = c ∨ neg a = d) ∨ neg b = c ∨ neg b = d then some (o, 1) else if a = c ∨ a = d then some (o, neg b) else if b = c ∨ b = d then some (o, neg a) else none
def byTwoC (a b c d : Nat) : Option (Nat × Nat) :=
  if (a = c ∨ a = d) ∧ (neg b = c ∨ neg b = d) then some (neg a, 1) else if (b = c ∨ b = d) ∧ (neg a = c ∨ neg a = d) then some (neg b, 1) else none
def pairOf (b : Bld) (l : Nat) : Option (Nat × Nat) := if l / 2 ≤ b.lc then none else b.pairs[l / 2 - b.lc - 1]?
def simp1 (b : Bld) (lo hi : Nat) : Option (Nat × Nat) := match pairOf b lo with | some p => byOne lo p.1 p.2 hi | none => none
def simp2 (b : Bld) (lo hi : Nat) : Option (Nat × Nat) := match simp1 b lo hi with
  | some x => some x
  | none => match pairOf b hi with | some q => byOne hi q.1 q.2 lo | none => none
def simp3 (lo hi : Nat) (p q : Nat × Nat) : Option (Nat × Nat) :=
  if lo % 2 = 0 then (if hi % 2 = 0 then byTwo lo p.1 p.2 q.1 q.2 else byCompl q.1 q.2 lo p.1 p.2)
  else if hi % 2 = 0 then byCompl p.1 p.2 hi q.1 q.2 else byTwoC p.1 p.2 q.1 q.2
def simplerF (b : Bld) (lo hi : Nat) : Option (Nat × Nat) :=
  if lo ≤ 1 ∨ lo / 2 = hi / 2 then none else match simp2 b lo hi with
  | some x => some x
  | none => match pairOf b lo, pairOf b hi with
    | some p, some q => simp3 lo hi p q
    | _, _ => none
/-- truth values -/
def Bits (vs : List Nat) : Prop := ∀ b ∈ vs, b ≤ 1
theorem getD_le {vs : List Nat} (h : Bits vs) (i : Nat) : vs.getD i 0 ≤ 1 := by
  rw [List.getD_eq_getElem?_getD]
  cases e : vs[i]? with
  | none => exact Nat.zero_le _
  | some v => exact h v (List.mem_of_getElem? e)
theorem xl_bit {v l : Nat} (h : v ≤ 1) : xl v l = if l % 2 = 1 then 1 - v else v := by
  unfold xl neg
  have : v = 0 ∨ v = 1 := by omega
  rcases this with rfl | rfl <;> split <;> split <;> simp_all
theorem bitOf_le {vs : List Nat} (h : Bits vs) (l : Nat) : bitOf vs l ≤ 1 := by
  unfold bitOf
  have := getD_le h (l / 2)
  rw [xl_bit this]
  split <;> omega
theorem and_mul {a b : Nat} (ha : a ≤ 1) (hb : b ≤ 1) : a &&& b = a * b := by
  have h1 : a = 0 ∨ a = 1 := by omega
  have h2 : b = 0 ∨ b = 1 := by omega
  rcases h1 with rfl | rfl <;> rcases h2 with rfl | rfl <;> rfl
theorem valsF_bits : ∀ (t : List (Nat × Nat)) (vs : List Nat), Bits vs → Bits (valsF vs t)
  | [], vs, h => h
  | p :: t, vs, h => valsF_bits t _ fun b hb => by
    rcases List.mem_append.mp hb with hb | hb
    · exact h b hb
    · rw [List.mem_singleton.mp hb, and_mul (bitOf_le h _) (bitOf_le h _)]
      have h1 := bitOf_le h p.1
      have h2 := bitOf_le h p.2
      exact Nat.le_trans (Nat.mul_le_mul h1 h2) (by decide)
def bitsL (x n : Nat) : List Nat := (List.range n).map fun k => x / 2 ^ k % 2
theorem bitsL_snoc (x n : Nat) : bitsL x (n + 1) = bitsL x n ++ [x / 2 ^ n % 2] := by
  unfold bitsL
  rw [List.range_succ, List.map_append]
  rfl
theorem bitsL_len (x n : Nat) : (bitsL x n).length = n := by unfold bitsL; rw [List.length_map, List.length_range]
theorem bitsL_bits (x n : Nat) : Bits (bitsL x n) := fun b hb => by
  obtain ⟨k, _, rfl⟩ := List.mem_map.mp hb
  omega
/-- the lines of a certificate: node after node -/
def certL (c d : Cir Str) (imgs : List (Option Nat)) (n : Nat) : List (List Nat) := match imgs[n]? with
  | some (some y) => sameC (fromL c d (2 * n)) (fromR c d y)
  | _ => []
def certC (c d : Cir Str) (imgs : List (Option Nat)) (lo : Nat) : Nat → List (List Nat)
  | 0 => []
  | n + 1 => certC c d imgs lo n ++ certL c d imgs (lo + n)
theorem certL_len (c d : Cir Str) (imgs : List (Option Nat)) (n : Nat) : (certL c d imgs n).length ≤ 2 := by
  unfold certL; split
  · exact Nat.le_refl 2
  · exact Nat.zero_le 2
theorem certC_len (c d : Cir Str) (imgs : List (Option Nat)) (lo : Nat) : ∀ n, (certC c d imgs lo n).length ≤ 2 * n
  | 0 => Nat.le_refl _
  | n + 1 => by
    show (certC c d imgs lo n ++ _).length ≤ _
    rw [List.length_append]
    have := certC_len c d imgs lo n
    have := certL_len c d imgs (lo + n)
    omega
/-! ### trim -/
def keepN (ne : List Bool) (ni k : Nat) : Bool := ne.getD k false || decide (k ≤ ni)
def cntN (ne : List Bool) (ni : Nat) : Nat → Nat
  | 0 => 0
  | k + 1 => cntN ne ni k + if keepN ne ni k then 1 else 0
def trimI (ne : List Bool) (ni n : Nat) : List (Option Nat) := (List.range n).map fun k => if keepN ne ni k then some (2 * cntN ne ni k) else none
theorem trimI_snoc (ne : List Bool) (ni n : Nat) : trimI ne ni (n + 1) = trimI ne ni n ++ [if keepN ne ni n then some (2 * cntN ne ni n) else none] := by
  unfold trimI
  rw [List.range_succ, List.map_append]
  rfl
theorem trimI_len (ne : List Bool) (ni n : Nat) : (trimI ne ni n).length = n := by unfold trimI; rw [List.length_map, List.length_range]
def falses (ne : List Bool) : Nat := (ne.filter fun b => !b).length
theorem falses_set : ∀ (ne : List Bool) (i : Nat), ne[i]? = some false → falses (ne.set i true) + 1 = falses ne
  | [], i, h => by simp at h
  | b :: t, 0, h => by
    cases h
    show (((true :: t).filter fun b => !b)).length + 1 = (((false :: t).filter fun b => !b)).length
    simp
  | b :: t, i + 1, h => by
    have := falses_set t i (by simpa using h)
    unfold falses at this ⊢
    show (((b :: t.set i true).filter fun b => !b)).length + 1 = (((b :: t).filter fun b => !b)).length
    cases b <;> simp <;> omega
theorem getD_set {ne : List Bool} {i j : Nat} (h : i < ne.length) : (ne.set i true).getD j false = if j = i then true else ne.getD j false := by
  rw [List.getD_eq_getElem?_getD, List.getElem?_set, List.getD_eq_getElem?_getD]
  by_cases e : i = j
  · rw [if_pos e, if_pos (e ▸ h), if_pos e.symm]; rfl
  · rw [if_neg e, if_neg (fun z => e z.symm)]
/-! ### circuits carried over, and after by and -/
def bld0 (n : Nat) : Bld := ⟨n, [], List.replicate (n + 1) 0⟩
inductive CarryR (R : Bld → Nat → Nat → Nat → Bld → Prop) (c : Cir Str) : Nat → List (Option Nat) → Bld → Prop
  | zero : CarryR R c 0 (leafI c.fa) (bld0 (c.ins.length + c.lat.length))
  | step {i l r y : Nat} {imgs : List (Option Nat)} {b b' : Bld} : CarryR R c i imgs b → c.ands[i]? = some (l, r) → R b (imOf imgs l) (imOf imgs r) y b' → CarryR R c (i + 1) (imgs ++ [some y]) b'
def StepR (R : Bld → Nat → Nat → Nat → Bld → Prop) : Prop := ∀ (b : Bld) (l r y : Nat) (b' : Bld), BldOk b → l / 2 < b.nn → r / 2 < b.nn → R b l r y b' → StepOk b y b'
theorem xl_div (y l : Nat) : xl y l / 2 = y / 2 := by
  unfold xl; split
  · rfl
  · exact neg_div y
structure CarryOk (c : Cir Str) (i : Nat) (imgs : List (Option Nat)) (b : Bld) : Prop where
  len : imgs.length = c.fa + i
  im : ∀ k, k < imgs.length → ∃ y, imgs[k]? = some (some y) ∧ y / 2 < b.nn
  ok : BldOk b
  lc : b.lc = c.ins.length + c.lat.length
  nn : b.nn ≤ c.fa + i
theorem CarryOk.zero (c : Cir Str) : CarryOk c 0 (leafI c.fa) (bld0 (c.ins.length + c.lat.length)) := by
  have hf : c.fa = c.ins.length + c.lat.length + 1 := by unfold Cir.fa; omega
  have hn : (bld0 (c.ins.length + c.lat.length)).nn = c.fa := by
    unfold Bld.nn bld0
    show c.ins.length + c.lat.length + 1 + 0 = _
    omega
  refine ⟨by unfold leafI; rw [List.length_map, List.length_range]; rfl, fun k hk => ⟨2 * k, ?_, ?_⟩, ⟨?_, fun i l r e => by simp [bld0] at e⟩, rfl, by rw [hn]; omega⟩
  · unfold leafI at hk ⊢
    rw [List.length_map, List.length_range] at hk
    rw [List.getElem?_map, List.getElem?_range hk]
    rfl
  · unfold leafI at hk
    rw [List.length_map, List.length_range] at hk
    rw [hn]; omega
  · show (List.replicate _ 0).length = _
    rw [List.length_replicate]
    rfl
theorem CarryOk.has {c : Cir Str} {i l : Nat} {imgs : List (Option Nat)} {b : Bld} (h : CarryOk c i imgs b) (hl : l / 2 < c.fa + i) : ∃ y, imgs[l / 2]? = some (some y) := by
  obtain ⟨y, hy, _⟩ := h.im (l / 2) (by rw [h.len]; exact hl)
  exact ⟨y, hy⟩
theorem CarryOk.lt {c : Cir Str} {i l : Nat} {imgs : List (Option Nat)} {b : Bld} (h : CarryOk c i imgs b) (hl : l / 2 < c.fa + i) : imOf imgs l / 2 < b.nn := by
  obtain ⟨y, hy, hlt⟩ := h.im (l / 2) (by rw [h.len]; exact hl)
  rw [imOf_eq hy, xl_div]
  exact hlt
theorem CarryOk.step {c : Cir Str} {i y : Nat} {imgs : List (Option Nat)} {b b' : Bld} (h : CarryOk c i imgs b) (s : StepOk b y b') : CarryOk c (i + 1) (imgs ++ [some y]) b' := by
  have hl : (imgs ++ [some y]).length = imgs.length + 1 := by rw [List.length_append]; rfl
  refine ⟨by rw [hl, h.len]; omega, fun k hk => ?_, s.ok, s.lc.trans h.lc, by have := s.n1; have := h.nn; omega⟩
  by_cases q : k < imgs.length
  · obtain ⟨z, hz, hlt⟩ := h.im k q
    exact ⟨z, by rw [List.getElem?_append_left q]; exact hz, Nat.lt_of_lt_of_le hlt s.nn⟩
  · have : k = imgs.length := by omega
    subst this
    exact ⟨y, by rw [List.getElem?_append_right (Nat.le_refl _), Nat.sub_self]; rfl, s.y⟩
/-! ### what a circuit must be -/
def sgFirst : Str := "abcdefghijklmnopqrstuvwxyz"
def sgSigns : Str := "abcdefghijklmnopqrstuvwxyz0123456789_"
structure NameOk (s : Str) : Prop where
  lo : 1 ≤ s.length
  hi : s.length ≤ 12
  first : ∃ c, s.cps.toList[0]? = some c ∧ c ∈ sgFirst.cps.toList
  all : ∀ c ∈ s.cps.toList, c ∈ sgSigns.cps.toList
def LeafOk (ins : List Str) (lat : List (Str × Nat × Nat)) (nn : Nat) : Prop := ins.length ≤ 16 ∧ lat.length ≤ 40 ∧ (∀ s ∈ ins ++ lat.map (·.1), NameOk s) ∧ (ins ++ lat.map (·.1)).Nodup ∧ ∀ l ∈ lat, l.2.1 ≤ 1 ∧ l.2.2 < 2 * nn
def AndsOk (fa : Nat) (ands : List (Nat × Nat)) : Prop := ands.length ≤ 2000 ∧ ∀ i l r, ands[i]? = some (l, r) → l < 2 * (fa + i) ∧ r < 2 * (fa + i)
def OutsOk (outs : List (Str × Nat)) (nn : Nat) : Prop := outs.length ≤ 32 ∧ (∀ s ∈ outs.map (·.1), NameOk s) ∧ (outs.map (·.1)).Nodup ∧ ∀ l ∈ outs, l.2 < 2 * nn
structure CirOk (c : Cir Str) : Prop where
  leaf : LeafOk c.ins c.lat c.nn
  ands : AndsOk c.fa c.ands
  outs : OutsOk c.outs c.nn
theorem nodup_app {α : Type} {xs ys : List α} {i : Nat} {x : α} (hn : (xs ++ ys).Nodup) (h : ys[i]? = some x) : ¬ x ∈ xs ++ ys.take i := by
  have h' : (xs ++ ys)[xs.length + i]? = some x := by
    rw [List.getElem?_append_right (by omega)]
    rw [show xs.length + i - xs.length = i by omega]; exact h
  have := nodup_at hn h'
  rwa [List.take_append, List.take_of_length_le (by omega), show xs.length + i - xs.length = i by omega] at this
theorem map_get {α β : Type} {f : α → β} {xs : List α} {i : Nat} {x : α} (h : xs[i]? = some x) : (xs.map f)[i]? = some (f x) := by rw [List.getElem?_map, h]; rfl
theorem CarryR.ok {R : Bld → Nat → Nat → Nat → Bld → Prop} {c : Cir Str} {i : Nat} {imgs : List (Option Nat)} {b : Bld} (hR : StepR R) (hc : CirOk c) (h : CarryR R c i imgs b) : CarryOk c i imgs b := by
  induction h with
  | zero => exact CarryOk.zero c
  | step h e r ih =>
    have hl := hc.ands.2 _ _ _ e
    exact ih.step (hR _ _ _ _ _ ih.ok (ih.lt (by omega)) (ih.lt (by omega)) r)
theorem signs_ok : ∀ c ∈ sgSigns.cps.toList, c < 0x110000 := by decide +kernel
theorem NameOk.str {s : Str} (h : NameOk s) : PyData.strOk s = true := by
  unfold PyData.strOk
  rw [Array.all_eq_true_iff_forall_mem]
  intro c hc
  exact decide_eq_true (signs_ok c (h.all c (by simpa using hc)))
/-- the circuit built anew is one -/
theorem reb_ok {c : Cir Str} {imgs : List (Option Nat)} {b : Bld} (hc : CirOk c) (hb : BldOk b) (hlc : b.lc = c.ins.length + c.lat.length) (hp : b.pairs.length ≤ 2000) (hl : ∀ l ∈ c.lat, imOf imgs l.2.2 / 2 < b.nn) (ho : ∀ l ∈ c.outs, imOf imgs l.2 / 2 < b.nn) : CirOk (rebC c b imgs) := by
  have en : (rebC c b imgs).nn = b.nn := by
    unfold Cir.nn Bld.nn rebC
    dsimp only
    rw [List.length_map, hlc]
    omega
  have ef : (rebC c b imgs).fa = b.lc + 1 := by
    unfold Cir.fa rebC
    dsimp only
    rw [List.length_map, hlc]
    omega
  have e1 : (rebC c b imgs).lat.map (·.1) = c.lat.map (·.1) := by
    unfold rebC; dsimp only; rw [List.map_map]; rfl
  have e2 : (rebC c b imgs).outs.map (·.1) = c.outs.map (·.1) := by
    unfold rebC; dsimp only; rw [List.map_map]; rfl
  obtain ⟨a1, a2, a3, a4, a5⟩ := hc.leaf
  obtain ⟨b1, b2, b3, b4⟩ := hc.outs
  refine ⟨⟨a1, by show (c.lat.map _).length ≤ _; rw [List.length_map]; exact a2, by rw [e1]; exact a3, by rw [e1]; exact a4, fun l hm => ?_⟩, ⟨hp, fun i l r e => ?_⟩, ⟨by show (c.outs.map _).length ≤ _; rw [List.length_map]; exact b1, by rw [e2]; exact b2, by rw [e2]; exact b3, fun l hm => ?_⟩⟩
  · obtain ⟨k, hk, rfl⟩ := List.mem_map.mp hm
    rw [en]
    have := hl k hk
    exact ⟨(a5 k hk).1, by show imOf imgs k.2.2 < _; omega⟩
  · rw [ef]
    have := hb.pl i l r e
    omega
  · obtain ⟨k, hk, rfl⟩ := List.mem_map.mp hm
    rw [en]
    have := ho k hk
    show imOf imgs k.2 < _
    omega
end
section
/-! part SgCir -/
set_option Elab.async false
set_option maxRecDepth 100000
set_option linter.unusedVariables false
set_option maxHeartbeats 1000000
open PySem PySem.Spec PyProof.Rows L2


/-! ### circuits -/
def CirAt (K : PySem.W.Frag) (H : Hp) (p : Addr) (c : Cir Str) : Prop := ∃ dx li ll la lo, H p = some (.ins (He.ga K "Circuit") dx (F_Circuit (.ref li) (.ref ll) (.ref la) (.ref lo))) ∧ LstAt H li IsS c.ins ∧ LstAt H ll IsL c.lat ∧ LstAt H la IsP c.ands ∧ LstAt H lo IsO c.outs
theorem CirAt.mono {K : PySem.W.Frag} {H H' : Hp} {p : Addr} {n : Cir Str} (s : Same H H') (h : CirAt K H p n) : CirAt K H' p n := by
  obtain ⟨dx, li, ll, la, lo, h1, h2, h3, h4, h5⟩ := h
  exact ⟨dx, li, ll, la, lo, s _ _ h1, h2.mono mono_S s, h3.mono mono_L s, h4.mono mono_P s, h5.mono mono_O s⟩
def spIsName : Sp := fun vs H Q _ => ∃ s, vs = [.str s] ∧ NameOk s ∧ Q (.bl true) H
section
variable {P : Program} {w : World} {K : PySem.W.Frag} {mg : Str → Option Value} {base : Heap} {f pr : Addr} {fd : FuncData}
theorem ok_is_name (F : FunD K "is_name" "is_name" (defArgs s_is_name) (defBody s_is_name) (defScope s_is_name) [] [] f fd) (hm : mg "is_name" = some (.ref f)) (T : Txt K mg) : DefOk P w K mg base 1 "is_name" ["text"] spIsName := by
  refine ⟨f, fd, hm, F.kp, (FunD.bindsN (ps := ["text"]) F fun _ _ _ _ _ _ us hl => match us, hl with | [_], _ => rfl), fn_ok F sc_is_name ?len (fun cdv A outer s H vs Q E hr h => ⟨_, (pss_cons (ps_if (PW.pt (pw_or (pt_not (pt_chain op_le op_le (pe_int (i := ((1 : Nat) : Int))) (pe_callB call_lenS' (by rfl) T.m_len (by decide +kernel) (pa_cons (pv 0) pa_nil)) (pe_gint (by rfl) T.MOST_SIGNS))) (pw_or1 (pt_cmpR op_notInSign (pe_ix ix_str (pv 0) (pe_int (i := ((0 : Nat) : Int))) (fun _ _ => rfl)) (pe_gstr (by rfl) T.FIRST_SIGNS) (by rfl))))) (pss_one (ps_ret pe_bl)) pss_nil)
  (pss_cons (ps_for PassesOwn.never rfl (pi_str (pv 0)) (pg_name (i := 1) sc_is_name.nd rfl (Or.inl rfl))
  (pss_one (ps_if (pt_cmpR op_notInSign (pv 1) (pe_gstr (by rfl) T.SIGNS) (by rfl)) (pss_one (ps_ret pe_bl)) pss_nil)))
  (pss_one (ps_ret pe_bl)))), ?_⟩)⟩
  case len => walk_at "ln"
  
  obtain ⟨z, rfl, hn, q⟩ := h
  obtain ⟨h1, h2, ⟨c0, h3, h3'⟩, h4⟩ := id hn
  walk_at "st"
  walk_at "go"
  refine g_lenS (by omega) ?_
  walk_at "go"
  refine g_ixS (by omega) h3 ?_
  walk_at "go"
  refine g_rForS (fun i σ H' => ∃ o, σ = [some (.str z), o] ∧ H' = H) ⟨_, rfl, rfl⟩ ?_ ?_
  · rintro i c σ H' hc ⟨_, rfl, rfl⟩
    have hm' := h4 c (List.mem_of_getElem? hc)
    walk_at "go"
    exact ⟨_, rfl, rfl⟩
  · rintro σ H' ⟨_, rfl, rfl⟩
    walk_at "go"
    exact q
def spLeaves : Sp := fun vs H Q _ => ∃ a b ins lat n, vs = [.ref a, .ref b, .int ((n : Nat) : Int)] ∧ LstAt H a IsS ins ∧ LstAt H b IsL lat ∧ LeafOk ins lat n ∧ ∀ H', Same H H' → Q .non H'
theorem g_isName {s : Str} {H : Hp} {Q : VK} {E : XK} (h : NameOk s) (q : Q (.bl true) H) : spIsName [.str s] H Q E := ⟨s, rfl, h, q⟩
theorem ok_fault_of_leaves (F : FunD K "fault_of_leaves" "fault_of_leaves" (defArgs s_fault_of_leaves) (defBody s_fault_of_leaves) (defScope s_fault_of_leaves) [] [] f fd) (hm : mg "fault_of_leaves" = some (.ref f)) (T : Txt K mg) (D_is_name : DefOk P w K mg base 1 "is_name" ["text"] spIsName) : DefOk P w K mg base 2 "fault_of_leaves" ["inputs", "latches", "node_count"] spLeaves := by
  refine ⟨f, fd, hm, F.kp, (FunD.bindsN (ps := ["inputs", "latches", "node_count"]) F fun _ _ _ _ _ _ us hl => match us, hl with | [_, _, _], _ => rfl), fn_ok F sc_fault_of_leaves ?len (fun cdv A outer s H vs Q E hr h => ⟨_, (pss_cons (ps_set (i := 3) sc_fault_of_leaves.nd rfl (Or.inl rfl) pe_dnewK)
  (pss_cons (ps_for PassesOwn.never rfl (pi_enum (by rfl) T.m_enumerate (pa_cons (pv 0) pa_nil)) (pg_tupK (K := K) (n := 2) (by rfl) (by rfl) (pgs_cons (pg_name (i := 4) sc_fault_of_leaves.nd rfl (Or.inl rfl)) (pgs_cons (pg_name (i := 5) sc_fault_of_leaves.nd rfl (Or.inl rfl)) pgs_nil)))
  (pss_cons (ps_if (PW.pt (pw_or (pt_cmpR op_eq (pv 4) (pe_gint (by rfl) T.MOST_INPUTS) (nomark _)) (pw_or (pt_not (pt_val (pe_callD D_is_name (hr.mono (by decide)) (by rfl) (pa_cons (pv 5) pa_nil)))) (pw_or1 (pt_cmp (pc_din (hu_of hr) (pv 5) (pv 3)) (by rfl)))))) (pss_one (ps_ret (pe_tup (pa_cons pe_str (pa_cons (pv 4) pa_nil))))) pss_nil)
  (pss_one (ps_dput (hu_of hr) (pv 3) (pv 5) pe_bl (by rfl)))))
  (pss_cons (ps_for PassesOwn.never rfl (pi_enum (by rfl) T.m_enumerate (pa_cons (pv 1) pa_nil)) (pg_tupK (K := K) (n := 2) (by rfl) (by rfl) (pgs_cons (pg_name (i := 4) sc_fault_of_leaves.nd rfl (Or.inl rfl)) (pgs_cons (pg_tupK (K := K) (n := 3) (by rfl) (by rfl) (pgs_cons (pg_name (i := 5) sc_fault_of_leaves.nd rfl (Or.inl rfl)) (pgs_cons (pg_name (i := 6) sc_fault_of_leaves.nd rfl (Or.inl rfl)) (pgs_cons (pg_name (i := 7) sc_fault_of_leaves.nd rfl (Or.inl rfl)) pgs_nil)))) pgs_nil)))
  (pss_cons (ps_if (PW.pt (pw_or (pt_cmpR op_eq (pv 4) (pe_gint (by rfl) T.MOST_LATCHES) (nomark _)) (pw_or (pt_not (pt_val (pe_callD D_is_name (hr.mono (by decide)) (by rfl) (pa_cons (pv 5) pa_nil)))) (pw_or1 (pt_cmp (pc_din (hu_of hr) (pv 5) (pv 3)) (by rfl)))))) (pss_one (ps_ret (pe_tup (pa_cons pe_str (pa_cons (pv 4) pa_nil))))) pss_nil)
  (pss_cons (ps_if (PW.pt (pw_or (pt_not (pt_chain op_le op_le (pe_int (i := ((0 : Nat) : Int))) (pv 6) (pe_int (i := ((1 : Nat) : Int))))) (pw_or1 (pt_not (pt_chain op_le op_lt (pe_int (i := ((0 : Nat) : Int))) (pv 7) (pe_op op_mul (pe_int (i := ((2 : Nat) : Int))) (pv 2))))))) (pss_one (ps_ret (pe_tup (pa_cons pe_str (pa_cons (pv 4) pa_nil))))) pss_nil)
  (pss_one (ps_dput (hu_of hr) (pv 3) (pv 5) pe_bl (by rfl))))))
  (pss_one (ps_ret pe_non))))), ?_⟩)⟩
  case len => walk_at "ln"
  
  obtain ⟨a, b, ins, lat, n, rfl, ⟨vi, h1, r1⟩, ⟨vl, h2, r2⟩, hk, q⟩ := h
  obtain ⟨k1, k2, k3, k4, k5⟩ := id hk
  walk_at "st"
  walk_at "go"
  rename_i dn hdn
  refine g_rForE (xs := vi) (by walk_at "lk") (fun i σ H' => ∃ o1 o2 o3 o4, σ = [some (.ref a), some (.ref b), some (.int (n : Int)), some (.ref dn), o1, o2, o3, o4] ∧ Same H H' ∧ H' dn = some (.dK (mkD (nmK (ins.take i))))) ⟨_, _, _, _, rfl, by walk_at "ex", upd_same⟩ ?_ ?_ ?_
  · rintro i σ H' hi ⟨_, _, _, _, rfl, hS, hL⟩
    walk_at "lk"
  · rintro i x σ H' T' hx ⟨_, _, _, _, rfl, hS, hL⟩ hT
    obtain ⟨s, hs, rfl⟩ := r1.2 i x hx
    have k6 : i < ins.length := lt_of_get hs
    have k7 : NameOk s := k3 s (List.mem_append_left _ (List.mem_of_getElem? hs))
    have k8 : ¬ s ∈ ins.take i := nodup_at (List.nodup_append.mp k4).1 hs
    walk_at "go"
    refine g_isName k7 ?_
    walk_at "go"
    refine g_rDPutN (by walk_at "lk") k8 (by rw [List.length_take]; omega) ?_
    refine ⟨_, _, _, _, rfl, by walk_at "ex", ?_⟩
    rw [take_snoc hs]
    exact upd_same
  rintro σ H' ⟨_, _, _, _, rfl, hS, hL⟩
  rw [r1.1, List.take_length] at hL
  walk_at "go"
  refine g_rForE (xs := vl) (by walk_at "lk") (fun i σ H' => ∃ o1 o2 o3 o4, σ = [some (.ref a), some (.ref b), some (.int (n : Int)), some (.ref dn), o1, o2, o3, o4] ∧ Same H H' ∧ H' dn = some (.dK (mkD (nmK (ins ++ (lat.map (·.1)).take i))))) ⟨_, _, _, _, rfl, hS, by rw [List.take_zero, List.append_nil]; exact hL⟩ ?_ ?_ ?_
  · rintro i σ H' hi ⟨_, _, _, _, rfl, hS, hL⟩
    walk_at "lk"
  · rintro i x σ H' T' hx ⟨_, _, _, _, rfl, hS, hL⟩ hT
    obtain ⟨⟨s, st, l⟩, hs, t, rfl, ht⟩ := r2.2 i x hx
    have k6 : i < lat.length := lt_of_get hs
    have hs' : (lat.map (·.1))[i]? = some s := map_get hs
    have k7 : NameOk s := k3 s (List.mem_append_right _ (List.mem_of_getElem? hs'))
    have k8 : ¬ s ∈ ins ++ (lat.map (·.1)).take i := nodup_app k4 hs'
    obtain ⟨k9, k10⟩ := k5 _ (List.mem_of_getElem? hs)
    dsimp only at k9 k10
    walk_at "go"
    refine g_isName k7 ?_
    walk_at "go"
    refine g_rDPutN (by walk_at "lk") k8 (by rw [List.length_append, List.length_take]; omega) ?_
    refine ⟨_, _, _, _, rfl, by walk_at "ex", ?_⟩
    rw [take_snoc hs', ← List.append_assoc]
    exact upd_same
  rintro σ H' ⟨_, _, _, _, rfl, hS, hL⟩
  walk_at "go"
  exact q _ hS
def spAnds : Sp := fun vs H Q _ => ∃ a fa ands, vs = [.int ((fa : Nat) : Int), .ref a] ∧ LstAt H a IsP ands ∧ AndsOk fa ands ∧ ∀ H', Same H H' → Q .non H'
theorem ok_fault_of_ands (F : FunD K "fault_of_ands" "fault_of_ands" (defArgs s_fault_of_ands) (defBody s_fault_of_ands) (defScope s_fault_of_ands) [] [] f fd) (hm : mg "fault_of_ands" = some (.ref f)) (T : Txt K mg) : DefOk P w K mg base 1 "fault_of_ands" ["first_and", "ands"] spAnds := by
  refine ⟨f, fd, hm, F.kp, (FunD.bindsN (ps := ["first_and", "ands"]) F fun _ _ _ _ _ _ us hl => match us, hl with | [_, _], _ => rfl), fn_ok F sc_fault_of_ands ?len (fun cdv A outer s H vs Q E hr h => ⟨_, (pss_cons (ps_for PassesOwn.never rfl (pi_enum (by rfl) T.m_enumerate (pa_cons (pv 1) pa_nil)) (pg_tupK (K := K) (n := 2) (by rfl) (by rfl) (pgs_cons (pg_name (i := 2) sc_fault_of_ands.nd rfl (Or.inl rfl)) (pgs_cons (pg_tupK (K := K) (n := 2) (by rfl) (by rfl) (pgs_cons (pg_name (i := 3) sc_fault_of_ands.nd rfl (Or.inl rfl)) (pgs_cons (pg_name (i := 4) sc_fault_of_ands.nd rfl (Or.inl rfl)) pgs_nil))) pgs_nil)))
  (pss_cons (ps_set (i := 5) sc_fault_of_ands.nd rfl (Or.inl rfl) (pe_op op_mul (pe_int (i := ((2 : Nat) : Int))) (pe_op op_add (pv 0) (pv 2))))
  (pss_one (ps_if (PW.pt (pw_or (pt_cmpR op_eq (pv 2) (pe_gint (by rfl) T.MOST_ANDS) (nomark _)) (pw_or (pt_not (pt_chain op_le op_lt (pe_int (i := ((0 : Nat) : Int))) (pv 3) (pv 5))) (pw_or1 (pt_not (pt_chain op_le op_lt (pe_int (i := ((0 : Nat) : Int))) (pv 4) (pv 5))))))) (pss_one (ps_ret (pe_tup (pa_cons pe_str (pa_cons (pv 2) pa_nil))))) pss_nil))))
  (pss_one (ps_ret pe_non))), ?_⟩)⟩
  case len => walk_at "ln"
  
  obtain ⟨a, fa, ands, rfl, ⟨vi, h1, r1⟩, ⟨k1, k2⟩, q⟩ := h
  walk_at "st"
  walk_at "go"
  refine g_rForE (xs := vi) (by walk_at "lk") (fun i σ H' => ∃ o1 o2 o3 o4, σ = [some (.int (fa : Int)), some (.ref a), o1, o2, o3, o4] ∧ Same H H') ⟨_, _, _, _, rfl, by walk_at "ex"⟩ ?_ ?_ ?_
  · rintro i σ H' hi ⟨_, _, _, _, rfl, hS⟩
    walk_at "lk"
  · rintro i x σ H' T' hx ⟨_, _, _, _, rfl, hS⟩ hT
    obtain ⟨⟨l, r⟩, hs, t, rfl, ht⟩ := r1.2 i x hx
    have k6 : i < ands.length := lt_of_get hs
    obtain ⟨k9, k10⟩ := k2 _ _ _ hs
    walk_at "go"
    exact ⟨_, _, _, _, rfl, by walk_at "ex"⟩
  rintro σ H' ⟨_, _, _, _, rfl, hS⟩
  walk_at "go"
  exact q _ hS
def spOuts : Sp := fun vs H Q _ => ∃ a outs n, vs = [.ref a, .int ((n : Nat) : Int)] ∧ LstAt H a IsO outs ∧ OutsOk outs n ∧ ∀ H', Same H H' → Q .non H'
theorem ok_fault_of_outputs (F : FunD K "fault_of_outputs" "fault_of_outputs" (defArgs s_fault_of_outputs) (defBody s_fault_of_outputs) (defScope s_fault_of_outputs) [] [] f fd) (hm : mg "fault_of_outputs" = some (.ref f)) (T : Txt K mg) (D_is_name : DefOk P w K mg base 1 "is_name" ["text"] spIsName) : DefOk P w K mg base 2 "fault_of_outputs" ["outputs", "node_count"] spOuts := by
  refine ⟨f, fd, hm, F.kp, (FunD.bindsN (ps := ["outputs", "node_count"]) F fun _ _ _ _ _ _ us hl => match us, hl with | [_, _], _ => rfl), fn_ok F sc_fault_of_outputs ?len (fun cdv A outer s H vs Q E hr h => ⟨_, (pss_cons (ps_set (i := 2) sc_fault_of_outputs.nd rfl (Or.inl rfl) pe_dnewK)
  (pss_cons (ps_for PassesOwn.never rfl (pi_enum (by rfl) T.m_enumerate (pa_cons (pv 0) pa_nil)) (pg_tupK (K := K) (n := 2) (by rfl) (by rfl) (pgs_cons (pg_name (i := 3) sc_fault_of_outputs.nd rfl (Or.inl rfl)) (pgs_cons (pg_tupK (K := K) (n := 2) (by rfl) (by rfl) (pgs_cons (pg_name (i := 4) sc_fault_of_outputs.nd rfl (Or.inl rfl)) (pgs_cons (pg_name (i := 5) sc_fault_of_outputs.nd rfl (Or.inl rfl)) pgs_nil))) pgs_nil)))
  (pss_cons (ps_if (PW.pt (pw_or (pt_cmpR op_eq (pv 3) (pe_gint (by rfl) T.MOST_OUTPUTS) (nomark _)) (pw_or (pt_not (pt_val (pe_callD D_is_name (hr.mono (by decide)) (by rfl) (pa_cons (pv 4) pa_nil)))) (pw_or1 (pt_cmp (pc_din (hu_of hr) (pv 4) (pv 2)) (by rfl)))))) (pss_one (ps_ret (pe_tup (pa_cons pe_str (pa_cons (pv 3) pa_nil))))) pss_nil)
  (pss_cons (ps_if (pt_not (pt_chain op_le op_lt (pe_int (i := ((0 : Nat) : Int))) (pv 5) (pe_op op_mul (pe_int (i := ((2 : Nat) : Int))) (pv 1)))) (pss_one (ps_ret (pe_tup (pa_cons pe_str (pa_cons (pv 3) pa_nil))))) pss_nil)
  (pss_one (ps_dput (hu_of hr) (pv 2) (pv 4) pe_bl (by rfl))))))
  (pss_one (ps_ret pe_non)))), ?_⟩)⟩
  case len => walk_at "ln"
  
  obtain ⟨a, outs, n, rfl, ⟨vl, h2, r2⟩, ⟨k1, k3, k4, k5⟩, q⟩ := h
  walk_at "st"
  walk_at "go"
  rename_i dn hdn
  refine g_rForE (xs := vl) (by walk_at "lk") (fun i σ H' => ∃ o1 o2 o3, σ = [some (.ref a), some (.int (n : Int)), some (.ref dn), o1, o2, o3] ∧ Same H H' ∧ H' dn = some (.dK (mkD (nmK ((outs.map (·.1)).take i))))) ⟨_, _, _, rfl, by walk_at "ex", upd_same⟩ ?_ ?_ ?_
  · rintro i σ H' hi ⟨_, _, _, rfl, hS, hL⟩
    walk_at "lk"
  · rintro i x σ H' T' hx ⟨_, _, _, rfl, hS, hL⟩ hT
    obtain ⟨⟨s, l⟩, hs, t, rfl, ht⟩ := r2.2 i x hx
    have k6 : i < outs.length := lt_of_get hs
    have hs' : (outs.map (·.1))[i]? = some s := map_get hs
    have k7 : NameOk s := k3 s (List.mem_of_getElem? hs')
    have k8 : ¬ s ∈ (outs.map (·.1)).take i := nodup_at k4 hs'
    have k10 := k5 _ (List.mem_of_getElem? hs)
    dsimp only at k10
    walk_at "go"
    refine g_isName k7 ?_
    walk_at "go"
    refine g_rDPutN (by walk_at "lk") k8 (by rw [List.length_take]; omega) ?_
    refine ⟨_, _, _, rfl, by walk_at "ex", ?_⟩
    rw [take_snoc hs']
    exact upd_same
  rintro σ H' ⟨_, _, _, rfl, hS, hL⟩
  walk_at "go"
  exact q _ hS
end
end
section
/-! part SgCir2 -/
set_option Elab.async false
set_option maxRecDepth 100000
set_option linter.unusedVariables false
set_option maxHeartbeats 1000000
open PySem PySem.Spec PyProof.Rows L2


local macro_rules | `(tactic| walk_at "na") => `(tactic| first | assumption | (refine CirAt.mono (H := ?na_H) ?na_s ?na_e; (case na_e => assumption); (case na_s => walk_at "ex")))
section
variable {P : Program} {w : World} {K : PySem.W.Frag} {mg : Str → Option Value} {base : Heap} {f pr : Addr} {fd : FuncData}
def spCirInit (K : PySem.W.Frag) : Sp := fun vs H Q _ => ∃ (p dx a b c d : Addr) (n : Cir Str) (H0 : Hp), vs = [.ref p, .ref a, .ref b, .ref c, .ref d] ∧ H p = some (.ins (He.ga K "Circuit") dx []) ∧ H0 p = none ∧ Same H0 H ∧
  LstAt H0 a IsS n.ins ∧ LstAt H0 b IsL n.lat ∧ LstAt H0 c IsP n.ands ∧ LstAt H0 d IsO n.outs ∧ CirOk n ∧ ∀ H', Same H0 H' → CirAt K H' p n → Q .non H'
theorem ok_Circuit_init (F : FunD K "__init__" "Circuit.__init__" (defArgs s_Circuit_init) (defBody s_Circuit_init) (defScope s_Circuit_init) [] [] f fd) (hm : mg "Circuit" = some (.ref (He.ga K "Circuit"))) (M : Mk K (He.ga K "Circuit") f) (T : Txt K mg) (D_fault_of_leaves : DefOk P w K mg base 2 "fault_of_leaves" ["inputs", "latches", "node_count"] spLeaves) (D_fault_of_ands : DefOk P w K mg base 1 "fault_of_ands" ["first_and", "ands"] spAnds) (D_fault_of_outputs : DefOk P w K mg base 2 "fault_of_outputs" ["outputs", "node_count"] spOuts) : InitOk P w K mg base 3 "Circuit" (He.ga K "Circuit") ["self", "inputs", "latches", "ands", "outputs"] (spCirInit K) := by
  refine ⟨f, fd, hm, M, (FunD.bindsN (ps := ["self", "inputs", "latches", "ands", "outputs"]) F fun _ _ _ _ _ _ us hl => match us, hl with | [_, _, _, _, _], _ => rfl), fn_ok F sc_Circuit_init ?len (fun cdv A outer s H vs Q E hr h => ⟨_, (pss_cons (ps_set (i := 5) sc_Circuit_init.nd rfl (Or.inl rfl) (pe_op op_add (pe_op op_add (pe_int (i := ((1 : Nat) : Int))) (pe_callB (call_lenK (K := K) (by rfl)) (by rfl) T.m_len (by decide +kernel) (pa_cons (pv 1) pa_nil))) (pe_callB (call_lenK (K := K) (by rfl)) (by rfl) T.m_len (by decide +kernel) (pa_cons (pv 2) pa_nil))))
  (pss_cons (ps_set (i := 6) sc_Circuit_init.nd rfl (Or.inl rfl) (pe_op op_add (pv 5) (pe_callB (call_lenK (K := K) (by rfl)) (by rfl) T.m_len (by decide +kernel) (pa_cons (pv 3) pa_nil))))
  (pss_cons (ps_set (i := 7) sc_Circuit_init.nd rfl (Or.inl rfl) (pe_callD D_fault_of_leaves (hr.mono (by decide)) (by rfl) (pa_cons (pv 1) (pa_cons (pv 2) (pa_cons (pv 6) pa_nil)))))
  (pss_cons (ps_if (pt_cmpR op_isN' (pv 7) pe_non (nomark _)) (pss_one (ps_set (i := 7) sc_Circuit_init.nd rfl (Or.inl rfl) (pe_callD D_fault_of_ands (hr.mono (by decide)) (by rfl) (pa_cons (pv 5) (pa_cons (pv 3) pa_nil))))) pss_nil)
  (pss_cons (ps_if (pt_cmpR op_isN' (pv 7) pe_non (nomark _)) (pss_one (ps_set (i := 7) sc_Circuit_init.nd rfl (Or.inl rfl) (pe_callD D_fault_of_outputs (hr.mono (by decide)) (by rfl) (pa_cons (pv 4) (pa_cons (pv 6) pa_nil))))) pss_nil)
  (pss_cons (ps_if (pt_cmpR op_notN' (pv 7) pe_non (nomark _)) (pss_one ps_never) pss_nil)
  (pss_cons (ps_f T.c_Circuit T.n_Circuit_inputs (pv 0) (pe_callTy (call_listK (K := K) (by rfl)) (by rfl) T.m_list (by decide +kernel) (pa_cons (pv 1) pa_nil)))
  (pss_cons (ps_f T.c_Circuit T.n_Circuit_latches (pv 0) (pe_callTy (call_listK (K := K) (by rfl)) (by rfl) T.m_list (by decide +kernel) (pa_cons (pv 2) pa_nil)))
  (pss_cons (ps_f T.c_Circuit T.n_Circuit_ands (pv 0) (pe_callTy (call_listK (K := K) (by rfl)) (by rfl) T.m_list (by decide +kernel) (pa_cons (pv 3) pa_nil)))
  (pss_one (ps_f T.c_Circuit T.n_Circuit_outputs (pv 0) (pe_callTy (call_listK (K := K) (by rfl)) (by rfl) T.m_list (by decide +kernel) (pa_cons (pv 4) pa_nil))))))))))))), ?_⟩)⟩
  case len => walk_at "ln"
  
  obtain ⟨p, dx, a, b, c, d, n, H0, rfl, hp, hp0, hS, hA, hB, hC, hD, ⟨k1, k2, k3⟩, q⟩ := h
  obtain ⟨va, a1, a2⟩ := id hA
  obtain ⟨vb, b1, b2⟩ := id hB
  obtain ⟨vc, c1, c2⟩ := id hC
  obtain ⟨vd, d1, d2⟩ := id hD
  walk_at "st"
  walk_at "go"
  rw [a2.1, b2.1, c2.1]
  refine ⟨a, b, n.ins, n.lat, _, rfl, by walk_at "la", by walk_at "la", k1, fun H1 hS1 => ?_⟩
  walk_at "go"
  refine ⟨c, _, n.ands, rfl, by walk_at "la", k2, fun H2 hS2 => ?_⟩
  walk_at "go"
  refine ⟨d, n.outs, _, rfl, by walk_at "la", k3, fun H3 hS3 => ?_⟩
  have hp3 : H3 p = some (.ins (He.ga K "Circuit") dx []) := hS3 _ _ (hS2 _ _ (hS1 _ _ hp))
  walk_at "go"
  intro l1 hl1
  have n1 : l1 ≠ p := ne_new hp3 hl1
  walk_at "go"
  intro l2 hl2
  have n2 : l2 ≠ p := ne_new upd_same hl2
  walk_at "go"
  intro l3 hl3
  have n3 : l3 ≠ p := ne_new upd_same hl3
  walk_at "go"
  intro l4 hl4
  have n4 : l4 ≠ p := ne_new upd_same hl4
  walk_at "go"
  refine q _ (by walk_at "ex") ⟨dx, l1, l2, l3, l4, upd_same, ⟨va, by walk_at "lk", a2.imp fun v x => mono_S _ _ v x (by walk_at "ex")⟩, ⟨vb, by walk_at "lk", b2.imp fun v x => mono_L _ _ v x (by walk_at "ex")⟩, ⟨vc, by walk_at "lk", c2.imp fun v x => mono_P _ _ v x (by walk_at "ex")⟩, ⟨vd, by walk_at "lk", d2.imp fun v x => mono_O _ _ v x (by walk_at "ex")⟩⟩
def spAsNet (K : PySem.W.Frag) : Sp := fun vs H Q _ => ∃ p n, vs = [.ref p] ∧ CirAt K H p n ∧ n.lat.length ≤ 40 ∧ ∀ H' q, Same H H' → H q = none → NetAt K H' q n.net → Q (.ref q) H'
theorem ok_as_net (F : FunD K "as_net" "Circuit.as_net" (defArgs s_Circuit_as_net) (defBody s_Circuit_as_net) (defScope s_Circuit_as_net) [] [] f fd) (hm : Meth K (He.ga K "Circuit") "as_net" f) (T : Txt K mg) (I_Net : InitOk P w K mg base 1 "Net" (He.ga K "Net") ["self", "input_count", "latches", "ands"] (spNetInit K)) : MethOk P w K mg base 3 (He.ga K "Circuit") "as_net" ["self"] (spAsNet K) := by
  refine ⟨f, fd, hm, (FunD.bindsN (ps := ["self"]) F fun _ _ _ _ _ _ us hl => match us, hl with | [_], _ => rfl), fn_ok F sc_Circuit_as_net ?len (fun cdv A outer s H vs Q E hr h => ⟨_, (pss_one (ps_ret (pe_makeD I_Net (hr.mono (by decide)) (by rfl) (pa_cons (pe_callB (call_lenK (K := K) (by rfl)) (by rfl) T.m_len (by decide +kernel) (pa_cons (pe_f T.c_Circuit T.n_Circuit_inputs (pv 0)) pa_nil)) (pa_cons (by exact (pe_lc (own := [("_", 1), ("start", 2), ("literal", 3)]) (by rfl) sc_Circuit_as_net.nd (pi_list (pe_f T.c_Circuit T.n_Circuit_latches (pv 0))) (blkOk_by (own := [("_", 1), ("start", 2), ("literal", 3)]) (N := ["self", "_", "start", "literal"]) (sc := defScope s_Circuit_as_net) (by decide +kernel)) (fun _ _ _ _ _ => by exact (pg_tupK (K := K) (n := 3) (by rfl) (by rfl) (pgs_cons (pg_name (i := 1) sc_Circuit_as_net.nd rfl (Or.inl rfl)) (pgs_cons (pg_name (i := 2) sc_Circuit_as_net.nd rfl (Or.inl rfl)) (pgs_cons (pg_name (i := 3) sc_Circuit_as_net.nd rfl (Or.inl rfl)) pgs_nil))))) (fun _ _ _ _ _ => by exact pts_nil) (fun _ _ _ _ _ => by exact (pe_tup (pa_cons (pv 2) (pa_cons (pv 3) pa_nil)))))) (pa_cons (pe_f T.c_Circuit T.n_Circuit_ands (pv 0)) pa_nil)))))), ?_⟩)⟩
  case len => walk_at "ln"
  
  obtain ⟨p, n, rfl, hc, hl, q⟩ := h
  obtain ⟨dx, li, ll, la, lo, h1, ⟨vi, h2, r2⟩, ⟨vl, h3, r3⟩, ⟨va, h4, r4⟩, h5⟩ := hc
  walk_at "st"
  walk_at "go"
  refine g_rLcLT (rep := IsP) (bs := n.net.lat) h3 (by rw [r3.1]; omega) (by rw [r3.1]; exact List.length_map ..) mono_P stab_P (fun D i x b H2 hD hx hb hS2 Qy hQ => ?_) (fun D H2 hD hS2 hL2 => ?_)
  · obtain ⟨⟨s, st, l⟩, hs, t, rfl, ht⟩ := r3.2 i x hx
    have hb' : (n.lat.map fun l => (l.2.1, l.2.2))[i]? = some b := hb
    rw [map_get hs] at hb'
    cases hb'
    walk_at "go"
    exact hQ _ _ (by walk_at "ex") ⟨_, rfl, upd_same⟩
  · walk_at "go"
    intro x dx' hx hdx hne
    refine ⟨x, dx', D, la, n.net, H2, by rw [show (n.net.ni : Int) = (n.ins.length : Int) from rfl, ← r2.1]; rfl, upd_same, hx, by walk_at "ex", hL2, ⟨va, by walk_at "lk", r4.imp fun v x => mono_P _ _ v x (by walk_at "ex")⟩, fun H3 hS3 hN => ⟨rfl, q _ x (by walk_at "ex") (by walk_at "nn") hN⟩⟩
/-! images -/
def IsON : Hp → V → Option Nat → Prop := fun _ v n => v = match n with | none => V.non | some k => V.int ((k : Nat) : Int)
theorem mono_ON : Mono IsON := fun _ _ _ _ _ h => h
theorem stab_ON (D : Addr) (y : V) (b : Option Nat) (H : Hp) (acc acc' : List V) (h : H D = some (.lst acc)) (r : IsON H y b) : IsON (upd H D (.lst acc')) y b := r
def spImageOf : Sp := fun vs H Q _ => ∃ (a : Addr) (l y : Nat) (imgs : List (Option Nat)), vs = [.ref a, .int (l : Int)] ∧ LstAt H a IsON imgs ∧ imgs[l / 2]? = some (some y) ∧ Q (.int ((imOf imgs l : Nat) : Int)) H
theorem ok_image_of (F : FunD K "image_of" "image_of" (defArgs s_image_of) (defBody s_image_of) (defScope s_image_of) [] [] f fd) (hm : mg "image_of" = some (.ref f)) : DefOk P w K mg base 1 "image_of" ["images", "literal"] spImageOf := by
  refine ⟨f, fd, hm, F.kp, (FunD.bindsN (ps := ["images", "literal"]) F fun _ _ _ _ _ _ us hl => match us, hl with | [_, _], _ => rfl), fn_ok F sc_image_of ?len (fun cdv A outer s H vs Q E hr h => ⟨_, (pss_one (ps_ret (pe_op op_xor (pe_ix (ix_listK (K := K) (by rfl)) (pv 0) (pe_op op_shr (pv 1) (pe_int (i := ((1 : Nat) : Int)))) (fun _ _ => rfl)) (pe_op op_and (pv 1) (pe_int (i := ((1 : Nat) : Int))))))), ?_⟩)⟩
  case len => walk_at "ln"
  
  obtain ⟨a, l, y, imgs, rfl, ⟨vs, h1, r1⟩, hy, q⟩ := h
  obtain ⟨v, hv, ev⟩ := r1.get hy
  cases ev
  walk_at "st"
  walk_at "go"
  refine g_ixL h1 hv ?_
  walk_at "go"
  rw [xl_xor, ← imOf_eq hy]
  exact q
theorem g_imageOf {a : Addr} {l y : Nat} {imgs : List (Option Nat)} {H : Hp} {Q : VK} {E : XK} (h : LstAt H a IsON imgs) (hy : imgs[l / 2]? = some (some y)) (q : Q (.int ((imOf imgs l : Nat) : Int)) H) : spImageOf [.ref a, .int (l : Int)] H Q E := ⟨a, l, y, imgs, rfl, h, hy, q⟩
def spLeafImages (K : PySem.W.Frag) : Sp := fun vs H Q _ => ∃ p n, vs = [.ref p] ∧ CirAt K H p n ∧ n.fa ≤ 100000 ∧ ∀ H' q, Same H H' → H q = none → LstAt H' q IsON (leafI n.fa) → Q (.ref q) H'
theorem ok_leaf_images (F : FunD K "leaf_images" "leaf_images" (defArgs s_leaf_images) (defBody s_leaf_images) (defScope s_leaf_images) [] [] f fd) (hm : mg "leaf_images" = some (.ref f)) (T : Txt K mg) : DefOk P w K mg base 1 "leaf_images" ["circuit"] (spLeafImages K) := by
  refine ⟨f, fd, hm, F.kp, (FunD.bindsN (ps := ["circuit"]) F fun _ _ _ _ _ _ us hl => match us, hl with | [_], _ => rfl), fn_ok F sc_leaf_images ?len (fun cdv A outer s H vs Q E hr h => ⟨_, (pss_one (ps_ret (by exact (pe_lc (own := [("node", 1)]) (by rfl) sc_leaf_images.nd (pi_range1 (by rfl) T.m_range (pa_cons (pe_op op_add (pe_op op_add (pe_int (i := ((1 : Nat) : Int))) (pe_callB (call_lenK (K := K) (by rfl)) (by rfl) T.m_len (by decide +kernel) (pa_cons (pe_f T.c_Circuit T.n_Circuit_inputs (pv 0)) pa_nil))) (pe_callB (call_lenK (K := K) (by rfl)) (by rfl) T.m_len (by decide +kernel) (pa_cons (pe_f T.c_Circuit T.n_Circuit_latches (pv 0)) pa_nil))) pa_nil)) (blkOk_by (own := [("node", 1)]) (N := ["circuit", "node"]) (sc := defScope s_leaf_images) (by decide +kernel)) (fun _ _ _ _ _ => by exact (pg_name (i := 1) sc_leaf_images.nd rfl (Or.inl rfl))) (fun _ _ _ _ _ => by exact pts_nil) (fun _ _ _ _ _ => by exact (pe_op op_mul (pe_int (i := ((2 : Nat) : Int))) (pv 1))))))), ?_⟩)⟩
  case len => walk_at "ln"
  
  obtain ⟨p, n, rfl, hc, hl, q⟩ := h
  obtain ⟨dx, li, ll, la, lo, h1, ⟨vi, h2, r2⟩, ⟨vl, h3, r3⟩, ⟨va, h4, r4⟩, h5⟩ := hc
  walk_at "st"
  walk_at "go"
  rw [r2.1, r3.1, show 1 + n.ins.length + n.lat.length = n.fa from rfl]
  refine g_rLcRT (rep := IsON) (bs := leafI n.fa) hl (by unfold leafI; rw [List.length_map, List.length_range]) mono_ON stab_ON (fun D i b H2 hD hi hb hS2 Qy hQ => ?_) (fun D H2 hD hS2 hL2 => ?_)
  · unfold leafI at hb
    rw [List.getElem?_map, List.getElem?_range hi] at hb
    cases hb
    walk_at "go"
    exact hQ _ _ (L2.Same.refl _) rfl
  · walk_at "go"
    exact q _ D hS2 hD hL2
/-! certificates -/
structure Crt where
  facts : List (List Nat)
  starts : List (List Nat)
  lines : List (List Nat)
  nexts : List (List Nat)
def CrtAt (K : PySem.W.Frag) (H : Hp) (p : Addr) (c : Crt) : Prop := ∃ dx l1 l2 l3 l4, H p = some (.ins (He.ga K "AlikeCertificate") dx (F_AlikeCertificate (.ref l1) (.ref l2) (.ref l3) (.ref l4))) ∧ LstAt H l1 IsC c.facts ∧ LstAt H l2 IsC c.starts ∧ LstAt H l3 IsC c.lines ∧ LstAt H l4 IsC c.nexts
theorem CrtAt.mono {K : PySem.W.Frag} {H H' : Hp} {p : Addr} {n : Crt} (s : Same H H') (h : CrtAt K H p n) : CrtAt K H' p n := by
  obtain ⟨dx, li, ll, la, lo, h1, h2, h3, h4, h5⟩ := h
  exact ⟨dx, li, ll, la, lo, s _ _ h1, h2.mono mono_C s, h3.mono mono_C s, h4.mono mono_C s, h5.mono mono_C s⟩
def spCrtInit (K : PySem.W.Frag) : Sp := fun vs H Q _ => ∃ (p dx a b c d : Addr) (n : Crt) (H0 : Hp), vs = [.ref p, .ref a, .ref b, .ref c, .ref d] ∧ H p = some (.ins (He.ga K "AlikeCertificate") dx []) ∧ H0 p = none ∧ Same H0 H ∧
  LstAt H0 a IsC n.facts ∧ LstAt H0 b IsC n.starts ∧ LstAt H0 c IsC n.lines ∧ LstAt H0 d IsC n.nexts ∧ n.facts.length ≤ 100000 ∧ n.starts.length ≤ 100000 ∧ n.lines.length ≤ 100000 ∧ n.nexts.length ≤ 100000 ∧ ∀ H', Same H0 H' → CrtAt K H' p n → Q .non H'
theorem ok_Crt_init (F : FunD K "__init__" "AlikeCertificate.__init__" (defArgs s_AlikeCertificate_init) (defBody s_AlikeCertificate_init) (defScope s_AlikeCertificate_init) [] [] f fd) (hm : mg "AlikeCertificate" = some (.ref (He.ga K "AlikeCertificate"))) (M : Mk K (He.ga K "AlikeCertificate") f) (T : Txt K mg) : InitOk P w K mg base 1 "AlikeCertificate" (He.ga K "AlikeCertificate") ["self", "facts", "start_lines", "lines", "next_lines"] (spCrtInit K) := by
  refine ⟨f, fd, hm, M, (FunD.bindsN (ps := ["self", "facts", "start_lines", "lines", "next_lines"]) F fun _ _ _ _ _ _ us hl => match us, hl with | [_, _, _, _, _], _ => rfl), fn_ok F sc_AlikeCertificate_init ?len (fun cdv A outer s H vs Q E hr h => ⟨_, (pss_cons (ps_f T.c_AlikeCertificate T.n_AlikeCertificate_facts (pv 0) (by exact (pe_lc (own := [("clause", 5)]) (by rfl) sc_AlikeCertificate_init.nd (pi_list (pv 1)) (blkOk_by (own := [("clause", 5)]) (N := ["self", "facts", "start_lines", "lines", "next_lines", "clause"]) (sc := defScope s_AlikeCertificate_init) (by decide +kernel)) (fun _ _ _ _ _ => by exact (pg_name (i := 5) sc_AlikeCertificate_init.nd rfl (Or.inl rfl))) (fun _ _ _ _ _ => by exact pts_nil) (fun _ _ _ _ _ => by exact (pe_callTy (call_tupleK (K := K) (by rfl)) (by rfl) T.m_tuple (by decide +kernel) (pa_cons (pv 5) pa_nil))))))
  (pss_cons (ps_f T.c_AlikeCertificate T.n_AlikeCertificate_start_lines (pv 0) (by exact (pe_lc (own := [("clause", 5)]) (by rfl) sc_AlikeCertificate_init.nd (pi_list (pv 2)) (blkOk_by (own := [("clause", 5)]) (N := ["self", "facts", "start_lines", "lines", "next_lines", "clause"]) (sc := defScope s_AlikeCertificate_init) (by decide +kernel)) (fun _ _ _ _ _ => by exact (pg_name (i := 5) sc_AlikeCertificate_init.nd rfl (Or.inl rfl))) (fun _ _ _ _ _ => by exact pts_nil) (fun _ _ _ _ _ => by exact (pe_callTy (call_tupleK (K := K) (by rfl)) (by rfl) T.m_tuple (by decide +kernel) (pa_cons (pv 5) pa_nil))))))
  (pss_cons (ps_f T.c_AlikeCertificate T.n_AlikeCertificate_lines (pv 0) (by exact (pe_lc (own := [("clause", 5)]) (by rfl) sc_AlikeCertificate_init.nd (pi_list (pv 3)) (blkOk_by (own := [("clause", 5)]) (N := ["self", "facts", "start_lines", "lines", "next_lines", "clause"]) (sc := defScope s_AlikeCertificate_init) (by decide +kernel)) (fun _ _ _ _ _ => by exact (pg_name (i := 5) sc_AlikeCertificate_init.nd rfl (Or.inl rfl))) (fun _ _ _ _ _ => by exact pts_nil) (fun _ _ _ _ _ => by exact (pe_callTy (call_tupleK (K := K) (by rfl)) (by rfl) T.m_tuple (by decide +kernel) (pa_cons (pv 5) pa_nil))))))
  (pss_one (ps_f T.c_AlikeCertificate T.n_AlikeCertificate_next_lines (pv 0) (by exact (pe_lc (own := [("clause", 5)]) (by rfl) sc_AlikeCertificate_init.nd (pi_list (pv 4)) (blkOk_by (own := [("clause", 5)]) (N := ["self", "facts", "start_lines", "lines", "next_lines", "clause"]) (sc := defScope s_AlikeCertificate_init) (by decide +kernel)) (fun _ _ _ _ _ => by exact (pg_name (i := 5) sc_AlikeCertificate_init.nd rfl (Or.inl rfl))) (fun _ _ _ _ _ => by exact pts_nil) (fun _ _ _ _ _ => by exact (pe_callTy (call_tupleK (K := K) (by rfl)) (by rfl) T.m_tuple (by decide +kernel) (pa_cons (pv 5) pa_nil)))))))))), ?_⟩)⟩
  case len => walk_at "ln"
  
  obtain ⟨p, dx, a, b, c, d, n, H0, rfl, hp, hp0, hS, hA, hB, hC, hD, k1, k2, k3, k4, q⟩ := h
  obtain ⟨va, a1, a2⟩ := id hA
  obtain ⟨vb, b1, b2⟩ := id hB
  obtain ⟨vc, c1, c2⟩ := id hC
  obtain ⟨vd, d1, d2⟩ := id hD
  have nb : b ≠ p := ne_of_none b1 hp0
  have nc : c ≠ p := ne_of_none c1 hp0
  have nd : d ≠ p := ne_of_none d1 hp0
  have b_0 := hS _ _ b1
  have c_0 := hS _ _ c1
  have d_0 := hS _ _ d1
  have mo : Mono (fun _ : Hp => IsC H0) := fun _ _ _ _ _ h => h
  have turn : ∀ (H2 : Hp) (z : List Nat) (v : V), Same H0 H2 → IsC H0 v z → ∃ t, v = .ref t ∧ H2 t = some (.tup (nums z)) := fun H2 z v s ⟨t, e, ht⟩ => ⟨t, e, s _ _ ht⟩
  walk_at "st"
  walk_at "go"
  refine g_rLcLT (xs := va) (rep := fun _ => IsC H0) (bs := n.facts) (hS _ _ a1) (by rw [a2.1]; exact k1) a2.1.symm mo (fun _ _ _ _ _ _ _ h => h) (fun D i x y H2 hD hx hb hS2 Qy hQ => ?_) (fun l1 H1 hl1 hS1 ⟨v1, e1, r1⟩ => ?_)
  · obtain ⟨z, hz, hz'⟩ := a2.2 i x hx
    rw [hb] at hz; cases hz
    obtain ⟨t, rfl, ht'⟩ := turn H2 _ _ (L2.Same.trans hS hS2) hz'
    walk_at "go"
    exact hQ _ _ (L2.Same.refl _) hz'
  have s1 : Same H0 H1 := L2.Same.trans hS hS1
  have hp1 := hS1 _ _ hp
  have n1 : l1 ≠ p := ne_new hp hl1
  have b_1 := hS1 _ _ b_0
  have c_1 := hS1 _ _ c_0
  have d_1 := hS1 _ _ d_0
  clear hS1
  walk_at "go"
  refine g_rLcLT (xs := vb) (rep := fun _ => IsC H0) (bs := n.starts) (lk_ne nb b_1) (by rw [b2.1]; exact k2) b2.1.symm mo (fun _ _ _ _ _ _ _ h => h) (fun D i x y H2 hD hx hb hS2 Qy hQ => ?_) (fun l2 H2 hl2 hS2 ⟨v2, e2, r2⟩ => ?_)
  · obtain ⟨z, hz, hz'⟩ := b2.2 i x hx
    rw [hb] at hz; cases hz
    obtain ⟨t, rfl, ht'⟩ := turn H2 _ _ (L2.Same.trans (Same.mut s1 hp0) hS2) hz'
    walk_at "go"
    exact hQ _ _ (L2.Same.refl _) hz'
  have s2 : Same H0 H2 := L2.Same.trans (Same.mut s1 hp0) hS2
  have hp2 := hS2 _ _ upd_same
  have n2 : l2 ≠ p := ne_new upd_same hl2
  have c_2 := hS2 _ _ (lk_ne nc c_1)
  have d_2 := hS2 _ _ (lk_ne nd d_1)
  have e1 := hS2 _ _ (lk_ne n1 e1)
  clear hS2
  walk_at "go"
  refine g_rLcLT (xs := vc) (rep := fun _ => IsC H0) (bs := n.lines) (lk_ne nc c_2) (by rw [c2.1]; exact k3) c2.1.symm mo (fun _ _ _ _ _ _ _ h => h) (fun D i x y H2 hD hx hb hS2 Qy hQ => ?_) (fun l3 H3 hl3 hS3 ⟨v3, e3, r3⟩ => ?_)
  · obtain ⟨z, hz, hz'⟩ := c2.2 i x hx
    rw [hb] at hz; cases hz
    obtain ⟨t, rfl, ht'⟩ := turn H2 _ _ (L2.Same.trans (Same.mut s2 hp0) hS2) hz'
    walk_at "go"
    exact hQ _ _ (L2.Same.refl _) hz'
  have s3 : Same H0 H3 := L2.Same.trans (Same.mut s2 hp0) hS3
  have hp3 := hS3 _ _ upd_same
  have n3 : l3 ≠ p := ne_new upd_same hl3
  have d_3 := hS3 _ _ (lk_ne nd d_2)
  have e1 := hS3 _ _ (lk_ne n1 e1)
  have e2 := hS3 _ _ (lk_ne n2 e2)
  clear hS3
  walk_at "go"
  refine g_rLcLT (xs := vd) (rep := fun _ => IsC H0) (bs := n.nexts) (lk_ne nd d_3) (by rw [d2.1]; exact k4) d2.1.symm mo (fun _ _ _ _ _ _ _ h => h) (fun D i x y H2 hD hx hb hS2 Qy hQ => ?_) (fun l4 H4 hl4 hS4 ⟨v4, e4, r4⟩ => ?_)
  · obtain ⟨z, hz, hz'⟩ := d2.2 i x hx
    rw [hb] at hz; cases hz
    obtain ⟨t, rfl, ht'⟩ := turn H2 _ _ (L2.Same.trans (Same.mut s3 hp0) hS2) hz'
    walk_at "go"
    exact hQ _ _ (L2.Same.refl _) hz'
  have s4 : Same H0 H4 := L2.Same.trans (Same.mut s3 hp0) hS4
  have hp4 := hS4 _ _ upd_same
  have n4 : l4 ≠ p := ne_new upd_same hl4
  have e1 := hS4 _ _ (lk_ne n1 e1)
  have e2 := hS4 _ _ (lk_ne n2 e2)
  have e3 := hS4 _ _ (lk_ne n3 e3)
  clear hS4
  walk_at "go"
  have sE : ∀ o, Same H0 (upd H4 p o) := fun o => Same.mut s4 hp0
  exact q _ (sE _) ⟨dx, l1, l2, l3, l4, upd_same, ⟨v1, lk_ne n1 e1, r1.imp fun v x => mono_C _ _ v x (sE _)⟩, ⟨v2, lk_ne n2 e2, r2.imp fun v x => mono_C _ _ v x (sE _)⟩, ⟨v3, lk_ne n3 e3, r3.imp fun v x => mono_C _ _ v x (sE _)⟩, ⟨v4, lk_ne n4 e4, r4.imp fun v x => mono_C _ _ v x (sE _)⟩⟩
end
end
section
/-! part SgPl -/
set_option Elab.async false
set_option maxRecDepth 100000
set_option linter.unusedVariables false
set_option maxHeartbeats 1000000
open PySem PySem.Spec PyProof.Rows L2


section
variable {P : Program} {w : World} {K : PySem.W.Frag} {mg : Str → Option Value} {base : Heap} {f pr : Addr} {fd : FuncData}
def spValueOf : Sp := fun vs H Q _ => ∃ (a : Addr) (vals : List Nat) (l : Nat), vs = [.ref a, .int (l : Int)] ∧ H a = some (.lst (nums vals)) ∧ l / 2 < vals.length ∧ Q (.int (bitOf vals l : Int)) H
theorem ok_value_of (F : FunD K "value_of" "value_of" (defArgs s_value_of) (defBody s_value_of) (defScope s_value_of) [] [] f fd) (hm : mg "value_of" = some (.ref f)) : DefOk P w K mg base 1 "value_of" ["values", "literal"] spValueOf := by
  refine ⟨f, fd, hm, F.kp, (FunD.bindsN (ps := ["values", "literal"]) F fun _ _ _ _ _ _ us hl => match us, hl with | [_, _], _ => rfl), fn_ok F sc_value_of ?len (fun cdv A outer s H vs Q E hr h => ⟨_, (pss_one (ps_ret (pe_op op_xor (pe_ix (ix_listK (K := K) (by rfl)) (pv 0) (pe_op op_shr (pv 1) (pe_int (i := ((1 : Nat) : Int)))) (fun _ _ => rfl)) (pe_op op_and (pv 1) (pe_int (i := ((1 : Nat) : Int))))))), ?_⟩)⟩
  case len => walk_at "ln"
  
  obtain ⟨a, vals, l, rfl, ha, hl, q⟩ := h
  obtain ⟨v, hv⟩ : ∃ v, vals[l / 2]? = some v := ⟨_, List.getElem?_eq_getElem hl⟩
  walk_at "st"
  walk_at "go"
  refine g_ixL ha (nums_get hv) ?_
  walk_at "go"
  rw [xl_xor]
  unfold bitOf at q
  rw [getD_of hv] at q
  exact q
theorem g_valueOf {a : Addr} {vals : List Nat} {l : Nat} {H : Hp} {Q : VK} {E : XK} (ha : H a = some (.lst (nums vals))) (hl : l / 2 < vals.length) (q : Q (.int (bitOf vals l : Int)) H) : spValueOf [.ref a, .int (l : Int)] H Q E := ⟨a, vals, l, rfl, ha, hl, q⟩
/-- the ands of a net lie below their own places -/
def AndsLt (fa : Nat) (ands : List (Nat × Nat)) : Prop := ∀ (i l r : Nat), ands[i]? = some (l, r) → l / 2 < fa + i ∧ r / 2 < fa + i
def spNodeValues (K : PySem.W.Frag) : Sp := fun vs H Q _ => ∃ (p a b : Addr) (n : NetD) (st row : List Nat), vs = [.ref p, .ref a, .ref b] ∧ NetAt K H p n ∧ H a = some (.lst (nums st)) ∧ H b = some (.lst (nums row)) ∧ st.length = n.lat.length ∧ row.length = n.ni ∧ n.nn ≤ 10000 ∧ AndsLt n.fa n.ands ∧
  ∀ H' q, Same H H' → H q = none → H' q = some (.lst (nums (netVals n st row))) → Q (.ref q) H'
theorem ok_node_values (F : FunD K "node_values" "node_values" (defArgs s_node_values) (defBody s_node_values) (defScope s_node_values) [] [] f fd) (hm : mg "node_values" = some (.ref f)) (T : Txt K mg) (D_value_of : DefOk P w K mg base 1 "value_of" ["values", "literal"] spValueOf) : DefOk P w K mg base 2 "node_values" ["net", "state", "row"] (spNodeValues K) := by
  refine ⟨f, fd, hm, F.kp, (FunD.bindsN (ps := ["net", "state", "row"]) F fun _ _ _ _ _ _ us hl => match us, hl with | [_, _, _], _ => rfl), fn_ok F sc_node_values ?len (fun cdv A outer s H vs Q E hr h => ⟨_, (pss_cons (ps_set (i := 3) sc_node_values.nd rfl (Or.inl rfl) (pe_lst (pa_cons (pe_int (i := ((0 : Nat) : Int))) pa_nil)))
  (pss_cons (ps_expr (pe_bm PySem.F.plainAttrs_list PySem.F.slot_list_extend PySem.F.type_list_extend mt_extend (pv 3) (pa_cons (pv 2) pa_nil)))
  (pss_cons (ps_expr (pe_bm PySem.F.plainAttrs_list PySem.F.slot_list_extend PySem.F.type_list_extend mt_extend (pv 3) (pa_cons (pv 1) pa_nil)))
  (pss_cons (ps_for PassesOwn.never rfl (pi_list (pe_f T.c_Net T.n_Net_ands (pv 0))) (pg_tupK (K := K) (n := 2) (by rfl) (by rfl) (pgs_cons (pg_name (i := 4) sc_node_values.nd rfl (Or.inl rfl)) (pgs_cons (pg_name (i := 5) sc_node_values.nd rfl (Or.inl rfl)) pgs_nil)))
  (pss_one (ps_expr (pe_bm PySem.F.plainAttrs_list PySem.F.slot_list_append PySem.F.type_list_append mt_append (pv 3) (pa_cons (pe_op op_and (pe_callD D_value_of (hr.mono (by decide)) (by rfl) (pa_cons (pv 3) (pa_cons (pv 4) pa_nil))) (pe_callD D_value_of (hr.mono (by decide)) (by rfl) (pa_cons (pv 3) (pa_cons (pv 5) pa_nil)))) pa_nil)))))
  (pss_one (ps_ret (pv 3))))))), ?_⟩)⟩
  case len => walk_at "ln"
  
  obtain ⟨p, a, b, n, st, row, rfl, hn, ha, hb, hst, hrow, hnn, hA, q⟩ := h
  obtain ⟨dx, ll, la, h1, -, ⟨va, h3, r3⟩⟩ := id hn
  have hal : n.ands.length ≤ 10000 ∧ st.length ≤ 10000 ∧ row.length ≤ 10000 := by unfold NetD.nn at hnn; omega
  walk_at "st"
  walk_at "go"
  rename_i vq hvq
  have za := ne_of_none ha hvq
  have zb := ne_of_none hb hvq
  have e0 : (upd H vq (.lst [V.int ((0 : Nat) : Int)])) vq = some (.lst (nums [0])) := upd_same
  refine g_extN e0 (lk_ne zb hb) (by show 1 + _ ≤ _; omega) ?_
  walk_at "go"
  case z => rw [List.length_append]; show 1 + _ + _ ≤ _; omega
  refine g_rForL (xs := va) (by walk_at "lk") (fun i σ H' => ∃ o1 o2, σ = [some (.ref p), some (.ref a), some (.ref b), some (.ref vq), o1, o2] ∧ Same H H' ∧ H' vq = some (.lst (nums (valsF (0 :: (row ++ st)) (n.ands.take i))))) ⟨_, _, rfl, by walk_at "ex", upd_same⟩ ?_ ?_ ?_
  · rintro i σ H' hi ⟨_, _, rfl, hS, hL⟩
    walk_at "lk"
  · rintro i v σ H' hv ⟨_, _, rfl, hS, hL⟩
    obtain ⟨⟨l, r⟩, hp, t, rfl, ht⟩ := r3.2 i v hv
    obtain ⟨b1, b2⟩ := hA i l r hp
    have hlen : (valsF (0 :: (row ++ st)) (n.ands.take i)).length = n.fa + i := by
      rw [valsF_len, take_len hp, List.length_cons, List.length_append, hst, hrow]
      unfold NetD.fa; omega
    have ht' := hS _ _ ht
    walk_at "go"
    refine g_valueOf hL (by omega) ?_
    walk_at "go"
    refine g_valueOf hL (by omega) ?_
    walk_at "go"
    · refine ⟨_, _, rfl, by walk_at "ex", ?_⟩
      rw [take_snoc hp, valsF_snoc]
      exact upd_same
    · have := lt_of_get hp
      unfold NetD.nn at hnn
      unfold NetD.fa at hlen
      omega
  · rintro σ H' ⟨_, _, rfl, hS, hL⟩
    rw [r3.1, List.take_length] at hL
    walk_at "go"
    exact q H' vq hS hvq hL
def spStartState (K : PySem.W.Frag) : Sp := fun vs H Q _ => ∃ (p : Addr) (c : Cir Str), vs = [.ref p] ∧ CirAt K H p c ∧ c.lat.length ≤ 10000 ∧ ∀ H' q, Same H H' → H q = none → H' q = some (.lst (nums (startS c))) → Q (.ref q) H'
theorem ok_start_state (F : FunD K "start_state" "start_state" (defArgs s_start_state) (defBody s_start_state) (defScope s_start_state) [] [] f fd) (hm : mg "start_state" = some (.ref f)) (T : Txt K mg) : DefOk P w K mg base 1 "start_state" ["circuit"] (spStartState K) := by
  refine ⟨f, fd, hm, F.kp, (FunD.bindsN (ps := ["circuit"]) F fun _ _ _ _ _ _ us hl => match us, hl with | [_], _ => rfl), fn_ok F sc_start_state ?len (fun cdv A outer s H vs Q E hr h => ⟨_, (pss_one (ps_ret (by exact (pe_lc (own := [("_", 1), ("_", 1), ("start", 2)]) (by rfl) sc_start_state.nd (pi_list (pe_f T.c_Circuit T.n_Circuit_latches (pv 0))) (blkOk_by (own := [("_", 1), ("_", 1), ("start", 2)]) (N := ["circuit", "_", "start"]) (sc := defScope s_start_state) (by decide +kernel)) (fun _ _ _ _ _ => by exact (pg_tupK (K := K) (n := 3) (by rfl) (by rfl) (pgs_cons (pg_name (i := 1) sc_start_state.nd rfl (Or.inl rfl)) (pgs_cons (pg_name (i := 2) sc_start_state.nd rfl (Or.inl rfl)) (pgs_cons (pg_name (i := 1) sc_start_state.nd rfl (Or.inl rfl)) pgs_nil))))) (fun _ _ _ _ _ => by exact pts_nil) (fun _ _ _ _ _ => by exact (pv 2)))))), ?_⟩)⟩
  case len => walk_at "ln"
  
  obtain ⟨p, c, rfl, ⟨dx, li, ll, la, lo, h1, h2, ⟨vl, h3, r3⟩, h4, h5⟩, hl, q⟩ := h
  walk_at "st"
  walk_at "go"
  refine g_rLcLT (xs := vl) (rep := IsI) (bs := startS c) h3 (by rw [r3.1]; omega) (by rw [r3.1]; exact List.length_map ..) mono_I stab_I (fun D i x b H2 hD hx hb hS2 Qy hQ => ?_) (fun D H2 hD hS2 hL2 => ?_)
  · obtain ⟨⟨s, st, l⟩, hs, t, rfl, ht⟩ := r3.2 i x hx
    unfold startS at hb
    rw [map_get hs] at hb
    cases hb
    have ht' := hS2 _ _ ht
    walk_at "go"
    exact hQ _ _ (L2.Same.refl _) rfl
  · walk_at "go"
    exact q H2 D hS2 hD (LstAt.nums.mp hL2)
def spStep (K : PySem.W.Frag) : Sp := fun vs H Q _ => ∃ (p a b : Addr) (c : Cir Str) (st row : List Nat), vs = [.ref p, .ref a, .ref b] ∧ CirAt K H p c ∧ H a = some (.lst (nums st)) ∧ H b = some (.lst (nums row)) ∧ CirOk c ∧ st.length = c.lat.length ∧ row.length = c.ins.length ∧
  ∀ H' q u v, Same H H' → H q = none → H' q = some (.tup [.ref u, .ref v]) → H' u = some (.lst (nums (outF c st row))) → H' v = some (.lst (nums (nextF c st row))) → Q (.ref q) H'
theorem CirOk.nn_le {c : Cir Str} (h : CirOk c) : c.nn ≤ 3000 := by
  have h1 := h.leaf.1
  have h2 := h.leaf.2.1
  have h3 := h.ands.1
  unfold Cir.nn
  omega
theorem cirVals_len {c : Cir Str} {st row : List Nat} (hs : st.length = c.lat.length) (hr : row.length = c.ins.length) : (cirVals c st row).length = c.nn := by
  unfold cirVals netVals
  rw [valsF_len, List.length_cons, List.length_append, hs, hr]
  show _ + c.ands.length = _
  unfold Cir.nn
  omega
theorem CirOk.andsLt {c : Cir Str} (h : CirOk c) : AndsLt c.net.fa c.net.ands := fun i l r e => by
  have := h.ands.2 i l r e
  have e2 : c.net.fa = c.fa := by
    unfold NetD.fa Cir.fa
    show 1 + c.ins.length + (c.lat.map _).length = _
    rw [List.length_map]
  rw [e2]
  omega
theorem ok_step (F : FunD K "step" "step" (defArgs s_step) (defBody s_step) (defScope s_step) [] [] f fd) (hm : mg "step" = some (.ref f)) (T : Txt K mg) (M_Circuit_as_net : MethOk P w K mg base 3 (He.ga K "Circuit") "as_net" ["self"] (spAsNet K)) (D_node_values : DefOk P w K mg base 2 "node_values" ["net", "state", "row"] (spNodeValues K)) (D_value_of : DefOk P w K mg base 1 "value_of" ["values", "literal"] spValueOf) : DefOk P w K mg base 4 "step" ["circuit", "state", "row"] (spStep K) := by
  refine ⟨f, fd, hm, F.kp, (FunD.bindsN (ps := ["circuit", "state", "row"]) F fun _ _ _ _ _ _ us hl => match us, hl with | [_, _, _], _ => rfl), fn_ok F sc_step ?len (fun cdv A outer s H vs Q E hr h => ⟨_, (pss_cons (ps_set (i := 3) sc_step.nd rfl (Or.inr rfl) (pe_callD D_node_values (hr.mono (by decide)) (by rfl) (pa_cons (pe_meth0D M_Circuit_as_net T.c_Circuit (hr.mono (by decide)) (pv 0)) (pa_cons (pv 1) (pa_cons (pv 2) pa_nil)))))
  (pss_cons (ps_setLc (i := 4) (own := [("_", 5), ("literal", 6)]) (by rfl) sc_step.nd rfl rfl (sw_true rfl rfl rfl (by decide +kernel)) (pi_list (pe_f T.c_Circuit T.n_Circuit_outputs (pv 0))) (blkOk_by (own := [("_", 5), ("literal", 6)]) (N := ["circuit", "state", "row", "values", "outputs", "_", "literal"]) (sc := defScope s_step) (by decide +kernel)) (fun _ _ _ _ _ => by exact (pg_tupK (K := K) (n := 2) (by rfl) (by rfl) (pgs_cons (pg_name (i := 5) sc_step.nd rfl (Or.inl rfl)) (pgs_cons (pg_name (i := 6) sc_step.nd rfl (Or.inl rfl)) pgs_nil)))) (fun _ _ _ _ _ => by exact pts_nil) (fun _ _ _ _ _ => by exact (pe_callD D_value_of (hr.mono (by decide)) (by rfl) (pa_cons (pv 3) (pa_cons (pv 6) pa_nil)))))
  (pss_one (ps_ret (pe_tup (pa_cons (pv 4) (pa_cons (by exact (pe_lc (own := [("_", 5), ("_", 5), ("literal", 6)]) (by rfl) sc_step.nd (pi_list (pe_f T.c_Circuit T.n_Circuit_latches (pv 0))) (blkOk_by (own := [("_", 5), ("_", 5), ("literal", 6)]) (N := ["circuit", "state", "row", "values", "outputs", "_", "literal"]) (sc := defScope s_step) (by decide +kernel)) (fun _ _ _ _ _ => by exact (pg_tupK (K := K) (n := 3) (by rfl) (by rfl) (pgs_cons (pg_name (i := 5) sc_step.nd rfl (Or.inl rfl)) (pgs_cons (pg_name (i := 5) sc_step.nd rfl (Or.inl rfl)) (pgs_cons (pg_name (i := 6) sc_step.nd rfl (Or.inl rfl)) pgs_nil))))) (fun _ _ _ _ _ => by exact pts_nil) (fun _ _ _ _ _ => by exact (pe_callD D_value_of (hr.mono (by decide)) (by rfl) (pa_cons (pv 3) (pa_cons (pv 6) pa_nil)))))) pa_nil))))))), ?_⟩)⟩
  case len => walk_at "ln"
  
  obtain ⟨p, a, b, c, st, row, rfl, hc, ha, hb, hk, hst, hrow, q⟩ := h
  obtain ⟨dx, li, ll, la, lo, h1, h2, ⟨vl, h3, r3⟩, h4, ⟨vo, h5, r5⟩⟩ := id hc
  have hnn := hk.nn_le
  have hvl := cirVals_len hst hrow
  have enn : c.net.nn = c.nn := by
    unfold NetD.nn Cir.nn
    show 1 + c.ins.length + (c.lat.map _).length + _ = _
    rw [List.length_map]
    rfl
  walk_at "st"
  walk_at "go"
  refine ⟨p, c, rfl, hc, hk.leaf.2.1, fun H1 n hS1 hn hN => ?_⟩
  walk_at "go"
  refine ⟨n, a, b, c.net, st, row, rfl, hN, hS1 _ _ ha, hS1 _ _ hb, by rw [hst]; exact (List.length_map ..).symm, hrow, by omega, hk.andsLt, fun H2 vq hS2 hvq hV => ?_⟩
  have s2 := L2.Same.trans hS1 hS2
  walk_at "go"
  refine g_rLcLT (xs := vo) (rep := IsI) (bs := outF c st row) (s2 _ _ h5) (by rw [r5.1]; have := hk.outs.1; omega) (by rw [r5.1]; exact List.length_map ..) mono_I stab_I (fun D i x y H3 hD hx hb hS3 Qy hQ => ?_) (fun u H3 hu hS3 hL3 => ?_)
  · obtain ⟨⟨s, l⟩, hs, t, rfl, ht⟩ := r5.2 i x hx
    unfold outF at hb
    rw [map_get hs] at hb
    cases hb
    have ht' := hS3 _ _ (s2 _ _ ht)
    have hl := hk.outs.2.2.2 _ (List.mem_of_getElem? hs)
    dsimp only at hl
    walk_at "go"
    refine g_valueOf (hS3 _ _ hV) (show l / 2 < (cirVals c st row).length by omega) ?_
    exact hQ _ _ (L2.Same.refl _) rfl
  have s3 := L2.Same.trans s2 hS3
  have hV3 := hS3 _ _ hV
  walk_at "go"
  refine g_rLcLT (xs := vl) (rep := IsI) (bs := nextF c st row) (s3 _ _ h3) (by rw [r3.1]; have := hk.leaf.2.1; omega) (by rw [r3.1]; exact List.length_map ..) mono_I stab_I (fun D i x y H4 hD hx hb hS4 Qy hQ => ?_) (fun v H4 hv hS4 hL4 => ?_)
  · obtain ⟨⟨s, z, l⟩, hs, t, rfl, ht⟩ := r3.2 i x hx
    unfold nextF at hb
    rw [map_get hs] at hb
    cases hb
    have ht' := hS4 _ _ (s3 _ _ ht)
    have hl := (hk.leaf.2.2.2.2 _ (List.mem_of_getElem? hs)).2
    dsimp only at hl
    walk_at "go"
    refine g_valueOf (hS4 _ _ hV3) (show l / 2 < (cirVals c st row).length by omega) ?_
    exact hQ _ _ (L2.Same.refl _) rfl
  walk_at "go"
  rename_i q5 hq5
  refine q _ q5 u v (L2.Same.trans s3 (L2.Same.trans hS4 (Same.new hq5))) (by walk_at "nn") upd_same (lk_new hq5 (hS4 _ _ (LstAt.nums.mp hL3))) (lk_new hq5 (LstAt.nums.mp hL4))
def CourseOk (n : Nat) (course : List (List Nat)) : Prop := course.length ≤ 1000 ∧ ∀ row ∈ course, row.length = n ∧ ∀ b ∈ row, b ≤ 1
def spCheckCourse (K : PySem.W.Frag) : Sp := fun vs H Q _ => ∃ (p a : Addr) (c : Cir Str) (course : List (List Nat)), vs = [.ref p, .ref a] ∧ CirAt K H p c ∧ LstAt H a IsN course ∧ CourseOk c.ins.length course ∧ ∀ H', Same H H' → Q .non H'
theorem ok_check_course (F : FunD K "check_course" "check_course" (defArgs s_check_course) (defBody s_check_course) (defScope s_check_course) [] [] f fd) (hm : mg "check_course" = some (.ref f)) (T : Txt K mg) : DefOk P w K mg base 1 "check_course" ["circuit", "course"] (spCheckCourse K) := by
  refine ⟨f, fd, hm, F.kp, (FunD.bindsN (ps := ["circuit", "course"]) F fun _ _ _ _ _ _ us hl => match us, hl with | [_, _], _ => rfl), fn_ok F sc_check_course ?len (fun cdv A outer s H vs Q E hr h => ⟨_, (pss_one (ps_for PassesOwn.never rfl (pi_enum (by rfl) T.m_enumerate (pa_cons (pv 1) pa_nil)) (pg_tupK (K := K) (n := 2) (by rfl) (by rfl) (pgs_cons (pg_name (i := 2) sc_check_course.nd rfl (Or.inl rfl)) (pgs_cons (pg_name (i := 3) sc_check_course.nd rfl (Or.inl rfl)) pgs_nil)))
  (pss_cons (ps_if (PW.pt (pw_or (pt_cmpR op_eq (pv 2) (pe_gint (by rfl) T.MOST_ROWS) (nomark _)) (pw_or1 (pt_cmpR op_ne (pe_callB (call_lenK (K := K) (by rfl)) (by rfl) T.m_len (by decide +kernel) (pa_cons (pv 3) pa_nil)) (pe_callB (call_lenK (K := K) (by rfl)) (by rfl) T.m_len (by decide +kernel) (pa_cons (pe_f T.c_Circuit T.n_Circuit_inputs (pv 0)) pa_nil)) (nomark _))))) (pss_one ps_never) pss_nil)
  (pss_one (ps_if (pt_cmpR (op_neD hr.units) (by exact (pe_lc (own := [("bit", 4)]) (by rfl) sc_check_course.nd (pi_list (pv 3)) (blkOk_by (own := [("bit", 4)]) (N := ["circuit", "course", "index", "row", "bit"]) (sc := defScope s_check_course) (by decide +kernel)) (fun _ _ _ _ _ => by exact (pg_name (i := 4) sc_check_course.nd rfl (Or.inl rfl))) (fun _ _ _ _ _ => by exact pts_one (PW.pt (pw_and (pt_cmpR op_ne (pv 4) (pe_int (i := ((0 : Nat) : Int))) (nomark _)) (pw_and1 (pt_cmpR op_ne (pv 4) (pe_int (i := ((1 : Nat) : Int))) (nomark _)))))) (fun _ _ _ _ _ => by exact (pv 4)))) (pe_lst pa_nil) (nomark _)) (pss_one ps_never) pss_nil))))), ?_⟩)⟩
  case len => walk_at "ln"
  
  obtain ⟨p, a, c, course, rfl, ⟨dx, li, ll, la, lo, h1, ⟨vi, h2, r2⟩, h3, h4, h5⟩, ⟨vc, hcr, rc⟩, ⟨k1, k2⟩, q⟩ := h
  walk_at "st"
  walk_at "go"
  refine g_rForE (xs := vc) hcr (fun i σ H' => ∃ o1 o2 o3, σ = [some (.ref p), some (.ref a), o1, o2, o3] ∧ Same H H') ⟨_, _, _, rfl, L2.Same.refl _⟩ ?_ ?_ ?_
  · rintro i σ H' hi ⟨_, _, _, rfl, hS⟩
    exact hS _ _ hcr
  · rintro i v σ H' T' hv ⟨_, _, _, rfl, hS⟩ hT
    obtain ⟨row, hr, t, rfl, ht⟩ := rc.2 i v hv
    have hi := lt_of_get hr
    obtain ⟨b1, b2⟩ := k2 row (List.mem_of_getElem? hr)
    have ht' := hS _ _ ht
    have e1 := r2.1
    walk_at "go"
    rw [nums_len, b1, e1]
    refine brn_f rfl ?_
    walk_at "go"
    refine g_rLcLN (xs := nums row) (lk_new hT ht') (fun D i x H2 hD hx hS2 QB hQ => ?_) (fun D H2 hD e => ?_)
    · obtain ⟨n, hn, rfl⟩ := nums_of hx
      have hb := b2 n (List.mem_of_getElem? hn)
      walk_at "go"
      refine brn (fun h0 => ?_) (fun h0 => ?_)
      · walk_at "go"
        have e : n = 1 := by omega
        rw [decide_eq_true e]
        exact hQ _ _ rfl
      · exact hQ _ _ rfl
    · subst e
      walk_at "go"
      rename_i l1 hl1
      refine g_neD (K := K) (d := .list []) (.lst (SqL.of (lk_new hl1 upd_same)) .nil) (.lst (SqL.of upd_same) .nil) ⟨rfl, by decide⟩ ?_
      walk_at "go"
      exact ⟨_, _, _, rfl, by walk_at "ex"⟩
  · rintro σ H' ⟨_, _, _, rfl, hS⟩
    walk_at "go"
    exact q H' hS
end
end
section
/-! part SgMa -/
set_option maxRecDepth 100000
set_option linter.unusedVariables false
set_option maxHeartbeats 1000000
open PySem
/-! ### good sets of literals -/
/-- unit propagation at a node w = l and r -/
structure AndOk (S : Nat → Prop) (w l r : Nat) : Prop where
  dn : S w → S l ∧ S r
  up : S l → S r → S w
  nl : S (neg l) → S (neg w)
  nr : S (neg r) → S (neg w)
  xr : S (neg w) → S l → S (neg r)
  xl : S (neg w) → S r → S (neg l)
structure GoodA (fa : Nat) (ands : List (Nat × Nat)) (S : Nat → Prop) : Prop where
  con : Con S
  t : S 1
  n : ∀ i l r, ands[i]? = some (l, r) → AndOk S (2 * (fa + i)) l r
theorem GoodA.f {fa : Nat} {ands : List (Nat × Nat)} {S : Nat → Prop} (h : GoodA fa ands S) : ¬ S 0 := h.con 1 h.t
theorem Con.n {S : Nat → Prop} (h : Con S) {x : Nat} (hx : S (neg x)) : ¬ S x := fun e => h x e hx
theorem clo1 {C : List (List Nat)} {S : Nat → Prop} (hc : Clo C S) {a : Nat} (m : [a] ∈ C) : S a := by
  rcases hc _ m with ⟨x, h1, h2⟩ | ⟨x, h1, y, h2, h3, _⟩
  · rw [List.mem_singleton] at h1; exact h1 ▸ h2
  · rw [List.mem_singleton] at h1 h2; exact absurd (h1.trans h2.symm) h3
theorem clo2 {C : List (List Nat)} {S : Nat → Prop} (hn : Con S) (hc : Clo C S) {a b : Nat} (m : [a, b] ∈ C) : (S (neg a) → S b) ∧ (S (neg b) → S a) := by
  rcases hc _ m with ⟨x, h1, h2⟩ | ⟨x, h1, y, h2, h3, h4, h5⟩
  · simp only [List.mem_cons, List.not_mem_nil, or_false] at h1
    rcases h1 with rfl | rfl
    · exact ⟨fun h => absurd h (hn _ h2), fun _ => h2⟩
    · exact ⟨fun _ => h2, fun h => absurd h (hn _ h2)⟩
  · simp only [List.mem_cons, List.not_mem_nil, or_false] at h1 h2
    rcases h1 with rfl | rfl <;> rcases h2 with rfl | rfl
    · exact absurd rfl h3
    · exact ⟨fun h => absurd h h4, fun h => absurd h h5⟩
    · exact ⟨fun h => absurd h h5, fun h => absurd h h4⟩
    · exact absurd rfl h3
theorem clo3 {C : List (List Nat)} {S : Nat → Prop} (hn : Con S) (hc : Clo C S) {a b c : Nat} (m : [a, b, c] ∈ C) : (S (neg a) → S (neg b) → S c) ∧ (S (neg a) → S (neg c) → S b) ∧ (S (neg b) → S (neg c) → S a) := by
  rcases hc _ m with ⟨x, h1, h2⟩ | ⟨x, h1, y, h2, h3, h4, h5⟩
  · simp only [List.mem_cons, List.not_mem_nil, or_false] at h1
    rcases h1 with rfl | rfl | rfl
    · exact ⟨fun h _ => absurd h (hn _ h2), fun h _ => absurd h (hn _ h2), fun _ _ => h2⟩
    · exact ⟨fun _ h => absurd h (hn _ h2), fun _ _ => h2, fun h _ => absurd h (hn _ h2)⟩
    · exact ⟨fun _ _ => h2, fun _ h => absurd h (hn _ h2), fun _ h => absurd h (hn _ h2)⟩
  · simp only [List.mem_cons, List.not_mem_nil, or_false] at h1 h2
    refine ⟨fun p q => ?_, fun p q => ?_, fun p q => ?_⟩ <;> exfalso <;> rcases h1 with rfl | rfl | rfl <;> rcases h2 with rfl | rfl | rfl <;> first | exact h3 rfl | exact h4 p | exact h4 q | exact h5 p | exact h5 q
/-- the literal y is what the literal x is -/
def EqS (S T : Nat → Prop) (x y : Nat) : Prop := (S x ↔ T y) ∧ (S (neg x) ↔ T (neg y))
theorem EqS.neg {S T : Nat → Prop} {x y : Nat} (h : EqS S T x y) : EqS S T (neg x) (neg y) := ⟨h.2, by rw [neg_neg, neg_neg]; exact h.1⟩
theorem clo_same {C : List (List Nat)} {S : Nat → Prop} (hn : Con S) (hc : Clo C S) {x y : Nat} (m : ∀ k ∈ sameC x y, k ∈ C) : EqS S S x y := by
  have h1 := clo2 hn hc (m [neg x, y] List.mem_cons_self)
  have h2 := clo2 hn hc (m [x, neg y] (List.mem_cons_of_mem _ List.mem_cons_self))
  rw [neg_neg] at h1 h2
  exact ⟨⟨h1.1, h2.2⟩, ⟨h2.1, h1.2⟩⟩
theorem Clo.sub {C D : List (List Nat)} {S : Nat → Prop} (h : Clo D S) (m : ∀ k ∈ C, k ∈ D) : Clo C S := fun c hc => h c (m c hc)
theorem Clo.l {C D : List (List Nat)} {S : Nat → Prop} (h : Clo (C ++ D) S) : Clo C S := h.sub fun k hk => List.mem_append_left _ hk
theorem Clo.r {C D : List (List Nat)} {S : Nat → Prop} (h : Clo (C ++ D) S) : Clo D S := h.sub fun k hk => List.mem_append_right _ hk
theorem neg_add {x s : Nat} (hs : s % 2 = 0) : neg (x + s) = neg x + s := by
  unfold neg; split <;> split <;> omega
theorem andsC_mem : ∀ (t : List (Nat × Nat)) (w i l r : Nat), t[i]? = some (l, r) → [w + 2 * i + 1, l] ∈ andsC w t ∧ [w + 2 * i + 1, r] ∈ andsC w t ∧ [w + 2 * i, neg l, neg r] ∈ andsC w t
  | [], w, i, l, r, h => by simp at h
  | (a, b) :: t, w, 0, l, r, h => by
    cases h
    exact ⟨List.mem_cons_self, List.mem_cons_of_mem _ List.mem_cons_self, List.mem_cons_of_mem _ (List.mem_cons_of_mem _ List.mem_cons_self)⟩
  | (a, b) :: t, w, i + 1, l, r, h => by
    have ih := andsC_mem t (w + 2) i l r (by simpa using h)
    rw [show w + 2 + 2 * i = w + 2 * (i + 1) by omega] at ih
    have up : ∀ k, k ∈ andsC (w + 2) t → k ∈ andsC w ((a, b) :: t) := fun k hk => List.mem_cons_of_mem _ (List.mem_cons_of_mem _ (List.mem_cons_of_mem _ hk))
    exact ⟨up _ ih.1, up _ ih.2.1, up _ ih.2.2⟩
theorem startsC_mem : ∀ (t : List (Nat × Nat)) (w i s x : Nat), t[i]? = some (s, x) → [w + 2 * i + 1 - s] ∈ startsC w t
  | [], w, i, l, r, h => by simp at h
  | (a, b) :: t, w, 0, s, x, h => by cases h; exact List.mem_cons_self
  | (a, b) :: t, w, i + 1, s, x, h => by
    have ih := startsC_mem t (w + 2) i s x (by simpa using h)
    rw [show w + 2 + 2 * i = w + 2 * (i + 1) by omega] at ih
    exact List.mem_cons_of_mem _ ih
theorem linksC_mem (a b : Nat) : ∀ (t : List (Nat × Nat)) (w i s x : Nat), t[i]? = some (s, x) → ∀ k ∈ sameC (w + 2 * i + a) (x + b), k ∈ linksC w a b t
  | [], w, i, l, r, h => by simp at h
  | (p, q) :: t, w, 0, s, x, h => by cases h; exact fun k hk => List.mem_append_left _ hk
  | (p, q) :: t, w, i + 1, s, x, h => by
    have ih := linksC_mem a b t (w + 2) i s x (by simpa using h)
    rw [show w + 2 + 2 * i = w + 2 * (i + 1) by omega] at ih
    exact fun k hk => List.mem_append_right _ (ih k hk)
/-- a set that is closed under a frame's clauses -/
theorem good_frame {n : NetD} {f : Nat} {S : Nat → Prop} (hn : Con S) (hc : Clo (frameC n f) S) : GoodA n.fa n.ands (fun x => S (x + f * 2 * n.nn)) := by
  have he : f * 2 * n.nn % 2 = 0 := by rw [Nat.mul_comm f 2, Nat.mul_assoc]; exact Nat.mul_mod_right 2 _
  generalize hs : f * 2 * n.nn = s at *
  have hm : ∀ c ∈ baseC n, shiftC s c ∈ frameC n f := fun c h => by
    unfold frameC; rw [hs]; exact List.mem_map_of_mem h
  refine ⟨fun x h => by show ¬ S (neg x + s); rw [← neg_add he]; exact hn _ h, clo1 hc (hm [1] List.mem_cons_self), fun i l r e => ?_⟩
  obtain ⟨m1, m2, m3⟩ := andsC_mem n.ands (2 * n.fa) i l r e
  have k1 := clo2 hn hc (hm _ (List.mem_cons_of_mem _ m1))
  have k2 := clo2 hn hc (hm _ (List.mem_cons_of_mem _ m2))
  have k3 := clo3 hn hc (hm _ (List.mem_cons_of_mem _ m3))
  have hw : 2 * n.fa + 2 * i = 2 * (n.fa + i) := by omega
  rw [hw] at k1 k2 k3
  have hw1 : neg (2 * (n.fa + i) + 1) = 2 * (n.fa + i) := by rw [neg_odd (by omega)]; rfl
  have hw2 : neg (2 * (n.fa + i)) = 2 * (n.fa + i) + 1 := neg_even (by omega)
  simp only [neg_add he, neg_neg, hw1, hw2] at k1 k2 k3
  refine ⟨fun h => ⟨k1.1 h, k2.1 h⟩, fun h h' => k3.2.2 h h', fun h => ?_, fun h => ?_, fun h h' => ?_, fun h h' => ?_⟩
  · show S (neg (2 * (n.fa + i)) + s)
    rw [hw2]; exact k1.2 h
  · show S (neg (2 * (n.fa + i)) + s)
    rw [hw2]; exact k2.2 h
  · refine k3.1 ?_ h'
    have h : S (neg (2 * (n.fa + i)) + s) := h
    rw [hw2] at h; exact h
  · refine k3.2.1 ?_ h'
    have h : S (neg (2 * (n.fa + i)) + s) := h
    rw [hw2] at h; exact h
theorem fromL_neg (c d : Cir Str) (x : Nat) : fromL c d (neg x) = neg (fromL c d x) := by
  unfold fromL
  rw [neg_div]
  split
  · rfl
  · rw [neg_add (by omega)]
theorem fromR_neg (c d : Cir Str) (x : Nat) : fromR c d (neg x) = neg (fromR c d x) := by
  unfold fromR
  rw [neg_div]
  split
  · rfl
  · split
    · rw [neg_add (by omega)]
    · rw [neg_add (by omega)]
theorem joinN_nn (c d : Cir Str) : (joinN c d).nn = 1 + c.ins.length + (c.lat.length + d.lat.length) + (c.ands.length + d.ands.length) := by
  unfold NetD.nn joinN
  dsimp only
  simp only [List.length_append, List.length_map]
theorem joinN_fa (c d : Cir Str) : (joinN c d).fa = 1 + c.ins.length + (c.lat.length + d.lat.length) := by
  unfold NetD.fa joinN
  dsimp only
  simp only [List.length_append, List.length_map]
theorem joinN_andL {c d : Cir Str} {i l r : Nat} (h : c.ands[i]? = some (l, r)) : (joinN c d).ands[i]? = some (fromL c d l, fromL c d r) := by
  unfold joinN
  dsimp only
  rw [List.getElem?_append_left (by rw [List.length_map]; exact lt_of_get h), List.getElem?_map, h]
  rfl
theorem joinN_andR {c d : Cir Str} {i l r : Nat} (h : d.ands[i]? = some (l, r)) : (joinN c d).ands[c.ands.length + i]? = some (fromR c d l, fromR c d r) := by
  unfold joinN
  dsimp only
  rw [List.getElem?_append_right (by rw [List.length_map]; omega), List.length_map, show c.ands.length + i - c.ands.length = i by omega, List.getElem?_map, h]
  rfl
theorem good_left {c d : Cir Str} {s : Nat} {S : Nat → Prop} (he : s % 2 = 0) (h : GoodA (joinN c d).fa (joinN c d).ands (fun x => S (x + s))) : GoodA c.fa c.ands (fun x => S (fromL c d x + s)) := by
  have e1 : fromL c d 1 = 1 := by unfold fromL Cir.fa; rw [if_pos (by omega)]
  refine ⟨fun x hx => by show ¬ S _; rw [fromL_neg]; exact h.con _ hx, by show S _; rw [e1]; exact h.t, fun i l r e => ?_⟩
  have k := h.n _ _ _ (joinN_andL (d := d) e)
  have ew : 2 * ((joinN c d).fa + i) = fromL c d (2 * (c.fa + i)) := by
    rw [joinN_fa]; unfold fromL Cir.fa
    rw [if_neg (by omega)]; omega
  rw [ew] at k
  refine ⟨k.dn, k.up, fun a => ?_, fun a => ?_, fun a b => ?_, fun a b => ?_⟩
  · show S _
    rw [fromL_neg]; exact k.nl (by show S _; rw [← fromL_neg]; exact a)
  · show S _
    rw [fromL_neg]; exact k.nr (by show S _; rw [← fromL_neg]; exact a)
  · show S _
    rw [fromL_neg]; exact k.xr (by show S _; rw [← fromL_neg]; exact a) b
  · show S _
    rw [fromL_neg]; exact k.xl (by show S _; rw [← fromL_neg]; exact a) b
theorem good_right {c d : Cir Str} {s : Nat} {S : Nat → Prop} (hi : d.ins = c.ins) (he : s % 2 = 0) (h : GoodA (joinN c d).fa (joinN c d).ands (fun x => S (x + s))) : GoodA d.fa d.ands (fun x => S (fromR c d x + s)) := by
  refine ⟨fun x hx => by show ¬ S _; rw [fromR_neg]; exact h.con _ hx, h.t, fun i l r e => ?_⟩
  have k := h.n _ _ _ (joinN_andR (c := c) e)
  have ew : 2 * ((joinN c d).fa + (c.ands.length + i)) = fromR c d (2 * (d.fa + i)) := by
    rw [joinN_fa]; unfold fromR Cir.fa
    rw [hi, if_neg (by omega), if_neg (by omega)]; omega
  rw [ew] at k
  refine ⟨k.dn, k.up, fun a => ?_, fun a => ?_, fun a b => ?_, fun a b => ?_⟩
  · show S _
    rw [fromR_neg]; exact k.nl (by show S _; rw [← fromR_neg]; exact a)
  · show S _
    rw [fromR_neg]; exact k.nr (by show S _; rw [← fromR_neg]; exact a)
  · show S _
    rw [fromR_neg]; exact k.xr (by show S _; rw [← fromR_neg]; exact a) b
  · show S _
    rw [fromR_neg]; exact k.xl (by show S _; rw [← fromR_neg]; exact a) b
/-! ### what a pass must keep -/
def HasJ (imgs : List (Option Nat)) (x : Nat) : Prop := ∃ z, imgs[x / 2]? = some (some z)
/-- the image of and i: both are the and of the literals os -/
def AndI (c d : Cir Str) (imgs : List (Option Nat)) (i y : Nat) : Prop := ∃ os : List Nat, (∀ o ∈ os, o < 2 * (c.fa + i) ∧ HasJ imgs o) ∧
  (∀ S, GoodA c.fa c.ands S → (S (2 * (c.fa + i)) → ∀ o ∈ os, S o) ∧ ((∀ o ∈ os, S o) → S (2 * (c.fa + i)))) ∧
  ∀ S, GoodA d.fa d.ands S → (S y → ∀ o ∈ os, S (imOf imgs o)) ∧ ((∀ o ∈ os, S (imOf imgs o)) → ¬ S (neg y))
structure PassOk (c d : Cir Str) (imgs : List (Option Nat)) : Prop where
  ok : CirOk d
  ins : d.ins = c.ins
  len : imgs.length = c.nn
  inp : ∀ k, k ≤ c.ins.length → imgs[k]? = some (some (2 * k))
  lat : ∀ j y, j < c.lat.length → imgs[c.fl + j]? = some (some y) → ∃ j' l s x, c.lat[j]? = some (l, s, x) ∧ y = 2 * (d.fl + j') ∧ d.lat[j']? = some (l, s, imOf imgs x) ∧ HasJ imgs x
  out : d.outs = c.outs.map fun o => (o.1, imOf imgs o.2)
  oim : ∀ o ∈ c.outs, HasJ imgs o.2
  bd : ∀ k y : Nat, imgs[k]? = some (some y) → y < 2 * d.nn
  ands : ∀ i y, i < c.ands.length → imgs[c.fa + i]? = some (some y) → AndI c d imgs i y
  small : d.ands.length ≤ c.ands.length
  slat : d.lat.length ≤ c.lat.length
def EqI (S T : Nat → Prop) (imgs : List (Option Nat)) (n : Nat) : Prop := ∀ k, k < n → ∀ z, imgs[k]? = some (some z) → EqS S T (2 * k) z
theorem EqI.lit {S T : Nat → Prop} {imgs : List (Option Nat)} {n o : Nat} (h : EqI S T imgs n) (ho : o < 2 * n) (hi : HasJ imgs o) : EqS S T o (imOf imgs o) := by
  obtain ⟨z, hz⟩ := hi
  have e := h (o / 2) (by omega) z hz
  rw [imOf_eq hz]
  unfold xl
  split
  · rename_i ev
    rwa [show 2 * (o / 2) = o by omega] at e
  · rename_i od
    have e' := e.neg
    rw [neg_two, show 2 * (o / 2) + 1 = o by omega] at e'
    exact e'
theorem AndI.step {c d : Cir Str} {imgs : List (Option Nat)} {i y : Nat} (h : AndI c d imgs i y) {S T : Nat → Prop} (hS : GoodA c.fa c.ands S) (hT : GoodA d.fa d.ands T) (he : EqI S T imgs (c.fa + i)) : ¬ (S (2 * (c.fa + i)) ∧ T (neg y)) ∧ ¬ (S (neg (2 * (c.fa + i))) ∧ T y) := by
  obtain ⟨os, h1, h2, h3⟩ := h
  have a := h2 S hS
  have b := h3 T hT
  refine ⟨fun ⟨p, q⟩ => b.2 (fun o ho => ?_) q, fun ⟨p, q⟩ => hS.con.n p (a.2 fun o ho => ?_)⟩
  · exact (he.lit (h1 o ho).1 (h1 o ho).2).1.mp (a.1 p o ho)
  · exact (he.lit (h1 o ho).1 (h1 o ho).2).1.mpr (b.1 q o ho)
/-! ### lines that follow -/
def sameL : List (Nat × Nat) → List (List Nat)
  | [] => []
  | p :: t => sameC p.1 p.2 ++ sameL t
theorem sameL_app : ∀ (a b : List (Nat × Nat)), sameL (a ++ b) = sameL a ++ sameL b
  | [], b => rfl
  | p :: t, b => by
    show sameC p.1 p.2 ++ sameL (t ++ b) = (sameC p.1 p.2 ++ sameL t) ++ sameL b
    rw [sameL_app t b, List.append_assoc]
theorem sameL_mem : ∀ {a : List (Nat × Nat)} {p : Nat × Nat}, p ∈ a → ∀ k ∈ sameC p.1 p.2, k ∈ sameL a
  | q :: t, p, h, k, hk => by
    rcases List.mem_cons.mp h with rfl | h
    · exact List.mem_append_left _ hk
    · exact List.mem_append_right _ (sameL_mem h k hk)
theorem sameL_all {P : List Nat → Prop} : ∀ {a : List (Nat × Nat)}, (∀ p ∈ a, ∀ k ∈ sameC p.1 p.2, P k) → ∀ k ∈ sameL a, P k
  | [], _, k, hk => nomatch hk
  | p :: t, h, k, hk => by
    rcases List.mem_append.mp hk with hk | hk
    · exact h p List.mem_cons_self k hk
    · exact sameL_all (fun q hq => h q (List.mem_cons_of_mem _ hq)) k hk
theorem FolS.app {C A B : List (List Nat)} (h : FolS C A) (h' : FolS (C ++ A) B) : FolS C (A ++ B) := by
  intro i c e
  by_cases q : i < A.length
  · rw [List.getElem?_append_left q] at e
    have := h i c e
    rwa [List.take_append_of_le_length (by omega)]
  · rw [List.getElem?_append_right (by omega)] at e
    have := h' _ c e
    rw [List.take_append, List.take_of_length_le (by omega), ← List.append_assoc]
    exact this
theorem FolS.same {C : List (List Nat)} {x y : Nat} (h : ∀ S, Con S → Clo C S → ¬ (S x ∧ S (neg y)) ∧ ¬ (S (neg x) ∧ S y)) : FolS C (sameC x y) := by
  intro i c e S hn hc hl
  match i, e with
  | 0, e =>
    cases e
    have := h S hn (Clo.l hc)
    have h1 := hl (neg (neg x)) (by simp)
    have h2 := hl (neg y) (by simp)
    rw [neg_neg] at h1
    exact this.1 ⟨h1, h2⟩
  | 1, e =>
    cases e
    have := h S hn (Clo.l hc)
    have h1 := hl (neg x) (by simp)
    have h2 := hl (neg (neg y)) (by simp)
    rw [neg_neg] at h2
    exact this.2 ⟨h1, h2⟩
def pairsC (c d : Cir Str) (imgs : List (Option Nat)) (lo : Nat) : Nat → List (Nat × Nat)
  | 0 => []
  | n + 1 => pairsC c d imgs lo n ++ (match imgs[lo + n]? with
    | some (some y) => [(fromL c d (2 * (lo + n)), fromR c d y)]
    | _ => [])
theorem certC_eq (c d : Cir Str) (imgs : List (Option Nat)) (lo : Nat) : ∀ n, certC c d imgs lo n = sameL (pairsC c d imgs lo n)
  | 0 => rfl
  | n + 1 => by
    show certC c d imgs lo n ++ certL c d imgs (lo + n) = sameL (_ ++ _)
    rw [certC_eq c d imgs lo n, sameL_app]
    congr 1
    unfold certL
    cases imgs[lo + n]? with
    | none => rfl
    | some o =>
      cases o with
      | none => rfl
      | some y => exact (List.append_nil _).symm
theorem pairsC_mem (c d : Cir Str) (imgs : List (Option Nat)) (lo : Nat) {p : Nat × Nat} : ∀ n, p ∈ pairsC c d imgs lo n ↔ ∃ k y, k < n ∧ imgs[lo + k]? = some (some y) ∧ p = (fromL c d (2 * (lo + k)), fromR c d y)
  | 0 => Iff.intro (fun h => nomatch h) (fun h => by obtain ⟨_, _, h, _⟩ := h; exact absurd h (Nat.not_lt_zero _))
  | n + 1 => by
    show p ∈ pairsC c d imgs lo n ++ _ ↔ _
    rw [List.mem_append, pairsC_mem c d imgs lo n]
    constructor
    · rintro (⟨k, y, h1, h2⟩ | h)
      · exact ⟨k, y, by omega, h2⟩
      · split at h
        · rename_i y e
          exact ⟨n, y, by omega, e, List.mem_singleton.mp h⟩
        · cases h
    · rintro ⟨k, y, h1, h2, h3⟩
      by_cases q : k < n
      · exact .inl ⟨k, y, q, h2, h3⟩
      · have : k = n := by omega
        subst this
        right
        rw [h2]
        exact List.mem_singleton.mpr h3
/-- sh: how a frame moves a literal -/
theorem fol_pairs {C : List (List Nat)} {c d : Cir Str} {imgs : List (Option Nat)} {lo : Nat} {sh : Nat} : ∀ n, (∀ k y, k < n → imgs[lo + k]? = some (some y) → ∀ S, Con S → Clo C S → (∀ j z, j < k → imgs[lo + j]? = some (some z) → EqS S S (fromL c d (2 * (lo + j)) + sh) (fromR c d z + sh)) →
      ¬ (S (fromL c d (2 * (lo + k)) + sh) ∧ S (neg (fromR c d y + sh))) ∧ ¬ (S (neg (fromL c d (2 * (lo + k)) + sh)) ∧ S (fromR c d y + sh))) →
    FolS C (sameL ((pairsC c d imgs lo n).map fun p => (p.1 + sh, p.2 + sh)))
  | 0, _ => FolS.nil C
  | n + 1, h => by
    have ih := fol_pairs (C := C) (c := c) (d := d) (imgs := imgs) (lo := lo) (sh := sh) n fun k y hk => h k y (by omega)
    show FolS C (sameL ((pairsC c d imgs lo n ++ _).map _))
    rw [List.map_append, sameL_app]
    refine FolS.app ih ?_
    split
    · rename_i y e
      show FolS _ (sameC _ _ ++ [])
      rw [List.append_nil]
      refine FolS.same fun S hn hc => h n y (by omega) e S hn (Clo.l hc) fun j z hj ez => ?_
      refine clo_same hn (Clo.r hc) (sameL_mem (p := (fromL c d (2 * (lo + j)) + sh, fromR c d z + sh)) (List.mem_map.mpr ⟨_, (pairsC_mem c d imgs lo n).mpr ⟨j, z, hj, ez, rfl⟩, rfl⟩))
    · exact FolS.nil _
theorem map_id0 (l : List (Nat × Nat)) : l.map (fun p => (p.1 + 0, p.2 + 0)) = l := by
  conv => rhs; rw [← List.map_id l]
  exact List.map_congr_left fun p _ => rfl
theorem sameL_shift {s : Nat} (hs : s % 2 = 0) : ∀ l : List (Nat × Nat), (sameL l).map (shiftC s) = sameL (l.map fun p => (p.1 + s, p.2 + s))
  | [] => rfl
  | p :: t => by
    show (sameC p.1 p.2 ++ sameL t).map _ = sameC (p.1 + s) (p.2 + s) ++ sameL _
    rw [List.map_append, sameL_shift hs t]
    congr 1
    unfold sameC shiftC
    simp only [List.map_cons, List.map_nil, neg_add hs]
end
section
/-! part SgMa2 -/
set_option maxRecDepth 100000
set_option linter.unusedVariables false
set_option maxHeartbeats 1000000
open PySem
/-! ### a pass's certificate -/
def SL (c d : Cir Str) (S : Nat → Prop) (s : Nat) : Nat → Prop := fun x => S (fromL c d x + s)
def SR (c d : Cir Str) (S : Nat → Prop) (s : Nat) : Nat → Prop := fun x => S (fromR c d x + s)
theorem eqS_iff {c d : Cir Str} {S : Nat → Prop} {x y : Nat} : EqS (SL c d S 0) (SR c d S 0) x y ↔ EqS S S (fromL c d x) (fromR c d y) := by
  unfold EqS SL SR
  rw [fromL_neg, fromR_neg]
  exact Iff.rfl
theorem fromL_leaf {c d : Cir Str} {k : Nat} (h : k < c.fa) : fromL c d (2 * k) = 2 * k := by
  unfold fromL; rw [if_pos (by omega)]
theorem fromR_in {c d : Cir Str} {k : Nat} (h : k ≤ c.ins.length) : fromR c d (2 * k) = 2 * k := by
  unfold fromR; rw [if_pos (by omega)]
theorem fromR_lat {c d : Cir Str} (hi : d.ins = c.ins) {j : Nat} (h : j < d.lat.length) : fromR c d (2 * (d.fl + j)) = 2 * (d.fl + c.lat.length + j) := by
  unfold fromR Cir.fl Cir.fa
  rw [hi, if_neg (by omega), if_pos (by omega)]; omega
theorem fromL_lt {c d : Cir Str} {x : Nat} (h : x < 2 * c.nn) : fromL c d x < 2 * (joinN c d).nn := by
  rw [joinN_nn]
  unfold fromL
  unfold Cir.nn at h
  split <;> omega
theorem fromR_lt {c d : Cir Str} (hi : d.ins = c.ins) {x : Nat} (h : x < 2 * d.nn) : fromR c d x < 2 * (joinN c d).nn := by
  rw [joinN_nn]
  unfold fromR
  unfold Cir.nn at h
  rw [hi] at h
  split
  · omega
  · split <;> omega
section
variable {c d : Cir Str} {imgs : List (Option Nat)}
theorem frame0 {S : Nat → Prop} (hn : Con S) (hc : Clo (frameC (joinN c d) 0) S) (hi : d.ins = c.ins) : GoodA c.fa c.ands (SL c d S 0) ∧ GoodA d.fa d.ands (SR c d S 0) := by
  have g := good_frame hn hc
  rw [show 0 * 2 * (joinN c d).nn = 0 by omega] at g
  exact ⟨good_left rfl g, good_right hi rfl g⟩
theorem eq_ins (hp : PassOk c d imgs) {S : Nat → Prop} {k z : Nat} (hk : k < c.fl) (e : imgs[k]? = some (some z)) : EqS S S (fromL c d (2 * k)) (fromR c d z) := by
  have hk' : k ≤ c.ins.length := by unfold Cir.fl at hk; omega
  rw [hp.inp k hk'] at e
  cases e
  rw [fromL_leaf (by unfold Cir.fa; omega), fromR_in hk']
  exact ⟨Iff.rfl, Iff.rfl⟩
theorem joinN_latL {j : Nat} {l : Str} {s x : Nat} (h : c.lat[j]? = some (l, s, x)) : (joinN c d).lat[j]? = some (s, fromL c d x) := by
  unfold joinN
  dsimp only
  rw [List.getElem?_append_left (by rw [List.length_map]; exact lt_of_get h), List.getElem?_map, h]
  rfl
theorem joinN_latR {j : Nat} {l : Str} {s x : Nat} (h : d.lat[j]? = some (l, s, x)) : (joinN c d).lat[c.lat.length + j]? = some (s, fromR c d x) := by
  unfold joinN
  dsimp only
  rw [List.getElem?_append_right (by rw [List.length_map]; omega), List.length_map, show c.lat.length + j - c.lat.length = j by omega, List.getElem?_map, h]
  rfl
theorem fact_pos (hp : PassOk c d imgs) {j y : Nat} (hj : j < c.lat.length) (e : imgs[c.fl + j]? = some (some y)) :
    ∃ j' l s x, c.lat[j]? = some (l, s, x) ∧ d.lat[j']? = some (l, s, imOf imgs x) ∧ HasJ imgs x ∧ fromL c d (2 * (c.fl + j)) = 2 * (c.fl + j) ∧ fromR c d y = 2 * (c.fl + c.lat.length + j') := by
  obtain ⟨j', l, s, x, h1, h2, h3, h4⟩ := hp.lat j y hj e
  refine ⟨j', l, s, x, h1, h3, h4, fromL_leaf (by unfold Cir.fl Cir.fa; omega), ?_⟩
  rw [h2, fromR_lat hp.ins (lt_of_get h3)]
  unfold Cir.fl
  rw [hp.ins]
theorem start_fol (hc : CirOk c) (hp : PassOk c d imgs) : FolS (frameC (joinN c d) 0 ++ startC (joinN c d)) (certC c d imgs c.fl c.lat.length) := by
  rw [certC_eq]
  have := fol_pairs (C := frameC (joinN c d) 0 ++ startC (joinN c d)) (c := c) (d := d) (imgs := imgs) (lo := c.fl) (sh := 0) c.lat.length fun k y hk e S hn hcl _ => ?_
  · rwa [map_id0] at this
  obtain ⟨j', l, s, x, h1, h2, h3, e1, e2⟩ := fact_pos hp hk e
  have hs : s ≤ 1 := (hc.leaf.2.2.2.2 _ (List.mem_of_getElem? h1)).1
  have a := clo1 (Clo.r hcl) (startsC_mem _ (2 * (joinN c d).fl) _ _ _ (joinN_latL (d := d) h1))
  have b := clo1 (Clo.r hcl) (startsC_mem _ (2 * (joinN c d).fl) _ _ _ (joinN_latR (c := c) h2))
  rw [e1, e2]
  have f1 : (joinN c d).fl = c.fl := rfl
  rw [f1] at a b
  show ¬ (S (2 * (c.fl + k)) ∧ S (neg (2 * (c.fl + c.lat.length + j')))) ∧ ¬ (S (neg (2 * (c.fl + k))) ∧ S (2 * (c.fl + c.lat.length + j')))
  have : s = 0 ∨ s = 1 := by omega
  rcases this with rfl | rfl
  · rw [show 2 * c.fl + 2 * k + 1 - 0 = neg (2 * (c.fl + k)) by rw [neg_two]; omega] at a
    rw [show 2 * c.fl + 2 * (c.lat.length + j') + 1 - 0 = neg (2 * (c.fl + c.lat.length + j')) by rw [neg_two]; omega] at b
    exact ⟨fun h => hn _ h.1 a, fun h => hn _ h.2 b⟩
  · rw [show 2 * c.fl + 2 * k + 1 - 1 = (2 * (c.fl + k)) by omega] at a
    rw [show 2 * c.fl + 2 * (c.lat.length + j') + 1 - 1 = (2 * (c.fl + c.lat.length + j')) by omega] at b
    exact ⟨fun h => hn _ b h.2, fun h => hn _ a h.1⟩
theorem eq_lats (hp : PassOk c d imgs) {C : List (List Nat)} {S : Nat → Prop} (hn : Con S) (hc : Clo C S) (m : ∀ k ∈ certC c d imgs c.fl c.lat.length, k ∈ C) {k z : Nat} (hk : k < c.fa) (e : imgs[k]? = some (some z)) : EqS S S (fromL c d (2 * k)) (fromR c d z) := by
  by_cases q : k < c.fl
  · exact eq_ins hp q e
  have hf : c.fa = c.fl + c.lat.length := rfl
  obtain ⟨j, rfl⟩ : ∃ j, k = c.fl + j := ⟨k - c.fl, by omega⟩
  refine clo_same hn hc fun k hk' => m k ?_
  rw [certC_eq]
  exact sameL_mem (p := (fromL c d (2 * (c.fl + j)), fromR c d z)) ((pairsC_mem c d imgs c.fl _).mpr ⟨j, z, by omega, e, rfl⟩) k hk'
theorem eq_some (hp : PassOk c d imgs) {C : List (List Nat)} {S : Nat → Prop} (hn : Con S) (hc : Clo C S) (m : ∀ k ∈ certC c d imgs c.fl c.lat.length, k ∈ C) {i : Nat} (h : ∀ j z, j < i → imgs[c.fa + j]? = some (some z) → EqS S S (fromL c d (2 * (c.fa + j))) (fromR c d z)) : EqI (SL c d S 0) (SR c d S 0) imgs (c.fa + i) := by
  intro k hk z e
  rw [eqS_iff]
  by_cases q : k < c.fa
  · exact eq_lats hp hn hc m q e
  obtain ⟨j, rfl⟩ : ∃ j, k = c.fa + j := ⟨k - c.fa, by omega⟩
  exact h j z (by omega) e
theorem lines_fol (hp : PassOk c d imgs) : FolS (frameC (joinN c d) 0 ++ certC c d imgs c.fl c.lat.length) (certC c d imgs c.fa c.ands.length) := by
  rw [certC_eq c d imgs c.fa]
  have := fol_pairs (C := frameC (joinN c d) 0 ++ certC c d imgs c.fl c.lat.length) (c := c) (d := d) (imgs := imgs) (lo := c.fa) (sh := 0) c.ands.length fun k y hk e S hn hcl he => ?_
  · rwa [map_id0] at this
  obtain ⟨gl, gr⟩ := frame0 hn (Clo.l hcl) hp.ins
  have st := (hp.ands k y hk e).step gl gr (eq_some hp hn hcl (fun k hk => List.mem_append_right _ hk) he)
  unfold SL SR at st
  rw [fromL_neg, fromR_neg] at st
  exact st
theorem eq_all (hp : PassOk c d imgs) {C : List (List Nat)} {S : Nat → Prop} (hn : Con S) (hc : Clo C S) (m : ∀ k ∈ certC c d imgs c.fl c.lat.length, k ∈ C) (m' : ∀ k ∈ certC c d imgs c.fa c.ands.length, k ∈ C) : EqI (SL c d S 0) (SR c d S 0) imgs c.nn := by
  refine eq_some hp hn hc m (i := c.ands.length) fun j z hj e => clo_same hn hc fun k hk => m' k ?_
  rw [certC_eq]
  exact sameL_mem (p := (fromL c d (2 * (c.fa + j)), fromR c d z)) ((pairsC_mem c d imgs c.fa _).mpr ⟨j, z, hj, e, rfl⟩) k hk
theorem fol_same {C : List (List Nat)} {x y : Nat} (h : ∀ S, Con S → Clo C S → EqS S S x y) : ∀ k ∈ sameC x y, Fol C k := by
  intro k hk S hn hc hl
  have e := h S hn hc
  simp only [sameC, List.mem_cons, List.not_mem_nil, or_false] at hk
  rcases hk with rfl | rfl
  · have h1 := hl (neg (neg x)) (by simp)
    have h2 := hl (neg y) (by simp)
    rw [neg_neg] at h1
    exact hn _ (e.1.mp h1) h2
  · have h1 := hl (neg x) (by simp)
    have h2 := hl (neg (neg y)) (by simp)
    rw [neg_neg] at h2
    exact hn _ (e.1.mpr h2) h1
theorem goals_eq (hp : PassOk c d imgs) {g : Nat × Nat} (hg : g ∈ joinG c d) : ∃ o ∈ c.outs, g = (fromL c d o.2, fromR c d (imOf imgs o.2)) := by
  unfold joinG at hg
  rw [hp.out] at hg
  obtain ⟨i, hi⟩ := List.getElem?_of_mem hg
  rw [List.getElem?_zipWith, List.getElem?_map] at hi
  cases e : c.outs[i]? with
  | none => rw [e] at hi; cases hi
  | some o =>
    rw [e] at hi
    cases hi
    exact ⟨o, List.mem_of_getElem? e, rfl⟩
theorem imOf_lt {n o : Nat} (hb : ∀ k y : Nat, imgs[k]? = some (some y) → y < 2 * n) (h : HasJ imgs o) : imOf imgs o < 2 * n := by
  obtain ⟨z, hz⟩ := h
  rw [imOf_eq hz]
  have := hb _ _ hz
  have e := xl_div z o
  omega
theorem goals_fol (hc : CirOk c) (hp : PassOk c d imgs) : ∀ g ∈ joinG c d, g.1 < 2 * (joinN c d).nn ∧ g.2 < 2 * (joinN c d).nn ∧ ∀ k ∈ sameC g.1 g.2, Fol (frameC (joinN c d) 0 ++ certC c d imgs c.fl c.lat.length ++ certC c d imgs c.fa c.ands.length) k := by
  intro g hg
  obtain ⟨o, ho, rfl⟩ := goals_eq hp hg
  have hl := hc.outs.2.2.2 o ho
  have hh := hp.oim o ho
  refine ⟨fromL_lt hl, fromR_lt hp.ins (imOf_lt hp.bd hh), fol_same fun S hn hcl => ?_⟩
  have e := (eq_all hp hn hcl (fun k hk => List.mem_append_left _ (List.mem_append_right _ hk)) (fun k hk => List.mem_append_right _ hk)).lit hl hh
  rwa [eqS_iff] at e
theorem next_fol (hc : CirOk c) (hp : PassOk c d imgs) : FolS (frameC (joinN c d) 0 ++ certC c d imgs c.fl c.lat.length ++ certC c d imgs c.fa c.ands.length ++ frameC (joinN c d) 1 ++ linkC (joinN c d) 0) ((certC c d imgs c.fl c.lat.length).map (shiftC (1 * 2 * (joinN c d).nn))) := by
  have he : 1 * 2 * (joinN c d).nn % 2 = 0 := by omega
  generalize hC : frameC (joinN c d) 0 ++ certC c d imgs c.fl c.lat.length ++ certC c d imgs c.fa c.ands.length ++ frameC (joinN c d) 1 ++ linkC (joinN c d) 0 = C
  have m2 : ∀ k ∈ linkC (joinN c d) 0, k ∈ C := fun k hk => by rw [← hC]; exact List.mem_append_right _ hk
  have m3 : ∀ k ∈ certC c d imgs c.fl c.lat.length, k ∈ C := fun k hk => by
    rw [← hC]; exact List.mem_append_left _ (List.mem_append_left _ (List.mem_append_left _ (List.mem_append_right _ hk)))
  have m4 : ∀ k ∈ certC c d imgs c.fa c.ands.length, k ∈ C := fun k hk => by
    rw [← hC]; exact List.mem_append_left _ (List.mem_append_left _ (List.mem_append_right _ hk))
  clear hC
  rw [certC_eq c d imgs c.fl, sameL_shift he]
  refine fol_pairs c.lat.length fun k y hk e S hn hcl _ => ?_
  obtain ⟨j', l, s, x, h1, h2, h3, e1, e2⟩ := fact_pos hp hk e
  have hx := (hc.leaf.2.2.2.2 _ (List.mem_of_getElem? h1)).2
  have e := (eq_all hp hn hcl m3 m4).lit hx h3
  rw [eqS_iff] at e
  have k1 := clo_same hn hcl fun k hk => m2 k (linksC_mem ((0 + 1) * (2 * (joinN c d).nn)) (0 * (2 * (joinN c d).nn)) _ (2 * (joinN c d).fl) _ _ _ (joinN_latL (d := d) h1) k hk)
  have k2 := clo_same hn hcl fun k hk => m2 k (linksC_mem ((0 + 1) * (2 * (joinN c d).nn)) (0 * (2 * (joinN c d).nn)) _ (2 * (joinN c d).fl) _ _ _ (joinN_latR (c := c) h2) k hk)
  have f1 : (joinN c d).fl = c.fl := rfl
  generalize (joinN c d).nn = N at *
  rw [e1, e2]
  rw [f1, Nat.zero_mul, Nat.add_zero, show 2 * c.fl + 2 * k + (0 + 1) * (2 * N) = 2 * (c.fl + k) + 1 * 2 * N by omega] at k1
  rw [f1, Nat.zero_mul, Nat.add_zero, show 2 * c.fl + 2 * (c.lat.length + j') + (0 + 1) * (2 * N) = 2 * (c.fl + c.lat.length + j') + 1 * 2 * N by omega] at k2
  refine ⟨fun ⟨a, b⟩ => ?_, fun ⟨a, b⟩ => ?_⟩
  · exact hn _ (k2.1.mpr (e.1.mp (k1.1.mp a))) b
  · exact hn _ b (k2.2.mpr (e.2.mp (k1.2.mp a)))
theorem cert_lt (hp : PassOk c d imgs) {lo n : Nat} (h : lo + n ≤ c.nn) : CLt (certC c d imgs lo n) (2 * (joinN c d).nn) := by
  rw [certC_eq]
  refine sameL_all fun p hp' k hk => ?_
  obtain ⟨i, y, h1, h2, rfl⟩ := (pairsC_mem c d imgs lo n).mp hp'
  exact sameC_lt (by omega) (fromL_lt (by omega)) (fromR_lt hp.ins (hp.bd _ _ h2)) k hk
theorem cert_short (lo n : Nat) : Short (certC c d imgs lo n) := by
  rw [certC_eq]
  exact sameL_all fun p hp' k hk => sameC_short _ _ k hk
/-- a small circuit: the law's own -/
structure Small (c : Cir Str) : Prop where
  i : c.ins.length ≤ 3
  l : c.lat.length ≤ 3
  a : c.ands.length ≤ 10
  o : c.outs.length ≤ 3
theorem Small.pass (h : Small c) (hp : PassOk c d imgs) : Small d := by
  refine ⟨by rw [hp.ins]; exact h.i, Nat.le_trans hp.slat h.l, Nat.le_trans hp.small h.a, ?_⟩
  rw [hp.out, List.length_map]; exact h.o
theorem net_ok (hc : CirOk c) (hd : CirOk d) (hi : d.ins = c.ins) (h : Small c) (h' : Small d) : NetOk (joinN c d) := by
  obtain ⟨a1, a2, a3, a4⟩ := h
  obtain ⟨b1, b2, b3, b4⟩ := h'
  refine ⟨by rw [joinN_nn]; omega, fun i l r e => ?_, fun l hl => ?_, fun l hl => ?_⟩
  · have e := List.mem_of_getElem? e
    rcases List.mem_append.mp e with e | e
    · obtain ⟨p, hp, e⟩ := List.mem_map.mp e
      cases e
      obtain ⟨j, hj⟩ := List.getElem?_of_mem hp
      have := hc.ands.2 _ _ _ hj
      have hl := lt_of_get hj
      have hn : c.nn = c.fa + c.ands.length := rfl
      exact ⟨fromL_lt (by omega), fromL_lt (by omega)⟩
    · obtain ⟨p, hp, e⟩ := List.mem_map.mp e
      cases e
      obtain ⟨j, hj⟩ := List.getElem?_of_mem hp
      have := hd.ands.2 _ _ _ hj
      have hl := lt_of_get hj
      have hn : d.nn = d.fa + d.ands.length := rfl
      exact ⟨fromR_lt hi (by omega), fromR_lt hi (by omega)⟩
  · rcases List.mem_append.mp hl with e | e
    · obtain ⟨p, hp, e⟩ := List.mem_map.mp e
      cases e
      exact (hc.leaf.2.2.2.2 _ hp).1
    · obtain ⟨p, hp, e⟩ := List.mem_map.mp e
      cases e
      exact (hd.leaf.2.2.2.2 _ hp).1
  · rcases List.mem_append.mp hl with e | e
    · obtain ⟨p, hp, e⟩ := List.mem_map.mp e
      cases e
      exact fromL_lt (hc.leaf.2.2.2.2 _ hp).2
    · obtain ⟨p, hp, e⟩ := List.mem_map.mp e
      cases e
      exact fromR_lt hi (hd.leaf.2.2.2.2 _ hp).2
end
end
section
/-! part SgMa3 -/
set_option maxRecDepth 100000
set_option linter.unusedVariables false
set_option maxHeartbeats 1000000
open PySem
/-! ### runs are equal -/
def ValS (vs : List Nat) : Nat → Prop := fun x => bitOf vs x = 1
theorem bitOf_neg {vs : List Nat} (h : Bits vs) (x : Nat) : bitOf vs (neg x) = 1 - bitOf vs x := by
  unfold bitOf
  rw [neg_div]
  have := getD_le h (x / 2)
  rw [xl_bit this, xl_bit this, neg_mod]
  split <;> split <;> omega
theorem valsF_get : ∀ (t : List (Nat × Nat)) (vs : List Nat) (k : Nat), k < vs.length → (valsF vs t).getD k 0 = vs.getD k 0
  | [], vs, k, h => rfl
  | p :: t, vs, k, h => by
    show (valsF _ t).getD k 0 = _
    rw [valsF_get t _ k (by rw [List.length_append]; omega), List.getD_eq_getElem?_getD, List.getElem?_append_left h, ← List.getD_eq_getElem?_getD]
theorem bitOf_ext {vs ws : List Nat} {x : Nat} (h : vs.getD (x / 2) 0 = ws.getD (x / 2) 0) : bitOf vs x = bitOf ws x := by unfold bitOf; rw [h]
theorem valsF_and : ∀ (t : List (Nat × Nat)) (vs : List Nat) (i l r : Nat), t[i]? = some (l, r) → l / 2 < vs.length + i → r / 2 < vs.length + i →
    (valsF vs t).getD (vs.length + i) 0 = (bitOf (valsF vs t) l &&& bitOf (valsF vs t) r)
  | [], vs, i, l, r, h, _, _ => by simp at h
  | (a, b) :: t, vs, 0, l, r, h, hl, hr => by
    cases h
    show (valsF (vs ++ [bitOf vs a &&& bitOf vs b]) t).getD (vs.length + 0) 0 = (bitOf (valsF (vs ++ [bitOf vs a &&& bitOf vs b]) t) a &&& bitOf (valsF (vs ++ [bitOf vs a &&& bitOf vs b]) t) b)
    have hlen : (vs ++ [bitOf vs a &&& bitOf vs b]).length = vs.length + 1 := by rw [List.length_append]; rfl
    have e : ∀ x, x / 2 < vs.length → bitOf (valsF (vs ++ [bitOf vs a &&& bitOf vs b]) t) x = bitOf vs x := fun x hx => bitOf_ext (by
      rw [valsF_get t _ _ (by omega), List.getD_eq_getElem?_getD, List.getElem?_append_left hx, ← List.getD_eq_getElem?_getD])
    rw [e a (by omega), e b (by omega), valsF_get t _ _ (by omega), List.getD_eq_getElem?_getD, List.getElem?_append_right (by omega)]
    simp
  | (a, b) :: t, vs, i + 1, l, r, h, hl, hr => by
    have hlen : (vs ++ [bitOf vs a &&& bitOf vs b]).length = vs.length + 1 := by rw [List.length_append]; rfl
    have ih := valsF_and t (vs ++ [bitOf vs a &&& bitOf vs b]) i l r (by simpa using h) (by omega) (by omega)
    rw [hlen, show vs.length + 1 + i = vs.length + (i + 1) by omega] at ih
    exact ih
theorem bit_two {a : Nat} (h : a ≤ 1) : a = 0 ∨ a = 1 := by omega
/-- a circuit's values are a good set -/
theorem vals_good {c : Cir Str} (hc : AndsOk c.fa c.ands) {st row : List Nat} (hs : Bits st) (hr : Bits row) (hl : st.length = c.lat.length) (hl' : row.length = c.ins.length) : GoodA c.fa c.ands (ValS (cirVals c st row)) := by
  have hb : Bits (0 :: (row ++ st)) := fun b h => by
    rcases List.mem_cons.mp h with rfl | h
    · exact Nat.zero_le _
    · rcases List.mem_append.mp h with h | h
      · exact hr b h
      · exact hs b h
  have hv : Bits (cirVals c st row) := valsF_bits _ _ hb
  have hlen : (0 :: (row ++ st)).length = c.fa := by
    rw [List.length_cons, List.length_append, hl, hl']; unfold Cir.fa; omega
  have e0 : (cirVals c st row).getD 0 0 = 0 := by
    unfold cirVals netVals
    rw [valsF_get _ _ _ (by rw [hlen]; unfold Cir.fa; omega)]; rfl
  refine ⟨fun x h h' => ?_, ?_, fun i l r e => ?_⟩
  · unfold ValS at h h'
    rw [bitOf_neg hv] at h'
    omega
  · show xl _ 1 = 1
    rw [show (1 : Nat) / 2 = 0 from rfl, e0]
    rfl
  · have hlr := hc.2 i l r e
    have ha := valsF_and c.ands (0 :: (row ++ st)) i l r e (by rw [hlen]; omega) (by rw [hlen]; omega)
    rw [hlen] at ha
    have ha : (cirVals c st row).getD (c.fa + i) 0 = (bitOf (cirVals c st row) l &&& bitOf (cirVals c st row) r) := ha
    generalize cirVals c st row = V at *
    have bl := bitOf_le hv l
    have br := bitOf_le hv r
    rw [and_mul bl br] at ha
    have hw : bitOf V (2 * (c.fa + i)) = bitOf V l * bitOf V r := by
      conv => lhs; unfold bitOf
      rw [show 2 * (c.fa + i) / 2 = c.fa + i by omega, ha]
      unfold xl
      rw [if_pos (by omega)]
    unfold ValS
    rcases bit_two bl with h1 | h1 <;> rcases bit_two br with h2 | h2 <;> refine ⟨?_, ?_, ?_, ?_, ?_, ?_⟩ <;> simp only [bitOf_neg hv, hw, h1, h2] <;> decide
/-- states that go together -/
def RelS (c d : Cir Str) (imgs : List (Option Nat)) (st st' : List Nat) : Prop := ∀ j j', j < c.lat.length → imgs[c.fl + j]? = some (some (2 * (d.fl + j'))) → st'.getD j' 0 = st.getD j 0
structure StOk (c : Cir Str) (st : List Nat) : Prop where
  b : Bits st
  l : st.length = c.lat.length
theorem cirVals_bits {c : Cir Str} {st row : List Nat} (h : StOk c st) (hr : Bits row) : Bits (cirVals c st row) := valsF_bits _ _ fun b h' => by
    rcases List.mem_cons.mp h' with rfl | h'
    · exact Nat.zero_le _
    · rcases List.mem_append.mp h' with h' | h'
      · exact hr b h'
      · exact h.b b h'
theorem StOk.next {c : Cir Str} {st row : List Nat} (h : StOk c st) (hr : Bits row) : StOk c (nextF c st row) := ⟨fun b hb => by
    obtain ⟨l, _, rfl⟩ := List.mem_map.mp hb
    exact bitOf_le (cirVals_bits h hr) _, by unfold nextF; rw [List.length_map]⟩
theorem StOk.start {c : Cir Str} (hc : CirOk c) : StOk c (startS c) := ⟨fun b hb => by
    obtain ⟨l, hl, rfl⟩ := List.mem_map.mp hb
    exact (hc.leaf.2.2.2.2 l hl).1, by unfold startS; rw [List.length_map]⟩
theorem getD_leaf {c : Cir Str} {st row : List Nat} {k : Nat} (hl : st.length = c.lat.length) (hr : row.length = c.ins.length) (hk : k < c.fa) : (cirVals c st row).getD k 0 = (0 :: (row ++ st)).getD k 0 := by
  unfold cirVals netVals
  exact valsF_get _ _ _ (by rw [List.length_cons, List.length_append, hl, hr]; unfold Cir.fa at hk; omega)
theorem getD_in {st row : List Nat} {k : Nat} (h : k ≤ row.length) : (0 :: (row ++ st)).getD k 0 = (0 :: row).getD k 0 := by
  show ((0 :: row) ++ st).getD k 0 = _
  rw [List.getD_eq_getElem?_getD, List.getElem?_append_left (by rw [List.length_cons]; omega), ← List.getD_eq_getElem?_getD]
theorem getD_st {st row : List Nat} {j : Nat} : (0 :: (row ++ st)).getD (1 + row.length + j) 0 = st.getD j 0 := by
  show ((0 :: row) ++ st).getD _ 0 = _
  rw [List.getD_eq_getElem?_getD, List.getElem?_append_right (by rw [List.length_cons]; omega), ← List.getD_eq_getElem?_getD, List.length_cons, show 1 + row.length + j - (row.length + 1) = j by omega]
section
variable {c d : Cir Str} {imgs : List (Option Nat)}
theorem eq_of_bit {V W : List Nat} {k z : Nat} (hV : Bits V) (hW : Bits W) (h : bitOf V (2 * k) = bitOf W z) : EqS (ValS V) (ValS W) (2 * k) z := by
  refine ⟨?_, ?_⟩
  · unfold ValS; rw [h]
  · unfold ValS; rw [bitOf_neg hV, bitOf_neg hW, h]
theorem bitOf_two (V : List Nat) (k : Nat) : bitOf V (2 * k) = V.getD k 0 := by
  unfold bitOf xl
  rw [if_pos (by omega), show 2 * k / 2 = k by omega]
theorem vals_eq (hc : CirOk c) (hp : PassOk c d imgs) {st st' row : List Nat} (h : StOk c st) (h' : StOk d st') (hr : Bits row) (hl : row.length = c.ins.length) (rel : RelS c d imgs st st') :
    ∀ i, i ≤ c.ands.length → EqI (ValS (cirVals c st row)) (ValS (cirVals d st' row)) imgs (c.fa + i) := by
  have hV := cirVals_bits h hr
  have hW := cirVals_bits h' hr
  have gV := vals_good hc.ands h.b hr h.l hl
  have gW := vals_good hp.ok.ands h'.b hr h'.l (by rw [hp.ins]; exact hl)
  intro i
  induction i with
  | zero =>
    intro _ k hk z e
    refine eq_of_bit hV hW ?_
    have hf : c.fa = c.fl + c.lat.length := rfl
    rw [bitOf_two, getD_leaf h.l hl hk]
    by_cases q : k ≤ c.ins.length
    · rw [hp.inp k q] at e
      cases e
      rw [bitOf_two, getD_leaf h'.l (by rw [hp.ins]; exact hl) (by unfold Cir.fa; rw [hp.ins]; omega), getD_in (by omega), getD_in (by omega)]
    · have hq : c.fl = 1 + c.ins.length := rfl
      obtain ⟨j, rfl⟩ : ∃ j, k = c.fl + j := ⟨k - c.fl, by omega⟩
      obtain ⟨j', l, s, x, h1, h2, h3, h4⟩ := hp.lat j z (by omega) e
      subst h2
      have hj' := lt_of_get h3
      rw [bitOf_two, getD_leaf h'.l (by rw [hp.ins]; exact hl) (by unfold Cir.fa Cir.fl; omega)]
      have e1 : c.fl + j = 1 + row.length + j := by unfold Cir.fl; omega
      have e2 : d.fl + j' = 1 + row.length + j' := by unfold Cir.fl; rw [hp.ins]; omega
      rw [e1, e2, getD_st, getD_st]
      exact (rel j j' (by omega) e).symm
  | succ i ih =>
    intro hi k hk z e
    by_cases q : k < c.fa + i
    · exact ih (by omega) k q z e
    · have : k = c.fa + i := by omega
      subst this
      have st := (hp.ands i z (by omega) e).step gV gW (ih (by omega))
      refine eq_of_bit hV hW ?_
      have b1 := bitOf_le hV (2 * (c.fa + i))
      have b2 := bitOf_le hW z
      unfold ValS at st
      rw [bitOf_neg hV, bitOf_neg hW] at st
      rcases bit_two b1 with e1 | e1 <;> rcases bit_two b2 with e2 | e2 <;> rw [e1, e2] at st ⊢ <;> simp at st
theorem bit_eq {V W : List Nat} {x y : Nat} (hV : Bits V) (hW : Bits W) (h : EqS (ValS V) (ValS W) x y) : bitOf V x = bitOf W y := by
  have b1 := bitOf_le hV x
  have b2 := bitOf_le hW y
  have := h.1
  unfold ValS at this
  omega
theorem out_eq (hc : CirOk c) (hp : PassOk c d imgs) {st st' row : List Nat} (h : StOk c st) (h' : StOk d st') (hr : Bits row) (hl : row.length = c.ins.length) (rel : RelS c d imgs st st') : outF d st' row = outF c st row := by
  have e := vals_eq hc hp h h' hr hl rel c.ands.length (Nat.le_refl _)
  unfold outF
  rw [hp.out, List.map_map]
  refine List.map_congr_left fun o ho => ?_
  exact (bit_eq (cirVals_bits h hr) (cirVals_bits h' hr) (e.lit (hc.outs.2.2.2 o ho) (hp.oim o ho))).symm
theorem rel_next (hc : CirOk c) (hp : PassOk c d imgs) {st st' row : List Nat} (h : StOk c st) (h' : StOk d st') (hr : Bits row) (hl : row.length = c.ins.length) (rel : RelS c d imgs st st') : RelS c d imgs (nextF c st row) (nextF d st' row) := by
  have e := vals_eq hc hp h h' hr hl rel c.ands.length (Nat.le_refl _)
  intro j j' hj e1
  obtain ⟨k, l, s, x, h1, h2, h3, h4⟩ := hp.lat j _ hj e1
  have : k = j' := by omega
  subst this
  unfold nextF
  rw [List.getD_eq_getElem?_getD, List.getD_eq_getElem?_getD, List.getElem?_map, List.getElem?_map, h1, h3]
  show bitOf _ (imOf imgs x) = bitOf _ x
  exact (bit_eq (cirVals_bits h hr) (cirVals_bits h' hr) (e.lit (hc.leaf.2.2.2.2 _ (List.mem_of_getElem? h1)).2 h4)).symm
theorem rel_start (hp : PassOk c d imgs) : RelS c d imgs (startS c) (startS d) := by
  intro j j' hj e1
  obtain ⟨k, l, s, x, h1, h2, h3, h4⟩ := hp.lat j _ hj e1
  have : k = j' := by omega
  subst this
  unfold startS
  rw [List.getD_eq_getElem?_getD, List.getD_eq_getElem?_getD, List.getElem?_map, List.getElem?_map, h1, h3]
  rfl
/-- a course's rows -/
def RowsOk (n : Nat) (rows : List (List Nat)) : Prop := ∀ r ∈ rows, Bits r ∧ r.length = n
theorem run_eq (hc : CirOk c) (hp : PassOk c d imgs) : ∀ (rows : List (List Nat)) (st st' : List Nat), RowsOk c.ins.length rows → StOk c st → StOk d st' → RelS c d imgs st st' → runF d st' rows = runF c st rows
  | [], _, _, _, _, _, _ => rfl
  | row :: t, st, st', hR, h, h', rel => by
    obtain ⟨hr, hl⟩ := hR row List.mem_cons_self
    show outF d st' row :: runF d _ t = outF c st row :: runF c _ t
    rw [out_eq hc hp h h' hr hl rel, run_eq hc hp t _ _ (fun r hr => hR r (List.mem_cons_of_mem _ hr)) (h.next hr) (h'.next hr) (rel_next hc hp h h' hr hl rel)]
/-- two circuits run alike -/
def RunEq (c d : Cir Str) : Prop := ∀ rows, RowsOk c.ins.length rows → runF d (startS d) rows = runF c (startS c) rows
theorem run_pass (hc : CirOk c) (hp : PassOk c d imgs) : RunEq c d := fun rows h => run_eq hc hp rows _ _ h (.start hc) (.start hp.ok) (rel_start hp)
end
theorem RunEq.refl (c : Cir Str) : RunEq c c := fun _ _ => rfl
theorem RunEq.trans {a b c : Cir Str} (hi : b.ins = a.ins) (h : RunEq a b) (h' : RunEq b c) : RunEq a c := fun rows hr => (h' rows (by rw [hi]; exact hr)).trans (h rows hr)
/-- the state behind a course -/
def stateF {α : Type} (c : Cir α) : List Nat → List (List Nat) → List Nat
  | st, [] => st
  | st, row :: t => stateF c (nextF c st row) t
theorem runF_snoc {α : Type} (c : Cir α) : ∀ (rows : List (List Nat)) (st row : List Nat), runF c st (rows ++ [row]) = runF c st rows ++ [outF c (stateF c st rows) row]
  | [], st, row => rfl
  | r :: t, st, row => by
    show _ :: runF c _ (t ++ [row]) = _ :: (runF c _ t ++ _)
    rw [runF_snoc c t]
    rfl
theorem stateF_snoc {α : Type} (c : Cir α) : ∀ (rows : List (List Nat)) (st row : List Nat), stateF c st (rows ++ [row]) = nextF c (stateF c st rows) row
  | [], st, row => rfl
  | r :: t, st, row => stateF_snoc c t _ row
theorem stateF_ok {c : Cir Str} : ∀ (rows : List (List Nat)) (st : List Nat), RowsOk c.ins.length rows → StOk c st → StOk c (stateF c st rows)
  | [], st, _, h => h
  | r :: t, st, hR, h => stateF_ok t _ (fun r hr => hR r (List.mem_cons_of_mem _ hr)) (h.next (hR r List.mem_cons_self).1)
/-- a joint state that is reached -/
def Reach (c d : Cir Str) (st st' : List Nat) : Prop := ∃ rows, RowsOk c.ins.length rows ∧ st = stateF c (startS c) rows ∧ st' = stateF d (startS d) rows
theorem Reach.start (c d : Cir Str) : Reach c d (startS c) (startS d) := ⟨[], (by intro r hr; cases hr), rfl, rfl⟩
theorem Reach.next {c d : Cir Str} {st st' row : List Nat} (h : Reach c d st st') (hr : Bits row) (hl : row.length = c.ins.length) : Reach c d (nextF c st row) (nextF d st' row) := by
  obtain ⟨rows, h1, rfl, rfl⟩ := h
  refine ⟨rows ++ [row], fun r hr' => ?_, (stateF_snoc c rows _ row).symm, (stateF_snoc d rows _ row).symm⟩
  rcases List.mem_append.mp hr' with h | h
  · exact h1 r h
  · rw [List.mem_singleton.mp h]; exact ⟨hr, hl⟩
theorem Reach.out {c d : Cir Str} (e : RunEq c d) {st st' row : List Nat} (h : Reach c d st st') (hr : Bits row) (hl : row.length = c.ins.length) : outF d st' row = outF c st row := by
  obtain ⟨rows, h1, rfl, rfl⟩ := h
  have k := e (rows ++ [row]) fun r hr' => by
    rcases List.mem_append.mp hr' with h | h
    · exact h1 r h
    · rw [List.mem_singleton.mp h]; exact ⟨hr, hl⟩
  rw [runF_snoc, runF_snoc] at k
  have := List.append_inj_right' k rfl
  exact (List.cons.inj this).1
theorem Reach.ok {c d : Cir Str} (hc : CirOk c) (hd : CirOk d) (hi : d.ins = c.ins) {st st' : List Nat} (h : Reach c d st st') : StOk c st ∧ StOk d st' := by
  obtain ⟨rows, h1, rfl, rfl⟩ := h
  exact ⟨stateF_ok rows _ h1 (.start hc), stateF_ok rows _ (by rw [hi]; exact h1) (.start hd)⟩
end
section
/-! part SgRun -/
set_option Elab.async false
set_option maxRecDepth 100000
set_option linter.unusedVariables false
set_option maxHeartbeats 1000000
open PySem PySem.Spec PyProof.Rows L2


def rWForL (K : PySem.W.Frag) (g : TG) (tb : TGn) (D : GEnds) (ys : List V) (σ : L2.St) : V → Hp → Prop := fun x H1 => ∃ a, x = .ref a ∧ (∃ xs, SqL K H1 a xs) ∧ ∃ W : Nat → Nat → List V → L2.St → Hp → Prop, (∃ m, W 0 m ys σ H1) ∧ ∀ i m ys σ H, W i m ys σ H →
  ((Itl K a).stop i H ∧ D.nx ys σ H) ∨ ((Itl K a).go i H ∧ ∃ N : List V → L2.St → Hp → Prop, (∀ y2 σ2 H2, N y2 σ2 H2 → ∃ m2, m2 < m ∧ W (i + 1) m2 y2 σ2 H2) ∧ ∀ x H2, (Itl K a).yld i H x H2 → g x σ H2 fun σ3 H3 => tb { D with nx := N, ct := N, bk := D.nx } ys σ3 H3)
section
variable {K : PySem.W.Frag} {g : TG} {tb : TGn} {D : GEnds} {ys : List V} {σ : L2.St} {H : Hp} {tl : TE}
theorem stG_eq {t : TGn} {σ' : L2.St} (e : σ = σ') (q : t D ys σ' H) : t D ys σ H := by
  subst e; exact q
theorem g_gthen {t u : TGn} (q : t { D with nx := u D } ys σ H) : tGThen t u D ys σ H := q
theorem g_plain {t : TS} (q : t (D.at ys) σ H) : tPlain t D ys σ H := q
theorem g_wforL (q : tl σ H fun x H1 => rWForL K g tb D ys σ x H1) : tWFor (iList K tl) g tb D ys σ H := q
theorem g_rWForL {a : Addr} {xs : List V} (h : H a = some (.lst xs)) (Pv : Nat → List V → L2.St → Hp → Prop) (h0 : Pv 0 ys σ H) (hl : ∀ i ys σ H, i ≤ xs.length → Pv i ys σ H → H a = some (.lst xs))
    (hs : ∀ i x ys σ H, xs[i]? = some x → Pv i ys σ H → g x σ H fun σ2 H2 => tb { D with nx := Pv (i + 1), ct := Pv (i + 1), bk := D.nx } ys σ2 H2) (hd : ∀ ys σ H, Pv xs.length ys σ H → D.nx ys σ H) : rWForL K g tb D ys σ (.ref a) H := by
  refine ⟨a, rfl, ⟨_, SqL.of h⟩, fun i m ys σ H => m = xs.length - i ∧ i ≤ xs.length ∧ Pv i ys σ H, ⟨xs.length, by simp, Nat.zero_le _, h0⟩, ?_⟩
  rintro i m ys σ H ⟨rfl, hi, p⟩
  have q : SqL K H a xs := SqL.of (hl i ys σ H hi p)
  by_cases hlt : i < xs.length
  · refine .inr ⟨⟨xs, xs[i], q, by simp [hlt]⟩, Pv (i + 1), fun y2 σ' H' p' => ⟨xs.length - (i + 1), by omega, rfl, hlt, p'⟩, fun x H' y => ?_⟩
    obtain ⟨e, y⟩ := y
    subst e
    exact hs i x ys σ _ (y xs q) p
  · have e : i = xs.length := by omega
    subst e
    exact .inl ⟨⟨xs, q, Nat.le_refl _⟩, hd ys σ H p⟩
end
section
variable {P : Program} {w : World} {K : PySem.W.Frag} {mg : Str → Option Value} {base : Heap} {f pr : Addr} {fd : FuncData}
/-- the generator def x keeps the promise -/
def GenOk (P : Program) (w : World) (K : PySem.W.Frag) (mg : Str → Option Value) (base : Heap) (k : Nat) (x : Str) (ps : List Str) (sp : SpW) : Prop := ∃ (f : Addr) (fd : FuncData), mg x = some (.ref f) ∧ PySem.W.keepIn K (.ref f) = true ∧ Binds K fd ps [] ∧ WFn P w K mg base k f fd ps sp
theorem sc_cycles : GScope ["circuit", "course", "state", "row", "outputs"] ["circuit", "course"] (defScope s_cycles) := ⟨rfl, rfl, rfl, by decide +kernel, rfl, by decide +kernel, by decide +kernel⟩
def spCycles (K : PySem.W.Frag) : SpW := fun vs H Q => ∃ (a b : Addr) (c : Cir Str) (rows : List (List Nat)), vs = [.ref a, .ref b] ∧ CirAt K H a c ∧ LstAt H b IsN rows ∧ CirOk c ∧ CourseOk c.ins.length rows ∧
  ∀ ys H', Same H H' → All2 (IsN H') ys (runF c (startS c) rows) → Q ys H'
theorem next_len {α : Type} {c : Cir α} {st row : List Nat} : (nextF c st row).length = c.lat.length := List.length_map ..
theorem runF_len {α : Type} (c : Cir α) : ∀ (rows : List (List Nat)) (st : List Nat), (runF c st rows).length = rows.length
  | [], st => rfl
  | row :: t, st => congrArg Nat.succ (runF_len c t _)
theorem state_len {α : Type} {c : Cir α} : ∀ (rows : List (List Nat)) (st : List Nat), st.length = c.lat.length → (stateF c st rows).length = c.lat.length
  | [], st, h => h
  | row :: t, st, h => state_len t (nextF c st row) next_len
theorem ok_cycles (F : FunD K "cycles" "cycles" (defArgs s_cycles) (defBody s_cycles) (defScope s_cycles) [] [] f fd) (hm : mg "cycles" = some (.ref f)) (T : Txt K mg) (D_start_state : DefOk P w K mg base 1 "start_state" ["circuit"] (spStartState K)) (D_step : DefOk P w K mg base 4 "step" ["circuit", "state", "row"] (spStep K)) : GenOk P w K mg base 5 "cycles" ["circuit", "course"] (spCycles K) := by
  obtain ⟨oc, od, dV, kV, doc, pm, an, cdv, ct, osl, e, lk, hcd, _, _⟩ := id F.ex
  subst e
  refine ⟨f, _, hm, F.kp, (FunD.bindsN (ps := ["circuit", "course"]) F fun _ _ _ _ _ _ us hl => match us, hl with | [_, _], _ => rfl), wfn_of lk hcd sc_cycles ?len (fun A outer s H vs Q pn hr h => ⟨_, (wss_cons (ws_ps (ps_set (i := 2) sc_cycles.nd rfl (Or.inl rfl) (pe_callD D_start_state (hr.mono (by decide)) (by rfl) (pa_cons (pv 0) pa_nil))))
  (wss_one (ws_for rfl (pi_list (pv 1)) (pg_name (i := 3) sc_cycles.nd rfl (Or.inl rfl))
  (wss_cons (ws_ps (ps_asg (pe_callD D_step (hr.mono (by decide)) (by rfl) (pa_cons (pv 0) (pa_cons (pv 2) (pa_cons (pv 3) pa_nil)))) (pg_tupK (K := K) (n := 2) (by rfl) (by rfl) (pgs_cons (pg_name (i := 4) sc_cycles.nd rfl (Or.inl rfl)) (pgs_cons (pg_name (i := 2) sc_cycles.nd rfl (Or.inl rfl)) pgs_nil)))))
  (wss_one (ws_yield (pe_tup (pa_cons (pv 4) (pa_cons (pv 2) pa_nil))))))))), ?_⟩)⟩
  case len =>
    rintro vs H Q ⟨a, b, c, rows, rfl, _⟩
    rfl
  obtain ⟨a, b, c, rows, rfl, hc, ⟨vr, hb, rr⟩, hk, ⟨hz, ho⟩, q⟩ := h
  have hcl : c.lat.length ≤ 10000 := by have := hk.leaf.2.1; omega
  refine' stG_eq ?go_s ?_
  case go_s => (simp only [L2.start, List.map_cons, List.map_nil, List.length_cons, List.length_nil, Nat.reduceAdd, Nat.reduceSub, List.replicate_succ, List.replicate_zero, List.cons_append, List.nil_append]; exact rfl)
  refine g_gthen (g_plain ?_)
  walk_at "go"
  refine ⟨a, c, rfl, hc, hcl, fun H1 q1 hS1 hq1 hL1 => ?_⟩
  walk_at "go"
  dsimp only [GEnds.at]
  refine g_wforL ?_
  walk_at "go"
  refine g_rWForL (xs := vr) (hS1 _ _ hb) (fun i ys σ H' => ∃ o3 o4 qs, σ = [some (.ref a), some (.ref b), some (.ref qs), o3, o4] ∧ Same H H' ∧ H' qs = some (.lst (nums (stateF c (startS c) (rows.take i)))) ∧ All2 (IsN H') ys (runF c (startS c) (rows.take i))) ⟨_, _, q1, rfl, hS1, hL1, All2.nil⟩ ?_ ?_ ?_
  · rintro i ys σ H' hi ⟨_, _, qs, rfl, hS, hL, hY⟩
    exact hS _ _ hb
  · rintro i v ys σ H' hv ⟨_, _, qs, rfl, hS, hL, hY⟩
    obtain ⟨row, hrow, t, rfl, ht⟩ := rr.2 i v hv
    have hyl : ys.length = i := by rw [hY.1, runF_len, take_len hrow]
    have hil := lt_of_get hrow
    obtain ⟨b1, b2⟩ := ho row (List.mem_of_getElem? hrow)
    walk_at "go"
    refine g_gthen (g_plain ?_)
    walk_at "go"
    refine ⟨a, qs, t, c, _, row, rfl, hc.mono hS, hL, hS _ _ ht, hk, state_len _ _ (List.length_map ..), b1, fun H2 q2 u2 v2 hS2 hq2 hp2 hu2 hv2 => ?_⟩
    walk_at "go"
    refine ⟨by rw [hyl]; have : 1000 < sizeLine := by decide
               omega, ?_⟩
    walk_at "go"
    rename_i q3 hq3
    refine ⟨q3, .ref u2, .ref v2, rfl, upd_same, ?_⟩
    have sS : Same H' (upd H2 q3 (.tup [.ref u2, .ref v2])) := L2.Same.trans hS2 (Same.new hq3)
    refine ⟨_, _, v2, rfl, L2.Same.trans hS sS, ?_, ?_⟩
    · rw [take_snoc hrow, stateF_snoc]
      exact lk_new hq3 hv2
    · rw [take_snoc hrow, runF_snoc]
      exact (hY.imp fun v x r => mono_N _ _ _ _ sS r).snoc ⟨u2, rfl, lk_new hq3 hu2⟩
  · rintro ys σ H' ⟨_, _, qs, rfl, hS, hL, hY⟩
    rw [rr.1, List.take_length] at hY
    exact q ys H' hS hY
def spRun (K : PySem.W.Frag) : Sp := fun vs H Q _ => ∃ (a b : Addr) (c : Cir Str) (rows : List (List Nat)), vs = [.ref a, .ref b] ∧ CirAt K H a c ∧ LstAt H b IsN rows ∧ CirOk c ∧ CourseOk c.ins.length rows ∧
  ∀ H' q, Same H H' → H q = none → LstAt H' q IsN (runF c (startS c) rows) → Q (.ref q) H'
theorem ok_run (F : FunD K "run" "run" (defArgs s_run) (defBody s_run) (defScope s_run) [] [] f fd) (hm : mg "run" = some (.ref f)) (T : Txt K mg) (D_check_course : DefOk P w K mg base 1 "check_course" ["circuit", "course"] (spCheckCourse K)) (D_cycles : GenOk P w K mg base 5 "cycles" ["circuit", "course"] (spCycles K)) : DefOk P w K mg base 7 "run" ["circuit", "course"] (spRun K) := by
  obtain ⟨fG, fdG, mG_cycles, kG_cycles, bG_cycles, G_cycles⟩ := D_cycles
  refine ⟨f, fd, hm, F.kp, (FunD.bindsN (ps := ["circuit", "course"]) F fun _ _ _ _ _ _ us hl => match us, hl with | [_, _], _ => rfl), fn_ok F sc_run ?len (fun cdv A outer s H vs Q E hr h => ⟨_, (pss_cons (ps_expr (pe_callD D_check_course (hr.mono (by decide)) (by rfl) (pa_cons (pv 0) (pa_cons (pv 1) pa_nil))))
  (pss_one (ps_ret (by exact (pe_lcGen rfl (pgen2_call G_cycles (hr.mono (by decide)) (by rfl) mG_cycles kG_cycles bG_cycles (pa_cons (pv 0) (pa_cons (pv 1) pa_nil))) (hr.mono (by decide)) (blkOk_by (own := [("outputs", 2), ("_", 3)]) (N := ["circuit", "course", "outputs", "_"]) (sc := defScope s_run) (by decide +kernel)) rfl rfl (by decide) (by decide)))))), ?_⟩)⟩
  case len => walk_at "ln"
  
  obtain ⟨a, b, c, rows, rfl, hc, hb, hk, ho, q⟩ := h
  walk_at "st"
  walk_at "go"
  refine ⟨a, b, c, rows, rfl, hc, hb, ho, fun H1 hS1 => ?_⟩
  walk_at "go"
  unfold tLcG tCallW
  walk_at "go"
  refine ⟨a, b, c, rows, rfl, hc.mono hS1, hb.mono mono_N hS1, hk, ho, fun ys H2 hS2 hY p hp => ?_⟩
  have s2 := L2.Same.trans hS1 hS2
  have hn : H p = none := by walk_at "nn"
  refine q _ p (L2.Same.trans s2 (Same.new hp)) hn ⟨ys, upd_same, hY.imp fun v x r => mono_N _ _ _ _ (Same.new hp) r⟩
end
end
section
/-! part SgJn -/
set_option Elab.async false
set_option maxRecDepth 100000
set_option linter.unusedVariables false
set_option maxHeartbeats 1000000
open PySem PySem.Spec PyProof.Rows L2


section
variable {P : Program} {w : World} {K : PySem.W.Frag} {mg : Str → Option Value} {base : Heap} {f pr : Addr} {fd : FuncData}
theorem Keep.refl {l : Addr} {H : Hp} : Keep l H H := fun _ _ _ e => e
theorem Keep.trans {l : Addr} {H H' H2 : Hp} (a : Keep l H H') (b : Keep l H' H2) : Keep l H H2 := fun x u n e => b x u n (a x u n e)
theorem Keep.transS {l : Addr} {H H' H2 : Hp} (a : Keep l H H') (b : Same H' H2) : Keep l H H2 := fun x u n e => b x u (a x u n e)
theorem LstAt.mutI {α : Type} {R : Hp → V → α → Prop} {H : Hp} {C p dx l : Addr} {fs : List (Str × V)} {o : HO} {xs : List α} (to : TO R) (hp : H p = some (.ins C dx fs)) (h : LstAt H l R xs) : LstAt (upd H p o) l R xs := by
  obtain ⟨vs, e, r⟩ := h
  exact ⟨vs, lk_ne (ne_of e hp (fun q => nomatch q)) e, r.imp fun v x => to _ _ v x fun b ys hb => lk_ne (ne_of hb hp (fun q => nomatch q)) hb⟩
theorem NetAt.mutI {H : Hp} {C p dx x : Addr} {fs : List (Str × V)} {o : HO} {n : NetD} (hp : H p = some (.ins C dx fs)) (ne : x ≠ p) (h : NetAt K H x n) : NetAt K (upd H p o) x n := by
  obtain ⟨d, l1, l2, h1, h2, h3⟩ := h
  exact ⟨d, l1, l2, lk_ne ne h1, h2.mutI to_P hp, h3.mutI to_P hp⟩
def LkI (fs : List (Str × V)) (x : Str) (n : Nat) : Prop := fs.lookup x = some (.int (n : Int))
def spFromL (K : PySem.W.Frag) : Sp := fun vs H Q _ => ∃ (p dx : Addr) (fs : List (Str × V)) (x a b : Nat), vs = [.ref p, .int (x : Int)] ∧ H p = some (.ins (He.ga K "Joined") dx fs) ∧ LkI fs "_left_limit" a ∧ LkI fs "_right_latches" b ∧ Q (.int (((if x / 2 < a then x else x + 2 * b) : Nat) : Int)) H
theorem ok_from_left (F : FunD K "from_left" "Joined.from_left" (defArgs s_Joined_from_left) (defBody s_Joined_from_left) (defScope s_Joined_from_left) [] [] f fd) (hm : Meth K (He.ga K "Joined") "from_left" f) (T : Txt K mg) : MethOk P w K mg base 1 (He.ga K "Joined") "from_left" ["self", "literal"] (spFromL K) := by
  refine ⟨f, fd, hm, (FunD.bindsN (ps := ["self", "literal"]) F fun _ _ _ _ _ _ us hl => match us, hl with | [_, _], _ => rfl), fn_ok F sc_Joined_from_left ?len (fun cdv A outer s H vs Q E hr h => ⟨_, (pss_cons (ps_if (pt_cmpR op_lt (pe_op op_shr (pv 1) (pe_int (i := ((1 : Nat) : Int)))) (pe_f T.c_Joined T.n_Joined__left_limit (pv 0)) (nomark _)) (pss_one (ps_ret (pv 1))) pss_nil)
  (pss_one (ps_ret (pe_op op_add (pv 1) (pe_op op_mul (pe_int (i := ((2 : Nat) : Int))) (pe_f T.c_Joined T.n_Joined__right_latches (pv 0))))))), ?_⟩)⟩
  case len => walk_at "ln"
  
  obtain ⟨p, dx, fs, x, a, b, rfl, hp, h1, h2, q⟩ := h
  unfold LkI at h1 h2
  walk_at "st"
  walk_at "go"
  refine br (fun h => ?_) (fun h => ?_)
  · walk_at "go"
    rw [if_pos h] at q
    exact q
  · walk_at "go"
    rw [if_neg h] at q
    exact q
def spFromR (K : PySem.W.Frag) : Sp := fun vs H Q _ => ∃ (p dx : Addr) (fs : List (Str × V)) (x li a b c : Nat), vs = [.ref p, .int (x : Int)] ∧ H p = some (.ins (He.ga K "Joined") dx fs) ∧ LkI fs "_last_input" li ∧ LkI fs "_right_limit" a ∧ LkI fs "_left_latches" b ∧ LkI fs "_left_ands" c ∧
  Q (.int (((if x / 2 ≤ li then x else if x / 2 < a then x + 2 * b else x + 2 * (b + c)) : Nat) : Int)) H
theorem ok_from_right (F : FunD K "from_right" "Joined.from_right" (defArgs s_Joined_from_right) (defBody s_Joined_from_right) (defScope s_Joined_from_right) [] [] f fd) (hm : Meth K (He.ga K "Joined") "from_right" f) (T : Txt K mg) : MethOk P w K mg base 1 (He.ga K "Joined") "from_right" ["self", "literal"] (spFromR K) := by
  refine ⟨f, fd, hm, (FunD.bindsN (ps := ["self", "literal"]) F fun _ _ _ _ _ _ us hl => match us, hl with | [_, _], _ => rfl), fn_ok F sc_Joined_from_right ?len (fun cdv A outer s H vs Q E hr h => ⟨_, (pss_cons (ps_if (pt_cmpR op_le (pe_op op_shr (pv 1) (pe_int (i := ((1 : Nat) : Int)))) (pe_f T.c_Joined T.n_Joined__last_input (pv 0)) (nomark _)) (pss_one (ps_ret (pv 1))) pss_nil)
  (pss_cons (ps_if (pt_cmpR op_lt (pe_op op_shr (pv 1) (pe_int (i := ((1 : Nat) : Int)))) (pe_f T.c_Joined T.n_Joined__right_limit (pv 0)) (nomark _)) (pss_one (ps_ret (pe_op op_add (pv 1) (pe_op op_mul (pe_int (i := ((2 : Nat) : Int))) (pe_f T.c_Joined T.n_Joined__left_latches (pv 0)))))) pss_nil)
  (pss_one (ps_ret (pe_op op_add (pv 1) (pe_op op_mul (pe_int (i := ((2 : Nat) : Int))) (pe_op op_add (pe_f T.c_Joined T.n_Joined__left_latches (pv 0)) (pe_f T.c_Joined T.n_Joined__left_ands (pv 0))))))))), ?_⟩)⟩
  case len => walk_at "ln"
  
  obtain ⟨p, dx, fs, x, li, a, b, c, rfl, hp, h1, h2, h3, h4, q⟩ := h
  unfold LkI at h1 h2 h3 h4
  walk_at "st"
  walk_at "go"
  refine br (fun h => ?_) (fun h => ?_)
  · walk_at "go"
    rw [if_pos h] at q
    exact q
  · rw [if_neg h] at q
    walk_at "go"
    refine br (fun h => ?_) (fun h => ?_)
    · walk_at "go"
      rw [if_pos h] at q
      exact q
    · walk_at "go"
      rw [if_neg h] at q
      exact q
structure JoinD where
  c : Cir Str
  d : Cir Str
def JF (c d : Cir Str) (fs : List (Str × V)) : Prop := LkI fs "_last_input" c.ins.length ∧ LkI fs "_left_limit" c.fa ∧ LkI fs "_right_limit" d.fa ∧ LkI fs "_left_latches" c.lat.length ∧ LkI fs "_right_latches" d.lat.length ∧ LkI fs "_left_ands" c.ands.length ∧ fs.lookup ("from_left" : Str) = none ∧ fs.lookup ("from_right" : Str) = none
def JoinAt (K : PySem.W.Frag) (H : Hp) (p : Addr) (c d : Cir Str) : Prop := ∃ dx fs jn lg, H p = some (.ins (He.ga K "Joined") dx fs) ∧ JF c d fs ∧ fs.lookup ("joint" : Str) = some (.ref jn) ∧ fs.lookup ("goals" : Str) = some (.ref lg) ∧ NetAt K H jn (joinN c d) ∧ LstAt H lg IsP (joinG c d)
theorem JoinAt.mono {K : PySem.W.Frag} {H H' : Hp} {p : Addr} {c d : Cir Str} (s : Same H H') (h : JoinAt K H p c d) : JoinAt K H' p c d := by
  obtain ⟨dx, fs, jn, lg, h1, h2, h3, h4, h5, h6⟩ := h
  exact ⟨dx, fs, jn, lg, s _ _ h1, h2, h3, h4, h5.mono s, h6.mono mono_P s⟩
theorem g_fromL {H : Hp} {Q : VK} {E : XK} {p dx : Addr} {fs : List (Str × V)} {c d : Cir Str} {x : Nat} (hp : H p = some (.ins (He.ga K "Joined") dx fs)) (hj : JF c d fs) (q : Q (.int ((fromL c d x : Nat) : Int)) H) : spFromL K [.ref p, .int (x : Int)] H Q E :=
  ⟨p, dx, fs, x, _, _, rfl, hp, hj.2.1, hj.2.2.2.2.1, q⟩
theorem g_fromR {H : Hp} {Q : VK} {E : XK} {p dx : Addr} {fs : List (Str × V)} {c d : Cir Str} {x : Nat} (hp : H p = some (.ins (He.ga K "Joined") dx fs)) (hj : JF c d fs) (q : Q (.int ((fromR c d x : Nat) : Int)) H) : spFromR K [.ref p, .int (x : Int)] H Q E :=
  ⟨p, dx, fs, x, _, _, _, _, rfl, hp, hj.1, hj.2.2.1, hj.2.2.2.1, hj.2.2.2.2.2.1, q⟩
def JF0 (c d : Cir Str) : List (Str × V) := putF "_left_ands" (.int ((c.ands.length : Nat) : Int)) (putF "_right_latches" (.int ((d.lat.length : Nat) : Int)) (putF "_left_latches" (.int ((c.lat.length : Nat) : Int)) (putF "_right_limit" (.int ((1 + d.ins.length + d.lat.length : Nat) : Int)) (putF "_left_limit" (.int ((1 + c.ins.length + c.lat.length : Nat) : Int)) (putF "_last_input" (.int ((c.ins.length : Nat) : Int)) [])))))
theorem JF0_ok (c d : Cir Str) : JF c d (JF0 c d) := by
  refine ⟨?_, ?_, ?_, ?_, ?_, ?_, ?_, ?_⟩
  all_goals first
    | (unfold LkI JF0; (repeat (first | (rw [lookup_putF, if_pos rfl]) | (rw [lookup_putF, if_neg (by decide +kernel)]))) <;> rfl)
    | (unfold LkI JF0; (repeat (first | (rw [lookup_putF, if_pos rfl]) | (rw [lookup_putF, if_neg (by decide +kernel)]))))
    | (unfold JF0; repeat (rw [lookup_putF, if_neg (by decide +kernel)])
       rfl)
theorem JF0_len (c d : Cir Str) : (JF0 c d).length ≤ 6 := by
  unfold JF0
  exact len_put (len_put (len_put (len_put (len_put (len_put len0)))))
theorem JF.put {c d : Cir Str} {fs : List (Str × V)} {x : Str} {v : V} (h : JF c d fs) (hx : x = "joint" ∨ x = "goals") : JF c d (putF x v fs) := by
  obtain ⟨h1, h2, h3, h4, h5, h6, h7, h8⟩ := h
  rcases hx with rfl | rfl <;> exact ⟨by unfold LkI; rw [lookup_putF, if_neg (by decide +kernel)]; exact h1, by unfold LkI; rw [lookup_putF, if_neg (by decide +kernel)]; exact h2, by unfold LkI; rw [lookup_putF, if_neg (by decide +kernel)]; exact h3, by unfold LkI; rw [lookup_putF, if_neg (by decide +kernel)]; exact h4, by unfold LkI; rw [lookup_putF, if_neg (by decide +kernel)]; exact h5, by unfold LkI; rw [lookup_putF, if_neg (by decide +kernel)]; exact h6, by rw [lookup_putF, if_neg (by decide +kernel)]; exact h7, by rw [lookup_putF, if_neg (by decide +kernel)]; exact h8⟩
end
end
section
/-! part SgJn2 -/
set_option Elab.async false
set_option maxRecDepth 100000
set_option linter.unusedVariables false
set_option maxHeartbeats 1000000
open PySem PySem.Spec PyProof.Rows L2


local macro_rules | `(tactic| walk_at "gs") => `(tactic| first | ((with_reducible show spFromL _ _ _ _ _); (refine' g_fromL (c := ?go_c) (d := ?go_d) ?go_h ?go_j ?_); (case go_h => walk_at "lk"); (case go_j => assumption)) | ((with_reducible show spFromR _ _ _ _ _); (refine' g_fromR (c := ?go_c) (d := ?go_d) ?go_h ?go_j ?_); (case go_h => walk_at "lk"); (case go_j => assumption)))
section
variable {P : Program} {w : World} {K : PySem.W.Frag} {mg : Str → Option Value} {base : Heap} {f pr : Addr} {fd : FuncData}
structure JoinOk (c d : Cir Str) : Prop where
  ins : c.ins = d.ins
  outs : c.outs.map (·.1) = d.outs.map (·.1)
  si : ∀ s ∈ c.ins, PyData.strOk s = true
  so : ∀ s ∈ c.outs.map (·.1), PyData.strOk s = true
  z1 : c.ins.length ≤ 16
  z2 : c.lat.length ≤ 40
  z3 : d.lat.length ≤ 40
  z4 : c.ands.length ≤ 2000
  z5 : d.ands.length ≤ 2000
  z6 : c.outs.length ≤ 32
def spJoinInit (K : PySem.W.Frag) : Sp := fun vs H Q _ => ∃ (p dx a b : Addr) (c d : Cir Str) (H0 : Hp), vs = [.ref p, .ref a, .ref b] ∧ H p = some (.ins (He.ga K "Joined") dx []) ∧ H0 p = none ∧ Same H0 H ∧ CirAt K H0 a c ∧ CirAt K H0 b d ∧ JoinOk c d ∧
  ∀ H', Same H0 H' → JoinAt K H' p c d → Q .non H'
theorem ok_Joined_init (F : FunD K "__init__" "Joined.__init__" (defArgs s_Joined_init) (defBody s_Joined_init) (defScope s_Joined_init) [] [] f fd) (hm : mg "Joined" = some (.ref (He.ga K "Joined"))) (M : Mk K (He.ga K "Joined") f) (T : Txt K mg) (M_Joined_from_left : MethOk P w K mg base 1 (He.ga K "Joined") "from_left" ["self", "literal"] (spFromL K)) (M_Joined_from_right : MethOk P w K mg base 1 (He.ga K "Joined") "from_right" ["self", "literal"] (spFromR K)) (I_Net : InitOk P w K mg base 1 "Net" (He.ga K "Net") ["self", "input_count", "latches", "ands"] (spNetInit K)) : InitOk P w K mg base 3 "Joined" (He.ga K "Joined") ["self", "left", "right"] (spJoinInit K) := by
  refine ⟨f, fd, hm, M, (FunD.bindsN (ps := ["self", "left", "right"]) F fun _ _ _ _ _ _ us hl => match us, hl with | [_, _, _], _ => rfl), fn_ok F sc_Joined_init ?len (fun cdv A outer s H vs Q E hr h => ⟨_, (pss_cons (ps_if (pt_cmpR (op_neD hr.units) (pe_f T.c_Circuit T.n_Circuit_inputs (pv 1)) (pe_f T.c_Circuit T.n_Circuit_inputs (pv 2)) (nomark _)) (pss_one ps_never) pss_nil)
  (pss_cons (ps_if (pt_cmpR (op_neD hr.units) (by exact (pe_lc (own := [("_", 3), ("name", 11)]) (by rfl) sc_Joined_init.nd (pi_list (pe_f T.c_Circuit T.n_Circuit_outputs (pv 1))) (blkOk_by (own := [("_", 3), ("name", 11)]) (N := ["self", "left", "right", "_", "literal", "latches", "ands", "place", "start", "one", "two", "name"]) (sc := defScope s_Joined_init) (by decide +kernel)) (fun _ _ _ _ _ => by exact (pg_tupK (K := K) (n := 2) (by rfl) (by rfl) (pgs_cons (pg_name (i := 11) sc_Joined_init.nd rfl (Or.inl rfl)) (pgs_cons (pg_name (i := 3) sc_Joined_init.nd rfl (Or.inl rfl)) pgs_nil)))) (fun _ _ _ _ _ => by exact pts_nil) (fun _ _ _ _ _ => by exact (pv 11)))) (by exact (pe_lc (own := [("_", 3), ("name", 11)]) (by rfl) sc_Joined_init.nd (pi_list (pe_f T.c_Circuit T.n_Circuit_outputs (pv 2))) (blkOk_by (own := [("_", 3), ("name", 11)]) (N := ["self", "left", "right", "_", "literal", "latches", "ands", "place", "start", "one", "two", "name"]) (sc := defScope s_Joined_init) (by decide +kernel)) (fun _ _ _ _ _ => by exact (pg_tupK (K := K) (n := 2) (by rfl) (by rfl) (pgs_cons (pg_name (i := 11) sc_Joined_init.nd rfl (Or.inl rfl)) (pgs_cons (pg_name (i := 3) sc_Joined_init.nd rfl (Or.inl rfl)) pgs_nil)))) (fun _ _ _ _ _ => by exact pts_nil) (fun _ _ _ _ _ => by exact (pv 11)))) (nomark _)) (pss_one ps_never) pss_nil)
  (pss_cons (ps_f T.c_Joined T.n_Joined__last_input (pv 0) (pe_callB (call_lenK (K := K) (by rfl)) (by rfl) T.m_len (by decide +kernel) (pa_cons (pe_f T.c_Circuit T.n_Circuit_inputs (pv 1)) pa_nil)))
  (pss_cons (ps_f T.c_Joined T.n_Joined__left_limit (pv 0) (pe_op op_add (pe_op op_add (pe_int (i := ((1 : Nat) : Int))) (pe_callB (call_lenK (K := K) (by rfl)) (by rfl) T.m_len (by decide +kernel) (pa_cons (pe_f T.c_Circuit T.n_Circuit_inputs (pv 1)) pa_nil))) (pe_callB (call_lenK (K := K) (by rfl)) (by rfl) T.m_len (by decide +kernel) (pa_cons (pe_f T.c_Circuit T.n_Circuit_latches (pv 1)) pa_nil))))
  (pss_cons (ps_f T.c_Joined T.n_Joined__right_limit (pv 0) (pe_op op_add (pe_op op_add (pe_int (i := ((1 : Nat) : Int))) (pe_callB (call_lenK (K := K) (by rfl)) (by rfl) T.m_len (by decide +kernel) (pa_cons (pe_f T.c_Circuit T.n_Circuit_inputs (pv 2)) pa_nil))) (pe_callB (call_lenK (K := K) (by rfl)) (by rfl) T.m_len (by decide +kernel) (pa_cons (pe_f T.c_Circuit T.n_Circuit_latches (pv 2)) pa_nil))))
  (pss_cons (ps_f T.c_Joined T.n_Joined__left_latches (pv 0) (pe_callB (call_lenK (K := K) (by rfl)) (by rfl) T.m_len (by decide +kernel) (pa_cons (pe_f T.c_Circuit T.n_Circuit_latches (pv 1)) pa_nil)))
  (pss_cons (ps_f T.c_Joined T.n_Joined__right_latches (pv 0) (pe_callB (call_lenK (K := K) (by rfl)) (by rfl) T.m_len (by decide +kernel) (pa_cons (pe_f T.c_Circuit T.n_Circuit_latches (pv 2)) pa_nil)))
  (pss_cons (ps_f T.c_Joined T.n_Joined__left_ands (pv 0) (pe_callB (call_lenK (K := K) (by rfl)) (by rfl) T.m_len (by decide +kernel) (pa_cons (pe_f T.c_Circuit T.n_Circuit_ands (pv 1)) pa_nil)))
  (pss_cons (ps_setLc (i := 5) (own := [("_", 3), ("literal", 4), ("start", 8)]) (by rfl) sc_Joined_init.nd rfl rfl (sw_true rfl rfl rfl (by decide +kernel)) (pi_list (pe_f T.c_Circuit T.n_Circuit_latches (pv 1))) (blkOk_by (own := [("_", 3), ("literal", 4), ("start", 8)]) (N := ["self", "left", "right", "_", "literal", "latches", "ands", "place", "start", "one", "two", "name"]) (sc := defScope s_Joined_init) (by decide +kernel)) (fun _ _ _ _ _ => by exact (pg_tupK (K := K) (n := 3) (by rfl) (by rfl) (pgs_cons (pg_name (i := 3) sc_Joined_init.nd rfl (Or.inl rfl)) (pgs_cons (pg_name (i := 8) sc_Joined_init.nd rfl (Or.inl rfl)) (pgs_cons (pg_name (i := 4) sc_Joined_init.nd rfl (Or.inl rfl)) pgs_nil))))) (fun _ _ _ _ _ => by exact pts_nil) (fun _ _ _ _ _ => by exact (pe_tup (pa_cons (pv 8) (pa_cons (pe_methD M_Joined_from_left T.c_Joined (hr.mono (by decide)) (pv 0) (pa_cons (pv 4) pa_nil)) pa_nil)))))
  (pss_cons (ps_expr (pe_bm PySem.F.plainAttrs_list PySem.F.slot_list_extend PySem.F.type_list_extend mt_extend (pv 5) (pa_cons (by exact (pe_lc (own := [("_", 3), ("literal", 4), ("start", 8)]) (by rfl) sc_Joined_init.nd (pi_list (pe_f T.c_Circuit T.n_Circuit_latches (pv 2))) (blkOk_by (own := [("_", 3), ("literal", 4), ("start", 8)]) (N := ["self", "left", "right", "_", "literal", "latches", "ands", "place", "start", "one", "two", "name"]) (sc := defScope s_Joined_init) (by decide +kernel)) (fun _ _ _ _ _ => by exact (pg_tupK (K := K) (n := 3) (by rfl) (by rfl) (pgs_cons (pg_name (i := 3) sc_Joined_init.nd rfl (Or.inl rfl)) (pgs_cons (pg_name (i := 8) sc_Joined_init.nd rfl (Or.inl rfl)) (pgs_cons (pg_name (i := 4) sc_Joined_init.nd rfl (Or.inl rfl)) pgs_nil))))) (fun _ _ _ _ _ => by exact pts_nil) (fun _ _ _ _ _ => by exact (pe_tup (pa_cons (pv 8) (pa_cons (pe_methD M_Joined_from_right T.c_Joined (hr.mono (by decide)) (pv 0) (pa_cons (pv 4) pa_nil)) pa_nil)))))) pa_nil)))
  (pss_cons (ps_setLc (i := 6) (own := [("one", 9), ("two", 10)]) (by rfl) sc_Joined_init.nd rfl rfl (sw_true rfl rfl rfl (by decide +kernel)) (pi_list (pe_f T.c_Circuit T.n_Circuit_ands (pv 1))) (blkOk_by (own := [("one", 9), ("two", 10)]) (N := ["self", "left", "right", "_", "literal", "latches", "ands", "place", "start", "one", "two", "name"]) (sc := defScope s_Joined_init) (by decide +kernel)) (fun _ _ _ _ _ => by exact (pg_tupK (K := K) (n := 2) (by rfl) (by rfl) (pgs_cons (pg_name (i := 9) sc_Joined_init.nd rfl (Or.inl rfl)) (pgs_cons (pg_name (i := 10) sc_Joined_init.nd rfl (Or.inl rfl)) pgs_nil)))) (fun _ _ _ _ _ => by exact pts_nil) (fun _ _ _ _ _ => by exact (pe_tup (pa_cons (pe_methD M_Joined_from_left T.c_Joined (hr.mono (by decide)) (pv 0) (pa_cons (pv 9) pa_nil)) (pa_cons (pe_methD M_Joined_from_left T.c_Joined (hr.mono (by decide)) (pv 0) (pa_cons (pv 10) pa_nil)) pa_nil)))))
  (pss_cons (ps_expr (pe_bm PySem.F.plainAttrs_list PySem.F.slot_list_extend PySem.F.type_list_extend mt_extend (pv 6) (pa_cons (by exact (pe_lc (own := [("one", 9), ("two", 10)]) (by rfl) sc_Joined_init.nd (pi_list (pe_f T.c_Circuit T.n_Circuit_ands (pv 2))) (blkOk_by (own := [("one", 9), ("two", 10)]) (N := ["self", "left", "right", "_", "literal", "latches", "ands", "place", "start", "one", "two", "name"]) (sc := defScope s_Joined_init) (by decide +kernel)) (fun _ _ _ _ _ => by exact (pg_tupK (K := K) (n := 2) (by rfl) (by rfl) (pgs_cons (pg_name (i := 9) sc_Joined_init.nd rfl (Or.inl rfl)) (pgs_cons (pg_name (i := 10) sc_Joined_init.nd rfl (Or.inl rfl)) pgs_nil)))) (fun _ _ _ _ _ => by exact pts_nil) (fun _ _ _ _ _ => by exact (pe_tup (pa_cons (pe_methD M_Joined_from_right T.c_Joined (hr.mono (by decide)) (pv 0) (pa_cons (pv 9) pa_nil)) (pa_cons (pe_methD M_Joined_from_right T.c_Joined (hr.mono (by decide)) (pv 0) (pa_cons (pv 10) pa_nil)) pa_nil)))))) pa_nil)))
  (pss_cons (ps_f T.c_Joined T.n_Joined_joint (pv 0) (pe_makeD I_Net (hr.mono (by decide)) (by rfl) (pa_cons (pe_callB (call_lenK (K := K) (by rfl)) (by rfl) T.m_len (by decide +kernel) (pa_cons (pe_f T.c_Circuit T.n_Circuit_inputs (pv 1)) pa_nil)) (pa_cons (pv 5) (pa_cons (pv 6) pa_nil)))))
  (pss_cons (ps_f T.c_Joined T.n_Joined_goals (pv 0) (pe_lst pa_nil))
  (pss_one (ps_for PassesOwn.never rfl (pi_enum (by rfl) T.m_enumerate (pa_cons (pe_f T.c_Circuit T.n_Circuit_outputs (pv 1)) pa_nil)) (pg_tupK (K := K) (n := 2) (by rfl) (by rfl) (pgs_cons (pg_name (i := 7) sc_Joined_init.nd rfl (Or.inl rfl)) (pgs_cons (pg_tupK (K := K) (n := 2) (by rfl) (by rfl) (pgs_cons (pg_name (i := 3) sc_Joined_init.nd rfl (Or.inl rfl)) (pgs_cons (pg_name (i := 4) sc_Joined_init.nd rfl (Or.inl rfl)) pgs_nil))) pgs_nil)))
  (pss_one (ps_expr (pe_bm PySem.F.plainAttrs_list PySem.F.slot_list_append PySem.F.type_list_append mt_append (pe_f T.c_Joined T.n_Joined_goals (pv 0)) (pa_cons (pe_tup (pa_cons (pe_methD M_Joined_from_left T.c_Joined (hr.mono (by decide)) (pv 0) (pa_cons (pv 4) pa_nil)) (pa_cons (pe_methD M_Joined_from_right T.c_Joined (hr.mono (by decide)) (pv 0) (pa_cons (pe_ix (ix_tupK (K := K) (by rfl)) (pe_ix (ix_listK (K := K) (by rfl)) (pe_f T.c_Circuit T.n_Circuit_outputs (pv 2)) (pv 7) (fun _ _ => rfl)) (pe_int (i := ((1 : Nat) : Int))) (fun _ _ => rfl)) pa_nil)) pa_nil))) pa_nil)))))))))))))))))))), ?_⟩)⟩
  case len => walk_at "ln"
  
  obtain ⟨p, dx, a, b, c, d, H0, rfl, hp, hp0, hS, hA, hB, hk, q⟩ := h
  obtain ⟨ca, ai, al, aa, ao, a1, hAi, hAl, hAa, hAo⟩ := hA
  obtain ⟨cb, bi, bl, ba, bo, b1, hBi, hBl, hBa, hBo⟩ := hB
  have hAi' := hAi.mono mono_S hS
  have hBi' := hBi.mono mono_S hS
  obtain ⟨vai, eai, rai⟩ := hAi
  obtain ⟨val, eal, ral⟩ := hAl
  obtain ⟨vaa, eaa, raa⟩ := hAa
  obtain ⟨vao, eao, rao⟩ := hAo
  obtain ⟨vbi, ebi, rbi⟩ := hBi
  obtain ⟨vbl, ebl, rbl⟩ := hBl
  obtain ⟨vba, eba, rba⟩ := hBa
  obtain ⟨vbo, ebo, rbo⟩ := hBo
  have hZ : ∀ a u, H0 a = some u → a ≠ p := fun a u e => ne_of_none e hp0
  walk_at "st"
  walk_at "go"
  refine g_neD (K := K) (dp_lst (fun _ _ => dp_S) hAi') (dp_lst (fun _ _ => dp_S) (hk.ins ▸ hBi')) (ok_lst (n := 0) (fun x hx => ok_dS (hk.si x hx)) |>.mono (by decide)) ?_
  walk_at "go"
  refine g_rLcLT (xs := vao) (rep := IsS) (bs := c.outs.map (·.1)) (hS _ _ eao) (by rw [rao.1]; have := hk.z6; omega) (by rw [List.length_map, rao.1]) mono_S stab_S (fun D i x y H2 hD hx hb hS2 Qy hQ => ?_) (fun l1 H1 hl1 hS1 hL1 => ?_)
  · obtain ⟨z, hz, t, rfl, ht⟩ := rao.2 i x hx
    rw [map_get hz] at hb; cases hb
    have ht' := hS2 _ _ (hS _ _ ht)
    walk_at "go"
    exact hQ _ _ (L2.Same.refl _) rfl
  have s1 : Same H0 H1 := L2.Same.trans hS hS1
  have hp1 := hS1 _ _ hp
  have zl1 : H0 l1 = none := Same.free hS hl1
  clear hS1
  walk_at "go"
  refine g_rLcLT (xs := vbo) (rep := IsS) (bs := c.outs.map (·.1)) (s1 _ _ ebo) (by have e := congrArg List.length hk.outs; rw [List.length_map, List.length_map] at e; rw [rbo.1, ← e]; have := hk.z6; omega) (by rw [hk.outs, List.length_map, rbo.1]) mono_S stab_S (fun D i x y H2 hD hx hb hS2 Qy hQ => ?_) (fun l2 H2 hl2 hS2 hL2 => ?_)
  · obtain ⟨z, hz, t, rfl, ht⟩ := rbo.2 i x hx
    rw [hk.outs, map_get hz] at hb; cases hb
    have ht' := hS2 _ _ (s1 _ _ ht)
    walk_at "go"
    exact hQ _ _ (L2.Same.refl _) rfl
  have s2 : Same H0 H2 := L2.Same.trans s1 hS2
  have hp2 := hS2 _ _ hp1
  have hL1' := hL1.mono mono_S hS2
  clear hS2 s1 hp1 hL1
  refine g_neD (K := K) (dp_lst (fun _ _ => dp_S) hL1') (dp_lst (fun _ _ => dp_S) hL2) (ok_lst (n := 0) (fun x hx => ok_dS (hk.so x hx)) |>.mono (by decide)) ?_
  clear hL1' hL2 hl2 hl1 zl1 hp hAi' hBi' hS
  have f1 := s2 _ _ a1
  have f2 := s2 _ _ b1
  have f3 := s2 _ _ eai
  have f4 := s2 _ _ eal
  have f5 := s2 _ _ eaa
  have f6 := s2 _ _ eao
  have f7 := s2 _ _ ebi
  have f8 := s2 _ _ ebl
  have f9 := s2 _ _ eba
  have n1 := hZ _ _ a1
  have n2 := hZ _ _ b1
  have n3 := hZ _ _ eai
  have n4 := hZ _ _ eal
  have n5 := hZ _ _ eaa
  have n6 := hZ _ _ eao
  have n7 := hZ _ _ ebi
  have n8 := hZ _ _ ebl
  have n9 := hZ _ _ eba
  walk_at "go"
  simp only [upd_upd]
  rw [rai.1, ral.1, raa.1, rbi.1, rbl.1, ← JF0.eq_1 c d]
  have s3 : Same H0 (upd H2 p (.ins (He.ga K "Joined") dx (JF0 c d))) := Same.mut s2 hp0
  replace f1 := lk_ne (o := .ins (He.ga K "Joined") dx (JF0 c d)) n1 f1
  replace f2 := lk_ne (o := .ins (He.ga K "Joined") dx (JF0 c d)) n2 f2
  replace f3 := lk_ne (o := .ins (He.ga K "Joined") dx (JF0 c d)) n3 f3
  replace f4 := lk_ne (o := .ins (He.ga K "Joined") dx (JF0 c d)) n4 f4
  replace f5 := lk_ne (o := .ins (He.ga K "Joined") dx (JF0 c d)) n5 f5
  replace f6 := lk_ne (o := .ins (He.ga K "Joined") dx (JF0 c d)) n6 f6
  replace f7 := lk_ne (o := .ins (He.ga K "Joined") dx (JF0 c d)) n7 f7
  replace f8 := lk_ne (o := .ins (He.ga K "Joined") dx (JF0 c d)) n8 f8
  replace f9 := lk_ne (o := .ins (He.ga K "Joined") dx (JF0 c d)) n9 f9
  have f10 : (upd H2 p (.ins (He.ga K "Joined") dx (JF0 c d))) p = some (.ins (He.ga K "Joined") dx (JF0 c d)) := upd_same
  have hj := JF0_ok c d
  have hj1 := hj.2.2.2.2.2.2.1
  have hj2 := hj.2.2.2.2.2.2.2
  have hfl := JF0_len c d
  generalize JF0 c d = fs at *
  generalize upd H2 p (.ins (He.ga K "Joined") dx fs) = H3 at *
  have kA : ∀ H', Same H0 H' → H' a = some (.ins (He.ga K "Circuit") ca (F_Circuit (.ref ai) (.ref al) (.ref aa) (.ref ao))) := fun H' s => s _ _ a1
  have kB : ∀ H', Same H0 H' → H' b = some (.ins (He.ga K "Circuit") cb (F_Circuit (.ref bi) (.ref bl) (.ref ba) (.ref bo))) := fun H' s => s _ _ b1
  have kO : ∀ H', Same H0 H' → H' ao = some (.lst vao) := fun H' s => s _ _ eao
  have kP : ∀ H', Same H0 H' → H' bo = some (.lst vbo) := fun H' s => s _ _ ebo
  have kN : ∀ l, H0 l = none → a ≠ l ∧ b ≠ l ∧ ao ≠ l ∧ bo ≠ l := fun l h => ⟨ne_of_none a1 h, ne_of_none b1 h, ne_of_none eao h, ne_of_none ebo h⟩
  clear s2 hp2 n1 n2 n3 n4 n5 n6 n7 n8 n9 a1 b1 eai eal eaa eao ebi ebl eba H2 H1
  have hal : ∀ (H' : Hp), Same H3 H' → All2 (IsL H') val c.lat := fun H' s => ral.imp fun v x => mono_L _ _ v x (L2.Same.trans s3 s)
  have hbl : ∀ (H' : Hp), Same H3 H' → All2 (IsL H') vbl d.lat := fun H' s => rbl.imp fun v x => mono_L _ _ v x (L2.Same.trans s3 s)
  have haa : ∀ (H' : Hp), Same H3 H' → All2 (IsP H') vaa c.ands := fun H' s => raa.imp fun v x => mono_P _ _ v x (L2.Same.trans s3 s)
  have hba : ∀ (H' : Hp), Same H3 H' → All2 (IsP H') vba d.ands := fun H' s => rba.imp fun v x => mono_P _ _ v x (L2.Same.trans s3 s)
  have hao : ∀ (H' : Hp), Same H3 H' → All2 (IsO H') vao c.outs := fun H' s => rao.imp fun v x => mono_O _ _ v x (L2.Same.trans s3 s)
  have hbo : ∀ (H' : Hp), Same H3 H' → All2 (IsO H') vbo d.outs := fun H' s => rbo.imp fun v x => mono_O _ _ v x (L2.Same.trans s3 s)
  have g6 : H3 bo = some (.lst vbo) := s3 _ _ ebo
  obtain ⟨hkI, hkO, -, -, z1, z2, z3, z4, z5, z6⟩ := hk
  refine g_rLcLT (xs := val) (rep := IsP) (bs := c.lat.map fun l => (l.2.1, fromL c d l.2.2)) f4 (by rw [ral.1]; omega) (by rw [List.length_map, ral.1]) mono_P stab_P (fun D i x y H4 hD hx hb hS4 Qy hQ => ?_) (fun l3 H4 hl3 hS4 hL4 => ?_)
  · obtain ⟨⟨s, st, l⟩, hz, t, rfl, ht⟩ := (hal H4 hS4).2 i x hx
    rw [map_get hz] at hb; cases hb
    walk_at "go"
    exact hQ _ _ (by walk_at "ex") ⟨_, rfl, upd_same⟩
  walk_at "go"
  refine g_rLcLT (xs := vbl) (rep := IsP) (bs := d.lat.map fun l => (l.2.1, fromR c d l.2.2)) (hS4 _ _ f8) (by rw [rbl.1]; omega) (by rw [List.length_map, rbl.1]) mono_P stab_P (fun D i x y H5 hD hx hb hS5 Qy hQ => ?_) (fun l5 H5 hl5 hS5 hL5 => ?_)
  · have hS35 := L2.Same.trans hS4 hS5
    obtain ⟨⟨s, st, l⟩, hz, t, rfl, ht⟩ := (hbl H5 hS35).2 i x hx
    rw [map_get hz] at hb; cases hb
    walk_at "go"
    exact hQ _ _ (by walk_at "ex") ⟨_, rfl, upd_same⟩
  walk_at "go"
  case z => rw [List.length_map, List.length_map]; omega
  rename_i H6 k6 hL6
  have s6 : Same H3 H6 := Same.keep k6 (L2.Same.trans hS4 hS5) hl3
  clear k6 hL4 hL5 hS4 hS5
  refine g_rLcLT (xs := vaa) (rep := IsP) (bs := c.ands.map fun l => (fromL c d l.1, fromL c d l.2)) (s6 _ _ f5) (by rw [raa.1]; omega) (by rw [List.length_map, raa.1]) mono_P stab_P (fun D i x y H7 hD hx hb hS7 Qy hQ => ?_) (fun l7 H7 hl7 hS7 hL7 => ?_)
  · have hS35 := L2.Same.trans s6 hS7
    obtain ⟨⟨st, l⟩, hz, t, rfl, ht⟩ := (haa H7 hS35).2 i x hx
    rw [map_get hz] at hb; cases hb
    walk_at "go"
    exact hQ _ _ (by walk_at "ex") ⟨_, rfl, upd_same⟩
  have hl37 : H3 l7 = none := Same.free s6 hl7
  have n37 : l3 ≠ l7 := by obtain ⟨vs, e, -⟩ := hL6; exact (ne_new e hl7).symm
  have hL6' := hL6.mono mono_P hS7
  walk_at "go"
  refine g_rLcLT (xs := vba) (rep := IsP) (bs := d.ands.map fun l => (fromR c d l.1, fromR c d l.2)) (hS7 _ _ (s6 _ _ f9)) (by rw [rba.1]; omega) (by rw [List.length_map, rba.1]) mono_P stab_P (fun D i x y H8 hD hx hb hS8 Qy hQ => ?_) (fun l8 H8 hl8 hS8 hL8 => ?_)
  · have hS35 := L2.Same.trans (L2.Same.trans s6 hS7) hS8
    obtain ⟨⟨st, l⟩, hz, t, rfl, ht⟩ := (hba H8 hS35).2 i x hx
    rw [map_get hz] at hb; cases hb
    walk_at "go"
    exact hQ _ _ (by walk_at "ex") ⟨_, rfl, upd_same⟩
  have hL6'' := hL6'.mono mono_P hS8
  have hL7' := hL7.mono mono_P hS8
  walk_at "go"
  case z => rw [List.length_map, List.length_map]; omega
  rename_i H9 k9 hL9
  have s9 : Same H3 H9 := Same.keep k9 (L2.Same.trans (L2.Same.trans s6 hS7) hS8) hl37
  have hL10 : LstAt H9 l3 IsP _ := LstAt.keepL to_P k9 hL7' n37 hL6''
  clear k9 hL6'' hL7' hL8 hS8 hL6' hL7 hL6 hS7 s6
  have h9p := s9 _ _ f10
  have h9a := s9 _ _ f1
  have h9i := s9 _ _ f3
  walk_at "go"
  intro x dx' hx hdx hne
  refine ⟨x, dx', l3, l7, joinN c d, H9, by rw [rai.1]; rfl, upd_same, hx, by walk_at "ex", hL10, hL9, fun H10 hS10 hN => ⟨rfl, ?_⟩⟩
  have nxp : x ≠ p := (ne_of_none h9p hx).symm
  have hpx : H10 p = some (.ins (He.ga K "Joined") dx fs) := hS10 _ _ h9p
  have s10 : Same H3 H10 := L2.Same.trans s9 hS10
  clear hx hdx hne hL9 hL10 h9p h9a h9i s9 hS10 hl37 n37 hj1 hj2
  walk_at "go"
  rename_i lg hlg
  have ng : lg ≠ p := ne_new upd_same hlg
  have hlg0 : H0 lg = none := Same.free (Same.mut (L2.Same.trans s3 s10) hp0) hlg
  have hj2 := (hj.put (v := .ref x) (Or.inl rfl)).put (v := .ref lg) (x := "goals") (Or.inr rfl)
  have hjl : (putF "goals" (.ref lg) (putF "joint" (.ref x) fs)).length ≤ 8 := len_put (len_put hfl)
  have hk1 : (putF "goals" (.ref lg) (putF "joint" (.ref x) fs)).lookup ("joint" : Str) = some (.ref x) := by rw [lookup_putF, if_neg (by decide +kernel), lookup_putF, if_pos rfl]
  have hk2 : (putF "goals" (.ref lg) (putF "joint" (.ref x) fs)).lookup ("goals" : Str) = some (.ref lg) := by rw [lookup_putF, if_pos rfl]
  generalize putF "goals" (.ref lg) (putF "joint" (.ref x) fs) = gs at *
  have e11 : ∀ H', H' = upd (upd (upd H10 p (.ins (He.ga K "Joined") dx (putF "joint" (.ref x) fs))) lg (.lst [])) p (.ins (He.ga K "Joined") dx gs) → Same H0 H' ∧ H' p = some (.ins (He.ga K "Joined") dx gs) ∧ H' lg = some (.lst []) ∧ ∃ Hx : Hp, Hx lg = none ∧ NetAt K Hx x (joinN c d) ∧ Same Hx H' := by
    rintro _ rfl
    refine ⟨Same.mut (Same.mut (Same.mut (L2.Same.trans s3 s10) hp0) hlg0) hp0, upd_same, lk_ne ng upd_same, ?_⟩
    have hl10 : H10 lg = none := by rw [upd_ne ng] at hlg; exact hlg
    refine ⟨upd H10 p (.ins (He.ga K "Joined") dx gs), by rw [upd_ne ng]; exact hl10, NetAt.mutI hpx nxp hN, fun z u hz => ?_⟩
    by_cases e : z = p
    · rw [e, L2.upd_same] at hz ⊢; exact hz
    · rw [upd_ne e] at hz
      exact lk_ne e (lk_ne (ne_of_none hz hl10) (lk_ne e hz))
  generalize upd (upd (upd H10 p (.ins (He.ga K "Joined") dx (putF "joint" (.ref x) fs))) lg (.lst [])) p (.ins (He.ga K "Joined") dx gs) = H11 at *
  obtain ⟨s11, p11, g11, Hx, hxl, N11, sx⟩ := e11 _ rfl
  have h11a := kA _ s11
  have h11b := kB _ s11
  have h11o := kO _ s11
  have h11p := kP _ s11
  obtain ⟨m1, m2, m3, m4⟩ := kN lg hlg0
  have ng' : p ≠ lg := ng.symm
  clear e11 hN hpx s10 f1 f2 f3 f4 f5 f6 f7 f8 f9 f10 g6
  have lO : vao.length = c.outs.length := rao.1
  walk_at "go"
  refine g_rForE (xs := vao) h11o (fun i σ H' => ∃ o1 o2 o3 o4 o5 o6 o7, σ = [some (.ref p), some (.ref a), some (.ref b), o1, o2, some (.ref l3), some (.ref l7), o3, o4, o5, o6, o7] ∧ Keep lg H11 H' ∧ LstAt H' lg IsP ((joinG c d).take i))
    ⟨_, _, _, _, _, _, _, rfl, Keep.refl, ⟨[], g11, All2.nil⟩⟩ ?_ ?_ ?_
  · rintro i σ H' hi ⟨_, _, _, _, _, _, _, rfl, k, hL⟩
    exact k _ _ m3 h11o
  · rintro i v σ H' T' hv ⟨_, _, _, _, _, _, _, rfl, k, hL⟩ hT
    have q1 := k _ _ m1 h11a
    have q2 := k _ _ m2 h11b
    have q3 := k _ _ m4 h11p
    have q4 := k _ _ ng' p11
    have sk : Same H0 H' := Same.keep k s11 hlg0
    obtain ⟨⟨s, l⟩, hz, t, rfl, ht⟩ := rao.2 i v hv
    have ht' := sk _ _ ht
    have ho : i < c.outs.length := lt_of_get hz
    have hlen : d.outs.length = c.outs.length := by have := congrArg List.length hkO; simpa using this.symm
    obtain ⟨⟨s2, l2⟩, hz2⟩ : ∃ o, d.outs[i]? = some o := ⟨_, List.getElem?_eq_getElem (by omega)⟩
    obtain ⟨v2, hv2, t2, rfl, ht2⟩ := rbo.get hz2
    have ht2' := sk _ _ ht2
    have hj3 := hj2.2.2.2.2.2.2.1
    have hj4 := hj2.2.2.2.2.2.2.2
    have hg : (joinG c d)[i]? = some (fromL c d l, fromR c d l2) := by
      unfold joinG
      rw [List.getElem?_zipWith, hz, hz2]
    walk_at "go"
    refine g_ixL (by walk_at "lk") hv2 ?_
    walk_at "go"
    · rename_i Hf kf hLf
      refine ⟨_, _, _, _, _, _, _, rfl, (k.transS (by walk_at "ex")).trans kf, ?_⟩
      rw [take_snoc hg]
      exact hLf
    · rw [List.length_take]; have := lt_of_get hg; omega
  · rintro σ H' ⟨_, _, _, _, _, _, _, rfl, k, hL⟩
    rw [lO, show c.outs.length = (joinG c d).length by unfold joinG; rw [List.length_zipWith]; have := congrArg List.length hkO; simp at this; omega, List.take_length] at hL
    walk_at "go"
    have sk : Same H0 H' := Same.keep k s11 hlg0
    exact q H' sk ⟨dx, gs, x, lg, k _ _ ng' p11, hj2, hk1, hk2, N11.mono (Same.keep k sx hxl), hL⟩
end
end
section
/-! part SgEq -/
set_option Elab.async false
set_option maxRecDepth 100000
set_option linter.unusedVariables false
set_option maxHeartbeats 1000000
open PySem PySem.Spec PyProof.Rows L2


section
variable {P : Program} {w : World} {K : PySem.W.Frag} {mg : Str → Option Value} {base : Heap} {f pr : Addr} {fd : FuncData}
/-- the class at C: its own == says True of what R says -/
def EqOk (P : Program) (w : World) (K : PySem.W.Frag) (mg : Str → Option Value) (base : Heap) (k : Nat) (C : Addr) (R : Addr → Addr → Hp → Prop) : Prop := ∃ (f : Addr) (fd : FuncData), PySem.W.findIn K (.ref C) "__eq__" = some (some (.ref f)) ∧ PySem.W.isFn K (.ref f) = true ∧ Binds K fd ["self", "other"] [] ∧ FnOk P w K mg base CX0 k f fd ["self", "other"] (spEq R)
theorem op_eqOwn {X : Cx} {k : Nat} {C : Addr} {R : Addr → Addr → Hp → Prop} (D : EqOk X.prog X.w X.K X.mg X.base k C R) (hr : Room k X.A) : OpR X (compareOp .Eq) (rEqG (DIns C R)) := by
  obtain ⟨f, fd, h1, h2, hb, F⟩ := D
  exact op_eqG (rcG_ins F h1 h2 hb pass0) hr
/-- two circuits alike -/
def TwoCir (K : PySem.W.Frag) : Addr → Addr → Hp → Prop := fun a b H => ∃ c, CirAt K H a c ∧ CirAt K H b c ∧ CirOk c
theorem ok_Circuit_eq (F : FunD K "__eq__" "Circuit.__eq__" (defArgs s_Circuit_eq) (defBody s_Circuit_eq) (defScope s_Circuit_eq) [] [] f fd) (h1 : PySem.W.findIn K (.ref (He.ga K "Circuit")) "__eq__" = some (some (.ref f))) (h2 : PySem.W.isFn K (.ref f) = true)
    (T : Txt K mg) (IC_Circuit : C8.InsC K (He.ga K "Circuit")) (hmC_Circuit : mg "Circuit" = some (.ref (He.ga K "Circuit"))) : EqOk P w K mg base 1 (He.ga K "Circuit") (TwoCir K) := by
  refine ⟨f, fd, h1, h2, (FunD.bindsN (ps := ["self", "other"]) F fun _ _ _ _ _ _ us hl => match us, hl with | [_, _], _ => rfl), fn_ok F sc_Circuit_eq ?len (fun cdv A outer s H vs Q E hr h => ⟨_, (pss_cons (ps_if (pt_not (pt_val (pe_callB (C8.call_isC IC_Circuit) (by rfl) T.m_isinstance (by decide +kernel) (pa_cons (pv 1) (pa_cons (pe_glob (v := .ref (He.ga K "Circuit")) (by rfl) hmC_Circuit rfl) pa_nil))))) (pss_one ps_never) pss_nil)
  (pss_cons (ps_if (PW.pt (pw_or (pt_cmpR (op_neD hr.units) (pe_f T.c_Circuit T.n_Circuit_inputs (pv 0)) (pe_f T.c_Circuit T.n_Circuit_inputs (pv 1)) (nomark _)) (pw_or1 (pt_cmpR (op_neD hr.units) (pe_f T.c_Circuit T.n_Circuit_latches (pv 0)) (pe_f T.c_Circuit T.n_Circuit_latches (pv 1)) (nomark _))))) (pss_one (ps_ret pe_bl)) pss_nil)
  (pss_one (ps_ret (pe_and (pe_cmpR (op_eqD hr.units) (pe_f T.c_Circuit T.n_Circuit_ands (pv 0)) (pe_f T.c_Circuit T.n_Circuit_ands (pv 1)) (nomark _)) (pe_one (pe_cmpR (op_eqD hr.units) (pe_f T.c_Circuit T.n_Circuit_outputs (pv 0)) (pe_f T.c_Circuit T.n_Circuit_outputs (pv 1)) (nomark _)))))))), ?_⟩)⟩
  case len =>
    rintro vs H Q E ⟨a, b, rfl, _⟩
    rfl
  obtain ⟨a, b, rfl, ⟨c, ⟨dx, li, ll, la, lo, p1, p2, p3, p4, p5⟩, ⟨dy, mi, ml, ma, mo, q1, q2, q3, q4, q5⟩, hk⟩, q⟩ := h
  have n1 : ∀ x ∈ c.ins, DatOk 0 (dS x) := fun x hx => ok_dS (hk.leaf.2.2.1 x (List.mem_append_left _ hx)).str
  have n2 : ∀ x ∈ c.lat, DatOk 1 (dL x) := fun x hx => ok_dL (hk.leaf.2.2.1 _ (List.mem_append_right _ (List.mem_map_of_mem hx))).str
  have n3 : ∀ x ∈ c.outs, DatOk 1 (dO x) := fun x hx => ok_dO (hk.outs.2.1 _ (List.mem_map_of_mem hx)).str
  walk_at "st"
  walk_at "go"
  refine ⟨b, _, _, rfl, q1, ?_⟩
  walk_at "go"
  refine g_neD (K := K) (dp_lst (fun _ _ => dp_S) p2) (dp_lst (fun _ _ => dp_S) q2) ((ok_lst n1).mono (by decide)) ?_
  walk_at "go"
  refine g_neD (K := K) (dp_lst (fun _ _ => dp_L) p3) (dp_lst (fun _ _ => dp_L) q3) ((ok_lst n2).mono (by decide)) ?_
  walk_at "go"
  refine g_eqD (K := K) (dp_lst (fun _ _ => dp_P) p4) (dp_lst (fun _ _ => dp_P) q4) ((ok_lst fun x _ => ok_dP x).mono (by decide)) ?_
  walk_at "go"
  refine g_eqD (K := K) (dp_lst (fun _ _ => dp_O) p5) (dp_lst (fun _ _ => dp_O) q5) ((ok_lst n3).mono (by decide)) ?_
  walk_at "go"
  exact q H fun _ _ h => h
end
end
section
/-! part SgLw -/
set_option Elab.async false
set_option maxRecDepth 100000
set_option linter.unusedVariables false
set_option maxHeartbeats 1000000
open PySem PySem.Spec PyProof.Rows L2


section
variable {P : Program} {w : World} {K : PySem.W.Frag} {mg : Str → Option Value} {base : Heap} {f pr : Addr} {fd : FuncData}
def spLawBit : Sp := fun vs H Q _ => ∃ (a : Addr) (vals : List Nat) (l : Nat), vs = [.ref a, .int (l : Int)] ∧ H a = some (.lst (nums vals)) ∧ l / 2 < vals.length ∧ Bits vals ∧ Q (.int (bitOf vals l : Int)) H
theorem ok_law_bit (F : FunD K "_law_bit" "_law_bit" (defArgs s_law_bit) (defBody s_law_bit) (defScope s_law_bit) [] [] f fd) (hm : mg "_law_bit" = some (.ref f)) (T : Txt K mg) : DefOk P w K mg base 1 "_law_bit" ["_law_values_here", "_law_literal_here"] spLawBit := by
  refine ⟨f, fd, hm, F.kp, (FunD.bindsN (ps := ["_law_values_here", "_law_literal_here"]) F fun _ _ _ _ _ _ us hl => match us, hl with | [_, _], _ => rfl), fn_ok F sc_law_bit ?len (fun cdv A outer s H vs Q E hr h => ⟨_, (pss_cons (ps_if (pt_cmpR op_eq (pe_op op_mod (pe_callTy call_int' (by rfl) T.m_int (by decide +kernel) (pa_cons (pv 1) pa_nil)) (pe_int (i := ((2 : Nat) : Int)))) (pe_int (i := ((1 : Nat) : Int))) (nomark _)) (pss_one (ps_ret (pe_op op_sub (pe_int (i := ((1 : Nat) : Int))) (pe_ix (ix_listK (K := K) (by rfl)) (pv 0) (pe_op op_fdiv (pv 1) (pe_int (i := ((2 : Nat) : Int)))) (fun _ _ => rfl))))) pss_nil)
  (pss_one (ps_ret (pe_ix (ix_listK (K := K) (by rfl)) (pv 0) (pe_op op_fdiv (pv 1) (pe_int (i := ((2 : Nat) : Int)))) (fun _ _ => rfl))))), ?_⟩)⟩
  case len => walk_at "ln"
  
  obtain ⟨a, vals, l, rfl, ha, hl, hb, q⟩ := h
  obtain ⟨v, hv⟩ : ∃ v, vals[l / 2]? = some v := ⟨_, List.getElem?_eq_getElem hl⟩
  have hv1 := hb v (List.mem_of_getElem? hv)
  unfold bitOf at q
  rw [getD_of hv, xl_bit hv1] at q
  walk_at "st"
  walk_at "go"
  refine br (fun c1 => ?_) (fun c1 => ?_)
  · rw [if_pos c1] at q
    walk_at "go"
    refine g_ixL ha (nums_get hv) ?_
    walk_at "go"
    exact q
  · rw [if_neg c1] at q
    walk_at "go"
    exact g_ixL ha (nums_get hv) q
theorem g_lawBit {a : Addr} {vals : List Nat} {l : Nat} {H : Hp} {Q : VK} {E : XK} (ha : H a = some (.lst (nums vals))) (hl : l / 2 < vals.length) (hb : Bits vals) (q : Q (.int (bitOf vals l : Int)) H) : spLawBit [.ref a, .int (l : Int)] H Q E := ⟨a, vals, l, rfl, ha, hl, hb, q⟩
def spLawValues : Sp := fun vs H Q _ => ∃ (a b c : Addr) (row st : List Nat) (ands : List (Nat × Nat)), vs = [.ref a, .ref b, .ref c] ∧ H a = some (.lst (nums row)) ∧ H b = some (.lst (nums st)) ∧ LstAt H c IsP ands ∧ Bits row ∧ Bits st ∧ row.length + st.length + ands.length ≤ 10000 ∧ AndsLt (1 + row.length + st.length) ands ∧
  ∀ H' q, Same H H' → H q = none → H' q = some (.lst (nums (valsF (0 :: (row ++ st)) ands))) → Q (.ref q) H'
theorem ok_law_values (F : FunD K "_law_values" "_law_values" (defArgs s_law_values) (defBody s_law_values) (defScope s_law_values) [] [] f fd) (hm : mg "_law_values" = some (.ref f)) (T : Txt K mg) (D_law_bit : DefOk P w K mg base 1 "_law_bit" ["_law_values_here", "_law_literal_here"] spLawBit) : DefOk P w K mg base 2 "_law_values" ["_law_row", "_law_state", "_law_ands_here"] spLawValues := by
  refine ⟨f, fd, hm, F.kp, (FunD.bindsN (ps := ["_law_row", "_law_state", "_law_ands_here"]) F fun _ _ _ _ _ _ us hl => match us, hl with | [_, _, _], _ => rfl), fn_ok F sc_law_values ?len (fun cdv A outer s H vs Q E hr h => ⟨_, (pss_cons (ps_set (i := 3) sc_law_values.nd rfl (Or.inl rfl) (pe_op op_cat (pe_op op_cat (pe_lst (pa_cons (pe_int (i := ((0 : Nat) : Int))) pa_nil)) (pe_callTy (call_listK (K := K) (by rfl)) (by rfl) T.m_list (by decide +kernel) (pa_cons (pv 0) pa_nil))) (pe_callTy (call_listK (K := K) (by rfl)) (by rfl) T.m_list (by decide +kernel) (pa_cons (pv 1) pa_nil))))
  (pss_cons (ps_for PassesOwn.never rfl (pi_list (pv 2)) (pg_name (i := 4) sc_law_values.nd rfl (Or.inl rfl))
  (pss_one (ps_expr (pe_bm PySem.F.plainAttrs_list PySem.F.slot_list_append PySem.F.type_list_append mt_append (pv 3) (pa_cons (pe_op op_mul (pe_callD D_law_bit (hr.mono (by decide)) (by rfl) (pa_cons (pv 3) (pa_cons (pe_ix (ix_tupK (K := K) (by rfl)) (pv 4) (pe_int (i := ((0 : Nat) : Int))) (fun _ _ => rfl)) pa_nil))) (pe_callD D_law_bit (hr.mono (by decide)) (by rfl) (pa_cons (pv 3) (pa_cons (pe_ix (ix_tupK (K := K) (by rfl)) (pv 4) (pe_int (i := ((1 : Nat) : Int))) (fun _ _ => rfl)) pa_nil)))) pa_nil)))))
  (pss_one (ps_ret (pv 3))))), ?_⟩)⟩
  case len => walk_at "ln"
  
  obtain ⟨a, b, c, row, st, ands, rfl, ha, hb, ⟨va, h3, r3⟩, br1, br2, hz, hA, q⟩ := h
  walk_at "st"
  walk_at "go"
  intro l2 hl2
  rename_i l1 hl1
  have e0 : (upd H l1 (.lst [V.int ((0 : Nat) : Int)])) l1 = some (.lst (nums [0])) := upd_same
  refine g_catN (lk_new hl2 e0) upd_same (by show 1 + _ ≤ _; omega) (fun l3 hl3 => ?_)
  have s3 : Same H _ := L2.Same.trans (L2.Same.trans (Same.new hl1) (Same.new hl2)) (Same.new (o := .lst (nums ([0] ++ row))) hl3)
  have e3 : (upd (upd (upd H l1 (.lst [V.int ((0 : Nat) : Int)])) l2 (.lst (nums row))) l3 (.lst (nums ([0] ++ row)))) l3 = some (.lst (nums ([0] ++ row))) := upd_same
  generalize upd (upd (upd H l1 (.lst [V.int ((0 : Nat) : Int)])) l2 (.lst (nums row))) l3 (.lst (nums ([0] ++ row))) = H3 at *
  have hb3 := s3 _ _ hb
  clear e0 hl2 hl3
  walk_at "go"
  intro l4 hl4
  refine g_catN (lk_new hl4 e3) upd_same (by rw [List.length_append]; show 1 + _ + _ ≤ _; omega) (fun vq hvq => ?_)
  have s5 : Same H (upd H3 l4 (.lst (nums st))) := L2.Same.trans s3 (Same.new hl4)
  generalize upd H3 l4 (.lst (nums st)) = H5 at *
  have hvq0 : H vq = none := Same.free s5 hvq
  walk_at "go"
  refine g_rForL (xs := va) (lk_new hvq (s5 _ _ h3)) (fun i σ H' => ∃ o1, σ = [some (.ref a), some (.ref b), some (.ref c), some (.ref vq), o1] ∧ Same H H' ∧ H' vq = some (.lst (nums (valsF (0 :: (row ++ st)) (ands.take i))))) ⟨_, rfl, L2.Same.trans s5 (Same.new hvq), upd_same⟩ ?_ ?_ ?_
  · rintro i σ H' hi ⟨_, rfl, hS, hL⟩
    exact hS _ _ h3
  · rintro i v σ H' hv ⟨_, rfl, hS, hL⟩
    obtain ⟨⟨l, r⟩, hp, t, rfl, ht⟩ := r3.2 i v hv
    obtain ⟨b1, b2⟩ := hA i l r hp
    have hlen : (valsF (0 :: (row ++ st)) (ands.take i)).length = 1 + row.length + st.length + i := by
      rw [valsF_len, take_len hp, List.length_cons, List.length_append]
      omega
    have hbits : Bits (valsF (0 :: (row ++ st)) (ands.take i)) := valsF_bits _ _ fun x hx => by
      rcases List.mem_cons.mp hx with rfl | hx
      · exact Nat.zero_le _
      · exact (List.mem_append.mp hx).elim (br1 x) (br2 x)
    have ht' := hS _ _ ht
    walk_at "go"
    refine g_lawBit (l := l) hL (by omega) hbits ?_
    walk_at "go"
    refine g_lawBit (l := r) hL (by omega) hbits ?_
    have c1 := bitOf_le hbits l
    have c2 := bitOf_le hbits r
    walk_at "go"
    · refine ⟨_, rfl, Same.mut hS hvq0, ?_⟩
      rw [take_snoc hp, valsF_snoc, and_mul c1 c2]
      exact upd_same
    · have := lt_of_get hp
      omega
  · rintro σ H' ⟨_, rfl, hS, hL⟩
    rw [r3.1, List.take_length] at hL
    walk_at "go"
    exact q H' vq hS hvq0 hL
end
end
section
/-! part SgLw2 -/
set_option Elab.async false
set_option maxRecDepth 100000
set_option linter.unusedVariables false
set_option maxHeartbeats 1000000
open PySem PySem.Spec PyProof.Rows L2


section
variable {P : Program} {w : World} {K : PySem.W.Frag} {mg : Str → Option Value} {base : Heap} {f pr : Addr} {fd : FuncData}
def spLawBits : Sp := fun vs H Q _ => ∃ x n : Nat, vs = [.int (x : Int), .int (n : Int)] ∧ n ≤ 1000 ∧ ∀ H' q, Same H H' → H q = none → H' q = some (.lst (nums (bitsL x n))) → Q (.ref q) H'
theorem ok_law_bits (F : FunD K "_law_bits" "_law_bits" (defArgs s_law_bits) (defBody s_law_bits) (defScope s_law_bits) [] [] f fd) (hm : mg "_law_bits" = some (.ref f)) (T : Txt K mg) : DefOk P w K mg base 1 "_law_bits" ["_law_number", "_law_count"] spLawBits := by
  refine ⟨f, fd, hm, F.kp, (FunD.bindsN (ps := ["_law_number", "_law_count"]) F fun _ _ _ _ _ _ us hl => match us, hl with | [_, _], _ => rfl), fn_ok F sc_law_bits ?len (fun cdv A outer s H vs Q E hr h => ⟨_, (pss_cons (ps_set (i := 2) sc_law_bits.nd rfl (Or.inl rfl) (pe_lst pa_nil))
  (pss_cons (ps_for PassesOwn.never rfl (pi_range1 (by rfl) T.m_range (pa_cons (pv 1) pa_nil)) (pg_name (i := 3) sc_law_bits.nd rfl (Or.inl rfl))
  (pss_cons (ps_expr (pe_bm PySem.F.plainAttrs_list PySem.F.slot_list_append PySem.F.type_list_append mt_append (pv 2) (pa_cons (pe_op op_mod (pe_callTy call_int' (by rfl) T.m_int (by decide +kernel) (pa_cons (pv 0) pa_nil)) (pe_int (i := ((2 : Nat) : Int)))) pa_nil)))
  (pss_one (ps_set (i := 0) sc_law_bits.nd rfl (Or.inl rfl) (pe_op op_fdivW (pe_callTy call_int' (by rfl) T.m_int (by decide +kernel) (pa_cons (pv 0) pa_nil)) (pe_int (i := ((2 : Nat) : Int))))))))
  (pss_one (ps_ret (pv 2))))), ?_⟩)⟩
  case len => walk_at "ln"
  
  obtain ⟨x, n, rfl, hn, q⟩ := h
  walk_at "st"
  walk_at "go"
  rename_i l1 hl1
  refine g_rForR (by omega) (fun i σ H' => ∃ o1, σ = [some (.int ((x / 2 ^ i : Nat) : Int)), some (.int (n : Int)), some (.ref l1), o1] ∧ Same H H' ∧ H' l1 = some (.lst (nums (bitsL x i)))) ⟨_, by rw [Nat.pow_zero, Nat.div_one], by walk_at "ex", upd_same⟩ ?_ ?_
  · rintro i σ H' hi ⟨_, rfl, hS, hL⟩
    walk_at "go"
    · refine ⟨_, by rw [Nat.div_div_eq_div_mul, ← Nat.pow_succ], by walk_at "ex", ?_⟩
      rw [bitsL_snoc]
      exact upd_same
    · rw [bitsL_len]; omega
  · rintro σ H' ⟨_, rfl, hS, hL⟩
    walk_at "go"
    exact q H' l1 hS hl1 hL
def PartsAt (H : Hp) (p : Addr) (c : Cir Str) : Prop := ∃ li ll la lo : Addr, H p = some (.lst [.ref li, .ref ll, .ref la, .ref lo]) ∧ LstAt H li IsS c.ins ∧ LstAt H ll IsL c.lat ∧ LstAt H la IsP c.ands ∧ LstAt H lo IsO c.outs
theorem PartsAt.mono {H H' : Hp} {p : Addr} {c : Cir Str} (s : Same H H') (h : PartsAt H p c) : PartsAt H' p c := by
  obtain ⟨li, ll, la, lo, h1, h2, h3, h4, h5⟩ := h
  exact ⟨li, ll, la, lo, s _ _ h1, h2.mono mono_S s, h3.mono mono_L s, h4.mono mono_P s, h5.mono mono_O s⟩
def spLawNext : Sp := fun vs H Q _ => ∃ (p a b : Addr) (c : Cir Str) (st row : List Nat), vs = [.ref p, .ref a, .ref b] ∧ PartsAt H p c ∧ H a = some (.lst (nums st)) ∧ H b = some (.lst (nums row)) ∧ CirOk c ∧ Bits st ∧ Bits row ∧ st.length = c.lat.length ∧ row.length = c.ins.length ∧
  ∀ H' q u v, Same H H' → H q = none → H' q = some (.tup [.ref u, .ref v]) → H' u = some (.lst (nums (outF c st row))) → H' v = some (.lst (nums (nextF c st row))) → Q (.ref q) H'
theorem ok_law_next (F : FunD K "_law_next" "_law_next" (defArgs s_law_next) (defBody s_law_next) (defScope s_law_next) [] [] f fd) (hm : mg "_law_next" = some (.ref f)) (T : Txt K mg) (D_law_values : DefOk P w K mg base 2 "_law_values" ["_law_row", "_law_state", "_law_ands_here"] spLawValues) (D_law_bit : DefOk P w K mg base 1 "_law_bit" ["_law_values_here", "_law_literal_here"] spLawBit) : DefOk P w K mg base 3 "_law_next" ["_law_parts_here", "_law_state", "_law_row"] spLawNext := by
  refine ⟨f, fd, hm, F.kp, (FunD.bindsN (ps := ["_law_parts_here", "_law_state", "_law_row"]) F fun _ _ _ _ _ _ us hl => match us, hl with | [_, _, _], _ => rfl), fn_ok F sc_law_next ?len (fun cdv A outer s H vs Q E hr h => ⟨_, (pss_cons (ps_set (i := 3) sc_law_next.nd rfl (Or.inr rfl) (pe_callD D_law_values (hr.mono (by decide)) (by rfl) (pa_cons (pv 2) (pa_cons (pv 1) (pa_cons (pe_ix (ix_listK (K := K) (by rfl)) (pv 0) (pe_int (i := ((2 : Nat) : Int))) (fun _ _ => rfl)) pa_nil)))))
  (pss_cons (ps_setLc (i := 4) (own := [("_law_pair", 5)]) (by rfl) sc_law_next.nd rfl rfl (sw_true rfl rfl rfl (by decide +kernel)) (pi_list (pe_ix (ix_listK (K := K) (by rfl)) (pv 0) (pe_int (i := ((3 : Nat) : Int))) (fun _ _ => rfl))) (blkOk_by (own := [("_law_pair", 5)]) (N := ["_law_parts_here", "_law_state", "_law_row", "_law_values_here", "_law_outputs", "_law_pair", "_law_latch"]) (sc := defScope s_law_next) (by decide +kernel)) (fun _ _ _ _ _ => by exact (pg_name (i := 5) sc_law_next.nd rfl (Or.inl rfl))) (fun _ _ _ _ _ => by exact pts_nil) (fun _ _ _ _ _ => by exact (pe_callD D_law_bit (hr.mono (by decide)) (by rfl) (pa_cons (pv 3) (pa_cons (pe_ix (ix_tupK (K := K) (by rfl)) (pv 5) (pe_int (i := ((1 : Nat) : Int))) (fun _ _ => rfl)) pa_nil)))))
  (pss_one (ps_ret (pe_tup (pa_cons (pv 4) (pa_cons (by exact (pe_lc (own := [("_law_latch", 6)]) (by rfl) sc_law_next.nd (pi_list (pe_ix (ix_listK (K := K) (by rfl)) (pv 0) (pe_int (i := ((1 : Nat) : Int))) (fun _ _ => rfl))) (blkOk_by (own := [("_law_latch", 6)]) (N := ["_law_parts_here", "_law_state", "_law_row", "_law_values_here", "_law_outputs", "_law_pair", "_law_latch"]) (sc := defScope s_law_next) (by decide +kernel)) (fun _ _ _ _ _ => by exact (pg_name (i := 6) sc_law_next.nd rfl (Or.inl rfl))) (fun _ _ _ _ _ => by exact pts_nil) (fun _ _ _ _ _ => by exact (pe_callD D_law_bit (hr.mono (by decide)) (by rfl) (pa_cons (pv 3) (pa_cons (pe_ix (ix_tupK (K := K) (by rfl)) (pv 6) (pe_int (i := ((2 : Nat) : Int))) (fun _ _ => rfl)) pa_nil)))))) pa_nil))))))), ?_⟩)⟩
  case len => walk_at "ln"
  
  obtain ⟨p, a, b, c, st, row, rfl, ⟨li, ll, la, lo, h1, h2, ⟨vl, h3, r3⟩, h4, ⟨vo, h5, r5⟩⟩, ha, hb, hk, bs, br', hst, hrow, q⟩ := h
  have hnn := hk.nn_le
  have hvl := cirVals_len hst hrow
  walk_at "st"
  walk_at "go"
  refine ⟨b, a, la, row, st, c.ands, rfl, hb, ha, h4, br', bs, by unfold Cir.nn at hnn; omega, by rw [hst, hrow]; exact fun i l r e => (by have := hk.ands.2 i l r e; unfold Cir.fa at this; omega), fun H1 vq hS1 hvq hV => ?_⟩
  have hbits : Bits (cirVals c st row) := valsF_bits _ _ fun x hx => by
    rcases List.mem_cons.mp hx with rfl | hx
    · exact Nat.zero_le _
    · exact (List.mem_append.mp hx).elim (br' x) (bs x)
  have hV' : H1 vq = some (.lst (nums (cirVals c st row))) := hV
  clear hV
  walk_at "go"
  refine g_rLcLT (xs := vo) (rep := IsI) (bs := outF c st row) (hS1 _ _ h5) (by rw [r5.1]; have := hk.outs.1; omega) (by rw [r5.1]; exact List.length_map ..) mono_I stab_I (fun D i x y H3 hD hx hb hS3 Qy hQ => ?_) (fun u H3 hu hS3 hL3 => ?_)
  · obtain ⟨⟨s, l⟩, hs, t, rfl, ht⟩ := r5.2 i x hx
    unfold outF at hb
    rw [map_get hs] at hb
    cases hb
    have ht' := hS3 _ _ (hS1 _ _ ht)
    have hl := hk.outs.2.2.2 _ (List.mem_of_getElem? hs)
    dsimp only at hl
    walk_at "go"
    refine g_lawBit (l := l) (hS3 _ _ hV') (by omega) hbits ?_
    exact hQ _ _ (L2.Same.refl _) rfl
  have s3 := L2.Same.trans hS1 hS3
  have hV3 := hS3 _ _ hV'
  walk_at "go"
  refine g_rLcLT (xs := vl) (rep := IsI) (bs := nextF c st row) (s3 _ _ h3) (by rw [r3.1]; have := hk.leaf.2.1; omega) (by rw [r3.1]; exact List.length_map ..) mono_I stab_I (fun D i x y H4 hD hx hb hS4 Qy hQ => ?_) (fun v H4 hv hS4 hL4 => ?_)
  · obtain ⟨⟨s, z, l⟩, hs, t, rfl, ht⟩ := r3.2 i x hx
    unfold nextF at hb
    rw [map_get hs] at hb
    cases hb
    have ht' := hS4 _ _ (s3 _ _ ht)
    have hl := (hk.leaf.2.2.2.2 _ (List.mem_of_getElem? hs)).2
    dsimp only at hl
    walk_at "go"
    refine g_lawBit (l := l) (hS4 _ _ hV3) (by omega) hbits ?_
    exact hQ _ _ (L2.Same.refl _) rfl
  walk_at "go"
  rename_i q5 hq5
  refine q _ q5 u v (L2.Same.trans s3 (L2.Same.trans hS4 (Same.new hq5))) (by walk_at "nn") upd_same (lk_new hq5 (hS4 _ _ (LstAt.nums.mp hL3))) (lk_new hq5 (LstAt.nums.mp hL4))
end
end
section
/-! part SgLr -/
set_option Elab.async false
set_option maxRecDepth 100000
set_option linter.unusedVariables false
set_option maxHeartbeats 1000000
open PySem PySem.Spec PyProof.Rows L2


section
variable {σ : L2.St} {H : Hp} {Q : VK} {K : PySem.W.Frag}
theorem g_mulB {a b : Nat} (h : b < 2 ^ 64) (q : Q (.int ((a * b : Nat) : Int)) H) : rI CMul (fun i j => V.int (i * j)) (.int (a : Int)) (.int (b : Int)) H Q := ⟨_, _, rfl, rfl, .inr ⟨by omega, by omega⟩, q⟩
theorem g_mulA {a b : Nat} (h : a < 2 ^ 64) (q : Q (.int ((a * b : Nat) : Int)) H) : rI CMul (fun i j => V.int (i * j)) (.int (a : Int)) (.int (b : Int)) H Q := ⟨_, _, rfl, rfl, .inl ⟨by omega, by omega⟩, q⟩
end
section
variable {P : Program} {w : World} {K : PySem.W.Frag} {mg : Str → Option Value} {base : Heap} {f pr : Addr} {fd : FuncData}
/-- a literal of n nodes -/
def spLawLiteral : Sp := fun vs H Q _ => ∃ r e n : Nat, vs = [.int (r : Int), .int (e : Int), .int (n : Int)] ∧ 0 < n ∧ n < 1000 ∧ ∀ l : Nat, l < 2 * n → Q (.int (l : Int)) H
theorem ok_law_literal (F : FunD K "_law_literal" "_law_literal" (defArgs s_law_literal) (defBody s_law_literal) (defScope s_law_literal) [] [] f fd) (hm : mg "_law_literal" = some (.ref f)) (T : Txt K mg) : DefOk P w K mg base 1 "_law_literal" ["_law_row", "_law_near", "_law_count"] spLawLiteral := by
  refine ⟨f, fd, hm, F.kp, (FunD.bindsN (ps := ["_law_row", "_law_near", "_law_count"]) F fun _ _ _ _ _ _ us hl => match us, hl with | [_, _, _], _ => rfl), fn_ok F sc_law_literal ?len (fun cdv A outer s H vs Q E hr h => ⟨_, (pss_cons (ps_set (i := 3) sc_law_literal.nd rfl (Or.inl rfl) (pe_op op_mod (pe_callTy call_int' (by rfl) T.m_int (by decide +kernel) (pa_cons (pv 0) pa_nil)) (pv 2)))
  (pss_cons (ps_if (pt_cmpR op_eq (pe_op op_mod (pe_callTy call_int' (by rfl) T.m_int (by decide +kernel) (pa_cons (pv 1) pa_nil)) (pe_int (i := ((2 : Nat) : Int)))) (pe_int (i := ((1 : Nat) : Int))) (nomark _)) (pss_one (ps_set (i := 3) sc_law_literal.nd rfl (Or.inl rfl) (pe_op op_sub (pe_op op_sub (pv 2) (pe_int (i := ((1 : Nat) : Int)))) (pe_op op_mod (pv 3) (pe_callB (call_min' rfl) (by rfl) T.m_min (by decide +kernel) (pa_cons (pe_int (i := ((4 : Nat) : Int))) (pa_cons (pv 2) pa_nil))))))) pss_nil)
  (pss_one (ps_ret (pe_op op_add (pe_op op_mul (pe_int (i := ((2 : Nat) : Int))) (pv 3)) (pe_op op_mod (pe_op op_fdivW (pe_callTy call_int' (by rfl) T.m_int (by decide +kernel) (pa_cons (pv 0) pa_nil)) (pv 2)) (pe_int (i := ((2 : Nat) : Int))))))))), ?_⟩)⟩
  case len => walk_at "ln"
  
  obtain ⟨r, e, n, rfl, hn, hz, q⟩ := h
  have key : ∀ k : Nat, k < n → 2 * k + r / n % 2 < 2 * n := fun k hk => by
    have := Nat.mod_lt (r / n) (show 0 < 2 by decide)
    omega
  walk_at "st"
  walk_at "go"
  refine br (fun c1 => ?_) (fun c1 => ?_)
  · walk_at "go"
    have m1 : min 4 n ≤ n := Nat.min_le_right ..
    have m2 : 0 < min 4 n := by rw [Nat.lt_min]; exact ⟨by decide, hn⟩
    have m3 := Nat.mod_lt (r % n) m2
    refine g_sub (by omega) ?_
    walk_at "go"
    exact q _ (key _ (by omega))
  · walk_at "go"
    exact q _ (key _ (Nat.mod_lt _ hn))
/-- and pairs below their own places -/
def spLawAnds (K : PySem.W.Frag) : Sp := fun vs H Q _ => ∃ (a : Addr) (rows : List Nat) (at_ fa n : Nat), vs = [.ref a, .int (at_ : Int), .int (fa : Int), .int (n : Int)] ∧ H a = some (.lst (nums rows)) ∧ at_ + n ≤ rows.length ∧ rows.length ≤ 1000 ∧ 0 < fa ∧ fa + n < 900 ∧
  ∀ H' q ands, Same H H' → H q = none → LstAt H' q IsP ands → ands.length = n → (∀ (i l r : Nat), ands[i]? = some (l, r) → l < 2 * (fa + i) ∧ r < 2 * (fa + i)) → Q (.ref q) H'
theorem ok_law_ands (F : FunD K "_law_ands" "_law_ands" (defArgs s_law_ands) (defBody s_law_ands) (defScope s_law_ands) [] [] f fd) (hm : mg "_law_ands" = some (.ref f)) (T : Txt K mg) (D_law_literal : DefOk P w K mg base 1 "_law_literal" ["_law_row", "_law_near", "_law_count"] spLawLiteral) : DefOk P w K mg base 2 "_law_ands" ["_law_rows_here", "_law_at", "_law_first_and", "_law_count"] (spLawAnds K) := by
  refine ⟨f, fd, hm, F.kp, (FunD.bindsN (ps := ["_law_rows_here", "_law_at", "_law_first_and", "_law_count"]) F fun _ _ _ _ _ _ us hl => match us, hl with | [_, _, _, _], _ => rfl), fn_ok F sc_law_ands ?len (fun cdv A outer s H vs Q E hr h => ⟨_, (pss_cons (ps_set (i := 4) sc_law_ands.nd rfl (Or.inl rfl) (pe_lst pa_nil))
  (pss_cons (ps_for PassesOwn.never rfl (pi_range1 (by rfl) T.m_range (pa_cons (pv 3) pa_nil)) (pg_name (i := 5) sc_law_ands.nd rfl (Or.inl rfl))
  (pss_cons (ps_set (i := 6) sc_law_ands.nd rfl (Or.inl rfl) (pe_op op_fdivW (pe_ix (ix_listK (K := K) (by rfl)) (pv 0) (pe_op op_add (pv 1) (pv 5)) (fun _ _ => rfl)) (pe_int (i := ((4 : Nat) : Int)))))
  (pss_cons (ps_set (i := 7) sc_law_ands.nd rfl (Or.inl rfl) (pe_op op_add (pv 2) (pv 5)))
  (pss_cons (ps_set (i := 8) sc_law_ands.nd rfl (Or.inl rfl) (pe_callD D_law_literal (hr.mono (by decide)) (by rfl) (pa_cons (pv 6) (pa_cons (pe_ix (ix_listK (K := K) (by rfl)) (pv 0) (pe_op op_add (pv 1) (pv 5)) (fun _ _ => rfl)) (pa_cons (pv 7) pa_nil)))))
  (pss_cons (ps_set (i := 9) sc_law_ands.nd rfl (Or.inl rfl) (pe_callD D_law_literal (hr.mono (by decide)) (by rfl) (pa_cons (pe_op op_fdivW (pv 6) (pe_op op_mul (pe_int (i := ((2 : Nat) : Int))) (pv 7))) (pa_cons (pe_op op_fdivW (pe_ix (ix_listK (K := K) (by rfl)) (pv 0) (pe_op op_add (pv 1) (pv 5)) (fun _ _ => rfl)) (pe_int (i := ((2 : Nat) : Int)))) (pa_cons (pv 7) pa_nil)))))
  (pss_one (ps_expr (pe_bm PySem.F.plainAttrs_list PySem.F.slot_list_append PySem.F.type_list_append mt_append (pv 4) (pa_cons (pe_tup (pa_cons (pv 8) (pa_cons (pv 9) pa_nil))) pa_nil)))))))))
  (pss_one (ps_ret (pv 4))))), ?_⟩)⟩
  case len => walk_at "ln"
  
  obtain ⟨a, rows, at_, fa, n, rfl, ha, hz, hr1, hfa, hfn, q⟩ := h
  walk_at "st"
  walk_at "go"
  rename_i l1 hl1
  refine g_rForR (by omega) (fun i σ H' => ∃ o1 o2 o3 o4 o5 ands, σ = [some (.ref a), some (.int (at_ : Int)), some (.int (fa : Int)), some (.int (n : Int)), some (.ref l1), o1, o2, o3, o4, o5] ∧ Same H H' ∧ LstAt H' l1 IsP ands ∧ ands.length = i ∧ ∀ (i l r : Nat), ands[i]? = some (l, r) → l < 2 * (fa + i) ∧ r < 2 * (fa + i)) ⟨_, _, _, _, _, [], rfl, by walk_at "ex", ⟨[], upd_same, All2.nil⟩, rfl, fun i l r e => by simp at e⟩ ?_ ?_
  · rintro i σ H' hi ⟨_, _, _, _, _, ands, rfl, hS, hL, hn, hA⟩
    have ha' := hS _ _ ha
    obtain ⟨v, hv⟩ : ∃ v, rows[at_ + i]? = some v := ⟨_, List.getElem?_eq_getElem (by omega)⟩
    walk_at "go"
    refine g_ixL ha' (nums_get hv) ?_
    walk_at "go"
    refine g_ixL ha' (nums_get hv) ?_
    walk_at "go"
    refine ⟨_, _, _, rfl, by omega, by omega, fun l hl => ?_⟩
    walk_at "go"
    refine g_ixL ha' (nums_get hv) ?_
    walk_at "go"
    refine ⟨_, _, _, rfl, by omega, by omega, fun r hr => ?_⟩
    walk_at "go"
    · rename_i t ht hE
      refine ⟨_, _, _, _, _, ands ++ [(l, r)], rfl, by walk_at "ex", by assumption, by rw [List.length_append, hn]; rfl, fun j l2 r2 e => ?_⟩
      rcases Nat.lt_or_ge j ands.length with hj | hj
      · rw [List.getElem?_append_left hj] at e
        exact hA j l2 r2 e
      · have hj2 := lt_of_get e
        rw [List.length_append] at hj2
        have ej : j = i := by
          have : j < ands.length + 1 := hj2
          omega
        subst ej
        rw [List.getElem?_append_right hj, hn, Nat.sub_self] at e
        cases e
        exact ⟨hl, hr⟩
    · omega
  · rintro σ H' ⟨_, _, _, _, _, ands, rfl, hS, hL, hn, hA⟩
    walk_at "go"
    exact q H' l1 ands hS hl1 hL hn hA
end
end
section
/-! part SgLr2 -/
set_option Elab.async false
set_option maxRecDepth 100000
set_option linter.unusedVariables false
set_option maxHeartbeats 1000000
open PySem PySem.Spec PyProof.Rows L2


section
variable {P : Program} {w : World} {K : PySem.W.Frag} {mg : Str → Option Value} {base : Heap} {f pr : Addr} {fd : FuncData}
def spLawRows (K : PySem.W.Frag) : Sp := fun vs H Q _ => ∃ (a : Addr) (ns : List Int) (n : Nat), vs = [.ref a, .int (n : Int)] ∧ SqL K H a (ns.map V.int) ∧ ns.length ≤ 1000 ∧ n ≤ 1000 ∧ ∀ H' q rows, Same H H' → H q = none → H' q = some (.lst (nums rows)) → rows.length = n → Q (.ref q) H'
theorem ok_law_rows (F : FunD K "_law_rows" "_law_rows" (defArgs s_law_rows) (defBody s_law_rows) (defScope s_law_rows) [] [] f fd) (hm : mg "_law_rows" = some (.ref f)) (T : Txt K mg) : DefOk P w K mg base 1 "_law_rows" ["_law_script", "_law_count"] (spLawRows K) := by
  refine ⟨f, fd, hm, F.kp, (FunD.bindsN (ps := ["_law_script", "_law_count"]) F fun _ _ _ _ _ _ us hl => match us, hl with | [_, _], _ => rfl), fn_ok F sc_law_rows ?len (fun cdv A outer s H vs Q E hr h => ⟨_, (pss_cons (ps_set (i := 2) sc_law_rows.nd rfl (Or.inl rfl) (pe_lst pa_nil))
  (pss_cons (ps_for PassesOwn.never rfl (pi_range1 (by rfl) T.m_range (pa_cons (pv 1) pa_nil)) (pg_name (i := 3) sc_law_rows.nd rfl (Or.inl rfl))
  (pss_cons (ps_set (i := 4) sc_law_rows.nd rfl (Or.inl rfl) (pe_int (i := ((0 : Nat) : Int))))
  (C8.pss_cut (ps_if (pt_cmpR op_gt (pe_callB (call_lenK (K := K) (by rfl)) (by rfl) T.m_len (by decide +kernel) (pa_cons (pv 0) pa_nil)) (pe_int (i := ((0 : Nat) : Int))) (nomark _)) (pss_one (ps_set (i := 4) sc_law_rows.nd rfl (Or.inl rfl) (pe_callTy call_int' (by rfl) T.m_int (by decide +kernel) (pa_cons (pe_ix (ix_listK (K := K) (by rfl)) (pv 0) (pe_op op_mod (pv 3) (pe_callB (call_lenK (K := K) (by rfl)) (by rfl) T.m_len (by decide +kernel) (pa_cons (pv 0) pa_nil))) (fun _ _ => rfl)) pa_nil)))) pss_nil)
  (C8.pss_cut (ps_if (pt_cmpR op_lt (pv 4) (pe_int (i := ((0 : Nat) : Int))) (nomark _)) (pss_one (ps_set (i := 4) sc_law_rows.nd rfl (Or.inl rfl) (pe_op op_sub (pe_int (i := ((1 : Nat) : Int))) (pe_op op_mul (pe_int (i := ((2 : Nat) : Int))) (pv 4))))) pss_nil)
  (C8.pss_cut (ps_if (PW.pt (pw_or (pt_cmpR op_ge (pv 3) (pe_callB (call_lenK (K := K) (by rfl)) (by rfl) T.m_len (by decide +kernel) (pa_cons (pv 0) pa_nil)) (nomark _)) (pw_or1 (pt_cmpR op_lt (pv 4) (pe_op op_pow (pe_int (i := ((10 : Nat) : Int))) (pe_int (i := ((9 : Nat) : Int)))) (nomark _))))) (pss_cons (ps_set (i := 4) sc_law_rows.nd rfl (Or.inl rfl) (pe_op op_mod (pe_callTy call_int' (by rfl) T.m_int (by decide +kernel) (pa_cons (pe_op op_mul (pe_op op_add (pe_op op_add (pv 4) (pe_op op_mul (pe_int (i := ((211 : Nat) : Int))) (pv 3))) (pe_int (i := ((5 : Nat) : Int)))) (pe_int (i := ((6364136223846793005 : Nat) : Int)))) pa_nil)) (pe_int (i := ((2305843009213693951 : Nat) : Int)))))
  (pss_one (ps_set (i := 4) sc_law_rows.nd rfl (Or.inl rfl) (pe_op op_mod (pe_callTy call_int' (by rfl) T.m_int (by decide +kernel) (pa_cons (pe_op op_mul (pe_op op_add (pe_op op_add (pe_op op_fdivW (pv 4) (pe_int (i := ((32 : Nat) : Int)))) (pe_op op_mul (pe_int (i := ((17 : Nat) : Int))) (pv 3))) (pe_int (i := ((9 : Nat) : Int)))) (pe_int (i := ((2862933555777941757 : Nat) : Int)))) pa_nil)) (pe_int (i := ((18446744073709551557 : Nat) : Int))))))) pss_nil)
  (pss_one (ps_expr (pe_bm PySem.F.plainAttrs_list PySem.F.slot_list_append PySem.F.type_list_append mt_append (pv 2) (pa_cons (pv 4) pa_nil)))))))))
  (pss_one (ps_ret (pv 2))))), ?_⟩)⟩
  case len => walk_at "ln"
  
  obtain ⟨a, ns, n, rfl, ha, hz, hn, q⟩ := h
  have e9 : ((10 : Nat) : Int) ^ ((9 : Nat) : Int).toNat = ((1000000000 : Nat) : Int) := by decide
  walk_at "st"
  walk_at "go"
  rename_i l1 hl1
  refine g_rForR (by omega) (fun i σ H' => ∃ o1 o2 rows, σ = [some (.ref a), some (.int (n : Int)), some (.ref l1), o1, o2] ∧ Same H H' ∧ H' l1 = some (.lst (nums rows)) ∧ rows.length = i) ⟨_, _, [], rfl, by walk_at "ex", upd_same, rfl⟩ ?_ ?_
  · rintro i σ H' hi ⟨_, _, rows, rfl, hS, hL, hr⟩
    have ha' : SqL K H' a (ns.map V.int) := SqL.ext ha hS
    walk_at "go"
    refine ⟨fun σ' H2 => ∃ z : Int, σ' = [some (.ref a), some (.int (n : Int)), some (.ref l1), some (.int (i : Int)), some (.int z)] ∧ H' = H2, ?_, ?_⟩
    · walk_at "go"
      refine ⟨a, _, rfl, .inl ha', ?_⟩
      rw [List.length_map]
      walk_at "go"
      refine br (fun c1 => ?_) (fun c1 => ?_)
      · walk_at "go"
        refine ⟨a, _, rfl, .inl ha', ?_⟩
        rw [List.length_map]
        walk_at "go"
        obtain ⟨z, hz⟩ : ∃ z, ns[i % ns.length]? = some z := ⟨_, List.getElem?_eq_getElem (Nat.mod_lt _ c1)⟩
        refine ⟨a, _, _, .int z, rfl, rfl, ha', atI_nat (by rw [List.getElem?_map, hz]; rfl), ?_⟩
        walk_at "go"
        exact ⟨z, rfl, rfl⟩
      · walk_at "go"
        exact ⟨0, rfl, rfl⟩
    · rintro σ' H2 ⟨z, rfl, rfl⟩
      refine ⟨fun σ' H2 => ∃ c : Nat, σ' = [some (.ref a), some (.int (n : Int)), some (.ref l1), some (.int (i : Int)), some (.int (c : Int))] ∧ H' = H2, ?_, ?_⟩
      · walk_at "go"
        refine ⟨z, _, rfl, rfl, ?_⟩
        walk_at "go"
        refine br (fun c1 => ?_) (fun c1 => ?_)
        · walk_at "go"
          refine ⟨((2 : Nat) : Int), z, rfl, rfl, .inl ⟨by decide, by decide⟩, ?_⟩
          refine ⟨((1 : Nat) : Int), _, rfl, rfl, ?_⟩
          walk_at "go"
          refine ⟨(1 - 2 * z).toNat, ?_, rfl⟩
          have c1' : z < 0 := c1
          have e : ((1 : Nat) : Int) - ((2 : Nat) : Int) * z = (((1 - 2 * z).toNat : Nat) : Int) := by omega
          rw [e]
        · walk_at "go"
          refine ⟨z.toNat, ?_, rfl⟩
          have c1' : ¬ z < 0 := c1
          have e : z = ((z.toNat : Nat) : Int) := by omega
          rw [← e]
      · rintro σ' H2 ⟨c, rfl, rfl⟩
        refine ⟨fun σ' H2 => ∃ c : Nat, σ' = [some (.ref a), some (.int (n : Int)), some (.ref l1), some (.int (i : Int)), some (.int (c : Int))] ∧ H' = H2, ?_, ?_⟩
        · walk_at "go"
          refine ⟨a, _, rfl, .inl ha', ?_⟩
          rw [List.length_map]
          walk_at "go"
          refine br (fun c1 => ?_) (fun c1 => ?_)
          · walk_at "go"
            refine g_mulB (by decide) ?_
            walk_at "go"
            refine g_mulB (by decide) ?_
            walk_at "go"
            exact ⟨_, rfl, rfl⟩
          walk_at "go"
          refine ⟨_, _, rfl, rfl, ⟨by decide, by decide, by decide⟩, ?_⟩
          dsimp only
          rw [e9]
          walk_at "go"
          refine br (fun c2 => ?_) (fun c2 => ?_)
          · walk_at "go"
            refine g_mulB (by decide) ?_
            walk_at "go"
            refine g_mulB (by decide) ?_
            walk_at "go"
            exact ⟨_, rfl, rfl⟩
          walk_at "go"
          exact ⟨_, rfl, rfl⟩
        · rintro σ' H2 ⟨c, rfl, rfl⟩
          walk_at "go"
          · refine ⟨_, _, rows ++ [c], rfl, by walk_at "ex", upd_same, by rw [List.length_append, hr]; rfl⟩
          · omega
  · rintro σ H' ⟨_, _, rows, rfl, hS, hL, hr⟩
    walk_at "go"
    exact q H' l1 rows hS hl1 hL hr
end
end
section
/-! part SgLn -/
set_option Elab.async false
set_option maxRecDepth 100000
set_option linter.unusedVariables false
set_option maxHeartbeats 1000000
open PySem PySem.Spec PyProof.Rows L2


def sg36 : Str := "abcdefghijklmnopqrstuvwxyz0123456789"
theorem sg36_len : sg36.length = 36 := by decide +kernel
theorem sg36_first : ∀ i : Fin 26, ∃ c, sg36.cps.toList[i.1]? = some c ∧ c ∈ sgFirst.cps.toList := by decide +kernel
theorem sg36_all : ∀ c ∈ sg36.cps.toList, c ∈ sgSigns.cps.toList ∧ c ≠ 95 := by decide +kernel
theorem dig1 : ∀ k : Fin 10, (Str.ofString (toString ((k.1 : Nat) : Int))).cps.toList = [48 + k.1] ∧ (48 + k.1) ∈ sgSigns.cps.toList := by decide +kernel
/-- a name with its mark _k -/
def NameK (k : Nat) (s : Str) : Prop := NameOk s ∧ ∃ p q : List Nat, s.cps.toList = p ++ 95 :: (48 + k) :: q ∧ 95 ∉ p
theorem NameK.inj {j k : Nat} {s : Str} (h : NameK j s) (h2 : NameK k s) : j = k := by
  obtain ⟨_, p, q, e, n⟩ := h
  obtain ⟨_, p2, q2, e2, n2⟩ := h2
  rw [e] at e2
  have key : ∀ (a b c d : List Nat), 95 ∉ a → 95 ∉ b → a ++ 95 :: c = b ++ 95 :: d → c = d := by
    intro a
    induction a with
    | nil =>
      intro b c d _ nb e
      cases b with
      | nil => simpa using e
      | cons x b =>
        have := (List.cons.inj e).1
        exact absurd (by rw [this]; exact List.mem_cons_self) nb
    | cons y a ih =>
      intro b c d na nb e
      cases b with
      | nil =>
        have := (List.cons.inj e).1
        exact absurd (by rw [← this]; exact List.mem_cons_self) na
      | cons x b => exact ih b c d (fun z => na (List.mem_cons_of_mem _ z)) (fun z => nb (List.mem_cons_of_mem _ z)) (List.cons.inj e).2
  have := key _ _ _ _ n n2 e2
  have := (List.cons.inj this).1
  omega
/-- a name in the making -/
structure NmI (z : Str) (n : Nat) : Prop where
  len : z.length = n
  first : ∃ c, z.cps.toList[0]? = some c ∧ c ∈ sgFirst.cps.toList
  all : ∀ c ∈ z.cps.toList, c ∈ sg36.cps.toList
theorem cps_app (a b : Str) : (a ++ b).cps.toList = a.cps.toList ++ b.cps.toList := Array.toList_append
theorem cps_len (a : Str) : a.cps.toList.length = a.length := Array.length_toList
theorem NmI.mark {z : Str} {n k pl : Nat} (h : NmI z n) (h0 : 1 ≤ pl) (h1 : pl ≤ n) (h9 : n ≤ 10) (hk : k < 10) (s : Str) (e : s.cps.toList = z.cps.toList.take pl ++ 95 :: (48 + k) :: z.cps.toList.drop pl) : NameK k s := by
  have d := dig1 ⟨k, hk⟩
  have zl : z.cps.toList.length = n := by rw [cps_len, h.len]
  obtain ⟨c, hc, hf⟩ := h.first
  have t0 : (z.cps.toList.take pl)[0]? = some c := by rw [List.getElem?_take_of_lt (by omega)]; exact hc
  refine ⟨⟨?_, ?_, ⟨c, ?_, hf⟩, fun x hx => ?_⟩, _, _, e, fun z9 => (sg36_all 95 (h.all 95 (List.mem_of_mem_take z9))).2 rfl⟩
  · rw [← cps_len, e, List.length_append]
    show 1 ≤ _ + (_ + 1 + 1)
    omega
  · rw [← cps_len, e, List.length_append, List.length_cons, List.length_cons, List.length_take, List.length_drop, zl]
    omega
  · rw [e, List.getElem?_append_left (by rw [List.length_take, zl]; omega)]
    exact t0
  · rw [e] at hx
    rcases List.mem_append.mp hx with hx | hx
    · exact (sg36_all x (h.all x (List.mem_of_mem_take hx))).1
    · rcases List.mem_cons.mp hx with rfl | hx
      · decide +kernel
      · rcases List.mem_cons.mp hx with rfl | hx
        · exact d.2
        · exact (sg36_all x (h.all x (List.mem_of_mem_drop hx))).1
theorem g_sl {r : V → Option Int → Option Int → Hp → VK → Prop} {te : TE} {tl th : L2.TO} {σ : L2.St} {H : Hp} {Q : VK} (q : te σ H fun x H1 => tl σ H1 fun l H2 => th σ H2 fun u H3 => r x l u H3 Q) : tSl r te tl th σ H Q := q
theorem g_noPart {σ : L2.St} {H : Hp} {R : Option Int → Hp → Prop} (q : R none H) : tNoPart σ H R := q
theorem g_part {te : TE} {σ : L2.St} {H : Hp} {R : Option Int → Hp → Prop} (q : te σ H fun x H1 => ∃ i, x = .int i ∧ R (some i) H1) : tPart te σ H R := q
section
variable {P : Program} {w : World} {K : PySem.W.Frag} {mg : Str → Option Value} {base : Heap} {f pr : Addr} {fd : FuncData}
def spLawName : Sp := fun vs H Q _ => ∃ r k : Nat, vs = [.int (r : Int), .int (k : Int)] ∧ k < 10 ∧ ∀ s, NameK k s → Q (.str s) H
theorem ok_law_name (F : FunD K "_law_name" "_law_name" (defArgs s_law_name) (defBody s_law_name) (defScope s_law_name) [] [] f fd) (hm : mg "_law_name" = some (.ref f)) (T : Txt K mg) : DefOk P w K mg base 1 "_law_name" ["_law_row", "_law_k"] spLawName := by
  refine ⟨f, fd, hm, F.kp, (FunD.bindsN (ps := ["_law_row", "_law_k"]) F fun _ _ _ _ _ _ us hl => match us, hl with | [_, _], _ => rfl), fn_ok F sc_law_name ?len (fun cdv A outer s H vs Q E hr h => ⟨_, (pss_cons (ps_set (i := 2) sc_law_name.nd rfl (Or.inl rfl) pe_str)
  (pss_cons (ps_set (i := 3) sc_law_name.nd rfl (Or.inl rfl) (pe_op op_fdivW (pe_callTy call_int' (by rfl) T.m_int (by decide +kernel) (pa_cons (pv 0) pa_nil)) (pe_int (i := ((208 : Nat) : Int)))))
  (pss_cons (ps_set (i := 4) sc_law_name.nd rfl (Or.inl rfl) (pe_ix ix_str (pv 2) (pe_op op_mod (pe_callTy call_int' (by rfl) T.m_int (by decide +kernel) (pa_cons (pv 0) pa_nil)) (pe_int (i := ((26 : Nat) : Int)))) (fun _ _ => rfl)))
  (pss_cons (ps_for PassesOwn.never rfl (pi_range1 (by rfl) T.m_range (pa_cons (pe_op op_mod (pe_op op_fdivW (pe_callTy call_int' (by rfl) T.m_int (by decide +kernel) (pa_cons (pv 0) pa_nil)) (pe_int (i := ((26 : Nat) : Int)))) (pe_int (i := ((8 : Nat) : Int)))) pa_nil)) (pg_name (i := 5) sc_law_name.nd rfl (Or.inl rfl))
  (pss_cons (ps_set (i := 4) sc_law_name.nd rfl (Or.inl rfl) (pe_op op_catS (pv 4) (pe_ix ix_str (pv 2) (pe_op op_mod (pv 3) (pe_int (i := ((36 : Nat) : Int)))) (fun _ _ => rfl))))
  (pss_one (ps_set (i := 3) sc_law_name.nd rfl (Or.inl rfl) (pe_op op_fdivW (pv 3) (pe_int (i := ((36 : Nat) : Int))))))))
  (pss_cons (ps_set (i := 6) sc_law_name.nd rfl (Or.inl rfl) (pe_op op_add (pe_int (i := ((1 : Nat) : Int))) (pe_op op_mod (pv 3) (pe_callB call_lenS' (by rfl) T.m_len (by decide +kernel) (pa_cons (pv 4) pa_nil)))))
  (pss_one (ps_ret (pe_op op_catS (pe_op op_catS (pe_op op_catS (pe_slice sl_str (pv 4) po_none (po_some (pv 6))) pe_str) (pe_callTy call_str' (by rfl) T.m_str (by decide +kernel) (pa_cons (pv 1) pa_nil))) (pe_slice sl_str (pv 4) (po_some (pv 6)) po_none))))))))), ?_⟩)⟩
  case len => walk_at "ln"
  
  obtain ⟨r, k, rfl, hk, q⟩ := h
  walk_at "st"
  walk_at "go"
  obtain ⟨c, hc, hf⟩ := sg36_first ⟨r % 26, Nat.mod_lt _ (by decide)⟩
  refine g_ixS (z := sg36) (by rw [sg36_len]; decide) hc ?_
  walk_at "go"
  have z0 : NmI ⟨#[c]⟩ 1 := ⟨rfl, ⟨c, rfl, hf⟩, fun x hx => by
    rw [List.mem_singleton.mp hx]
    exact List.mem_of_getElem? hc⟩
  refine g_rForR (by omega) (fun i σ H' => ∃ rest z o5 o6, σ = [some (.int (r : Int)), some (.int (k : Int)), some (.str sg36), some (.int ((rest : Nat) : Int)), some (.str z), o5, o6] ∧ H' = H ∧ NmI z (1 + i)) ⟨_, _, _, _, rfl, rfl, z0⟩ ?_ ?_
  · rintro i σ H' hi ⟨rest, z, _, _, rfl, rfl, hz⟩
    have hi8 : i < 8 := Nat.lt_of_lt_of_le hi (Nat.le_of_lt (Nat.mod_lt _ (by decide)))
    walk_at "go"
    obtain ⟨d, hd⟩ : ∃ d, sg36.cps.toList[rest % 36]? = some d := ⟨_, List.getElem?_eq_getElem (by rw [cps_len, sg36_len]; exact Nat.mod_lt _ (by decide))⟩
    refine g_ixS (z := sg36) (by rw [sg36_len]; decide) hd ?_
    refine ⟨_, _, rfl, rfl, by rw [hz.len]; show 1 + i + 1 ≤ _; have : (20 : Nat) < sizeLine := by decide
                               omega, ?_⟩
    walk_at "go"
    refine ⟨_, _, _, _, rfl, rfl, ⟨?_, ?_, fun x hx => ?_⟩⟩
    · rw [← cps_len, cps_app, List.length_append, cps_len, hz.len]; rfl
    · obtain ⟨e, he, hf2⟩ := hz.first
      exact ⟨e, by rw [cps_app, List.getElem?_append_left (lt_of_get he)]; exact he, hf2⟩
    · rw [cps_app] at hx
      rcases List.mem_append.mp hx with hx | hx
      · exact hz.all x hx
      · rw [List.mem_singleton.mp hx]
        exact List.mem_of_getElem? hd
  · rintro σ H' ⟨rest, z, _, _, rfl, rfl, hz⟩
    have h8 : r / 26 % 8 < 8 := Nat.mod_lt _ (by decide)
    have zl := hz.len
    walk_at "go"
    refine g_lenS (by rw [zl]; omega) ?_
    rw [zl]
    walk_at "go"
    have hm := Nat.mod_lt rest (show 0 < 1 + r / 26 % 8 by omega)
    refine g_sl ?_
    walk_at "go"
    refine g_noPart (g_part ?_)
    walk_at "go"
    have big : (100 : Nat) ≤ sizeLine := by decide
    generalize epl : 1 + rest % (1 + r / 26 % 8) = pl at *
    have hpl : pl ≤ z.length := by omega
    have zc : z.cps.toList.length = z.length := cps_len z
    have dk := dig1 ⟨k, hk⟩
    have cut1 : (cutS z none (some (pl : Int))).cps.toList = z.cps.toList.take pl := by
      unfold cutS
      rw [HT.sIx_none, HT.sIx_nat, Nat.min_eq_left hpl]
      simp
    have cut2 : (cutS z (some (pl : Int)) none).cps.toList = z.cps.toList.drop pl := by
      unfold cutS
      rw [HT.sIx_none, HT.sIx_nat, Nat.min_eq_left hpl]
      simp only []
      rw [List.take_of_length_le (by rw [List.length_drop, zc]; exact Nat.le_refl _)]
    have l1 := cutS_length z none (some (pl : Int))
    have l2 := cutS_length z (some (pl : Int)) none
    have lk : (Str.ofString (toString ((k : Nat) : Int))).length = 1 := by rw [← cps_len, dk.1]; rfl
    have lu : (Str.ofString "_").length = 1 := rfl
    refine ⟨_, rfl, z, rfl, by omega, ?_⟩
    walk_at "go"
    refine ⟨_, _, rfl, rfl, by omega, ?_⟩
    walk_at "go"
    refine ⟨_, rfl, ?_, ?_⟩
    · rw [Int.natAbs_natCast]
      exact Nat.lt_of_le_of_lt (Nat.log2_le_self k) (by omega)
    have la : ∀ x y : Str, (x ++ y).length = x.length + y.length := fun x y => by rw [← cps_len, cps_app, List.length_append, cps_len, cps_len]
    refine ⟨_, _, rfl, rfl, by rw [la]; omega, ?_⟩
    refine g_sl ?_
    walk_at "go"
    refine g_part ?_
    walk_at "go"
    refine ⟨_, rfl, g_noPart ⟨z, rfl, by omega, ?_⟩⟩
    refine ⟨_, _, rfl, rfl, by rw [la, la]; omega, ?_⟩
    refine q _ (hz.mark (pl := pl) (by omega) (by omega) (by omega) hk _ ?_)
    rw [cps_app, cps_app, cps_app, cut1, cut2, dk.1]
    simp
    rfl
end
end
section
/-! part SgLp -/
set_option Elab.async false
set_option maxRecDepth 100000
set_option linter.unusedVariables false
set_option maxHeartbeats 1000000
open PySem PySem.Spec PyProof.Rows L2


theorem nodup_inj {α : Type} {xs : List α} (h : ∀ (i j : Nat) (x : α), xs[i]? = some x → xs[j]? = some x → i = j) : xs.Nodup := by
  unfold List.Nodup
  rw [List.pairwise_iff_getElem]
  intro i j hi hj hij e
  have := h i j xs[i] (List.getElem?_eq_getElem hi) (by rw [e]; exact List.getElem?_eq_getElem hj)
  omega
theorem all2_ex {H : Hp} {ys : List V} {Pr : Nat → Str → Prop} (h : ∀ j y, ys[j]? = some y → ∃ s, y = .str s ∧ Pr j s) : ∃ nm : List Str, All2 (IsS H) ys nm ∧ ∀ k s, nm[k]? = some s → Pr k s := by
  refine ⟨ys.map fun y => match y with | .str s => s | _ => default, ⟨(List.length_map ..).symm, fun i v e => ?_⟩, fun k s e => ?_⟩
  · obtain ⟨s, rfl, _⟩ := h i v e
    exact ⟨s, by rw [List.getElem?_map, e]; rfl, rfl⟩
  · rw [List.getElem?_map] at e
    cases e2 : ys[k]? with
    | none => rw [e2] at e; cases e
    | some y =>
      obtain ⟨s2, rfl, p⟩ := h k y e2
      rw [e2] at e
      cases e
      exact p
theorem snoc_prop {α : Type} {xs : List α} {x : α} {n : Nat} {Pr : Nat → α → Prop} (hn : xs.length = n) (h : ∀ j p, xs[j]? = some p → Pr j p) (hx : Pr n x) : ∀ j p, (xs ++ [x])[j]? = some p → Pr j p := fun j p e => by
  rcases Nat.lt_or_ge j xs.length with hj | hj
  · rw [List.getElem?_append_left hj] at e
    exact h j p e
  · have hj2 := lt_of_get e
    rw [List.length_append] at hj2
    have ej : j = n := by
      have : j < xs.length + 1 := hj2
      omega
    subst ej
    rw [List.getElem?_append_right hj, hn, Nat.sub_self] at e
    cases e
    exact hx
theorem cutV_take {xs : List V} {n : Nat} (h : n ≤ xs.length) : cutV xs none (some (n : Int)) = xs.take n := by
  unfold cutV
  rw [HT.sIx_none, HT.sIx_nat, Nat.min_eq_left h]
  simp
theorem All2.take {α : Type} {R : V → α → Prop} {vs : List V} {xs : List α} (h : All2 R vs xs) (n : Nat) : All2 R (vs.take n) (xs.take n) := by
  refine ⟨by rw [List.length_take, List.length_take, h.1], fun i v e => ?_⟩
  rw [List.getElem?_take] at e
  split at e
  · rename_i hi
    obtain ⟨x, hx, r⟩ := h.2 i v e
    exact ⟨x, by rw [List.getElem?_take_of_lt hi]; exact hx, r⟩
  · cases e
/-- the parts that were drawn are a circuit's -/
theorem parts_ok {nm : List Str} {ic lc gc oc : Nat} {lat : List (Str × Nat × Nat)} {ands : List (Nat × Nat)} {outs : List (Str × Nat)} (hi : ic ≤ 3) (hl : lc ≤ 3) (hg : gc ≤ 10) (ho : oc ≤ 3) (hn : nm.length = ic + lc) (hN : ∀ k s, nm[k]? = some s → NameK k s)
    (hll : lat.length = lc) (hL : ∀ j p, lat[j]? = some p → nm[ic + j]? = some p.1 ∧ p.2.1 ≤ 1 ∧ p.2.2 < 2 * (1 + ic + lc + gc)) (hal : ands.length = gc) (hA : ∀ (i l r : Nat), ands[i]? = some (l, r) → l < 2 * (1 + ic + lc + i) ∧ r < 2 * (1 + ic + lc + i))
    (hol : outs.length = oc) (hO : ∀ j p, outs[j]? = some p → NameK j p.1 ∧ p.2 < 2 * (1 + ic + lc + gc)) : CirOk ⟨nm.take ic, lat, ands, outs⟩ ∧ Small ⟨nm.take ic, lat, ands, outs⟩ := by
  have tl : (nm.take ic).length = ic := by rw [List.length_take]; omega
  have e1 : nm.take ic ++ lat.map (·.1) = nm := by
    have e2 : lat.map (·.1) = nm.drop ic := by
      apply List.ext_getElem?
      intro j
      rw [List.getElem?_map, List.getElem?_drop]
      cases e : lat[j]? with
      | none =>
        have := List.getElem?_eq_none_iff.mp e
        rw [List.getElem?_eq_none_iff.mpr (by omega)]
        rfl
      | some p => rw [(hL j p e).1]; rfl
    rw [e2, List.take_append_drop]
  have enn : Cir.nn ⟨nm.take ic, lat, ands, outs⟩ = 1 + ic + lc + gc := by
    unfold Cir.nn
    rw [tl, hll, hal]
  have efa : Cir.fa ⟨nm.take ic, lat, ands, outs⟩ = 1 + ic + lc := by
    unfold Cir.fa
    rw [tl, hll]
  refine ⟨⟨⟨by rw [tl]; omega, by rw [hll]; omega, fun s hs => ?_, ?_, fun l hl2 => ?_⟩, ⟨by rw [hal]; omega, fun i l r e => by rw [efa]; exact hA i l r e⟩, ⟨by rw [hol]; omega, fun s hs => ?_, ?_, fun l hl2 => ?_⟩⟩, ⟨by rw [tl]; omega, by rw [hll]; omega, by rw [hal]; omega, by rw [hol]; omega⟩⟩
  · rw [e1] at hs
    obtain ⟨k, hk⟩ := List.getElem?_of_mem hs
    exact (hN k s hk).1
  · rw [e1]
    exact nodup_inj fun i j x e f => (hN i x e).inj (hN j x f)
  · obtain ⟨k, hk⟩ := List.getElem?_of_mem hl2
    rw [enn]
    exact (hL k l hk).2
  · obtain ⟨p, hp, rfl⟩ := List.mem_map.mp hs
    obtain ⟨k, hk⟩ := List.getElem?_of_mem hp
    exact (hO k p hk).1.1
  · refine nodup_inj fun i j x e f => ?_
    rw [List.getElem?_map] at e f
    cases e2 : outs[i]? with
    | none => rw [e2] at e; cases e
    | some p =>
      cases f2 : outs[j]? with
      | none => rw [f2] at f; cases f
      | some q =>
        rw [e2] at e
        rw [f2] at f
        cases e
        have f3 : q.1 = p.1 := Option.some.inj f
        have := (hO j q f2).1
        rw [f3] at this
        exact (hO i p e2).1.inj this
  · obtain ⟨k, hk⟩ := List.getElem?_of_mem hl2
    rw [enn]
    exact (hO k l hk).2
section
variable {P : Program} {w : World} {K : PySem.W.Frag} {mg : Str → Option Value} {base : Heap} {f pr : Addr} {fd : FuncData}
def spLawParts (K : PySem.W.Frag) : Sp := fun vs H Q _ => ∃ (a : Addr) (rows : List Nat), vs = [.ref a, .int ((3 : Nat) : Int), .int ((3 : Nat) : Int), .int ((10 : Nat) : Int)] ∧ H a = some (.lst (nums rows)) ∧ rows.length = 60 ∧
  ∀ H' q li ll la lo c, Same H H' → H' q = some (.tup [.ref li, .ref ll, .ref la, .ref lo]) → LstAt H' li IsS c.ins → LstAt H' ll IsL c.lat → LstAt H' la IsP c.ands → LstAt H' lo IsO c.outs → CirOk c → Small c → Q (.ref q) H'
theorem ok_law_parts (F : FunD K "_law_parts" "_law_parts" (defArgs s_law_parts) (defBody s_law_parts) (defScope s_law_parts) [] [] f fd) (hm : mg "_law_parts" = some (.ref f)) (T : Txt K mg) (D_law_name : DefOk P w K mg base 1 "_law_name" ["_law_row", "_law_k"] spLawName) (D_law_literal : DefOk P w K mg base 1 "_law_literal" ["_law_row", "_law_near", "_law_count"] spLawLiteral) (D_law_ands : DefOk P w K mg base 2 "_law_ands" ["_law_rows_here", "_law_at", "_law_first_and", "_law_count"] (spLawAnds K)) : DefOk P w K mg base 3 "_law_parts" ["_law_rows_here", "_law_most_inputs", "_law_most_latches", "_law_most_ands"] (spLawParts K) := by
  refine ⟨f, fd, hm, F.kp, (FunD.bindsN (ps := ["_law_rows_here", "_law_most_inputs", "_law_most_latches", "_law_most_ands"]) F fun _ _ _ _ _ _ us hl => match us, hl with | [_, _, _, _], _ => rfl), fn_ok F sc_law_parts ?len (fun cdv A outer s H vs Q E hr h => ⟨_, (pss_cons (ps_set (i := 4) sc_law_parts.nd rfl (Or.inl rfl) (pe_callTy call_int' (by rfl) T.m_int (by decide +kernel) (pa_cons (pe_ix (ix_listK (K := K) (by rfl)) (pv 0) (pe_int (i := ((0 : Nat) : Int))) (fun _ _ => rfl)) pa_nil)))
  (pss_cons (ps_set (i := 5) sc_law_parts.nd rfl (Or.inl rfl) (pe_op op_mod (pv 4) (pe_op op_add (pv 1) (pe_int (i := ((1 : Nat) : Int))))))
  (pss_cons (ps_set (i := 4) sc_law_parts.nd rfl (Or.inl rfl) (pe_op op_fdivW (pv 4) (pe_op op_add (pv 1) (pe_int (i := ((1 : Nat) : Int))))))
  (pss_cons (ps_set (i := 6) sc_law_parts.nd rfl (Or.inl rfl) (pe_op op_mod (pv 4) (pe_op op_add (pv 2) (pe_int (i := ((1 : Nat) : Int))))))
  (pss_cons (ps_set (i := 4) sc_law_parts.nd rfl (Or.inl rfl) (pe_op op_fdivW (pv 4) (pe_op op_add (pv 2) (pe_int (i := ((1 : Nat) : Int))))))
  (pss_cons (ps_set (i := 7) sc_law_parts.nd rfl (Or.inl rfl) (pe_op op_mod (pv 4) (pe_op op_add (pv 3) (pe_int (i := ((1 : Nat) : Int))))))
  (pss_cons (ps_set (i := 8) sc_law_parts.nd rfl (Or.inl rfl) (pe_op op_add (pe_int (i := ((1 : Nat) : Int))) (pe_op op_mod (pe_op op_fdivW (pv 4) (pe_op op_add (pv 3) (pe_int (i := ((1 : Nat) : Int))))) (pe_int (i := ((3 : Nat) : Int))))))
  (pss_cons (ps_setLc (i := 10) (own := [("_law_k", 9)]) (by rfl) sc_law_parts.nd rfl rfl (sw_true rfl rfl rfl (by decide +kernel)) (pi_range1 (by rfl) T.m_range (pa_cons (pe_op op_add (pv 5) (pv 6)) pa_nil)) (blkOk_by (own := [("_law_k", 9)]) (N := ["_law_rows_here", "_law_most_inputs", "_law_most_latches", "_law_most_ands", "_law_head", "_law_input_count", "_law_latch_count", "_law_gate_count", "_law_output_count", "_law_k", "_law_names", "_law_first_and", "_law_size", "_law_ands_here", "_law_latches", "_law_row", "_law_outputs"]) (sc := defScope s_law_parts) (by decide +kernel)) (fun _ _ _ _ _ => by exact (pg_name (i := 9) sc_law_parts.nd rfl (Or.inl rfl))) (fun _ _ _ _ _ => by exact pts_nil) (fun _ _ _ _ _ => by exact (pe_callD D_law_name (hr.mono (by decide)) (by rfl) (pa_cons (pe_ix (ix_listK (K := K) (by rfl)) (pv 0) (pe_op op_add (pe_int (i := ((1 : Nat) : Int))) (pv 9)) (fun _ _ => rfl)) (pa_cons (pv 9) pa_nil)))))
  (pss_cons (ps_set (i := 11) sc_law_parts.nd rfl (Or.inl rfl) (pe_op op_add (pe_op op_add (pe_int (i := ((1 : Nat) : Int))) (pv 5)) (pv 6)))
  (pss_cons (ps_set (i := 12) sc_law_parts.nd rfl (Or.inl rfl) (pe_op op_add (pv 11) (pv 7)))
  (pss_cons (ps_set (i := 13) sc_law_parts.nd rfl (Or.inl rfl) (pe_callD D_law_ands (hr.mono (by decide)) (by rfl) (pa_cons (pv 0) (pa_cons (pe_int (i := ((9 : Nat) : Int))) (pa_cons (pv 11) (pa_cons (pv 7) pa_nil))))))
  (pss_cons (ps_set (i := 14) sc_law_parts.nd rfl (Or.inl rfl) (pe_lst pa_nil))
  (pss_cons (ps_for PassesOwn.never rfl (pi_range1 (by rfl) T.m_range (pa_cons (pv 6) pa_nil)) (pg_name (i := 9) sc_law_parts.nd rfl (Or.inl rfl))
  (pss_cons (ps_set (i := 15) sc_law_parts.nd rfl (Or.inl rfl) (pe_ix (ix_listK (K := K) (by rfl)) (pv 0) (pe_op op_add (pe_int (i := ((22 : Nat) : Int))) (pv 9)) (fun _ _ => rfl)))
  (pss_one (ps_expr (pe_bm PySem.F.plainAttrs_list PySem.F.slot_list_append PySem.F.type_list_append mt_append (pv 14) (pa_cons (pe_tup (pa_cons (pe_ix (ix_listK (K := K) (by rfl)) (pv 10) (pe_op op_add (pv 5) (pv 9)) (fun _ _ => rfl)) (pa_cons (pe_op op_mod (pe_callTy call_int' (by rfl) T.m_int (by decide +kernel) (pa_cons (pv 15) pa_nil)) (pe_int (i := ((2 : Nat) : Int)))) (pa_cons (pe_callD D_law_literal (hr.mono (by decide)) (by rfl) (pa_cons (pe_op op_fdivW (pv 15) (pe_int (i := ((4 : Nat) : Int)))) (pa_cons (pe_op op_fdivW (pv 15) (pe_int (i := ((2 : Nat) : Int)))) (pa_cons (pv 12) pa_nil)))) pa_nil)))) pa_nil))))))
  (pss_cons (ps_set (i := 16) sc_law_parts.nd rfl (Or.inl rfl) (pe_lst pa_nil))
  (pss_cons (ps_for PassesOwn.never rfl (pi_range1 (by rfl) T.m_range (pa_cons (pv 8) pa_nil)) (pg_name (i := 9) sc_law_parts.nd rfl (Or.inl rfl))
  (pss_cons (ps_set (i := 15) sc_law_parts.nd rfl (Or.inl rfl) (pe_ix (ix_listK (K := K) (by rfl)) (pv 0) (pe_op op_add (pe_int (i := ((27 : Nat) : Int))) (pv 9)) (fun _ _ => rfl)))
  (pss_one (ps_expr (pe_bm PySem.F.plainAttrs_list PySem.F.slot_list_append PySem.F.type_list_append mt_append (pv 16) (pa_cons (pe_tup (pa_cons (pe_callD D_law_name (hr.mono (by decide)) (by rfl) (pa_cons (pe_op op_fdivW (pv 15) (pe_int (i := ((7 : Nat) : Int)))) (pa_cons (pv 9) pa_nil))) (pa_cons (pe_callD D_law_literal (hr.mono (by decide)) (by rfl) (pa_cons (pe_op op_fdivW (pv 15) (pe_int (i := ((2 : Nat) : Int)))) (pa_cons (pv 15) (pa_cons (pv 12) pa_nil)))) pa_nil))) pa_nil))))))
  (pss_one (ps_ret (pe_tup (pa_cons (pe_slice sl_list (pv 10) po_none (po_some (pv 5))) (pa_cons (pv 14) (pa_cons (pv 13) (pa_cons (pv 16) pa_nil)))))))))))))))))))))), ?_⟩)⟩
  case len => walk_at "ln"
  
  obtain ⟨a, rows, rfl, ha, hr, q⟩ := h
  obtain ⟨h0, hh0⟩ : ∃ v, rows[0]? = some v := ⟨_, List.getElem?_eq_getElem (by omega)⟩
  walk_at "st"
  walk_at "go"
  refine g_ixL (j := 0) ha (nums_get hh0) ?_
  walk_at "go"
  have b1 : h0 % (3 + 1) ≤ 3 := by omega
  have b2 : h0 / (3 + 1) % (3 + 1) ≤ 3 := by omega
  have b3 : h0 / (3 + 1) / (3 + 1) % (10 + 1) ≤ 10 := by omega
  have b4 : 1 + h0 / (3 + 1) / (3 + 1) / (10 + 1) % 3 ≤ 3 := by omega
  generalize h0 % (3 + 1) = ic at *
  generalize h0 / (3 + 1) / (3 + 1) % (10 + 1) = gc at *
  generalize 1 + h0 / (3 + 1) / (3 + 1) / (10 + 1) % 3 = oc at *
  generalize h0 / (3 + 1) % (3 + 1) = lc at *
  generalize h0 / (3 + 1) / (3 + 1) = hx at *
  have getR : ∀ i : Nat, i < 60 → ∃ v, rows[i]? = some v := fun i hi => ⟨_, List.getElem?_eq_getElem (by omega)⟩
  refine g_rLcR (R := fun _ k y _ => ∃ s, y = .str s ∧ NameK k s) (by omega) (fun D i y H H' s r => r) (fun D i y H acc acc' e r => r) (fun D i H' hD hi hS _ Qy hQ => ?_) fun D ys H1 hD hS1 hys hyl hY => ?_
  · obtain ⟨v, hv⟩ := getR (1 + i) (by omega)
    have ha' := hS _ _ ha
    walk_at "go"
    refine g_ixL ha' (nums_get hv) ?_
    walk_at "go"
    refine ⟨_, _, rfl, by omega, fun s hs => ?_⟩
    exact hQ _ _ (L2.Same.refl _) ⟨s, rfl, hs⟩
  obtain ⟨nm, hnm, hN⟩ := all2_ex (H := H1) hY
  have hnl : nm.length = ic + lc := by rw [← hnm.1]; exact hyl
  walk_at "go"
  refine ⟨a, rows, 9, 1 + ic + lc, gc, rfl, hS1 _ _ ha, by omega, by omega, by omega, by omega, fun H2 la ands hS2 hla hLa hal hA => ?_⟩
  have s2 := L2.Same.trans hS1 hS2
  have ha2 := s2 _ _ ha
  walk_at "go"
  rename_i ll hll
  have s3 : Same H (upd H2 ll (.lst [])) := L2.Same.trans s2 (Same.new hll)
  have nl0 : H ll = none := by walk_at "nn"
  have eN : ∀ {H' : Hp}, Same H1 H' → H' D = some (.lst ys) := fun s => s _ _ hys
  have sS1 : ∀ {H' : Hp}, Same (upd H2 ll (.lst [])) H' → Same H1 H' := fun s => L2.Same.trans (L2.Same.trans hS2 (Same.new hll)) s
  refine g_rForR (by omega) (fun i σ H' => ∃ o9 o15 lat, σ = [some (.ref a), some (.int ((3 : Nat) : Int)), some (.int ((3 : Nat) : Int)), some (.int ((10 : Nat) : Int)), some (.int (hx : Int)), some (.int (ic : Int)), some (.int (lc : Int)), some (.int (gc : Int)), some (.int (oc : Int)), o9, some (.ref D), some (.int ((1 + ic + lc : Nat) : Int)), some (.int ((1 + ic + lc + gc : Nat) : Int)), some (.ref la), some (.ref ll), o15, none] ∧ Same H2 H' ∧ LstAt H' ll IsL lat ∧ lat.length = i ∧ ∀ j p, lat[j]? = some p → nm[ic + j]? = some p.1 ∧ p.2.1 ≤ 1 ∧ p.2.2 < 2 * (1 + ic + lc + gc)) ⟨_, _, [], rfl, Same.new hll, ⟨[], upd_same, All2.nil⟩, rfl, fun j p e => by simp at e⟩ ?_ ?_
  · rintro i σ H' hi ⟨_, _, lat, rfl, hS, hL, hn, hP⟩
    obtain ⟨v, hv⟩ := getR (22 + i) (by omega)
    have ha' := hS _ _ ha2
    have hD' := hS _ _ (hS2 _ _ hys)
    obtain ⟨s, hs⟩ : ∃ s, nm[ic + i]? = some s := ⟨_, List.getElem?_eq_getElem (by omega)⟩
    obtain ⟨y, hy, ry⟩ := hnm.get hs
    cases ry
    walk_at "go"
    refine g_ixL ha' (nums_get hv) ?_
    walk_at "go"
    refine g_ixL hD' hy ?_
    walk_at "go"
    refine ⟨_, _, _, rfl, by omega, by omega, fun l hl => ?_⟩
    walk_at "go"
    rename_i t ht
    refine g_appendR (R := IsL) (x := (s, v % 2, l)) (hL.mono mono_L (Same.new ht)) stab_L ⟨t, rfl, upd_same⟩ (by omega) (fun H4 k4 hL4 => ?_)
    refine ⟨_, _, lat ++ [(s, v % 2, l)], rfl, Same.keep k4 (L2.Same.trans hS (Same.new ht)) hll, hL4, by rw [List.length_append, hn]; rfl, snoc_prop hn hP ⟨hs, by show v % 2 ≤ 1; omega, hl⟩⟩
  · rintro σ H3 ⟨_, _, lat, rfl, hS, hL, hn, hP⟩
    have ha3 := hS _ _ ha2
    walk_at "go"
    rename_i lo hlo
    refine g_rForR (by omega) (fun i σ H' => ∃ o9 o15 outs, σ = [some (.ref a), some (.int ((3 : Nat) : Int)), some (.int ((3 : Nat) : Int)), some (.int ((10 : Nat) : Int)), some (.int (hx : Int)), some (.int (ic : Int)), some (.int (lc : Int)), some (.int (gc : Int)), some (.int (oc : Int)), o9, some (.ref D), some (.int ((1 + ic + lc : Nat) : Int)), some (.int ((1 + ic + lc + gc : Nat) : Int)), some (.ref la), some (.ref ll), o15, some (.ref lo)] ∧ Same H3 H' ∧ LstAt H' lo IsO outs ∧ outs.length = i ∧ ∀ j p, outs[j]? = some p → NameK j p.1 ∧ p.2 < 2 * (1 + ic + lc + gc)) ⟨_, _, [], rfl, Same.new hlo, ⟨[], upd_same, All2.nil⟩, rfl, fun j p e => by simp at e⟩ ?_ ?_
    · rintro i σ H' hi ⟨_, _, outs, rfl, hS4, hL4, hn4, hP4⟩
      obtain ⟨v, hv⟩ := getR (27 + i) (by omega)
      have ha' := hS4 _ _ ha3
      walk_at "go"
      refine g_ixL ha' (nums_get hv) ?_
      walk_at "go"
      refine ⟨_, _, rfl, by omega, fun s hs => ?_⟩
      walk_at "go"
      refine ⟨_, _, _, rfl, by omega, by omega, fun l hl => ?_⟩
      walk_at "go"
      rename_i t ht
      refine g_appendR (R := IsO) (x := (s, l)) (hL4.mono mono_O (Same.new ht)) stab_O ⟨t, rfl, upd_same⟩ (by omega) (fun H5 k5 hL5 => ?_)
      refine ⟨_, _, outs ++ [(s, l)], rfl, Same.keep k5 (L2.Same.trans hS4 (Same.new ht)) hlo, hL5, by rw [List.length_append, hn4]; rfl, snoc_prop hn4 hP4 ⟨hs, hl⟩⟩
    · rintro σ H4 ⟨_, _, outs, rfl, hS4, hL4, hn4, hP4⟩
      obtain ⟨ok1, ok2⟩ := parts_ok b1 b2 b3 b4 hnl hN hn hP hal hA hn4 hP4
      have s24 := L2.Same.trans hS hS4
      have hD4 := s24 _ _ (hS2 _ _ hys)
      walk_at "go"
      refine g_sl ?_
      walk_at "go"
      refine g_noPart (g_part ?_)
      walk_at "go"
      refine ⟨_, rfl, ?_⟩
      refine ⟨D, ys, rfl, SqL.of hD4, fun p hp => ?_⟩
      rw [cutV_take (by omega)]
      walk_at "go"
      rename_i q5 hq5
      have s5 : Same H4 (upd H4 p (.lst (ys.take ic))) := Same.new hp
      have s6 : Same H4 (upd (upd H4 p (.lst (ys.take ic))) q5 (.tup [.ref p, .ref ll, .ref la, .ref lo])) := L2.Same.trans s5 (Same.new hq5)
      refine q _ q5 p ll la lo ⟨nm.take ic, lat, ands, outs⟩ (L2.Same.trans s2 (L2.Same.trans s24 s6)) upd_same ⟨_, lk_new hq5 upd_same, All2.take hnm ic⟩ (hL.mono mono_L (L2.Same.trans hS4 s6)) (hLa.mono mono_P (L2.Same.trans s24 s6)) (hL4.mono mono_O s6) ok1 ok2
end
end
section
/-! part SgAp -/
set_option Elab.async false
set_option maxRecDepth 100000
set_option linter.unusedVariables false
set_option maxHeartbeats 1000000
open PySem PySem.Spec PyProof.Rows L2


theorem u65 {k : Nat} {A : Around} (r : Room k A) : A.units + 65 < cLine := by have := r.un; omega
theorem ite_both {b : Bool} {A B : Prop} (h1 : A) (h2 : B) : if b = true then A else B := by
  cases b with
  | true => rw [if_pos rfl]; exact h1
  | false => rw [if_neg Bool.false_ne_true]; exact h2
def dSt (p : List Nat × List Nat) : PyData := .tuple [.list (p.1.map dI), .list (p.2.map dI)]
/-- a pair of states that was met; l: the list of all -/
def IsSt (l : Addr) : Hp → V → List Nat × List Nat → Prop := fun H v p => ∃ t a b, v = .ref t ∧ H t = some (.tup [.ref a, .ref b]) ∧ a ≠ l ∧ b ≠ l ∧ H a = some (.lst (nums p.1)) ∧ H b = some (.lst (nums p.2))
theorem mono_St {l : Addr} : Mono (IsSt l) := fun _ _ _ _ s ⟨t, a, b, e, h1, n1, n2, h2, h3⟩ => ⟨t, a, b, e, s _ _ h1, n1, n2, s _ _ h2, s _ _ h3⟩
theorem stab_St {l : Addr} {H : Hp} {v : V} {p : List Nat × List Nat} {acc acc' : List V} (h : H l = some (.lst acc)) (r : IsSt l H v p) : IsSt l (upd H l (.lst acc')) v p := by
  obtain ⟨t, a, b, e, h1, n1, n2, h2, h3⟩ := r
  refine ⟨t, a, b, e, lk_ne (fun z => ?_) h1, n1, n2, lk_ne n1 h2, lk_ne n2 h3⟩
  rw [z, h] at h1
  cases h1
theorem ne_met {H : Hp} {a l t : Addr} {xs : List Nat} {vs : List V} (h1 : H a = some (.lst (nums xs))) (h2 : H l = some (.lst vs)) (h3 : vs[0]? = some (.ref t)) : a ≠ l := fun z => by
  rw [z, h2] at h1
  cases h1
  obtain ⟨n, _, e⟩ := nums_of h3
  cases e
theorem dp_nums {K : PySem.W.Frag} {H : Hp} {a : Addr} {xs : List Nat} (h : H a = some (.lst (nums xs))) : Dp K H (.ref a) (.list (xs.map dI)) := dp_lst (fun _ _ => dp_I) (LstAt.nums.mpr h)
theorem dp_St {K : PySem.W.Frag} {H : Hp} {l : Addr} {v : V} {p : List Nat × List Nat} (h : IsSt l H v p) : Dp K H v (dSt p) := by
  obtain ⟨t, a, b, rfl, h1, n1, n2, h2, h3⟩ := h
  exact .tup (SqT.of h1) (.cons (dp_nums h2) (.cons (dp_nums h3) .nil))
theorem ok_nums (xs : List Nat) : DatOk 1 (.list (xs.map dI)) := ok_lst fun x _ => ok_dI x
theorem ok_dSt (p : List Nat × List Nat) : DatOk 2 (dSt p) := DatOk.tup fun d h => by
  simp only [List.mem_cons, List.not_mem_nil, or_false] at h
  rcases h with rfl | rfl <;> exact ok_nums _
theorem DatOk.shaped {n : Nat} {d : PyData} (h : DatOk n d) (hn : n ≤ 60) : SeqAt.shaped d = true := by
  unfold SeqAt.shaped
  rw [h.1, decide_eq_true (Nat.le_trans h.2 (Nat.le_trans hn (by decide)))]
  rfl
theorem two_pow_at {n : Nat} (h : n ≤ 3) : ∃ m : Nat, m ≤ 16 ∧ ([V.int ((1 : Nat) : Int), V.int ((2 : Nat) : Int), V.int ((4 : Nat) : Int), V.int ((8 : Nat) : Int), V.int ((16 : Nat) : Int)] : List V)[n]? = some (V.int (m : Int)) := by
  match n, h with
  | 0, _ => exact ⟨1, by decide, rfl⟩
  | 1, _ => exact ⟨2, by decide, rfl⟩
  | 2, _ => exact ⟨4, by decide, rfl⟩
  | 3, _ => exact ⟨8, by decide, rfl⟩
section
variable {P : Program} {w : World} {K : PySem.W.Frag} {mg : Str → Option Value} {base : Heap} {f pr : Addr} {fd : FuncData}
def spLawApart : Sp := fun vs H Q _ => ∃ (a b : Addr) (c d : Cir Str), vs = [.ref a, .ref b] ∧ PartsAt H a c ∧ PartsAt H b d ∧ CirOk c ∧ CirOk d ∧ d.ins = c.ins ∧ c.ins.length ≤ 3 ∧ RunEq c d ∧ ∀ H', Same H H' → Q (.bl false) H'
theorem ok_law_apart (F : FunD K "_law_apart" "_law_apart" (defArgs s_law_apart) (defBody s_law_apart) (defScope s_law_apart) [] [] f fd) (hm : mg "_law_apart" = some (.ref f)) (T : Txt K mg) (D_law_bits : DefOk P w K mg base 1 "_law_bits" ["_law_number", "_law_count"] spLawBits) (D_law_next : DefOk P w K mg base 3 "_law_next" ["_law_parts_here", "_law_state", "_law_row"] spLawNext) : DefOk P w K mg base 4 "_law_apart" ["_law_left", "_law_right"] spLawApart := by
  refine ⟨f, fd, hm, F.kp, (FunD.bindsN (ps := ["_law_left", "_law_right"]) F fun _ _ _ _ _ _ us hl => match us, hl with | [_, _], _ => rfl), fn_ok F sc_law_apart ?len (fun cdv A outer s H vs Q E hr h => ⟨_, (pss_cons (ps_set (i := 2) sc_law_apart.nd rfl (Or.inl rfl) (pe_callB (call_lenK (K := K) (by rfl)) (by rfl) T.m_len (by decide +kernel) (pa_cons (pe_ix (ix_listK (K := K) (by rfl)) (pv 0) (pe_int (i := ((0 : Nat) : Int))) (fun _ _ => rfl)) pa_nil)))
  (pss_cons (ps_set (i := 3) sc_law_apart.nd rfl (Or.inl rfl) (pe_lst (pa_cons (pe_tup (pa_cons (by exact (pe_lc (own := [("_law_latch", 9)]) (by rfl) sc_law_apart.nd (pi_list (pe_ix (ix_listK (K := K) (by rfl)) (pv 0) (pe_int (i := ((1 : Nat) : Int))) (fun _ _ => rfl))) (blkOk_by (own := [("_law_latch", 9)]) (N := ["_law_left", "_law_right", "_law_count", "_law_met", "_law_turn", "_law_number", "_law_row", "_law_one", "_law_two", "_law_latch"]) (sc := defScope s_law_apart) (by decide +kernel)) (fun _ _ _ _ _ => by exact (pg_name (i := 9) sc_law_apart.nd rfl (Or.inl rfl))) (fun _ _ _ _ _ => by exact pts_nil) (fun _ _ _ _ _ => by exact (pe_ix (ix_tupK (K := K) (by rfl)) (pv 9) (pe_int (i := ((1 : Nat) : Int))) (fun _ _ => rfl))))) (pa_cons (by exact (pe_lc (own := [("_law_latch", 9)]) (by rfl) sc_law_apart.nd (pi_list (pe_ix (ix_listK (K := K) (by rfl)) (pv 1) (pe_int (i := ((1 : Nat) : Int))) (fun _ _ => rfl))) (blkOk_by (own := [("_law_latch", 9)]) (N := ["_law_left", "_law_right", "_law_count", "_law_met", "_law_turn", "_law_number", "_law_row", "_law_one", "_law_two", "_law_latch"]) (sc := defScope s_law_apart) (by decide +kernel)) (fun _ _ _ _ _ => by exact (pg_name (i := 9) sc_law_apart.nd rfl (Or.inl rfl))) (fun _ _ _ _ _ => by exact pts_nil) (fun _ _ _ _ _ => by exact (pe_ix (ix_tupK (K := K) (by rfl)) (pv 9) (pe_int (i := ((1 : Nat) : Int))) (fun _ _ => rfl))))) pa_nil))) pa_nil)))
  (pss_cons (ps_for PassesOwn.never rfl (pi_range1 (by rfl) T.m_range (pa_cons (pe_int (i := ((400 : Nat) : Int))) pa_nil)) (pg_name (i := 4) sc_law_apart.nd rfl (Or.inl rfl))
  (pss_cons (ps_if (pt_cmpR op_ge (pv 4) (pe_callB (call_lenK (K := K) (by rfl)) (by rfl) T.m_len (by decide +kernel) (pa_cons (pv 3) pa_nil)) (nomark _)) (pss_one ps_break) pss_nil)
  (pss_one (ps_for PassesOwn.never rfl (pi_range1 (by rfl) T.m_range (pa_cons (pe_ix (ix_tupK (K := K) (by rfl)) (pe_tup (pa_cons (pe_int (i := ((1 : Nat) : Int))) (pa_cons (pe_int (i := ((2 : Nat) : Int))) (pa_cons (pe_int (i := ((4 : Nat) : Int))) (pa_cons (pe_int (i := ((8 : Nat) : Int))) (pa_cons (pe_int (i := ((16 : Nat) : Int))) pa_nil)))))) (pv 2) (fun _ _ => rfl)) pa_nil)) (pg_name (i := 5) sc_law_apart.nd rfl (Or.inl rfl))
  (pss_cons (ps_set (i := 6) sc_law_apart.nd rfl (Or.inl rfl) (pe_callD D_law_bits (hr.mono (by decide)) (by rfl) (pa_cons (pv 5) (pa_cons (pv 2) pa_nil))))
  (pss_cons (ps_set (i := 7) sc_law_apart.nd rfl (Or.inl rfl) (pe_callD D_law_next (hr.mono (by decide)) (by rfl) (pa_cons (pv 0) (pa_cons (pe_ix (ix_tupK (K := K) (by rfl)) (pe_ix (ix_listK (K := K) (by rfl)) (pv 3) (pv 4) (fun _ _ => rfl)) (pe_int (i := ((0 : Nat) : Int))) (fun _ _ => rfl)) (pa_cons (pv 6) pa_nil)))))
  (pss_cons (ps_set (i := 8) sc_law_apart.nd rfl (Or.inl rfl) (pe_callD D_law_next (hr.mono (by decide)) (by rfl) (pa_cons (pv 1) (pa_cons (pe_ix (ix_tupK (K := K) (by rfl)) (pe_ix (ix_listK (K := K) (by rfl)) (pv 3) (pv 4) (fun _ _ => rfl)) (pe_int (i := ((1 : Nat) : Int))) (fun _ _ => rfl)) (pa_cons (pv 6) pa_nil)))))
  (pss_cons (ps_if (pt_cmpR (op_neD hr.units) (pe_ix (ix_tupK (K := K) (by rfl)) (pv 7) (pe_int (i := ((0 : Nat) : Int))) (fun _ _ => rfl)) (pe_ix (ix_tupK (K := K) (by rfl)) (pv 8) (pe_int (i := ((0 : Nat) : Int))) (fun _ _ => rfl)) (nomark _)) (pss_one (ps_ret pe_bl)) pss_nil)
  (pss_one (ps_if (pt_cmpR (op_notInD (u65 hr)) (pe_tup (pa_cons (pe_ix (ix_tupK (K := K) (by rfl)) (pv 7) (pe_int (i := ((1 : Nat) : Int))) (fun _ _ => rfl)) (pa_cons (pe_ix (ix_tupK (K := K) (by rfl)) (pv 8) (pe_int (i := ((1 : Nat) : Int))) (fun _ _ => rfl)) pa_nil))) (pv 3) (by rfl)) (pss_one (ps_expr (pe_bm PySem.F.plainAttrs_list PySem.F.slot_list_append PySem.F.type_list_append mt_append (pv 3) (pa_cons (pe_tup (pa_cons (pe_ix (ix_tupK (K := K) (by rfl)) (pv 7) (pe_int (i := ((1 : Nat) : Int))) (fun _ _ => rfl)) (pa_cons (pe_ix (ix_tupK (K := K) (by rfl)) (pv 8) (pe_int (i := ((1 : Nat) : Int))) (fun _ _ => rfl)) pa_nil))) pa_nil)))) pss_nil))))))))))
  (pss_one (ps_ret pe_bl))))), ?_⟩)⟩
  case len => walk_at "ln"
  
  obtain ⟨a, b, c, d, rfl, hA, hB, hc, hd, hin, h3, hE, q⟩ := h
  obtain ⟨li, ll, la, lo, p1, p2, ⟨vl, p3, r3⟩, p4, p5⟩ := id hA
  obtain ⟨mi, ml, ma, mo, q1, q2, ⟨wl, q3, s3⟩, q4, q5⟩ := id hB
  have hl1 := hc.leaf.2.1
  have hl2 := hd.leaf.2.1
  walk_at "st"
  walk_at "go"
  refine g_lenR (R := IsS) p2 ?_
  walk_at "go"
  refine g_rLcLT (xs := vl) (rep := IsI) (bs := startS c) p3 (by rw [r3.1]; omega) (by rw [r3.1]; exact List.length_map ..) mono_I stab_I (fun D i x y H1 hD hx hb hS Qy hQ => ?_) (fun u H1 hu hS1 hL1 => ?_)
  · obtain ⟨⟨s, z, l⟩, hs, t, rfl, ht⟩ := r3.2 i x hx
    unfold startS at hb
    rw [map_get hs] at hb
    cases hb
    have ht' := hS _ _ ht
    walk_at "go"
    exact hQ _ _ (L2.Same.refl _) rfl
  have q1' := hS1 _ _ q1
  walk_at "go"
  refine g_rLcLT (xs := wl) (rep := IsI) (bs := startS d) (hS1 _ _ q3) (by rw [s3.1]; omega) (by rw [s3.1]; exact List.length_map ..) mono_I stab_I (fun D i x y H2 hD hx hb hS Qy hQ => ?_) (fun v H2 hv hS2 hL2 => ?_)
  · obtain ⟨⟨s, z, l⟩, hs, t, rfl, ht⟩ := s3.2 i x hx
    unfold startS at hb
    rw [map_get hs] at hb
    cases hb
    have ht' := hS _ _ (hS1 _ _ ht)
    walk_at "go"
    exact hQ _ _ (L2.Same.refl _) rfl
  walk_at "go"
  rename_i t0 ht0 met hmet
  have sM : Same H2 (upd (upd H2 t0 (.tup [.ref u, .ref v])) met (.lst [.ref t0])) := L2.Same.trans (Same.new ht0) (Same.new hmet)
  have s0 : Same H _ := L2.Same.trans hS1 (L2.Same.trans hS2 sM)
  have nm0 : H met = none := by walk_at "nn"
  have e0 : (upd (upd H2 t0 (.tup [.ref u, .ref v])) met (.lst [.ref t0])) met = some (.lst [.ref t0]) := upd_same
  have eu := sM _ _ (hS2 _ _ (LstAt.nums.mp hL1))
  have ev := sM _ _ (LstAt.nums.mp hL2)
  have et : (upd (upd H2 t0 (.tup [.ref u, .ref v])) met (.lst [.ref t0])) t0 = some (.tup [.ref u, .ref v]) := lk_new hmet upd_same
  have hst : LstAt (upd (upd H2 t0 (.tup [.ref u, .ref v])) met (.lst [.ref t0])) met (IsSt met) [(startS c, startS d)] := ⟨[.ref t0], upd_same, All2.nil.snoc ⟨t0, u, v, rfl, et, ne_met eu e0 rfl, ne_met ev e0 rfl, eu, ev⟩⟩
  generalize upd (upd H2 t0 (.tup [.ref u, .ref v])) met (.lst [.ref t0]) = H3 at *
  obtain ⟨m, hm16, hm⟩ := two_pow_at h3
  refine g_rForR (by omega) (fun i σ H' => ∃ ps o4 o5 o6 o7 o8 o9, σ = [some (.ref a), some (.ref b), some (.int (c.ins.length : Int)), some (.ref met), o4, o5, o6, o7, o8, o9] ∧ Same H H' ∧ LstAt H' met (IsSt met) ps ∧ (∀ x ∈ ps, Reach c d x.1 x.2) ∧ 0 < ps.length ∧ ps.length ≤ 1 + 16 * i) ⟨[(startS c, startS d)], _, _, _, _, _, _, rfl, s0, hst, fun x hx => by rw [List.mem_singleton.mp hx]; exact Reach.start c d, Nat.le_refl _, Nat.le_refl _⟩ ?_ ?_
  · rintro i σ H' hi ⟨ps, _, _, _, _, _, _, rfl, hS, hP, hR, hp0, hpl⟩
    walk_at "go"
    refine g_lenR (R := IsSt met) hP ?_
    walk_at "go"
    refine br (fun c1 => ?_) (fun c1 => ?_)
    · unfold tBreak
      dsimp only
      walk_at "go"
      exact q H' hS
    · walk_at "go"
      rename_i tt htt
      refine g_ixT (K := K) upd_same hm ?_
      have hS' : Same H (upd H' tt (.tup [V.int ((1 : Nat) : Int), V.int ((2 : Nat) : Int), V.int ((4 : Nat) : Int), V.int ((8 : Nat) : Int), V.int ((16 : Nat) : Int)])) := L2.Same.trans hS (Same.new htt)
      have hP' := hP.mono mono_St (Same.new (o := .tup [V.int ((1 : Nat) : Int), V.int ((2 : Nat) : Int), V.int ((4 : Nat) : Int), V.int ((8 : Nat) : Int), V.int ((16 : Nat) : Int)]) htt)
      generalize upd H' tt (.tup [V.int ((1 : Nat) : Int), V.int ((2 : Nat) : Int), V.int ((4 : Nat) : Int), V.int ((8 : Nat) : Int), V.int ((16 : Nat) : Int)]) = H4 at *
      walk_at "go"
      refine g_rForR (by omega) (fun j σ H' => ∃ ps o5 o6 o7 o8 o9, σ = [some (.ref a), some (.ref b), some (.int (c.ins.length : Int)), some (.ref met), some (.int (i : Int)), o5, o6, o7, o8, o9] ∧ Same H H' ∧ LstAt H' met (IsSt met) ps ∧ (∀ x ∈ ps, Reach c d x.1 x.2) ∧ i < ps.length ∧ ps.length ≤ 1 + 16 * i + j) ⟨ps, _, _, _, _, _, rfl, hS', hP', hR, by omega, by omega⟩ ?_ ?_
      · rintro j σ H5 hj ⟨qs, _, _, _, _, _, rfl, hS5, hP5, hR5, hi5, hl5⟩
        obtain ⟨x, hx⟩ : ∃ x, qs[i]? = some x := ⟨_, List.getElem?_eq_getElem hi5⟩
        have hRx := hR5 x (List.mem_of_getElem? hx)
        obtain ⟨k1, k2⟩ := hRx.ok hc hd hin
        walk_at "go"
        refine ⟨j, c.ins.length, rfl, by omega, fun H6 row hS6 hrow0 hrow => ?_⟩
        have hP6 := hP5.mono mono_St hS6
        obtain ⟨vs, hvs, rr⟩ := id hP6
        obtain ⟨vx, hvx, t, e1, e2, rfl, ht, n1, n2, he1, he2⟩ := rr.get hx
        walk_at "go"
        refine g_ixL hvs hvx ?_
        walk_at "go"
        have br1 := bitsL_bits j c.ins.length
        have bl1 := bitsL_len j c.ins.length
        refine ⟨a, e1, row, c, _, _, rfl, hA.mono (L2.Same.trans hS5 hS6), he1, hrow, hc, k1.b, br1, k1.l, bl1, fun H7 g1 u1 v1 hS7 hg1 hg1t hu1 hv1 => ?_⟩
        have s57 := L2.Same.trans hS5 (L2.Same.trans hS6 hS7)
        walk_at "go"
        refine g_ixL (hS7 _ _ hvs) hvx ?_
        have ht7 := hS7 _ _ ht
        walk_at "go"
        refine ⟨b, e2, row, d, _, _, rfl, hB.mono s57, hS7 _ _ he2, hS7 _ _ hrow, hd, k2.b, br1, k2.l, by rw [bl1, hin], fun H8 g2 u2 v2 hS8 hg2 hg2t hu2 hv2 => ?_⟩
        have s58 := L2.Same.trans s57 hS8
        have hg1t8 := hS8 _ _ hg1t
        have hu18 := hS8 _ _ hu1
        have hv18 := hS8 _ _ hv1
        have hvs8 := hS8 _ _ (hS7 _ _ hvs)
        have hP8 := hP6.mono mono_St (L2.Same.trans hS7 hS8)
        walk_at "go"
        have eo := hRx.out hE br1 bl1
        rw [eo] at hu2
        refine g_neD (K := K) (dp_nums hu18) (dp_nums hu2) ((ok_nums _).mono (by decide)) ?_
        walk_at "go"
        rename_i t9 ht9
        have s9 : Same H8 (upd H8 t9 (.tup [.ref v1, .ref v2])) := Same.new ht9
        have e9 : (upd H8 t9 (.tup [.ref v1, .ref v2])) t9 = some (.tup [.ref v1, .ref v2]) := upd_same
        have hv19 := s9 _ _ hv18
        have hv29 := s9 _ _ hv2
        have hP9 := hP8.mono mono_St s9
        have hvs9 := s9 _ _ hvs8
        have s59 := L2.Same.trans s58 s9
        have g1t9 := s9 _ _ hg1t8
        have g2t9 := s9 _ _ hg2t
        generalize upd H8 t9 (.tup [.ref v1, .ref v2]) = H9 at *
        refine ⟨dSt (nextF c x.1 (bitsL j c.ins.length), nextF d x.2 (bitsL j c.ins.length)), qs.map dSt, .tup (SqT.of e9) (.cons (dp_nums hv19) (.cons (dp_nums hv29) .nil)), dp_lst (fun _ _ => dp_St) hP9, (ok_dSt _).shaped (by decide), (ok_lst fun x _ => ok_dSt x).shaped (by decide), ?_⟩
        walk_at "go"
        refine ite_both ?_ ?_
        · walk_at "go"
          rename_i t10 ht10
          have s10 : Same H9 (upd H9 t10 (.tup [.ref v1, .ref v2])) := Same.new ht10
          have e10 : (upd H9 t10 (.tup [.ref v1, .ref v2])) t10 = some (.tup [.ref v1, .ref v2]) := upd_same
          have hv1a := s10 _ _ hv19
          have hv2a := s10 _ _ hv29
          obtain ⟨ws, hws, rw2⟩ := hP9.mono mono_St s10
          have s5a := L2.Same.trans s59 s10
          generalize upd H9 t10 (.tup [.ref v1, .ref v2]) = H10 at *
          have hw0 : ∃ tt, ws[0]? = some (.ref tt) := by
            obtain ⟨y, hy⟩ : ∃ y, qs[0]? = some y := ⟨_, List.getElem?_eq_getElem (by omega)⟩
            obtain ⟨vy, hvy, tt, _, _, rfl, _⟩ := rw2.get hy
            exact ⟨tt, hvy⟩
          obtain ⟨tt, htt⟩ := hw0
          refine g_append hws (by rw [rw2.1]; exact Nat.lt_of_lt_of_le (show qs.length < 100000 by omega) (by decide)) ?_
          refine ⟨qs ++ [(nextF c x.1 (bitsL j c.ins.length), nextF d x.2 (bitsL j c.ins.length))], _, _, _, _, _, rfl, Same.mut s5a nm0, ⟨_, upd_same, (rw2.imp fun v y r => stab_St hws r).snoc (stab_St hws ⟨t10, v1, v2, rfl, e10, ne_met hv1a hws htt, ne_met hv2a hws htt, hv1a, hv2a⟩)⟩, fun y hy => ?_, ?_, ?_⟩
          · rcases List.mem_append.mp hy with hy | hy
            · exact hR5 y hy
            · rw [List.mem_singleton.mp hy]
              exact hRx.next br1 bl1
          · rw [List.length_append]; omega
          · rw [List.length_append]; show _ + 1 ≤ _; omega
        · walk_at "go"
          exact ⟨qs, _, _, _, _, _, rfl, s59, hP9, hR5, hi5, by omega⟩
      · rintro σ H' ⟨ps, _, _, _, _, _, rfl, hS, hP, hR, hp0, hpl⟩
        exact ⟨ps, _, _, _, _, _, _, rfl, hS, hP, hR, by omega, by omega⟩
  · rintro σ H' ⟨ps, _, _, _, _, _, _, rfl, hS, hP, hR, hp0, hpl⟩
    walk_at "go"
    exact q H' hS
end
end
section
/-! part SgSort -/
set_option Elab.async false
set_option maxRecDepth 100000
set_option linter.unusedVariables false
set_option maxHeartbeats 1000000
open PySem PySem.Spec PyProof.Rows L2 LamX
/-! ### an object of ours that is not tracked -/
section
variable {X : Cx} {pins : List (Addr × Obj)} {σ : L2.St} {H H' : Hp} {s : Shared} {h' : Heap} {t' : Nat} {c it : Addr} {o : HO}
theorem inv_other (I : Inv X pins σ H s) (k : ∀ b ob, b ≠ c → s.heap.get? b = some ob → h'.get? b = some ob) (f : FpOk X pins H c) : Inv X pins σ H { s with heap := h', toks := t' } := by
  obtain ⟨hn, hL, _, h1, h2, h3⟩ := f
  have nit : ∀ b u, H b = some u → b ≠ c := fun b u e z => by rw [z, hn] at e; cases e
  refine I.step (g' := s.gens) (d' := s.drawn) (ch := [c]) (fun b hb => ?_) (fun b ob _ _ hc e _ => k b ob (fun z => hc (by simp [z])) e) (fun b ob _ _ hc e _ => ⟨ob.slots, k b ob (fun z => hc (by simp [z])) e⟩)
    (fun b ob hc _ n => n) (fun b ob hc e => ⟨ob, k b ob (fun z => hc (by simp [z])) e⟩) (fun b _ e => e) (fun b _ _ e => e) (fun b ps e => ⟨#[], by rw [e]; simp⟩) (fun m hm => ?_) (fun b u e => ?_) I.bare
  · have e : b = c := by simpa using hb
    subst e
    exact ⟨h1, hL, h2, h3⟩
  · obtain ⟨ob, es, ep, ho, r⟩ := hm
    exact ⟨ob, es, ep, k _ ob (Ne.symm hL) ho, r⟩
  · refine (I.hok b u e).stay (fun d v hd q => k d v ?_ q) (fun d q => q) fun d _ q => q
    rcases hd with z | z
    · rw [z]; exact nit b u e
    · exact nit d _ z
/-- one is tracked from now on, another is dropped -/
theorem inv_take2 (I : Inv X pins σ H s) (k : ∀ b ob, b ≠ it → b ≠ c → s.heap.get? b = some ob → h'.get? b = some ob) (f : FpOk X pins H it) (fc : FpOk X pins H c)
    (new : ObjOk X.prog X.w (upd H it o) h' it o) : Inv X pins σ (upd H it o) { s with heap := h', toks := t' } := by
  obtain ⟨hn, hL, _, h1, h2, h3⟩ := f
  obtain ⟨cn, cL, _, c1, c2, c3⟩ := fc
  have nit : ∀ b u, H b = some u → b ≠ it := fun b u e z => by rw [z, hn] at e; cases e
  have nic : ∀ b u, H b = some u → b ≠ c := fun b u e z => by rw [z, cn] at e; cases e
  have up : ∀ b u, H b = some u → upd H it o b = some u := fun b u e => by rw [upd_ne (nit b u e)]; exact e
  refine I.step (g' := s.gens) (d' := s.drawn) (ch := [it, c]) (fun b hb => ?_) (fun b ob _ _ hc e _ => k b ob (fun z => hc (by simp [z])) (fun z => hc (by simp [z])) e) (fun b ob _ _ hc e _ => ⟨ob.slots, k b ob (fun z => hc (by simp [z])) (fun z => hc (by simp [z])) e⟩)
    (fun b ob hc _ n => by rw [upd_ne (fun z => hc (by simp [z]))]; exact n) (fun b ob hc e => ⟨ob, k b ob (fun z => hc (by simp [z])) (fun z => hc (by simp [z])) e⟩) (fun b _ e => up b _ e) (fun b _ _ e => up b _ e) (fun b ps e => ⟨#[], by rw [up b _ e]; simp⟩) (fun m hm => ?_) (fun b u e => ?_) I.bare
  · have e : b = it ∨ b = c := by simpa using hb
    rcases e with rfl | rfl
    · exact ⟨h1, hL, h2, h3⟩
    · exact ⟨c1, cL, c2, c3⟩
  · obtain ⟨ob, es, ep, ho, r⟩ := hm
    exact ⟨ob, es, ep, k _ ob (Ne.symm hL) (Ne.symm cL) ho, r⟩
  · by_cases hb : b = it
    · rw [hb, upd_same] at e
      cases e
      rw [hb]
      exact new
    · rw [upd_ne hb] at e
      refine (I.hok b u e).stay (fun d v hd q => k d v ?_ ?_ q) (fun d q => up d _ q) fun d _ q => up d _ q
      · rcases hd with z | z
        · rw [z]; exact hb
        · exact nit d _ z
      · rcases hd with z | z
        · rw [z]; exact nic b u e
        · exact nic d _ z
end
/-! ### a lambda of one parameter -/
/-- its parameter a, captured names and globals -/
structure Lam1 (sc scope : Scope) (a : Str) : Prop where
  kind : scope.kind = .function
  co : scope.isCoroutine = false
  gen : scope.isGenerator = false
  own : ∀ y ∈ scope.names, (y.2 = .local → y.1 = a) ∧ y.2 ≠ .cell
  par : scope.names.lookup a = some .local
  free : ∀ y ∈ scope.names, y.2 = .free → sc.names.lookup y.1 = some .cell ∨ sc.names.lookup y.1 = some .free
def lam1B (sc scope : Scope) (a : Str) : Bool :=
  decide (scope.kind = .function) && !scope.isCoroutine && !scope.isGenerator && decide (scope.names.lookup a = some .local) && scope.names.all fun y => (!decide (y.2 = .local) || decide (y.1 = a)) && !decide (y.2 = .cell) && (!decide (y.2 = .free) || decide (sc.names.lookup y.1 = some .cell) || decide (sc.names.lookup y.1 = some .free))
theorem lam1_by {sc scope : Scope} {a : Str} (h : lam1B sc scope a = true) : Lam1 sc scope a := by
  unfold lam1B at h
  simp only [Bool.and_eq_true, Bool.or_eq_true, Bool.not_eq_true', decide_eq_true_eq, decide_eq_false_iff_not, List.all_eq_true] at h
  obtain ⟨⟨⟨⟨h1, h2⟩, h3⟩, h5⟩, h4⟩ := h
  refine ⟨h1, h2, h3, fun y hy => ⟨fun e => ?_, (h4 y hy).1.2⟩, h5, fun y hy e => ?_⟩
  · exact (h4 y hy).1.1.elim (fun z => absurd e z) id
  · rcases (h4 y hy).2 with (z | z) | z
    · exact absurd e z
    · exact .inl z
    · exact .inr z
theorem nodup_get {α : Type} {l : List α} {i j : Nat} {x : α} (hn : l.Nodup) (h1 : l[i]? = some x) (h2 : l[j]? = some x) : i = j := by
  obtain ⟨l1, g1⟩ := List.getElem?_eq_some_iff.mp h1
  obtain ⟨l2, g2⟩ := List.getElem?_eq_some_iff.mp h2
  rcases Nat.lt_trichotomy i j with h | h | h
  · exact absurd (g1.trans g2.symm) ((List.pairwise_iff_getElem.mp hn) i j l1 l2 h)
  · exact h
  · exact absurd (g2.trans g1.symm) ((List.pairwise_iff_getElem.mp hn) j i l2 l1 h)
theorem Lam1.has {X : Cx} {scope : Scope} {a : Str} (L : Lam1 X.env.scope scope a) (ok : X.Ok) : ∀ y ∈ scope.names, y.2 = .free → ∃ c, X.env.cells.lookup y.1 = some c := fun y hy e => by
  rcases L.free y hy e with k | k
  · exact ok.has _ (.inl k)
  · exact ok.has _ (.inr k)
section
variable {X : Cx} {pins : List (Addr × Obj)} {σ : L2.St} {H : Hp} {s : Shared}
theorem lam_start1 {A : Around} {outer : List Env} {E : XK} {scope : Scope} {a : Str} {f c' : Addr} {h₁ : Heap} {tk i : Nat} {v : V} {u : Value} (I : Inv X pins σ H s) (L : Lam1 X.env.scope scope a) (e0 : Env0 X.prog X.w X.K X.mg X.base A outer s H) (hd : A.handled = none)
    (hns : h₁.Ns s.heap.objs.size fun y => [(a, u)].reverse.lookup y) (kp : ∀ b o, s.heap.get? b = some o → h₁.get? b = some o) (hN : X.N[i]? = some a) (hnd : X.N.Nodup) (rv : RelV v u) :
    Inv (lamCx X A outer s H E scope f c') [] (σ.set i (some v)) H { s with heap := h₁, toks := tk } := by
  have hfree := L.has I.ok
  have cm : ∀ {y c}, (cloFrom X.env.cells scope.names []).lookup y = some c → X.env.cells.lookup y = some c := fun {y c} e => by
    rcases cloFrom_mem (PySem.mem_of_lookup e) with hm | ⟨h1, h2⟩
    · cases hm
    · obtain ⟨c1, hc⟩ := hfree _ h1 rfl
      have hc : X.env.cells.lookup y = some c1 := hc
      have e2 : c = c1 := by
        rw [h2, hc] <;> rfl
      rw [e2]
      exact hc
  have look : ∀ {y}, scope.names.lookup y = some .free → ∃ c, (cloFrom X.env.cells scope.names []).lookup y = some c := fun {y} hl => by
    have hy : (y, NameKind.free) ∈ scope.names := PySem.mem_of_lookup hl
    exact mem_lookup (cloFrom_has (cells := X.env.cells) (acc := []) hy)
  have cellK : ∀ {c : Addr} {v : Option Value}, s.heap.IsCell c v → h₁.IsCell c v := fun {c v} ⟨o, ho, hd⟩ => ⟨o, kp _ _ ho, hd⟩
  have noA : ∀ b : Addr, b ∉ (lamCx X A outer s H E scope f c').ex := fun b z => absurd (show b ∈ ([] : List Addr) from z) (by simp)
  refine ⟨⟨e0.mod, L.kind, rfl, rfl, Nat.le_refl _, fun y z c e1 e2 => I.ok.inj y z c (cm e1) (cm e2), fun y hy => ?_, fun y c z _ => ?_, fun _ => hd, Around.frames_deeper e0.frames, .inr ⟨rfl, rfl⟩, fun b z => absurd z (noA b), e0.bs, e0.bsz, fun b _ _ => noA b,
      fun b z => absurd z (noA b), e0.funs, e0.frf⟩,
    rfl, e0.bare, Un.kept kp, ⟨_, hns, fun j y v' e1 e2 e3 => ?_⟩, fun y c e => ?_, e0.hok.fresh (Nat.le_refl _), fun y c e => I.freeC y c (cm e), fun q hq => absurd (show q ∈ ([] : List (Addr × Obj)) ++ [] from hq) (by simp), e0.hok.kept kp, by rw [List.length_set]; exact I.len⟩
  · have hy : scope.names.lookup y = some .cell ∨ scope.names.lookup y = some .free := hy
    rcases hy with hy | hy
    · exact absurd rfl (L.own _ (PySem.mem_of_lookup hy)).2
    · exact look hy
  · have z : false = true := z
    cases z
  · have e1 : X.N[j]? = some y := e1
    have e3 : Vis scope y := e3
    by_cases hj : j = i
    · subst hj
      rw [hN] at e1
      cases e1
      rw [List.getElem?_set, if_pos rfl] at e2
      split at e2
      · cases e2
        refine ⟨u, rv, .inl ⟨L.par, ?_⟩⟩
        show List.lookup a [(a, u)] = some u
        rw [List.lookup_cons]
        simp
      · cases e2
    · rw [List.getElem?_set, if_neg (Ne.symm hj)] at e2
      have hya : y ≠ a := fun z => hj (by
        rw [z] at e1
        exact nodup_get hnd e1 hN)
      rcases e3 with k | k | k
      · exact absurd ((L.own _ (PySem.mem_of_lookup k)).1 rfl) hya
      · exact absurd rfl (L.own _ (PySem.mem_of_lookup k)).2
      · obtain ⟨m, hn, hl⟩ := I.loc
        have hvis : Vis X.env.scope y := (L.free _ (PySem.mem_of_lookup k) rfl).elim (fun k => .inr (.inl k)) (fun k => .inr (.inr k))
        obtain ⟨w', r, q⟩ := hl j y v' e1 e2 hvis
        obtain ⟨c2, h2⟩ := look k
        refine ⟨w', r, .inr ⟨.inr k, c2, h2, ?_⟩⟩
        have c1 := cm h2
        rcases q with ⟨k', _⟩ | ⟨_, c3, e', z⟩
        · have k' : X.env.scope.names.lookup y = some .local := k'
          rcases L.free _ (PySem.mem_of_lookup k) rfl with k2 | k2 <;> rw [show X.env.scope.names.lookup y = _ from k2] at k' <;> cases k'
        · rw [c1] at e'
          cases e'
          exact cellK z
  · obtain ⟨w', z⟩ := I.cell y c (cm e)
    exact ⟨w', cellK z⟩
/-- the lambda's call, within two built-in functions -/
theorem lam_call1 {params : Arguments} {body : Expr} {scope : Scope} {a : Str} {f c' : Addr} {pm ctv : Value} {k i : Nat} {tb : TE} {v : V} {u : Value} {Qk : VK} {E : Value → Shared → Prop}
    (I : Inv X pins σ H s) (L : Lam1 X.env.scope scope a) (hf : s.heap.get? f = some (PySem.W.kla_obj "<lambda>" (X.env.qual ++ "<lambda>") params body scope (cloFrom X.env.cells scope.names []) pm c' ctv)) (hco : H c' = some (CodeO c' (X.env.qual ++ "<lambda>")))
    (hbind : ∀ u : Value, bindArgs (PySem.W.kla_fn "<lambda>" (X.env.qual ++ "<lambda>") params body scope (cloFrom X.env.cells scope.names []) pm (.ref c') ctv) ⟨[u], []⟩ = pure [(a, u)]) (hr : Room (k + 3) X.A) (rv : RelV v u) (hN : X.N[i]? = some a) (hnd : X.N.Nodup)
    (hbody : ∀ (A : Around) (outer : List Env) (s : Shared) (H : Hp), Room k (A.deeper (lamEnv X scope s.heap.objs.size f c')) → PE (lamCx X A outer s H E0 scope f c').nox body tb)
    (ht : tb (σ.set i (some v)) H Qk) :
    wpAny (model X.prog X.w) X.A.in1.in1 (call (.ref f) [u]) (fun w s'' => ∃ y H'', Inv X pins σ H'' s'' ∧ Un (frs X.stack) [] H H'' s.heap s''.heap ∧ RelV y w ∧ Qk y H'') E s := by
  have e0 : Env0 X.prog X.w X.K X.mg X.base X.A.in1.in1 X.stack s H := I.env0.in1.in1
  have hr2 : Room (k + 1) X.A.in1.in1 := hr.in1.in1
  obtain ⟨⟨oc, vs, t, hoc, hdc, hvc⟩, _, _⟩ := I.hok c' _ hco
  refine wpAny_call ?_
  refine PySem.W.kla_callFunE hr2.depth hf rfl L.co L.gen rfl ⟨c', oc, vs, t, rfl, hoc, hdc, hvc⟩ ?_
  rw [hbind]
  refine wpAny_pure (wpAny_newFunctionEnv (fun y hy => (L.own y hy).2) (fun y hy => ?_) (fun h₁ hns hsb => ⟨I.nolimit.fresh _ hsb, ?_⟩) L.kind)
  · rw [List.mem_singleton.mp hy]; exact L.par
  show codeAny _ _ (.expr body (lamEnv X scope s.heap.objs.size f c')) _ _
  have kp : ∀ b o, s.heap.get? b = some o → h₁.get? b = some o := fun b o e => hsb.extBut b o (Nat.ne_of_lt (Heap.lt_size e)) (Heap.get?_push_of_some _ e)
  have J : Inv (lamCx X X.A.in1.in1 X.stack s H E0 scope f c') [] (σ.set i (some v)) H { s with heap := h₁, toks := s.toks + [(a, u)].length } :=
    lam_start1 I L e0 hr2.hd hns kp hN hnd rv
  have hb := hbody X.A.in1.in1 X.stack s H (hr2.deeper _)
  refine PySem.W.kla_codeExpr (wpAny_mono (hb.run [] _ _ H Qk (J.wish _) ht) (fun w s' hq => ?_) fun e s' hq => False.elim hq)
  obtain ⟨y, H'', J', rv', q⟩ := hq
  have ce : CE X.stack X.prog X.w H s (fun y2 H2 => y2 = y ∧ H2 = H'') w s' := ⟨y, H'', J'.os, J'.bare, J'.base, J'.hok, rv', rfl, rfl⟩
  obtain ⟨y2, H2, I2, rv2, ey, eH⟩ := I.after ce
  subst ey eH
  exact ⟨_, _, I2, J'.base, rv2, q⟩
end
end
section
/-! part SgSort2 -/
set_option Elab.async false
set_option maxRecDepth 100000
set_option linter.unusedVariables false
set_option maxHeartbeats 1000000
open PySem PySem.Spec PyProof.Rows L2 LamX PySem.W
/-! ### sorted(d, key = a lambda) -/
def keyD (p : Int × Int) : PyData := .tuple [.int p.1, .int p.2]
theorem each_of_get {α β : Type} {R : α → β → Prop} : ∀ {as : List α} {bs : List β}, as.length = bs.length → (∀ (j : Nat) a b, as[j]? = some a → bs[j]? = some b → R a b) → EachIs R as bs
  | [], [], _, _ => .nil
  | [], _ :: _, h, _ => by simp at h
  | _ :: _, [], h, _ => by simp at h
  | a :: as, b :: bs, h, k => .cons (k 0 a b rfl rfl) (each_of_get (by simpa using h) fun j x y e1 e2 => k (j + 1) x y (by simpa using e1) (by simpa using e2))
theorem each_get {α β : Type} {R : α → β → Prop} : ∀ {as : List α} {bs : List β}, EachIs R as bs → ∀ {j : Nat} {a : α}, as[j]? = some a → ∃ b, bs[j]? = some b ∧ R a b
  | _, _, .nil, j, a, h => by simp at h
  | _, _, .cons r t, 0, a, h => by cases h; exact ⟨_, rfl, r⟩
  | _, _, .cons r t, j + 1, a, h => by
    obtain ⟨b, e, q⟩ := each_get t (j := j) (by simpa using h)
    exact ⟨b, by simpa using e, q⟩
theorem vals_of_each : ∀ {out : List Value} {ys : List Int}, EachIs (fun v n => ∃ t, v = Value.int n t) out ys → Vals (ys.map V.int) out
  | _, _, .nil => .nil
  | _, _, .cons r t => .cons r (vals_of_each t)
section
variable {X : Cx} {pins : List (Addr × Obj)} {σ : L2.St} {H : Hp} {s : Shared}
/-- what a turn of the key function does -/
def Turn (X : Cx) (pins : List (Addr × Obj)) (σ : L2.St) (H : Hp) (f : Addr) (fo : Obj) (g : Int → Int × Int) (n : Int) : Prop := ∀ (H' : Hp) (s' : Shared) (t : Tok) (E : Value → Shared → Prop), Inv X pins σ H' s' → Same H H' → s'.heap.get? f = some fo → H' f = none →
  wpAny (model X.prog X.w) X.A.in1.in1 (call (.ref f) [.int n t]) (fun w s'' => ∃ b H'', Inv X pins σ H'' s'' ∧ Un (frs X.stack) [] H' H'' s'.heap s''.heap ∧ w = .ref b ∧ Same H' H'' ∧ H'' b = some (.tup [.int (g n).1, .int (g n).2])) E s'
/-- the state between the turns -/
structure KeyI (X : Cx) (pins : List (Addr × Obj)) (σ : L2.St) (H : Hp) (f a kS : Addr) (fo : Obj) (e1 : Nat) (g : Int → Int × Int) (ns : List Int) (s' : Shared) : Prop where
  ex : ∃ H' kA e, Inv X pins σ H' s' ∧ Same H H' ∧ s'.heap.get? f = some fo ∧ H' f = none ∧ s'.heap.get? kS = some (seqObj "list" kA e) ∧ H' kS = none ∧ s'.heap.get? a = some (seqObj "list" #[] e1) ∧ H' a = none ∧
    EachIs (fun v n => ∃ b, v = .ref b ∧ H' b = some (.tup [.int (g n).1, .int (g n).2])) kA.toList ns
theorem reads_pair {P : Program} {w : World} {H' : Hp} {h : Heap} {b : Addr} {p : Int × Int} (hok : HOk P w H' h) (e : H' b = some (.tup [.int p.1, .int p.2])) : Reads h (.ref b) (keyD p) [] := by
  obtain ⟨_, ts, rt, o, ho, hc, hd⟩ := (show ObjOk P w H' h b (.tup [.int p.1, .int p.2]) from hok b _ e)
  cases rt with
  | cons r1 r2 =>
    cases r2 with
    | cons r3 r4 =>
      cases r4
      obtain ⟨t1, rfl⟩ := r1
      obtain ⟨t2, rfl⟩ := r3
      obtain ⟨n, hd⟩ := hd
      exact .tuple ho hc hd (.cons (as := []) (bs := []) (.int _ _) (.cons (as := []) (bs := []) (.int _ _) .nil))
theorem sort_lam {d f : Addr} {fo : Obj} {kvs : List (Key × V)} {ks : List Int} {g : Int → Int × Int} {Q : VK} {k : Nat} (I : Inv X pins σ H s) (hcalm : X.calm = true) (hr : Room (k + 3) X.A) (hd : Rd H d (.dK kvs)) (hks : kvs.map (·.1) = ks.map Sum.inl) (hz : ks.length ≤ 1000)
    (hf : s.heap.get? f = some fo) (hfn : H f = none) (hfr : f ∉ frs X.stack) (turn : ∀ n ∈ ks, Turn X pins σ H f fo g n)
    (q : ∀ (ys : List Int) (p : Addr) (H' : Hp), ys.Perm ks → Same H H' → H' p = none → Q (.ref p) (upd H' p (.lst (ys.map V.int)))) :
    wpAny (model X.prog X.w) X.A (call (.builtin "sorted") [.ref d] [(Str.ofString "key", .ref f)]) (EP X pins σ Q) X.xe s := by
  obtain ⟨z, lo, vs, rel, dd⟩ := dk_rd I.hok hd
  obtain ⟨ep, hat⟩ := dd.dictAt
  have hkeys : vs.map (·.1) = ks.map Sum.inl := rel.keys.symm.trans hks
  have hl : vs.length = ks.length := by
    have e := congrArg List.length hkeys
    rw [List.length_map, List.length_map] at e
    exact e
  have h16 : vs.length ≤ sizeLine := by rw [hl, sizeLine_eq]; omega
  refine PyProof.Rows.call_function_entry_kw PyProof.Rows.kind_sorted PyProof.Rows.plain_sorted PyProof.Rows.entry_sorted (PyProof.Rows.ksk_s1 _ _) ?_
  unfold Builtin.«sorted»
  refine wpAny_bind (m := checkCount "sorted" 1 1 _) (wpAny_pure ?_)
  refine wpAny_bind (PySem.W.kdu_collect (A := X.A.in1) (PySem.W.kdl_dict (knd := mixKind X.prog X.w) (kvs := vs) (ep := ep) lo) (I.ok.hd hcalm) hat h16 fun h' tk acc hk hacc => ?_)
  have hal : acc.toList.length = ks.length := by rw [Array.length_toList, hacc.1, hl]
  have hS : EachIs (fun v n => ∃ t, v = Value.int n t) acc.toList ks := each_of_get hal fun j v n e en => by
    obtain ⟨k, x, e1, e2⟩ := hacc.2 j v (by rw [← Array.getElem?_toList]; exact e)
    have e3 : (vs.map (·.1))[j]? = some k := by rw [List.getElem?_map, e1]; rfl
    rw [hkeys, List.getElem?_map, en] at e3
    have e5 : Sum.inl n = k := Option.some.inj e3
    subst e5
    rcases keyIs_shape (show keyIs (Sum.inl n) v = true from e2) with ⟨i, t, ek, ev⟩ | ⟨z, t, ek, ev⟩
    · cases ek
      exact ⟨t, ev⟩
    · cases ek
  have I1 : Inv X pins σ H { s with heap := h', toks := tk } := I.kept hk
  refine wpAny_bind (wpAny_newList ?_ (by rw [hal, sizeLine_eq]; omega))
  have hoL : (h'.push (seqObj "list" acc.toList.toArray 0)).get? h'.objs.size = some (seqObj "list" acc.toList.toArray 0) := Heap.get?_push_size _ rfl
  show wpAny _ _ _ _ _ { s with heap := h'.push (seqObj "list" acc.toList.toArray 0), toks := tk }
  refine wpAny_bind (wpAny_holding (wpAny_call_entry_kw PyProof.Rows.slot_list_sort ⟨_, hoL, rfl⟩ PyProof.Rows.entry_list_sort ?_ (PyProof.Rows.ksk_l1 _ _)))
  rw [PyProof.Rows.ksk_t1]
  have fpa : FpOk X pins H h'.objs.size := I1.fpOk (Nat.le_refl _) (I1.hok.fresh (Nat.le_refl _))
  have I2 : Inv X pins σ H { s with heap := h'.push (seqObj "list" acc.toList.toArray 0), toks := tk } := I1.kept fun b o e => Heap.get?_push_of_some _ e
  have hf2 : (h'.push (seqObj "list" acc.toList.toArray 0)).get? f = some fo := Heap.get?_push_of_some _ (hk _ _ hf)
  have nfr : ∀ b, h'.objs.size ≤ b → b ∉ frs X.stack := fun b hb z => by
    rcases List.mem_cons.mp (I1.stkSub _ z) with e | e
    · have h1 := I1.lt
      rw [← e] at h1
      exact Nat.lt_irrefl _ (Nat.lt_of_lt_of_le h1 hb)
    · exact I1.nofs hb e
  have hfa : f ≠ h'.objs.size := Nat.ne_of_lt (Heap.lt_size (hk _ _ hf))
  show wpAny _ _ (ksk_tree h'.objs.size (.ref f) false) _ _ _
  generalize h'.objs.size = a at *
  generalize hvs : acc.toList = us at *
  generalize hhp : h'.push (seqObj "list" us.toArray 0) = hp at *
  have hus : us.length ≤ sizeLine := by rw [hal, sizeLine_eq]; omega
  have ha : a < hp.objs.size := Heap.lt_size hoL
  obtain ⟨e1, ho1⟩ : ∃ e1, (hp.update a (Obj.mapSeq fun _ => (#[] : Array Value))).get? a = some (seqObj "list" #[] e1) := ⟨_, get?_update_seq hoL fun _ => #[]⟩
  have hkS : ((hp.update a (Obj.mapSeq fun _ => (#[] : Array Value))).push (seqObj "tuple" us.toArray 0)).objs.size = hp.objs.size + 1 := by rw [size_push', Heap.size_update]
  unfold ksk_tree
  refine wpAny_bind (listItems_at hoL rfl ?_)
  refine wpAny_bind (listUpdate_at hoL rfl ?_ (by rw [List.size_toArray]; exact hus) (Nat.zero_le _))
  refine wpAny_bind (seqEpoch_at ho1 rfl ?_)
  refine wpAny_bind (wpAny_newTuple ?_ (by show us.length ≤ _; exact hus))
  refine wpAny_bind (wpAny_newList ?_ (Nat.zero_le _))
  refine wpAny_holding ?_
  have fpk : FpOk X pins H (hp.objs.size + 1) := I2.fpOk (Nat.le_succ _) (I2.hok.fresh (Nat.le_succ _))
  have I3 : Inv X pins σ H { s with heap := sortingHeap hp a us, toks := tk } := inv_other (s := { s with heap := hp, toks := tk }) (h' := sortingHeap hp a us) (t' := tk) I2 (fun b o hb e => sortingHeap_old hb e) fpa
  have nk : (sortingHeap hp a us).get? (hp.objs.size + 1) = some (seqObj "list" #[] 0) := by rw [← hkS]; exact Heap.get?_push_size _ rfl
  have na : (sortingHeap hp a us).get? a = some (seqObj "list" #[] e1) := Heap.get?_push_of_some _ (Heap.get?_push_of_some _ ho1)
  have hka : hp.objs.size + 1 ≠ a := by omega
  have hfk : f ≠ hp.objs.size + 1 := Nat.ne_of_lt (Nat.lt_succ_of_lt (Heap.lt_size hf2))
  have hf3 : (sortingHeap hp a us).get? f = some fo := sortingHeap_old hfa hf2
  have kfr : hp.objs.size + 1 ∉ frs X.stack := nfr _ (by omega)
  have afr : a ∉ frs X.stack := nfr _ (Nat.le_refl _)
  show wpAny _ _ (ksk_rest a (.ref f) false us.toArray e1 (.ref ((hp.update a (Obj.mapSeq fun _ => (#[] : Array Value))).push (seqObj "tuple" us.toArray 0)).objs.size)) _ _ { s with heap := sortingHeap hp a us, toks := tk }
  rw [hkS]
  generalize hp.objs.size + 1 = kS at *
  unfold ksk_rest
  refine wpAny_bind (wpAny_rule ?_)
  first
    | rw [List.forIn_toArray]
    | (rw [← Array.forIn_toList]; simp only [List.toList_toArray])
    | rw [← Array.forIn_toList]
  refine wpAny_bind (ksk_fold (fun i s' => KeyI X pins σ H f a kS fo e1 g (ks.take i) s') us 0 _ ⟨H, #[], 0, I3, fun _ _ e => e, hf3, hfn, nk, fpk.1, na, fpa.1, by rw [List.take_zero]; exact .nil⟩ ?step ?done)
  case step =>
    rintro j x s' hx ⟨H', kA, e, I', hS', hf', hfn', nk', nkn, na', nan, hE⟩
    simp only [Nat.zero_add] at hE ⊢
    obtain ⟨n, en, t, rfl⟩ := each_get hS hx
    have hj := (List.getElem?_eq_some_iff.mp hx).1
    have hzA : kA.size ≤ us.length := by
      have h1 := hE.length
      rw [Array.length_toList, List.length_take] at h1
      omega
    refine wpAny_bind (wpAny_attempt (wpAny_mono (turn n (List.mem_of_getElem? en) H' s' t _ I' hS' hf' hfn') (fun v s'' he => ?_) fun _ _ hF => hF))
    obtain ⟨b, H'', I'', un, rfl, hS2, hb⟩ := he
    try dsimp only
    have nk2 : s''.heap.get? kS = some (seqObj "list" kA e) := un.keep _ _ nk' nkn kfr (by simp)
    have na2 : s''.heap.get? a = some (seqObj "list" #[] e1) := un.keep _ _ na' nan afr (by simp)
    have nf2 : s''.heap.get? f = some fo := un.keep _ _ hf' hfn' hfr (by simp)
    have nkn2 : H'' kS = none := un.free _ _ nk' nkn (by simp)
    have nan2 : H'' a = none := un.free _ _ na' nan (by simp)
    have nfn2 : H'' f = none := un.free _ _ hf' hfn' (by simp)
    have s1 := Heap.SameBut.update s''.heap kS (Obj.mapSeq (·.push (Value.ref b)))
    obtain ⟨c2, hc2⟩ : ∃ c2, (s''.heap.update kS (Obj.mapSeq (·.push (Value.ref b)))).get? kS = some (seqObj "list" (kA.push (.ref b)) c2) := ⟨_, get?_update_seq nk2 (·.push (Value.ref b))⟩
    have ek : ks.take (j + 1) = ks.take j ++ [n] := by rw [List.take_add_one, en]; simp
    have ea : (kA.push (Value.ref b)).toList = kA.toList ++ [.ref b] := by simp
    refine wpAny_bind (listUpdate_at nk2 rfl ?_ (Nat.le_trans hzA hus) (Nat.le_trans (Nat.le_of_eq (Array.size_push ..)) (Nat.succ_le_succ (Nat.le_trans hzA hus))))
    refine wpAny_pure ⟨rfl, ⟨H'', kA.push (.ref b), c2, inv_other I'' (fun c o hc eo => (s1.2 c hc).trans eo) ⟨nkn2, fpk.2⟩, fun c o eo => hS2 c o (hS' c o eo), (s1.2 f hfk).trans nf2, nfn2, hc2, nkn2, (s1.2 a hka.symm).trans na2, nan2, ?_⟩⟩
    rw [ea, ek]
    exact each_snoc (R := fun v n => ∃ b, v = Value.ref b ∧ H'' b = some (.tup [.int (g n).1, .int (g n).2])) ⟨b, rfl, hb⟩ (hE.mono fun v n ⟨b', e1', e2'⟩ => ⟨b', e1', hS2 _ _ e2'⟩)
  case done =>
    rintro s' ⟨H', kA, e, I', hS', hf', hfn', nk', nkn, na', nan, hE⟩
    have e3 : ks.take (0 + us.length) = ks := List.take_of_length_le (by omega)
    rw [e3] at hE
    have hk' : EachIs (fun v k => ∃ as, Reads s'.heap v k as) kA.toList (ks.map fun n => keyD (g n)) := by
      refine each_of_get (by rw [List.length_map]; exact hE.length) fun j v d ev ed => ?_
      obtain ⟨n, en, b, rfl, hb⟩ := each_get hE ev
      rw [List.getElem?_map, en] at ed
      cases ed
      exact ⟨[], reads_pair (p := g n) I'.hok hb⟩
    have hsz : kA.size = us.length := by
      have h1 := hE.length
      rw [Array.length_toList] at h1
      omega
    have hal2 : AllAlike (ks.map fun n => keyD (g n)) := fun d hd d' hd' => by
      obtain ⟨n, _, rfl⟩ := List.mem_map.mp hd
      obtain ⟨m, _, rfl⟩ := List.mem_map.mp hd'
      simp [keyD, alike, alikeAll]
    have hsk : Sortable (ks.map fun n => keyD (g n)) := .inl fun d hd => by
      obtain ⟨n, _, rfl⟩ := List.mem_map.mp hd
      exact ⟨_, _, rfl⟩
    have hu : ∀ d ∈ ks.map fun n => keyD (g n), X.A.in1.in1.units + d.depth < cLine := fun d hd => by
      obtain ⟨n, _, rfl⟩ := List.mem_map.mp hd
      have := hr.un
      show X.A.units + 1 + 1 + _ < _
      simp [keyD, PyData.depth, PyData.depthAll]
      omega
    try dsimp only
    refine wpAny_bind (listItems_at nk' rfl ?_)
    obtain ⟨G, g1, g2⟩ := restrict s'.heap fun b => decide (b ≠ kS)
    refine keyH_end (κ := dataKind s'.heap (ks.map fun n => keyD (g n))) (h₁ := G) (fun b o hb eo => ?_) (g2 kS (by simp)) nk' na' hka (SortsAt.data hk' hal2 hsk hu) hsz hus fun h3 tk3 c k3 n3 => ?_
    · by_cases hbk : b = kS
      · rw [hbk, g2 kS (by simp)] at eo; cases eo
      · rw [← g1 b (decide_eq_true hbk)]; exact eo
    have ko : KeyedOut false (ks.map fun n => keyD (g n)) us (sortVals (dataKind s'.heap (ks.map fun n => keyD (g n))) false kA.toList us) := ⟨s'.heap, kA.toList, hal2, rfl, hk'⟩
    have he := keyedOut_each (fun n => keyD (g n)) ko hS
    generalize sortVals (dataKind s'.heap (ks.map fun n => keyD (g n))) false kA.toList us = out at *
    have hp' := List.mergeSort_perm ks (dataLe false fun n => keyD (g n))
    generalize ks.mergeSort (dataLe false fun n => keyD (g n)) = ys at *
    refine ⟨_, rfl, wpAny_pure ⟨_, rfl, .ref a, upd H' a (.lst (ys.map V.int)), inv_take2 I' (fun b o hb hbk eo => k3 b o hb (by rw [g1 b (decide_eq_true hbk)]; exact eo)) ⟨nan, fpa.2⟩ ⟨nkn, fpk.2⟩ ⟨?_, out, c, vals_of_each he, n3⟩, rfl, q ys a H' hp' hS' nan⟩⟩
    rw [List.length_map, hp'.length_eq, sizeLine_eq]
    omega
end
end
section
/-! part SgSort3 -/
set_option Elab.async false
set_option maxRecDepth 100000
set_option linter.unusedVariables false
set_option maxHeartbeats 1000000
open PySem PySem.Spec PyProof.Rows L2 LamX
/-- sorted(d, key = lambda a: ..), d a dict of ints -/
def tSortLam (T : List (Addr × Str)) (i : Nat) (td tb : TE) : TE := fun σ H Q => td σ H fun x H1 => ∃ (d : Addr) (kvs : List (Key × V)) (ks : List Int) (g : Int → Int × Int), x = .ref d ∧ H1 d = some (.dK kvs) ∧ kvs.map (·.1) = ks.map Sum.inl ∧ ks.length ≤ 1000 ∧ Tabs T H1 ∧
  ∀ H2, ExtN H1 H2 → Tabs T H2 → (∀ n ∈ ks, ∀ H3, Same H2 H3 → tb (σ.set i (some (.int n))) H3 fun y H4 => ∃ b, y = .ref b ∧ Same H3 H4 ∧ H4 b = some (.tup [.int (g n).1, .int (g n).2])) ∧
    ∀ (ys : List Int) (p : Addr) (H5 : Hp), ys.Perm ks → Same H2 H5 → H5 p = none → Q (.ref p) (upd H5 p (.lst (ys.map V.int)))
section
variable {X : Cx}
theorem pe_sortLam {T : List (Addr × Str)} {c P : Addr} {params : Arguments} {body dE : Expr} {scope : Scope} {a : Str} {k i : Nat} {td tb : TE} {p pos lpos kpos : Pos} (hc : X.calm = true) (hg : Gl X "sorted") (hm : X.mg "sorted" = none) (hd : PE X dE td)
    (TB : TabB X.base X.mg c P) (hcode : X.env.code = .ref c) (hmT : (P, X.env.qual ++ "<lambda>") ∈ T) (hu : ∀ p ∈ T, p.1 = P → p.2 = X.env.qual ++ "<lambda>") (hr : Room (k + 3) X.A) (L : Lam1 X.env.scope scope a) (hdef : defaultsOf params X.env = ([], []))
    (hbind : ∀ (q : Str) (cl : List (Str × Addr)) (pm cv ctv u : Value), bindArgs (PySem.W.kla_fn "<lambda>" q params body scope cl pm cv ctv) ⟨[u], []⟩ = pure [(a, u)]) (hN : X.N[i]? = some a) (hnd : X.N.Nodup)
    (hbody : ∀ (A : Around) (outer : List Env) (s : Shared) (H : Hp) (f c' : Addr), Room k (A.deeper (lamEnv X scope s.heap.objs.size f c')) → PE (lamCx X A outer s H E0 scope f c').nox body tb)
    (he : backTo pos (starEach [dE] X.env) = (false, eval dE X.env) :: backTo pos (starEach [] X.env) := by rfl) (hpl : (backTo pos (starEach [dE] X.env)).any (·.1) = false := by rfl) :
    PE X (.Call (.Name "sorted" p) [dE] [⟨some "key", .Lambda params body scope lpos, kpos⟩] pos) (tSortLam T i td tb) := by
  refine ⟨fun pins s σ H Q I h => ?_⟩
  refine wpAny_Call_Name_kw (ld_blt I hg hm (u := .builtin "sorted") (by kernel_rfl) ?_ (by decide) (by decide))
  refine PyProof.Rows.callWith_kw ?_ he hpl rfl rfl
  rw [he]
  refine Calls.spliced_cons (thn (hd.run pins s σ H _ I h) fun u s1 ⟨x, H1, I1, r1, d, kvs, ks, g, ex, eD, ek, hz, hT, q⟩ => Calls.spliced_nil ?_)
  subst ex
  obtain rfl : u = Value.ref d := r1
  show wpAny _ _ (evalAll [(do let v ← eval (.Lambda params body scope lpos) X.env; standAt pos; pure v)]) _ _ s1
  refine wpAny_evalAll_cons (wpAny_bind ?_)
  refine lam_make2 I1 TB hcode hmT hu hT hdef (L.has I.ok) fun f c' pm ctv H2 s2 I2 eN T2 hf hfn hfr hco => wpAny_bind (wpAny_standAt (wpAny_pure (wpAny_evalAll_nil ?_)))
  obtain ⟨qt, qr⟩ := q H2 eN T2
  have eD2 : H2 d = some (.dK kvs) := eN _ _ eD fun ps z => nomatch z
  exact sort_lam I2 hc hr (.inl eD2) ek hz hf hfn hfr (fun n hn H3 s3 t E I3 hS hf3 hfn3 => by
    refine thn (lam_call1 (i := i) (v := .int n) (u := .int n t) I3 L hf3 (hS _ _ hco) (hbind _ _ _ _ _) hr ⟨t, rfl⟩ hN hnd (fun A outer s H hr' => hbody A outer s H f c' hr') (qt n hn H3 hS)) ?_
    rintro w s4 ⟨y, H4, I4, un, rv, b, rfl, hS4, hb⟩
    obtain rfl : w = Value.ref b := rv
    exact ⟨b, H4, I4, un, rfl, hS4, hb⟩) qr
end
end
section
/-! part SgSort4 -/
set_option Elab.async false
set_option maxRecDepth 100000
set_option linter.unusedVariables false
set_option maxHeartbeats 1000000
open PySem PySem.Spec PyProof.Rows L2 LamX
section
variable {X : Cx} {o i o2 i2 : Expr} {pos tpos tpos2 : Pos} {td ty td2 ty2 : TE}
/-- del d[k], e[j] -/
def sDDel2 (td ty td2 ty2 : TE) : TS := fun D σ H => td σ H fun x H1 => ty σ H1 fun y H2 => ∃ a kvs k, x = .ref a ∧ H2 a = some (.dK kvs) ∧ y = kV k ∧ (valV kvs k).isSome = true ∧ td2 σ (upd H2 a (.dK (dropK kvs k))) fun x2 H3 => ty2 σ H3 fun y2 H4 => ∃ a2 kvs2 k2, x2 = .ref a2 ∧ H4 a2 = some (.dK kvs2) ∧ y2 = kV k2 ∧ (valV kvs2 k2).isSome = true ∧ D.nx σ (upd H4 a2 (.dK (dropK kvs2 k2)))
theorem ps_ddel2 (ho : PE X o td) (hi : PE X i ty) (ho2 : PE X o2 td2) (hi2 : PE X i2 ty2) : PS X (.Delete [.Subscript o i tpos, .Subscript o2 i2 tpos2] pos) (sDDel2 td ty td2 ty2) := by
  refine ⟨fun pins s σ H D I h => ?_⟩
  refine wpAny_Delete (wpAny_deleteEach_cons (wpAny_delete_Subscript (thn (ho.run pins s σ H _ I h) fun u s1 ⟨x, H1, I1, rx, q1⟩ => thn (hi.run pins s1 σ H1 _ I1 q1) fun iv s2 ⟨y, H2, I2, ry, a, kvs, k, ex, e, ey, l, q2⟩ => ?_)))
  subst ex ey
  obtain rfl : u = Value.ref a := rx
  refine d_delItem I2 e ry l fun s3 I3 => ?_
  refine wpAny_deleteEach_cons (wpAny_delete_Subscript (thn (ho2.run pins s3 σ _ _ I3 q2) fun u2 s4 ⟨x2, H4, I4, rx2, q4⟩ => thn (hi2.run pins s4 σ H4 _ I4 q4) fun iv2 s5 ⟨y2, H5, I5, ry2, a2, kvs2, k2, ex2, e2, ey2, l2, q5⟩ => ?_))
  subst ex2 ey2
  obtain rfl : u2 = Value.ref a2 := rx2
  exact d_delItem I5 e2 ry2 l2 fun s6 I6 => wpAny_deleteEach_nil ⟨σ, _, I6, q5⟩
end
section
variable {P : Program} {w : World} {K : PySem.W.Frag} {mg : Str → Option Value} {base : Heap}
/-- a def whose code object is known -/
theorem fn_okC {x qual : Str} {params : Arguments} {body : List Stmt} {scope : Scope} {f c : Addr} {fd : FuncData} {N ps : List Str} {k : Nat} {sp : Sp} (F : FunD K x qual params body scope [] [] f fd) (hcode : fd.code = .ref c) (S : FnScope N ps scope) (len : ∀ vs H Q E, sp vs H Q E → vs.length = ps.length)
    (hbody : ∀ (A : Around) (outer : List Env) (s : Shared) (H : Hp) (vs : List V) (Q : VK) (E : XK), Room k (A.deeper (envOfC qual scope s.heap.objs.size f (.ref c))) → sp vs H Q E →
      ∃ t, PSs (cxOf CX0 P w K mg base N qual scope f (.ref c) A outer s H E).nox body t ∧ t { nx := fun _ H' => Q .non H', rt := Q } (L2.start N vs) H) : FnOk P w K mg base CX0 (k + 1) f fd ps sp := by
  obtain ⟨oc, od, dV, kV, doc, pm, an, cdv, ct, osl, rfl, lk, hcd, _, _⟩ := F.ex
  obtain rfl : cdv = .ref c := hcode
  exact fn_of lk hcd S len fun A outer s H vs Q E hr hsp => by
    obtain ⟨t, ht, q⟩ := hbody A outer s H vs Q E hr hsp
    exact ⟨t, ht.nox, q⟩
end
end
section
/-! part SgBu -/
set_option Elab.async false
set_option maxRecDepth 100000
set_option linter.unusedVariables false
set_option maxHeartbeats 1000000
open PySem PySem.Spec PyProof.Rows L2


section
variable {P : Program} {w : World} {K : PySem.W.Frag} {mg : Str → Option Value} {base : Heap} {f pr : Addr} {fd : FuncData}
def BldAt (K : PySem.W.Frag) (C : Addr) (H : Hp) (p dx lp ln ll : Addr) (b : Bld) : Prop := H p = some (.ins C dx (F_Builder (.int (b.lc : Int)) (.ref lp) (.ref ln) (.ref ll))) ∧ LstAt H lp IsP b.pairs ∧ H ln = some (.dT (nodesT (b.lc + 1) b.pairs)) ∧ H ll = some (.lst (nums b.levels)) ∧ lp ≠ ll
def Keep3 (l m n : Addr) (H H' : Hp) : Prop := ∀ a u, a ≠ l → a ≠ m → a ≠ n → H a = some u → H' a = some u
theorem BldAt.mono {C : Addr} {H H' : Hp} {p dx lp ln ll : Addr} {b : Bld} (s : Same H H') (h : BldAt K C H p dx lp ln ll b) : BldAt K C H' p dx lp ln ll b := ⟨s _ _ h.1, h.2.1.mono mono_P s, s _ _ h.2.2.1, s _ _ h.2.2.2.1, h.2.2.2.2⟩
def spBldInit (K : PySem.W.Frag) (C : Addr) : Sp := fun vs H Q _ => ∃ (p dx : Addr) (n : Nat), vs = [.ref p, .int (n : Int)] ∧ H p = some (.ins C dx []) ∧ n ≤ 10000 ∧
  ∀ H' lp ln ll, (∀ a u, a ≠ p → H a = some u → H' a = some u) → H lp = none → H ln = none → H ll = none → BldAt K C H' p dx lp ln ll ⟨n, [], List.replicate (n + 1) 0⟩ → Q .non H'
def spLevelOf (K : PySem.W.Frag) (C : Addr) : Sp := fun vs H Q _ => ∃ (p dx ll : Addr) (v1 v2 v3 : V) (lv : List Nat) (l : Nat), vs = [.ref p, .int (l : Int)] ∧ H p = some (.ins C dx (F_Builder v1 v2 v3 (.ref ll))) ∧ H ll = some (.lst (nums lv)) ∧ l / 2 < lv.length ∧ Q (.int ((lv.getD (l / 2) 0 : Nat) : Int)) H
theorem g_levelOf {C p dx ll : Addr} {v1 v2 v3 : V} {lv : List Nat} {l : Nat} {H : Hp} {Q : VK} {E : XK} (h : H p = some (.ins C dx (F_Builder v1 v2 v3 (.ref ll)))) (h4 : H ll = some (.lst (nums lv))) (hl : l / 2 < lv.length) (q : Q (.int ((lv.getD (l / 2) 0 : Nat) : Int)) H) : spLevelOf K C [.ref p, .int (l : Int)] H Q E := ⟨p, dx, ll, v1, v2, v3, lv, l, rfl, h, h4, hl, q⟩
def spPairOf (K : PySem.W.Frag) (C : Addr) : Sp := fun vs H Q _ => ∃ (p dx lp ln ll : Addr) (b : Bld) (l : Nat), vs = [.ref p, .int (l : Int)] ∧ BldAt K C H p dx lp ln ll b ∧ l / 2 < b.nn ∧ (l / 2 ≤ b.lc → Q .non H) ∧
  ∀ pr t, b.lc < l / 2 → b.pairs[l / 2 - b.lc - 1]? = some pr → H t = some (.tup [.int (pr.1 : Int), .int (pr.2 : Int)]) → Q (.ref t) H
theorem ok_level_of_Builder (F : FunD K "level_of" "Builder.level_of" (defArgs s_Builder_level_of) (defBody s_Builder_level_of) (defScope s_Builder_level_of) [] [] f fd) (hm : Meth K (He.ga K "Builder") "level_of" f) (T : Txt K mg) : MethOk P w K mg base 1 (He.ga K "Builder") "level_of" ["self", "literal"] (spLevelOf K (He.ga K "Builder")) := by
  refine ⟨f, fd, hm, (FunD.bindsN (ps := ["self", "literal"]) F fun _ _ _ _ _ _ us hl => match us, hl with | [_, _], _ => rfl), fn_ok F sc_Builder_level_of ?len (fun cdv A outer s H vs Q E hr h => ⟨_, (pss_one (ps_ret (pe_ix (ix_listK (K := K) (by rfl)) (pe_f T.c_Builder T.n_Builder__levels (pv 0)) (pe_op op_shr (pv 1) (pe_int (i := ((1 : Nat) : Int)))) (fun _ _ => rfl)))), ?_⟩)⟩
  case len => walk_at "ln"
  
  obtain ⟨p, dx, ll, v1, v2, v3, lv, l, rfl, h1, h4, hl, q⟩ := h
  obtain ⟨v, hv⟩ : ∃ v, lv[l / 2]? = some v := ⟨_, List.getElem?_eq_getElem hl⟩
  rw [getD_of hv] at q
  walk_at "st"
  walk_at "go"
  exact g_ixL h4 (nums_get hv) q
theorem ok_pair_of_Builder (F : FunD K "pair_of" "Builder.pair_of" (defArgs s_Builder_pair_of) (defBody s_Builder_pair_of) (defScope s_Builder_pair_of) [] [] f fd) (hm : Meth K (He.ga K "Builder") "pair_of" f) (T : Txt K mg) : MethOk P w K mg base 1 (He.ga K "Builder") "pair_of" ["self", "literal"] (spPairOf K (He.ga K "Builder")) := by
  refine ⟨f, fd, hm, (FunD.bindsN (ps := ["self", "literal"]) F fun _ _ _ _ _ _ us hl => match us, hl with | [_, _], _ => rfl), fn_ok F sc_Builder_pair_of ?len (fun cdv A outer s H vs Q E hr h => ⟨_, (pss_cons (ps_if (pt_cmpR op_le (pe_op op_shr (pv 1) (pe_int (i := ((1 : Nat) : Int)))) (pe_f T.c_Builder T.n_Builder_leaf_count (pv 0)) (nomark _)) (pss_one (ps_ret pe_non)) pss_nil)
  (pss_one (ps_ret (pe_ix (ix_listK (K := K) (by rfl)) (pe_f T.c_Builder T.n_Builder_pairs (pv 0)) (pe_op op_sub (pe_op op_sub (pe_op op_shr (pv 1) (pe_int (i := ((1 : Nat) : Int)))) (pe_f T.c_Builder T.n_Builder_leaf_count (pv 0))) (pe_int (i := ((1 : Nat) : Int)))) (fun _ _ => rfl))))), ?_⟩)⟩
  case len => walk_at "ln"
  
  obtain ⟨p, dx, lp, ln, ll, b, l, rfl, ⟨h1, ⟨vp, h2, r2⟩, h3, h4, h5⟩, hl, q1, q2⟩ := h
  walk_at "st"
  walk_at "go"
  refine br (fun h => ?_) (fun h => ?_)
  · walk_at "go"
    exact q1 h
  · have hi : l / 2 - b.lc - 1 < b.pairs.length := by unfold Bld.nn at hl; omega
    obtain ⟨pr, hpr⟩ : ∃ pr, b.pairs[l / 2 - b.lc - 1]? = some pr := ⟨_, List.getElem?_eq_getElem hi⟩
    obtain ⟨v, hv, t, rfl, ht⟩ := r2.get hpr
    walk_at "go"
    exact g_ixL h2 hv (q2 pr t (by omega) hpr ht)
theorem ok_level_of_RuleBuilder (F : FunD K "level_of" "Builder.level_of" (defArgs s_Builder_level_of) (defBody s_Builder_level_of) (defScope s_Builder_level_of) [] [] f fd) (hm : Meth K (He.ga K "RuleBuilder") "level_of" f) (T : Txt K mg) : MethOk P w K mg base 1 (He.ga K "RuleBuilder") "level_of" ["self", "literal"] (spLevelOf K (He.ga K "RuleBuilder")) := by
  refine ⟨f, fd, hm, (FunD.bindsN (ps := ["self", "literal"]) F fun _ _ _ _ _ _ us hl => match us, hl with | [_, _], _ => rfl), fn_ok F sc_Builder_level_of ?len (fun cdv A outer s H vs Q E hr h => ⟨_, (pss_one (ps_ret (pe_ix (ix_listK (K := K) (by rfl)) (pe_f T.c_RuleBuilder T.n_RuleBuilder__levels (pv 0)) (pe_op op_shr (pv 1) (pe_int (i := ((1 : Nat) : Int)))) (fun _ _ => rfl)))), ?_⟩)⟩
  case len => walk_at "ln"
  
  obtain ⟨p, dx, ll, v1, v2, v3, lv, l, rfl, h1, h4, hl, q⟩ := h
  obtain ⟨v, hv⟩ : ∃ v, lv[l / 2]? = some v := ⟨_, List.getElem?_eq_getElem hl⟩
  rw [getD_of hv] at q
  walk_at "st"
  walk_at "go"
  exact g_ixL h4 (nums_get hv) q
theorem ok_pair_of_RuleBuilder (F : FunD K "pair_of" "Builder.pair_of" (defArgs s_Builder_pair_of) (defBody s_Builder_pair_of) (defScope s_Builder_pair_of) [] [] f fd) (hm : Meth K (He.ga K "RuleBuilder") "pair_of" f) (T : Txt K mg) : MethOk P w K mg base 1 (He.ga K "RuleBuilder") "pair_of" ["self", "literal"] (spPairOf K (He.ga K "RuleBuilder")) := by
  refine ⟨f, fd, hm, (FunD.bindsN (ps := ["self", "literal"]) F fun _ _ _ _ _ _ us hl => match us, hl with | [_, _], _ => rfl), fn_ok F sc_Builder_pair_of ?len (fun cdv A outer s H vs Q E hr h => ⟨_, (pss_cons (ps_if (pt_cmpR op_le (pe_op op_shr (pv 1) (pe_int (i := ((1 : Nat) : Int)))) (pe_f T.c_RuleBuilder T.n_RuleBuilder_leaf_count (pv 0)) (nomark _)) (pss_one (ps_ret pe_non)) pss_nil)
  (pss_one (ps_ret (pe_ix (ix_listK (K := K) (by rfl)) (pe_f T.c_RuleBuilder T.n_RuleBuilder_pairs (pv 0)) (pe_op op_sub (pe_op op_sub (pe_op op_shr (pv 1) (pe_int (i := ((1 : Nat) : Int)))) (pe_f T.c_RuleBuilder T.n_RuleBuilder_leaf_count (pv 0))) (pe_int (i := ((1 : Nat) : Int)))) (fun _ _ => rfl))))), ?_⟩)⟩
  case len => walk_at "ln"
  
  obtain ⟨p, dx, lp, ln, ll, b, l, rfl, ⟨h1, ⟨vp, h2, r2⟩, h3, h4, h5⟩, hl, q1, q2⟩ := h
  walk_at "st"
  walk_at "go"
  refine br (fun h => ?_) (fun h => ?_)
  · walk_at "go"
    exact q1 h
  · have hi : l / 2 - b.lc - 1 < b.pairs.length := by unfold Bld.nn at hl; omega
    obtain ⟨pr, hpr⟩ : ∃ pr, b.pairs[l / 2 - b.lc - 1]? = some pr := ⟨_, List.getElem?_eq_getElem hi⟩
    obtain ⟨v, hv, t, rfl, ht⟩ := r2.get hpr
    walk_at "go"
    exact g_ixL h2 hv (q2 pr t (by omega) hpr ht)
def spBoth (K : PySem.W.Frag) (C : Addr) (R : Bld → Nat → Nat → Nat → Bld → Prop) : Sp := fun vs H Q _ => ∃ (p dx lp ln ll : Addr) (b : Bld) (l r : Nat), vs = [.ref p, .int (l : Int), .int (r : Int)] ∧ BldAt K C H p dx lp ln ll b ∧ BldOk b ∧ l / 2 < b.nn ∧ r / 2 < b.nn ∧ b.nn < 5000 ∧
  ∀ y b' H', R b l r y b' → Keep3 lp ln ll H H' → BldAt K C H' p dx lp ln ll b' → Q (.int (y : Int)) H'
theorem ok_both_Builder (F : FunD K "both" "Builder.both" (defArgs s_Builder_both) (defBody s_Builder_both) (defScope s_Builder_both) [] [] f fd) (hm : Meth K (He.ga K "Builder") "both" f) (T : Txt K mg) (M_Builder_level_of : MethOk P w K mg base 1 (He.ga K "Builder") "level_of" ["self", "literal"] (spLevelOf K (He.ga K "Builder"))) : MethOk P w K mg base 2 (He.ga K "Builder") "both" ["self", "left", "right"] (spBoth K (He.ga K "Builder") BothR) := by
  refine ⟨f, fd, hm, (FunD.bindsN (ps := ["self", "left", "right"]) F fun _ _ _ _ _ _ us hl => match us, hl with | [_, _, _], _ => rfl), fn_ok F sc_Builder_both ?len (fun cdv A outer s H vs Q E hr h => ⟨_, (pss_cons (ps_par (i := 3) (j := 4) (by rfl) sc_Builder_both.nd rfl rfl (by decide) rfl rfl (pa_cons (pe_callB (call_min' rfl) (by rfl) T.m_min (by decide +kernel) (pa_cons (pv 1) (pa_cons (pv 2) pa_nil))) (pa_cons (pe_callB (call_max' rfl) (by rfl) T.m_max (by decide +kernel) (pa_cons (pv 1) (pa_cons (pv 2) pa_nil))) pa_nil)) (by rfl))
  (pss_cons (ps_if (PW.pt (pw_or (pt_cmpR op_eq (pv 3) (pe_int (i := ((0 : Nat) : Int))) (nomark _)) (pw_or1 (pt_cmpR op_eq (pv 4) (pe_op op_xor (pv 3) (pe_int (i := ((1 : Nat) : Int)))) (nomark _))))) (pss_one (ps_ret (pe_int (i := ((0 : Nat) : Int))))) pss_nil)
  (pss_cons (ps_if (PW.pt (pw_or (pt_cmpR op_eq (pv 3) (pe_int (i := ((1 : Nat) : Int))) (nomark _)) (pw_or1 (pt_cmpR op_eq (pv 3) (pv 4) (nomark _))))) (pss_one (ps_ret (pv 4))) pss_nil)
  (pss_cons (ps_if (pt_cmp (pc_dnotin (hu_of hr) (pe_tup (pa_cons (pv 3) (pa_cons (pv 4) pa_nil))) (pe_f T.c_Builder T.n_Builder__nodes (pv 0))) (by rfl)) (pss_cons (ps_expr (pe_bm PySem.F.plainAttrs_list PySem.F.slot_list_append PySem.F.type_list_append mt_append (pe_f T.c_Builder T.n_Builder_pairs (pv 0)) (pa_cons (pe_tup (pa_cons (pv 3) (pa_cons (pv 4) pa_nil))) pa_nil)))
  (pss_cons (ps_expr (pe_bm PySem.F.plainAttrs_list PySem.F.slot_list_append PySem.F.type_list_append mt_append (pe_f T.c_Builder T.n_Builder__levels (pv 0)) (pa_cons (pe_op op_add (pe_int (i := ((1 : Nat) : Int))) (pe_callB (call_max' rfl) (by rfl) T.m_max (by decide +kernel) (pa_cons (pe_methD M_Builder_level_of T.c_Builder (hr.mono (by decide)) (pv 0) (pa_cons (pv 3) pa_nil)) (pa_cons (pe_methD M_Builder_level_of T.c_Builder (hr.mono (by decide)) (pv 0) (pa_cons (pv 4) pa_nil)) pa_nil)))) pa_nil)))
  (pss_one (ps_dput (hu_of hr) (pe_f T.c_Builder T.n_Builder__nodes (pv 0)) (pe_tup (pa_cons (pv 3) (pa_cons (pv 4) pa_nil))) (pe_op op_add (pe_f T.c_Builder T.n_Builder_leaf_count (pv 0)) (pe_callB (call_lenK (K := K) (by rfl)) (by rfl) T.m_len (by decide +kernel) (pa_cons (pe_f T.c_Builder T.n_Builder_pairs (pv 0)) pa_nil))) (by rfl))))) pss_nil)
  (pss_one (ps_ret (pe_op op_mul (pe_int (i := ((2 : Nat) : Int))) (pe_dget (hu_of hr) (pe_f T.c_Builder T.n_Builder__nodes (pv 0)) (pe_tup (pa_cons (pv 3) (pa_cons (pv 4) pa_nil))) (fun _ _ => rfl))))))))), ?_⟩)⟩
  case len => walk_at "ln"
  
  obtain ⟨p, dx, lp, ln, ll, b, l, r, rfl, hb, hok, hl, hr, hz, q⟩ := h
  obtain ⟨h1, h2, h3, h4, h5⟩ := id hb
  have kr : Keep3 lp ln ll H H := fun _ _ _ _ _ e => e
  walk_at "st"
  walk_at "go"
  refine br (fun c1 => ?_) (fun c1 => ?_)
  · walk_at "go"
    exact q 0 b H (.inl ⟨.inl c1, rfl, rfl⟩) kr hb
  walk_at "go"
  refine br (fun c2 => ?_) (fun c2 => ?_)
  · walk_at "go"
    exact q 0 b H (.inl ⟨.inr c2, rfl, rfl⟩) kr hb
  have c12 : ¬ (min l r = 0 ∨ max l r = neg (min l r)) := fun h => h.elim c1 c2
  walk_at "go"
  refine br (fun c3 => ?_) (fun c3 => ?_)
  · walk_at "go"
    exact q _ b H (.inr (.inl ⟨c12, .inl c3, rfl, rfl⟩)) kr hb
  walk_at "go"
  refine br (fun c4 => ?_) (fun c4 => ?_)
  · walk_at "go"
    exact q _ b H (.inr (.inl ⟨c12, .inr c4, rfl, rfl⟩)) kr hb
  have c34 : ¬ (min l r = 1 ∨ min l r = max l r) := fun h => h.elim c3 c4
  have lmin : (min l r) / 2 < b.levels.length := by rw [hok.lv]; unfold Bld.nn at hl hr; omega
  have lmax : (max l r) / 2 < b.levels.length := by rw [hok.lv]; unfold Bld.nn at hl hr; omega
  have qF : ∀ i H', b.pairs[i]? = some (min l r, max l r) → Keep3 lp ln ll H H' → BldAt K (He.ga K "Builder") H' p dx lp ln ll b → Q (.int ((2 * (b.lc + 1 + i) : Nat) : Int)) H' := fun i H' e => q _ b H' (.inr (.inr (.inl ⟨c12, c34, i, e, rfl, rfl⟩)))
  have qN : ¬ (min l r, max l r) ∈ b.pairs → ∀ lv H', Keep3 lp ln ll H H' → BldAt K (He.ga K "Builder") H' p dx lp ln ll ⟨b.lc, b.pairs ++ [(min l r, max l r)], b.levels ++ [lv]⟩ → Q (.int ((2 * (b.lc + 1 + b.pairs.length) : Nat) : Int)) H' := fun h lv H' => q _ _ H' (.inr (.inr (.inr ⟨c12, c34, h, rfl, lv, rfl⟩)))
  clear q c12 c34 c1 c2 c3 c4 hl hr
  generalize min l r = lo at *
  generalize max l r = hi at *
  walk_at "go"
  rename_i t1 ht1
  by_cases hm : (lo, hi) ∈ b.pairs
  · obtain ⟨i, hi1, hi2⟩ := nodesT_in (n := b.lc + 1) hm
    refine g_rDNotInT (k := key2 (lo, hi)) (lk_new ht1 h3) upd_same (b := true) (by rw [hi2]; rfl) ?_
    walk_at "go"
    rename_i t2 ht2
    refine g_rDGetT (k := key2 (lo, hi)) (lk_new ht2 (lk_new ht1 h3)) upd_same hi2 ?_
    walk_at "go"
    have s2 : Same H (upd (upd H t1 (.tup [.int (lo : Int), .int (hi : Int)])) t2 (.tup [.int (lo : Int), .int (hi : Int)])) := L2.Same.trans (Same.new ht1) (Same.new ht2)
    exact qF i _ hi1 (fun a u _ _ _ e => s2 a u e) (hb.mono s2)
  · have hout := nodesT_out (n := b.lc + 1) hm
    refine g_rDNotInT (k := key2 (lo, hi)) (lk_new ht1 h3) upd_same (b := false) (by rw [hout]; rfl) ?_
    have n1 : lp ≠ t1 := by obtain ⟨_, e, _⟩ := h2; exact ne_of_none e ht1
    walk_at "go"
    case z => unfold Bld.nn at hz; omega
    rename_i t2 ht2 H1 k1 hL1
    have sA : Same H (upd (upd H t1 (.tup [.int (lo : Int), .int (hi : Int)])) t2 (.tup [.int (lo : Int), .int (hi : Int)])) := L2.Same.trans (Same.new ht1) (Same.new ht2)
    obtain ⟨vp, ep, _⟩ := h2
    have m1 : p ≠ lp := ne_of h1 ep (fun q => nomatch q)
    have m2 : ln ≠ lp := ne_of h3 ep (fun q => nomatch q)
    have m3 : p ≠ ll := ne_of h1 h4 (fun q => nomatch q)
    have m4 : ln ≠ ll := ne_of h3 h4 (fun q => nomatch q)
    have m5 : p ≠ ln := ne_of h1 h3 (fun q => nomatch q)
    have f1 := k1 _ _ m1 (sA _ _ h1)
    have f3 := k1 _ _ m2 (sA _ _ h3)
    have f4 := k1 _ _ h5.symm (sA _ _ h4)
    have K1 : Keep3 lp ln ll H H1 := fun a u n _ _ e => k1 a u n (sA a u e)
    have hlv := hok.lv
    clear k1 sA ht2 n1
    walk_at "go"
    refine g_levelOf f1 f4 lmin ?_
    walk_at "go"
    refine g_levelOf f1 f4 lmax ?_
    walk_at "go"
    case z => unfold Bld.nn at hz; omega
    refine g_lenR (LstAt.stab stab_P h5 f4 hL1) ?_
    walk_at "go"
    rename_i t3 ht3
    have sB : ∀ lv, Keep3 lp ln ll H (upd H1 ll (.lst (nums (b.levels ++ [lv])))) := fun lv a u n1 n2 n3 e => lk_ne n3 (K1 a u n1 n2 n3 e)
    refine g_rDPutT (k := key2 (lo, hi)) (lk_new ht3 (lk_ne m4 f3)) upd_same (by rw [nodesT_len]; unfold Bld.nn at hz; omega) ?_
    have mt3 : t3 ≠ ln := ne_new (lk_ne m4 f3) ht3
    walk_at "go"
    rename_i t4 ht4
    have mt4 : t4 ≠ ln := ne_new upd_same ht4
    refine g_rDGetT (k := key2 (lo, hi)) (lk_new ht4 upd_same) upd_same (by rw [valV_put, if_pos rfl]) ?_
    rw [putK_new _ hout, List.length_append] at *
    have e6 : nodesT (b.lc + 1) b.pairs ++ [(key2 (lo, hi), V.int ((b.lc + (b.pairs.length + [(lo, hi)].length) : Nat) : Int))] = nodesT (b.lc + 1) (b.pairs ++ [(lo, hi)]) := by
      rw [nodesT_snoc]
      show _ ++ [(key2 (lo, hi), V.int ((b.lc + (b.pairs.length + 1) : Nat) : Int))] = _
      rw [show b.lc + (b.pairs.length + 1) = b.lc + 1 + b.pairs.length by omega]
    walk_at "go"
    rw [e6]
    have L2' := LstAt.stab stab_P h5 f4 hL1 (acc' := nums (b.levels ++ [1 + max (b.levels.getD (lo / 2) 0) (b.levels.getD (hi / 2) 0)]))
    have L3 := L2'.mono mono_P (Same.new (o := .tup [.int (lo : Int), .int (hi : Int)]) ht3)
    have L4 := L3.keepT to_P (Keep.upd (o := .dT (nodesT (b.lc + 1) (b.pairs ++ [(lo, hi)])))) (lk_new ht3 (lk_ne m4 f3)) (fun _ q => nomatch q) m2.symm
    rw [e6] at ht4
    have L5 := L4.mono mono_P (Same.new (o := .tup [.int (lo : Int), .int (hi : Int)]) ht4)
    have e7 : 2 * (b.lc + (b.pairs.length + [(lo, hi)].length)) = 2 * (b.lc + 1 + b.pairs.length) := by show 2 * (b.lc + (b.pairs.length + 1)) = _; omega
    rw [e7]
    refine qN hm _ _ (fun a u n1 n2 n3 e => lk_new ht4 (lk_ne n2 (lk_new ht3 (sB _ a u n1 n2 n3 e)))) ⟨lk_new ht4 (lk_ne m5 (lk_new ht3 (lk_ne m3 f1))), L5, lk_new ht4 upd_same, lk_new ht4 (lk_ne m4.symm (lk_new ht3 upd_same)), h5⟩
end
end
section
/-! part SgBu2 -/
set_option Elab.async false
set_option maxRecDepth 100000
set_option linter.unusedVariables false
set_option maxHeartbeats 1000000
open PySem PySem.Spec PyProof.Rows L2


section
variable {P : Program} {w : World} {K : PySem.W.Frag} {mg : Str → Option Value} {base : Heap} {f pr : Addr} {fd : FuncData}
theorem ok_Builder_init (F : FunD K "__init__" "Builder.__init__" (defArgs s_Builder_init) (defBody s_Builder_init) (defScope s_Builder_init) [] [] f fd) (hm : mg "Builder" = some (.ref (He.ga K "Builder"))) (M : Mk K (He.ga K "Builder") f) (T : Txt K mg) : InitOk P w K mg base 1 "Builder" (He.ga K "Builder") ["self", "leaf_count"] (spBldInit K (He.ga K "Builder")) := by
  refine ⟨f, fd, hm, M, (FunD.bindsN (ps := ["self", "leaf_count"]) F fun _ _ _ _ _ _ us hl => match us, hl with | [_, _], _ => rfl), fn_ok F sc_Builder_init ?len (fun cdv A outer s H vs Q E hr h => ⟨_, (pss_cons (ps_f T.c_Builder T.n_Builder_leaf_count (pv 0) (pv 1))
  (pss_cons (ps_f T.c_Builder T.n_Builder_pairs (pv 0) (pe_lst pa_nil))
  (pss_cons (ps_f T.c_Builder T.n_Builder__nodes (pv 0) pe_dnewT)
  (pss_one (ps_f T.c_Builder T.n_Builder__levels (pv 0) (pe_op op_rep (pe_lst (pa_cons (pe_int (i := ((0 : Nat) : Int))) pa_nil)) (pe_op op_add (pv 1) (pe_int (i := ((1 : Nat) : Int)))))))))), ?_⟩)⟩
  case len => walk_at "ln"
  
  obtain ⟨p, dx, n, rfl, hp, hn, q⟩ := h
  walk_at "st"
  walk_at "go"
  rename_i lp hlp ln hln l1 hl1
  have m1 : lp ≠ p := ne_new upd_same hlp
  have m2 : ln ≠ p := ne_new upd_same hln
  have m3 : l1 ≠ p := ne_new upd_same hl1
  have m12 : lp ≠ ln := (ne_new (lk_ne m1 upd_same) hln).symm
  refine g_rep1 upd_same (by omega) (fun ll hll => ?_)
  have m4 : ll ≠ p := ne_new (lk_ne m3.symm upd_same) hll
  have m14 : lp ≠ ll := (ne_new (lk_new hl1 (lk_ne m1 (lk_ne m12 (lk_ne m1 upd_same)))) hll).symm
  have m24 : ln ≠ ll := (ne_new (lk_new hl1 (lk_ne m2 upd_same)) hll).symm
  have m11 : lp ≠ l1 := (ne_new (lk_ne m1 (lk_ne m12 (lk_ne m1 upd_same))) hl1).symm
  have m21 : ln ≠ l1 := (ne_new (lk_ne m2 upd_same) hl1).symm
  walk_at "go"
  have m41 : ll ≠ l1 := ne_new upd_same hll
  have z1 : H lp = none := by rw [upd_ne m1] at hlp; exact hlp
  have z2 : H ln = none := by rw [upd_ne m2, upd_ne m12.symm, upd_ne m2] at hln; exact hln
  have z4 : H l1 = none := by rw [upd_ne m3, upd_ne m21.symm, upd_ne m3, upd_ne m11.symm, upd_ne m3] at hl1; exact hl1
  have z3 : H ll = none := by rw [upd_ne m41, upd_ne m4, upd_ne m24.symm, upd_ne m4, upd_ne m14.symm, upd_ne m4] at hll; exact hll
  refine q _ lp ln ll (fun a u hap e => lk_ne hap (lk_ne (ne_of_none e z3) (lk_ne (ne_of_none e z4) (lk_ne hap (lk_ne (ne_of_none e z2) (lk_ne hap (lk_ne (ne_of_none e z1) (lk_ne hap e)))))))) z1 z2 z3
    ⟨upd_same, ⟨[], lk_ne m1 (lk_ne m14 (lk_ne m11 (lk_ne m1 (lk_ne m12 (lk_ne m1 upd_same))))), All2.nil⟩, lk_ne m2 (lk_ne m24 (lk_ne m21 (lk_ne m2 upd_same))), ?_, m14⟩
  rw [nums_rep]
  exact lk_ne m4 upd_same
theorem ok_RuleBuilder_init (F : FunD K "__init__" "Builder.__init__" (defArgs s_Builder_init) (defBody s_Builder_init) (defScope s_Builder_init) [] [] f fd) (hm : mg "RuleBuilder" = some (.ref (He.ga K "RuleBuilder"))) (M : Mk K (He.ga K "RuleBuilder") f) (T : Txt K mg) : InitOk P w K mg base 1 "RuleBuilder" (He.ga K "RuleBuilder") ["self", "leaf_count"] (spBldInit K (He.ga K "RuleBuilder")) := by
  refine ⟨f, fd, hm, M, (FunD.bindsN (ps := ["self", "leaf_count"]) F fun _ _ _ _ _ _ us hl => match us, hl with | [_, _], _ => rfl), fn_ok F sc_Builder_init ?len (fun cdv A outer s H vs Q E hr h => ⟨_, (pss_cons (ps_f T.c_RuleBuilder T.n_RuleBuilder_leaf_count (pv 0) (pv 1))
  (pss_cons (ps_f T.c_RuleBuilder T.n_RuleBuilder_pairs (pv 0) (pe_lst pa_nil))
  (pss_cons (ps_f T.c_RuleBuilder T.n_RuleBuilder__nodes (pv 0) pe_dnewT)
  (pss_one (ps_f T.c_RuleBuilder T.n_RuleBuilder__levels (pv 0) (pe_op op_rep (pe_lst (pa_cons (pe_int (i := ((0 : Nat) : Int))) pa_nil)) (pe_op op_add (pv 1) (pe_int (i := ((1 : Nat) : Int)))))))))), ?_⟩)⟩
  case len => walk_at "ln"
  
  obtain ⟨p, dx, n, rfl, hp, hn, q⟩ := h
  walk_at "st"
  walk_at "go"
  rename_i lp hlp ln hln l1 hl1
  have m1 : lp ≠ p := ne_new upd_same hlp
  have m2 : ln ≠ p := ne_new upd_same hln
  have m3 : l1 ≠ p := ne_new upd_same hl1
  have m12 : lp ≠ ln := (ne_new (lk_ne m1 upd_same) hln).symm
  refine g_rep1 upd_same (by omega) (fun ll hll => ?_)
  have m4 : ll ≠ p := ne_new (lk_ne m3.symm upd_same) hll
  have m14 : lp ≠ ll := (ne_new (lk_new hl1 (lk_ne m1 (lk_ne m12 (lk_ne m1 upd_same)))) hll).symm
  have m24 : ln ≠ ll := (ne_new (lk_new hl1 (lk_ne m2 upd_same)) hll).symm
  have m11 : lp ≠ l1 := (ne_new (lk_ne m1 (lk_ne m12 (lk_ne m1 upd_same))) hl1).symm
  have m21 : ln ≠ l1 := (ne_new (lk_ne m2 upd_same) hl1).symm
  walk_at "go"
  have m41 : ll ≠ l1 := ne_new upd_same hll
  have z1 : H lp = none := by rw [upd_ne m1] at hlp; exact hlp
  have z2 : H ln = none := by rw [upd_ne m2, upd_ne m12.symm, upd_ne m2] at hln; exact hln
  have z4 : H l1 = none := by rw [upd_ne m3, upd_ne m21.symm, upd_ne m3, upd_ne m11.symm, upd_ne m3] at hl1; exact hl1
  have z3 : H ll = none := by rw [upd_ne m41, upd_ne m4, upd_ne m24.symm, upd_ne m4, upd_ne m14.symm, upd_ne m4] at hll; exact hll
  refine q _ lp ln ll (fun a u hap e => lk_ne hap (lk_ne (ne_of_none e z3) (lk_ne (ne_of_none e z4) (lk_ne hap (lk_ne (ne_of_none e z2) (lk_ne hap (lk_ne (ne_of_none e z1) (lk_ne hap e)))))))) z1 z2 z3
    ⟨upd_same, ⟨[], lk_ne m1 (lk_ne m14 (lk_ne m11 (lk_ne m1 (lk_ne m12 (lk_ne m1 upd_same))))), All2.nil⟩, lk_ne m2 (lk_ne m24 (lk_ne m21 (lk_ne m2 upd_same))), ?_, m14⟩
  rw [nums_rep]
  exact lk_ne m4 upd_same
end
end
section
/-! part SgMa4 -/
set_option maxRecDepth 100000
set_option linter.unusedVariables false
set_option maxHeartbeats 1000000
open PySem
/-! ### builders and good sets -/
def GoodB (b : Bld) (S : Nat → Prop) : Prop := GoodA (b.lc + 1) b.pairs S
theorem GoodB.pre {b b' : Bld} {S : Nat → Prop} (h : GoodB b' S) (hl : b'.lc = b.lc) (hp : ∀ (i : Nat) (p : Nat × Nat), b.pairs[i]? = some p → b'.pairs[i]? = some p) : GoodB b S :=
  ⟨h.con, h.t, fun i l r e => by have := h.n i l r (hp _ _ e); rwa [hl] at this⟩
theorem both_sem {b b' : Bld} {l r y : Nat} (h : BothR b l r y b') {S : Nat → Prop} (g : GoodB b' S) : (S y → S l ∧ S r) ∧ (S l → S r → S y) := by
  have swap : (S (min l r) ∧ S (max l r)) ↔ (S l ∧ S r) := by
    rcases Nat.le_total l r with e | e
    · rw [Nat.min_eq_left e, Nat.max_eq_right e]
    · rw [Nat.min_eq_right e, Nat.max_eq_left e]; exact And.comm
  have key : (S y → S (min l r) ∧ S (max l r)) ∧ (S (min l r) → S (max l r) → S y) := by
    unfold BothR at h
    generalize min l r = p at *
    generalize max l r = q at *
    rcases h with ⟨h, rfl, rfl⟩ | ⟨_, h, rfl, rfl⟩ | ⟨_, _, i, hi, rfl, rfl⟩ | ⟨_, _, _, rfl, lv, rfl⟩
    · refine ⟨fun e => absurd e g.f, fun e e' => ?_⟩
      rcases h with rfl | rfl
      · exact absurd e g.f
      · exact absurd e' (g.con _ e)
    · refine ⟨fun e => ⟨?_, e⟩, fun _ e => e⟩
      rcases h with rfl | rfl
      · exact g.t
      · exact e
    · have k := g.n _ _ _ hi
      exact ⟨k.dn, k.up⟩
    · have k := g.n b.pairs.length p q (by
        show (b.pairs ++ [(p, q)])[b.pairs.length]? = _
        rw [List.getElem?_append_right (Nat.le_refl _), Nat.sub_self]; rfl)
      exact ⟨k.dn, k.up⟩
  exact ⟨fun e => swap.mp (key.1 e), fun e e' => have := swap.mpr ⟨e, e'⟩; key.2 this.1 this.2⟩
/-! ### the rules -/
def SimS (S : Nat → Prop) (lo hi : Nat) (x : Nat × Nat) : Prop := (S x.1 → S x.2 → S lo ∧ S hi) ∧ (S lo → S hi → (S x.1 ∧ S x.2) ∨ (x.2 = 1 ∧ ¬ S (neg x.1)))
theorem pair_sem {b : Bld} {S : Nat → Prop} (g : GoodB b S) {w : Nat} {p : Nat × Nat} (h : pairOf b w = some p) : AndOk S (2 * (w / 2)) p.1 p.2 := by
  unfold pairOf at h
  split at h
  · cases h
  · have := g.n _ p.1 p.2 h
    rwa [show b.lc + 1 + (w / 2 - b.lc - 1) = w / 2 by omega] at this
theorem pair_lt {b : Bld} (hb : BldOk b) {w : Nat} {p : Nat × Nat} (h : pairOf b w = some p) : p.1 < 2 * (w / 2) ∧ p.2 < 2 * (w / 2) := by
  unfold pairOf at h
  split at h
  · cases h
  · have := hb.pl _ p.1 p.2 h
    omega
theorem byOne_sem {S : Nat → Prop} (ht : S 1) (hc : Con S) {w a b o : Nat} {x : Nat × Nat} (k : AndOk S (2 * (w / 2)) a b) (h : byOne w a b o = some x) : SimS S w o x := by
  have h0 : ¬ S 0 := hc 1 ht
  unfold byOne at h
  split at h
  · rename_i ev
    rw [show 2 * (w / 2) = w by omega] at k
    split at h
    · rename_i h1
      cases h
      refine ⟨fun e _ => ⟨e, ?_⟩, fun e _ => .inl ⟨e, ht⟩⟩
      rcases h1 with rfl | rfl
      · exact (k.dn e).1
      · exact (k.dn e).2
    · split at h
      · rename_i h1
        cases h
        refine ⟨fun e _ => absurd e h0, fun e e' => ?_⟩
        rcases h1 with rfl | rfl
        · exact absurd e' (hc _ (k.dn e).1)
        · exact absurd e' (hc _ (k.dn e).2)
      · cases h
  · rename_i od
    have ew : neg (2 * (w / 2)) = w := by rw [neg_two]; omega
    split at h
    · rename_i h1
      cases h
      refine ⟨fun e _ => ⟨?_, e⟩, fun e e' => .inl ⟨e', ht⟩⟩
      rcases h1 with rfl | rfl
      · exact ew ▸ k.nl e
      · exact ew ▸ k.nr e
    · split at h
      · rename_i h1
        cases h
        subst h1
        exact ⟨fun e e' => ⟨ew ▸ k.nr e', e⟩, fun e e' => .inl ⟨e', k.xr (ew.symm ▸ e) e'⟩⟩
      · split at h
        · rename_i h1
          cases h
          subst h1
          exact ⟨fun e e' => ⟨ew ▸ k.nl e', e⟩, fun e e' => .inl ⟨e', k.xl (ew.symm ▸ e) e'⟩⟩
        · cases h
theorem byTwo_sem {S : Nat → Prop} (ht : S 1) (hc : Con S) {w a b v c d : Nat} {x : Nat × Nat} (k : AndOk S w a b) (k' : AndOk S v c d) (h : byTwo w a b c d = some x) : SimS S w v x := by
  have h0 : ¬ S 0 := hc 1 ht
  unfold byTwo at h
  split at h
  · rename_i h1
    cases h
    refine ⟨fun e _ => absurd e h0, fun e e' => ?_⟩
    have p := k.dn e
    have q := k'.dn e'
    rcases h1 with (rfl | rfl) | (rfl | rfl)
    · exact absurd q.1 (hc _ p.1)
    · exact absurd q.2 (hc _ p.1)
    · exact absurd q.1 (hc _ p.2)
    · exact absurd q.2 (hc _ p.2)
  · split at h
    · rename_i h1
      cases h
      refine ⟨fun e e' => ⟨e, k'.up ?_ e'⟩, fun e e' => .inl ⟨e, (k'.dn e').2⟩⟩
      rcases h1 with rfl | rfl
      · exact (k.dn e).1
      · exact (k.dn e).2
    · split at h
      · rename_i h1
        cases h
        refine ⟨fun e e' => ⟨e, k'.up e' ?_⟩, fun e e' => .inl ⟨e, (k'.dn e').1⟩⟩
        rcases h1 with rfl | rfl
        · exact (k.dn e).1
        · exact (k.dn e).2
      · cases h
/-- n: the node whose complement is asked, of a and b -/
theorem byCompl_sem {S : Nat → Prop} (ht : S 1) (hc : Con S) {n a b o c d : Nat} {x : Nat × Nat} (k : AndOk S n a b) (k' : AndOk S o c d) (h : byCompl a b o c d = some x) : SimS S (neg n) o x := by
  unfold byCompl at h
  split at h
  · rename_i h1
    cases h
    refine ⟨fun e _ => ⟨?_, e⟩, fun e e' => .inl ⟨e', ht⟩⟩
    have q := k'.dn e
    rcases h1 with (rfl | rfl) | (rfl | rfl)
    · exact k.nl q.1
    · exact k.nl q.2
    · exact k.nr q.1
    · exact k.nr q.2
  · split at h
    · rename_i h1
      cases h
      refine ⟨fun e e' => ⟨k.nr e', e⟩, fun e e' => .inl ⟨e', k.xr e ?_⟩⟩
      rcases h1 with rfl | rfl
      · exact (k'.dn e').1
      · exact (k'.dn e').2
    · split at h
      · rename_i h1
        cases h
        refine ⟨fun e e' => ⟨k.nl e', e⟩, fun e e' => .inl ⟨e', k.xl e ?_⟩⟩
        rcases h1 with rfl | rfl
        · exact (k'.dn e').1
        · exact (k'.dn e').2
      · cases h
theorem byTwoC_sem {S : Nat → Prop} (hc : Con S) {n m a b c d : Nat} {x : Nat × Nat} (k : AndOk S n a b) (k' : AndOk S m c d) (hab : a ≠ neg b) (h : byTwoC a b c d = some x) : SimS S (neg n) (neg m) x := by
  have one : ∀ u v : Nat, u ≠ neg v → (u = c ∨ u = d) → (neg v = c ∨ neg v = d) → (S u → S (neg m) → S v) ∧ (S (neg u) → S (neg m)) := by
    intro u v ne h1 h2
    refine ⟨fun e e' => ?_, fun e => ?_⟩
    · rcases h1 with rfl | rfl
      · rcases h2 with h2 | h2
        · exact absurd h2.symm ne
        · have z := k'.xr e' e
          rw [← h2, neg_neg] at z; exact z
      · rcases h2 with h2 | h2
        · have z := k'.xl e' e
          rw [← h2, neg_neg] at z; exact z
        · exact absurd h2.symm ne
    · rcases h1 with rfl | rfl
      · exact k'.nl e
      · exact k'.nr e
  unfold byTwoC at h
  split at h
  · rename_i h1
    cases h
    obtain ⟨o1, o2⟩ := one a b hab h1.1 h1.2
    refine ⟨fun e _ => ⟨k.nl e, o2 e⟩, fun e e' => .inr ⟨rfl, fun z => ?_⟩⟩
    have z : S (neg (neg a)) := z
    rw [neg_neg] at z
    exact hc _ (o1 z e') (k.xr e z)
  · split at h
    · rename_i h1
      cases h
      obtain ⟨o1, o2⟩ := one b a (fun e => hab (by rw [e, neg_neg])) h1.1 h1.2
      refine ⟨fun e _ => ⟨k.nr e, o2 e⟩, fun e e' => .inr ⟨rfl, fun z => ?_⟩⟩
      have z : S (neg (neg b)) := z
      rw [neg_neg] at z
      exact hc _ (o1 z e') (k.xl e z)
    · cases h
/-- a pair is never of a literal and its complement -/
def BldC (b : Bld) : Prop := ∀ i l r : Nat, b.pairs[i]? = some (l, r) → l ≠ neg r
theorem pair_ne {b : Bld} (hb : BldC b) {w : Nat} {p : Nat × Nat} (h : pairOf b w = some p) : p.1 ≠ neg p.2 := by
  unfold pairOf at h
  split at h
  · cases h
  · exact hb _ p.1 p.2 h
theorem simp1_sem {b : Bld} {S : Nat → Prop} (g : GoodB b S) {lo hi : Nat} {x : Nat × Nat} (h : simp1 b lo hi = some x) : SimS S lo hi x := by
  unfold simp1 at h
  split at h
  · rename_i p e
    exact byOne_sem g.t g.con (pair_sem g e) h
  · cases h
theorem SimS.swap {S : Nat → Prop} {lo hi : Nat} {x : Nat × Nat} (h : SimS S lo hi x) : SimS S hi lo x := ⟨fun a b => (h.1 a b).symm, fun a b => h.2 b a⟩
theorem simp2_sem {b : Bld} {S : Nat → Prop} (g : GoodB b S) {lo hi : Nat} {x : Nat × Nat} (h : simp2 b lo hi = some x) : SimS S lo hi x := by
  unfold simp2 at h
  split at h
  · rename_i y e
    cases h
    exact simp1_sem g e
  · split at h
    · rename_i q e
      exact (byOne_sem g.t g.con (pair_sem g e) h).swap
    · cases h
theorem simpler_sem {b : Bld} (hb : BldC b) {S : Nat → Prop} (g : GoodB b S) {lo hi : Nat} {x : Nat × Nat} (h : simplerF b lo hi = some x) : SimS S lo hi x := by
  unfold simplerF at h
  split at h
  · cases h
  · split at h
    · rename_i y e
      cases h
      exact simp2_sem g e
    · split at h
      · rename_i p q e1 e2
        have k1 := pair_sem g e1
        have k2 := pair_sem g e2
        have h1 : lo % 2 = 1 → neg (2 * (lo / 2)) = lo := fun o => by rw [neg_two]; omega
        have h2 : hi % 2 = 1 → neg (2 * (hi / 2)) = hi := fun o => by rw [neg_two]; omega
        have h3 : lo % 2 = 0 → 2 * (lo / 2) = lo := fun o => by omega
        have h4 : hi % 2 = 0 → 2 * (hi / 2) = hi := fun o => by omega
        unfold simp3 at h
        split at h
        · rename_i z1
          split at h
          · rename_i z2
            rw [h3 z1] at k1
            rw [h4 z2] at k2
            exact byTwo_sem g.t g.con k1 k2 h
          · rename_i z2
            rw [h3 z1] at k1
            have := byCompl_sem g.t g.con k2 k1 h
            rw [h2 (by omega)] at this
            exact this.swap
        · rename_i z1
          split at h
          · rename_i z2
            rw [h4 z2] at k2
            have := byCompl_sem g.t g.con k1 k2 h
            rwa [h1 (by omega)] at this
          · rename_i z2
            have := byTwoC_sem g.con k1 k2 (pair_ne hb e1) h
            rwa [h1 (by omega), h2 (by omega)] at this
      · cases h
/-- what a rule gives is smaller -/
def Less (lo hi : Nat) (x : Nat × Nat) : Prop := x.1 + x.2 < lo + hi ∧ x.1 / 2 ≤ max (lo / 2) (hi / 2) ∧ x.2 / 2 ≤ max (lo / 2) (hi / 2)
theorem neg_lt2 {x n : Nat} (h : x < 2 * n) : neg x < 2 * n := neg_lt (by omega) h
theorem byOne_less {w a b o : Nat} {x : Nat × Nat} (hw : 1 < w) (ho : 1 < o) (ha : a < 2 * (w / 2)) (hb : b < 2 * (w / 2)) (h : byOne w a b o = some x) : Less w o x := by
  have na := neg_lt2 ha
  have nb := neg_lt2 hb
  unfold byOne at h
  unfold Less
  split at h
  · split at h
    · cases h; dsimp only; omega
    · split at h
      · cases h; dsimp only; omega
      · cases h
  · split at h
    · cases h; dsimp only; omega
    · split at h
      · cases h; dsimp only; omega
      · split at h
        · cases h; dsimp only; omega
        · cases h
theorem byTwo_less {w a b v c d : Nat} {x : Nat × Nat} (hw : 1 < w) (hv : 1 < v) (hc : c < 2 * (v / 2)) (hd : d < 2 * (v / 2)) (h : byTwo w a b c d = some x) : Less w v x := by
  unfold byTwo at h
  unfold Less
  split at h
  · cases h; dsimp only; omega
  · split at h
    · cases h; dsimp only; omega
    · split at h
      · cases h; dsimp only; omega
      · cases h
theorem byCompl_less {w a b o c d : Nat} {x : Nat × Nat} (hw : 1 < w) (ho : 1 < o) (ha : a < 2 * (w / 2)) (hb : b < 2 * (w / 2)) (h : byCompl a b o c d = some x) : Less w o x := by
  have na := neg_lt2 ha
  have nb := neg_lt2 hb
  unfold byCompl at h
  unfold Less
  split at h
  · cases h; dsimp only; omega
  · split at h
    · cases h; dsimp only; omega
    · split at h
      · cases h; dsimp only; omega
      · cases h
theorem byTwoC_less {w v a b c d : Nat} {x : Nat × Nat} (hw : 1 < w) (hv : 1 < v) (ha : a < 2 * (w / 2)) (hb : b < 2 * (w / 2)) (h : byTwoC a b c d = some x) : Less w v x := by
  have na := neg_lt2 ha
  have nb := neg_lt2 hb
  unfold byTwoC at h
  unfold Less
  split at h
  · cases h; dsimp only; omega
  · split at h
    · cases h; dsimp only; omega
    · cases h
theorem Less.swap {lo hi : Nat} {x : Nat × Nat} (h : Less lo hi x) : Less hi lo x := by unfold Less at *; omega
theorem simpler_less {b : Bld} (hb : BldOk b) {lo hi : Nat} {x : Nat × Nat} (hle : lo ≤ hi) (h : simplerF b lo hi = some x) : Less lo hi x := by
  unfold simplerF at h
  split at h
  · cases h
  · rename_i hn
    have h1 : 1 < lo := by omega
    have h2 : 1 < hi := by omega
    split at h
    · rename_i y e
      cases h
      unfold simp2 at e
      split at e
      · rename_i z e1
        cases e
        unfold simp1 at e1
        split at e1
        · rename_i p ep
          obtain ⟨a1, a2⟩ := pair_lt hb ep
          exact byOne_less h1 h2 a1 a2 e1
        · cases e1
      · split at e
        · rename_i q eq
          obtain ⟨a1, a2⟩ := pair_lt hb eq
          exact (byOne_less h2 h1 a1 a2 e).swap
        · cases e
    · split at h
      · rename_i p q e1 e2
        obtain ⟨a1, a2⟩ := pair_lt hb e1
        obtain ⟨a3, a4⟩ := pair_lt hb e2
        unfold simp3 at h
        split at h
        · split at h
          · exact byTwo_less h1 h2 a3 a4 h
          · exact (byCompl_less h2 h1 a3 a4 h).swap
        · split at h
          · exact byCompl_less h1 h2 a1 a2 h
          · exact byTwoC_less h1 h2 a1 a2 h
      · cases h
/-- the rules, one after the other -/
inductive Steps (b : Bld) : Nat → Nat → Nat → Nat → Prop
  | refl (lo hi : Nat) : Steps b lo hi lo hi
  | snoc {p q lo hi : Nat} {x : Nat × Nat} : Steps b p q lo hi → simplerF b lo hi = some x → Steps b p q (min x.1 x.2) (max x.1 x.2)
def RuleR (b : Bld) (l r y : Nat) (b' : Bld) : Prop := ∃ lo hi, Steps b (min l r) (max l r) lo hi ∧ simplerF b lo hi = none ∧ BothR b lo hi y b'
theorem both_one {b b' : Bld} {a y : Nat} (h : BothR b (min a 1) (max a 1) y b') : y = a := by
  have e1 : min (min a 1) (max a 1) = min a 1 := by omega
  have e2 : max (min a 1) (max a 1) = max a 1 := by omega
  unfold BothR at h
  rw [e1, e2] at h
  have n0 : neg 0 = 1 := rfl
  have n1 : neg 1 = 0 := rfl
  rcases h with ⟨h, rfl, rfl⟩ | ⟨h0, h, rfl, rfl⟩ | ⟨h0, h, _⟩ | ⟨h0, h, _⟩
  · by_cases q : a = 0
    · exact q.symm
    · have : min a 1 = 1 := by omega
      rw [this, n1] at h
      omega
  · by_cases q : a = 0
    · subst q
      exact absurd (.inl rfl) h0
    · omega
  · exfalso
    by_cases q : a = 0
    · subst q
      exact h0 (.inl rfl)
    · exact h (.inl (by omega))
  · exfalso
    by_cases q : a = 0
    · subst q
      exact h0 (.inl rfl)
    · exact h (.inl (by omega))
def ResS (S : Nat → Prop) (p q y : Nat) : Prop := (S y → S p ∧ S q) ∧ (S p → S q → ¬ S (neg y))
theorem minmax_and {S : Nat → Prop} (a c : Nat) : (S (min a c) ∧ S (max a c)) ↔ (S a ∧ S c) := by
  rcases Nat.le_total a c with e | e
  · rw [Nat.min_eq_left e, Nat.max_eq_right e]
  · rw [Nat.min_eq_right e, Nat.max_eq_left e]; exact And.comm
theorem both_res {b b' : Bld} {l r y : Nat} (h : BothR b l r y b') {S : Nat → Prop} (g : GoodB b' S) : ResS S l r y := by
  have k := both_sem h g
  exact ⟨k.1, fun a c => g.con _ (k.2 a c)⟩
theorem steps_sem {b b' : Bld} (hc : BldC b) {S : Nat → Prop} (g : GoodB b S) {p q lo hi y : Nat} (s : Steps b p q lo hi) (h : ResS S lo hi y) (one : ∀ a, lo = min a 1 → hi = max a 1 → y = a) : ResS S p q y := by
  induction s generalizing y with
  | refl => exact h
  | @snoc lo hi x s e ih =>
    have k := simpler_sem hc g e
    refine ih ⟨fun sy => ?_, fun a c => ?_⟩ fun a h1 h2 => ?_
    · have := (minmax_and x.1 x.2).mp (h.1 sy)
      exact k.1 this.1 this.2
    · rcases k.2 a c with hs | ⟨h1, h2⟩
      · have := (minmax_and x.1 x.2).mpr hs
        exact h.2 this.1 this.2
      · rw [one x.1 (by rw [h1]) (by rw [h1])]
        exact h2
    · exfalso
      have : simplerF b lo hi = none := by
        unfold simplerF
        rw [if_pos (by omega)]
      rw [this] at e
      cases e
theorem Steps.lt {b : Bld} (hb : BldOk b) {p q lo hi n : Nat} (s : Steps b p q lo hi) (h : p ≤ q) (h1 : p / 2 < n) (h2 : q / 2 < n) : lo ≤ hi ∧ lo / 2 < n ∧ hi / 2 < n := by
  induction s with
  | refl => exact ⟨h, h1, h2⟩
  | snoc s e ih =>
    have k := simpler_less hb ih.1 e
    unfold Less at k
    omega
/-- a builder's step, by what it means -/
def SemR (R : Bld → Nat → Nat → Nat → Bld → Prop) : Prop := ∀ (b : Bld) (l r y : Nat) (b' : Bld), BldOk b → BldC b → l / 2 < b.nn → r / 2 < b.nn → R b l r y b' → BldC b' ∧ ∀ S, GoodB b' S → ResS S l r y
theorem both_c {b b' : Bld} {l r y : Nat} (hb : BldC b) (h : BothR b l r y b') : BldC b' := by
  rcases h with ⟨_, _, rfl⟩ | ⟨_, _, _, rfl⟩ | ⟨_, _, _, _, _, rfl⟩ | ⟨h0, _, _, _, lv, rfl⟩
  · exact hb
  · exact hb
  · exact hb
  · intro i l' r' e
    have e : (b.pairs ++ [(min l r, max l r)])[i]? = some (l', r') := e
    by_cases q : i < b.pairs.length
    · rw [List.getElem?_append_left q] at e
      exact hb _ _ _ e
    · rw [List.getElem?_append_right (by omega)] at e
      have hi0 : i - b.pairs.length = 0 := by
        have := (List.getElem?_eq_some_iff.mp e).1
        simp at this; omega
      rw [hi0] at e
      cases e
      intro z
      exact h0 (.inr (by rw [z, neg_neg]))
theorem both_step : StepR BothR := fun b l r y b' hb hl hr h => both_ok hb hl hr h
theorem both_semR : SemR BothR := fun b l r y b' hb hc hl hr h => ⟨both_c hc h, fun S g => both_res h g⟩
theorem rule_step : StepR RuleR := fun b l r y b' hb hl hr ⟨lo, hi, s, _, h⟩ => by
  have := s.lt hb (by omega) (n := b.nn) (by omega) (by omega)
  exact both_ok hb this.2.1 this.2.2 h
theorem rule_semR : SemR RuleR := fun b l r y b' hb hc hl hr ⟨lo, hi, s, _, h⟩ => by
  have k := s.lt hb (by omega) (n := b.nn) (by omega) (by omega)
  have st := both_ok hb k.2.1 k.2.2 h
  refine ⟨both_c hc h, fun S g => ?_⟩
  have := steps_sem (b' := b') hc (g.pre st.lc st.pre) s (both_res h g) fun a h1 h2 => both_one (by rw [← h1, ← h2]; exact h)
  exact ⟨fun sy => (minmax_and l r).mp (this.1 sy), fun a c => have z := (minmax_and (S := S) l r).mpr ⟨a, c⟩; this.2 z.1 z.2⟩
end
section
/-! part SgMa5 -/
set_option maxRecDepth 100000
set_option linter.unusedVariables false
set_option maxHeartbeats 1000000
open PySem
/-! ### circuits carried over -/
theorem imOf_app {imgs : List (Option Nat)} {y : Option Nat} {l : Nat} (h : l / 2 < imgs.length) : imOf (imgs ++ [y]) l = imOf imgs l := by
  unfold imOf; rw [List.getElem?_append_left h]
structure CarryS (c : Cir Str) (i : Nat) (imgs : List (Option Nat)) (b : Bld) : Prop where
  bc : BldC b
  leaf : ∀ k, k < c.fa → imgs[k]? = some (some (2 * k))
  n : ∀ k y, k < i → imgs[c.fa + k]? = some (some y) → ∃ l r, c.ands[k]? = some (l, r) ∧ ∀ S, GoodB b S → ResS S (imOf imgs l) (imOf imgs r) y
theorem carry_sem {R : Bld → Nat → Nat → Nat → Bld → Prop} {c : Cir Str} {i : Nat} {imgs : List (Option Nat)} {b : Bld} (hR : StepR R) (hS : SemR R) (hc : CirOk c) (h : CarryR R c i imgs b) : CarryS c i imgs b := by
  induction h with
  | zero =>
    refine ⟨fun i l r e => by simp [bld0] at e, fun k hk => ?_, fun k y hk => absurd hk (Nat.not_lt_zero _)⟩
    unfold leafI
    rw [List.getElem?_map, List.getElem?_range hk]
    rfl
  | @step i l r y imgs b b' h e s ih =>
    have ok := h.ok hR hc
    have hl := hc.ands.2 _ _ _ e
    have l1 := ok.lt (l := l) (by omega)
    have l2 := ok.lt (l := r) (by omega)
    have st := hR _ _ _ _ _ ok.ok l1 l2 s
    obtain ⟨bc, sm⟩ := hS _ _ _ _ _ ok.ok ih.bc l1 l2 s
    have hlen := ok.len
    refine ⟨bc, fun k hk => ?_, fun k z hk ez => ?_⟩
    · rw [List.getElem?_append_left (by omega)]; exact ih.leaf k hk
    · by_cases q : k < i
      · rw [List.getElem?_append_left (by omega)] at ez
        obtain ⟨l', r', e', p⟩ := ih.n k z q ez
        have hl' := hc.ands.2 _ _ _ e'
        refine ⟨l', r', e', fun S g => ?_⟩
        rw [imOf_app (by omega), imOf_app (by omega)]
        exact p S (g.pre st.lc st.pre)
      · have : k = i := by omega
        subst this
        rw [List.getElem?_append_right (by omega), hlen, Nat.sub_self] at ez
        cases ez
        refine ⟨l, r, e, fun S g => ?_⟩
        rw [imOf_app (by omega), imOf_app (by omega)]
        exact sm S g
theorem rebC_fa {c : Cir Str} {b : Bld} {imgs : List (Option Nat)} (h : b.lc = c.ins.length + c.lat.length) : (rebC c b imgs).fa = b.lc + 1 := by
  unfold Cir.fa rebC
  dsimp only
  rw [List.length_map, h]
  omega
theorem rebC_nn {c : Cir Str} {b : Bld} {imgs : List (Option Nat)} (h : b.lc = c.ins.length + c.lat.length) : (rebC c b imgs).nn = b.nn := by
  unfold Cir.nn Bld.nn rebC
  dsimp only
  rw [List.length_map, h]
  omega
theorem CirOk.nlat {c : Cir Str} (hc : CirOk c) {j : Nat} {l : Str × Nat × Nat} (h : c.lat[j]? = some l) : l.2.2 / 2 < c.nn := by
  have := (hc.leaf.2.2.2.2 l (List.mem_of_getElem? h)).2; omega
theorem reb_pass {c : Cir Str} {b : Bld} {imgs : List (Option Nat)} (hc : CirOk c) (hd : CirOk (rebC c b imgs)) (hlc : b.lc = c.ins.length + c.lat.length) (len : imgs.length = c.nn) (leaf : ∀ k, k < c.fa → imgs[k]? = some (some (2 * k)))
    (hl : ∀ l ∈ c.lat, HasJ imgs l.2.2) (ho : ∀ l ∈ c.outs, HasJ imgs l.2) (bd : ∀ k y : Nat, imgs[k]? = some (some y) → y / 2 < b.nn) (ands : ∀ i y, i < c.ands.length → imgs[c.fa + i]? = some (some y) → AndI c (rebC c b imgs) imgs i y) (small : b.pairs.length ≤ c.ands.length) : PassOk c (rebC c b imgs) imgs := by
  refine ⟨hd, rfl, len, fun k hk => leaf k (by unfold Cir.fa; omega), fun j y hj e => ?_, rfl, ho, fun k y e => ?_, ands, small, ?_⟩
  · have hj' : c.fl + j < c.fa := by unfold Cir.fl Cir.fa; omega
    rw [leaf _ hj'] at e
    cases e
    obtain ⟨⟨l, s, x⟩, e1⟩ : ∃ l, c.lat[j]? = some l := ⟨_, List.getElem?_eq_getElem hj⟩
    refine ⟨j, l, s, x, e1, rfl, ?_, hl _ (List.mem_of_getElem? e1)⟩
    show (c.lat.map _)[j]? = _
    rw [List.getElem?_map, e1]
    rfl
  · rw [rebC_nn hlc]
    have := bd k y e
    omega
  · show (c.lat.map _).length ≤ _
    rw [List.length_map]
    exact Nat.le_refl _
theorem carry_pass {R : Bld → Nat → Nat → Nat → Bld → Prop} {c : Cir Str} {imgs : List (Option Nat)} {b : Bld} (hR : StepR R) (hS : SemR R) (hc : CirOk c) (h : CarryR R c c.ands.length imgs b) (hd : CirOk (rebC c b imgs)) : PassOk c (rebC c b imgs) imgs := by
  have ok := h.ok hR hc
  have sm := carry_sem hR hS hc h
  have hfa : c.fa + c.ands.length = c.nn := rfl
  refine reb_pass hc hd ok.lc ok.len sm.leaf (fun l hl => ?_) (fun l hl => ?_) (fun k y e => ?_) (fun i y hi e => ?_) ?_
  · have := (hc.leaf.2.2.2.2 l hl).2
    exact ok.has (by omega)
  · have := hc.outs.2.2.2 l hl
    exact ok.has (by omega)
  · obtain ⟨z, hz, hlt⟩ := ok.im k (lt_of_get e)
    rw [e] at hz; cases hz
    exact hlt
  · obtain ⟨l, r, e1, p⟩ := sm.n i y hi e
    have hl := hc.ands.2 _ _ _ e1
    refine ⟨[l, r], fun o ho => ?_, fun S g => ?_, fun S g => ?_⟩
    · simp only [List.mem_cons, List.not_mem_nil, or_false] at ho
      rcases ho with rfl | rfl
      · exact ⟨hl.1, ok.has (by omega)⟩
      · exact ⟨hl.2, ok.has (by omega)⟩
    · have k := g.n _ _ _ e1
      refine ⟨fun s o ho => ?_, fun s => k.up (s l (by simp)) (s r (by simp))⟩
      simp only [List.mem_cons, List.not_mem_nil, or_false] at ho
      rcases ho with rfl | rfl
      · exact (k.dn s).1
      · exact (k.dn s).2
    · rw [rebC_fa ok.lc] at g
      have k := p S g
      refine ⟨fun s o ho => ?_, fun s => k.2 (s l (by simp)) (s r (by simp))⟩
      simp only [List.mem_cons, List.not_mem_nil, or_false] at ho
      rcases ho with rfl | rfl
      · exact (k.1 s).1
      · exact (k.1 s).2
  · have h1 := ok.nn
    have h2 := ok.lc
    unfold Bld.nn Cir.fa at *
    omega
/-! ### trim -/
def keptL {α β : Type} (kp : Nat → Bool) (g : α → β) : Nat → List α → List β
  | _, [] => []
  | lo, x :: t => (if kp lo then [g x] else []) ++ keptL kp g (lo + 1) t
theorem keptL_snoc {α β : Type} (kp : Nat → Bool) (g : α → β) (x : α) : ∀ (t : List α) (lo : Nat), keptL kp g lo (t ++ [x]) = keptL kp g lo t ++ (if kp (lo + t.length) then [g x] else [])
  | [], lo => by
    show (if kp lo then [g x] else []) ++ [] = [] ++ _
    rw [List.append_nil]; rfl
  | y :: t, lo => by
    show _ ++ keptL kp g (lo + 1) (t ++ [x]) = (_ ++ keptL kp g (lo + 1) t) ++ _
    rw [keptL_snoc kp g x t (lo + 1), List.append_assoc, List.length_cons, show lo + 1 + t.length = lo + (t.length + 1) by omega]
theorem keptL_map {α β γ : Type} (kp : Nat → Bool) (g : α → β) (f : β → γ) : ∀ (t : List α) (lo : Nat), (keptL kp g lo t).map f = keptL kp (fun x => f (g x)) lo t
  | [], lo => rfl
  | y :: t, lo => by
    show (_ ++ keptL kp g (lo + 1) t).map f = _ ++ keptL kp _ (lo + 1) t
    rw [List.map_append, keptL_map kp g f t]
    congr 1
    split <;> rfl
theorem keptL_sub {α : Type} (kp : Nat → Bool) : ∀ (t : List α) (lo : Nat), List.Sublist (keptL kp (fun x => x) lo t) t
  | [], lo => List.Sublist.refl _
  | y :: t, lo => by
    show List.Sublist (_ ++ keptL kp _ (lo + 1) t) _
    split
    · exact (keptL_sub kp t (lo + 1)).cons_cons y
    · exact (keptL_sub kp t (lo + 1)).cons y
theorem keptL_of {α β : Type} {kp : Nat → Bool} {g : α → β} {z : β} : ∀ {t : List α} {lo : Nat}, z ∈ keptL kp g lo t → ∃ (i : Nat) (x : α), t[i]? = some x ∧ kp (lo + i) = true ∧ z = g x
  | y :: t, lo, h => by
    rcases List.mem_append.mp h with h | h
    · split at h
      · rename_i k
        exact ⟨0, y, rfl, k, List.mem_singleton.mp h⟩
      · cases h
    · obtain ⟨i, x, h1, h2, h3⟩ := keptL_of h
      exact ⟨i + 1, x, h1, by rw [← h2]; congr 1; omega, h3⟩
section
variable {ne : List Bool} {ni : Nat}
theorem cntN_succ {k : Nat} : cntN ne ni (k + 1) = cntN ne ni k + if keepN ne ni k then 1 else 0 := rfl
theorem cntN_mono {k m : Nat} (h : k ≤ m) : cntN ne ni k ≤ cntN ne ni m := by
  induction m with
  | zero => rw [Nat.le_zero.mp h]; exact Nat.le_refl _
  | succ m ih =>
    by_cases q : k = m + 1
    · rw [q]; exact Nat.le_refl _
    · exact Nat.le_trans (ih (by omega)) (by rw [cntN_succ]; omega)
theorem cntN_lt {k m : Nat} (h : k < m) (hk : keepN ne ni k = true) : cntN ne ni k < cntN ne ni m := by
  have h1 := cntN_mono (ne := ne) (ni := ni) (show k + 1 ≤ m from h)
  rw [cntN_succ, if_pos hk] at h1
  omega
theorem cntN_le (k : Nat) : cntN ne ni k ≤ k := by
  induction k with
  | zero => exact Nat.le_refl _
  | succ k ih => rw [cntN_succ]; split <;> omega
theorem keep_low {k : Nat} (h : k ≤ ni) : keepN ne ni k = true := by unfold keepN; rw [decide_eq_true h, Bool.or_true]
theorem cntN_low {k : Nat} (h : k ≤ ni + 1) : cntN ne ni k = k := by
  induction k with
  | zero => rfl
  | succ k ih => rw [cntN_succ, if_pos (keep_low (by omega)), ih (by omega)]
theorem keptL_len {α β : Type} (g : α → β) (lo : Nat) : ∀ t : List α, (keptL (keepN ne ni) g lo t).length + cntN ne ni lo = cntN ne ni (lo + t.length)
  | [] => by show 0 + _ = _; rw [Nat.zero_add]; rfl
  | x :: t => by
    have ih := keptL_len g (lo + 1) t
    show (_ ++ keptL (keepN ne ni) g (lo + 1) t).length + _ = _
    rw [List.length_append, List.length_cons, show lo + (t.length + 1) = lo + 1 + t.length by omega, ← ih, cntN_succ]
    split <;> simp <;> omega
theorem keptL_app {α β : Type} (kp : Nat → Bool) (g : α → β) : ∀ (a b : List α) (lo : Nat), keptL kp g lo (a ++ b) = keptL kp g lo a ++ keptL kp g (lo + a.length) b
  | [], b, lo => rfl
  | x :: t, b, lo => by
    show _ ++ keptL kp g (lo + 1) (t ++ b) = (_ ++ keptL kp g (lo + 1) t) ++ _
    rw [keptL_app kp g t b, List.append_assoc, List.length_cons, show lo + 1 + t.length = lo + (t.length + 1) by omega]
theorem keptL_get {α β : Type} (g : α → β) {lo i : Nat} {t : List α} {x : α} (h : t[i]? = some x) (hk : keepN ne ni (lo + i) = true) : (keptL (keepN ne ni) g lo t)[cntN ne ni (lo + i) - cntN ne ni lo]? = some (g x) := by
  have e : t = t.take i ++ (x :: t.drop (i + 1)) := by
    have := List.take_append_drop i t
    rw [List.drop_eq_getElem_cons (lt_of_get h)] at this
    rw [(List.getElem?_eq_some_iff.mp h).2] at this
    exact this.symm
  have hl := keptL_len (ne := ne) (ni := ni) g lo (t.take i)
  rw [take_len h] at hl
  rw [e, keptL_app, take_len h, show cntN ne ni (lo + i) - cntN ne ni lo = (keptL (keepN ne ni) g lo (t.take i)).length by omega, List.getElem?_append_right (Nat.le_refl _), Nat.sub_self]
  show (_ ++ _)[0]? = _
  rw [if_pos hk]
  rfl
theorem keptL_at {α β : Type} {g : α → β} {z : β} : ∀ {t : List α} {lo i : Nat}, (keptL (keepN ne ni) g lo t)[i]? = some z → ∃ (j : Nat) (x : α), t[j]? = some x ∧ keepN ne ni (lo + j) = true ∧ z = g x ∧ i + cntN ne ni lo = cntN ne ni (lo + j)
  | [], lo, i, h => by
    have h : ([] : List β)[i]? = some z := h
    simp at h
  | y :: t, lo, i, h => by
    have h : ((if keepN ne ni lo = true then [g y] else []) ++ keptL (keepN ne ni) g (lo + 1) t)[i]? = some z := h
    have hs : cntN ne ni (lo + 1) = cntN ne ni lo + if keepN ne ni lo then 1 else 0 := cntN_succ
    split at h
    · rename_i k
      rw [if_pos k] at hs
      match i, h with
      | 0, h =>
        cases h
        exact ⟨0, y, rfl, k, rfl, by rw [Nat.zero_add]; rfl⟩
      | i + 1, h =>
        obtain ⟨j, x, h1, h2, h3, h4⟩ := keptL_at (t := t) (lo := lo + 1) (i := i) h
        rw [show lo + 1 + j = lo + (j + 1) by omega] at h2 h4
        exact ⟨j + 1, x, h1, h2, h3, by omega⟩
    · rename_i k
      rw [if_neg k] at hs
      obtain ⟨j, x, h1, h2, h3, h4⟩ := keptL_at (t := t) (lo := lo + 1) (i := i) h
      rw [show lo + 1 + j = lo + (j + 1) by omega] at h2 h4
      exact ⟨j + 1, x, h1, h2, h3, by omega⟩
theorem trimI_get {n k : Nat} (h : k < n) : (trimI ne ni n)[k]? = some (if keepN ne ni k then some (2 * cntN ne ni k) else none) := by
  unfold trimI
  rw [List.getElem?_map, List.getElem?_range h]
  rfl
theorem trimI_some {n k y : Nat} (h : (trimI ne ni n)[k]? = some (some y)) : k < n ∧ keepN ne ni k = true ∧ y = 2 * cntN ne ni k := by
  have hk := lt_of_get h
  rw [trimI_len] at hk
  rw [trimI_get hk] at h
  split at h
  · rename_i e
    cases h
    exact ⟨hk, e, rfl⟩
  · cases h
end
def trimC (c : Cir Str) (ne : List Bool) : Cir Str := ⟨c.ins, keptL (keepN ne c.ins.length) (fun l => (l.1, l.2.1, imOf (trimI ne c.ins.length c.nn) l.2.2)) c.fl c.lat, keptL (keepN ne c.ins.length) (fun p => (imOf (trimI ne c.ins.length c.nn) p.1, imOf (trimI ne c.ins.length c.nn) p.2)) c.fa c.ands, c.outs.map fun o => (o.1, imOf (trimI ne c.ins.length c.nn) o.2)⟩
theorem trim_pass {c : Cir Str} {ne : List Bool} (hc : CirOk c) (outs : ∀ o ∈ c.outs, ne.getD (o.2 / 2) false = true)
    (ands : ∀ (i l r : Nat), c.ands[i]? = some (l, r) → ne.getD (c.fa + i) false = true → ne.getD (l / 2) false = true ∧ ne.getD (r / 2) false = true)
    (lats : ∀ (i : Nat) (l : Str × Nat × Nat), c.lat[i]? = some l → ne.getD (c.fl + i) false = true → ne.getD (l.2.2 / 2) false = true) : PassOk c (trimC c ne) (trimI ne c.ins.length c.nn) := by
  have kp : ∀ k, ne.getD k false = true → keepN ne c.ins.length k = true := fun k h => by unfold keepN; rw [h]; rfl
  have kq : ∀ k, c.ins.length < k → keepN ne c.ins.length k = true → ne.getD k false = true := fun k h h' => by
    unfold keepN at h'
    rwa [decide_eq_false (by omega), Bool.or_false] at h'
  have hlow : cntN ne c.ins.length c.fl = c.fl := cntN_low (by unfold Cir.fl; omega)
  have dfl : (trimC c ne).fl = c.fl := rfl
  have dll : (trimC c ne).lat.length + c.fl = cntN ne c.ins.length c.fa := by
    have := keptL_len (ne := ne) (ni := c.ins.length) (fun l : Str × Nat × Nat => (l.1, l.2.1, imOf (trimI ne c.ins.length c.nn) l.2.2)) c.fl c.lat
    rw [hlow] at this
    exact this
  have dfa : (trimC c ne).fa = cntN ne c.ins.length c.fa := by
    rw [← dll]; unfold Cir.fa Cir.fl; show 1 + c.ins.length + _ = _; omega
  have dnn : (trimC c ne).nn = cntN ne c.ins.length c.nn := by
    have := keptL_len (ne := ne) (ni := c.ins.length) (fun p : Nat × Nat => (imOf (trimI ne c.ins.length c.nn) p.1, imOf (trimI ne c.ins.length c.nn) p.2)) c.fa c.ands
    have e1 : c.fa + c.ands.length = c.nn := rfl
    rw [e1, ← dfa] at this
    have e2 : (trimC c ne).nn = (trimC c ne).fa + (trimC c ne).ands.length := rfl
    have e3 : (trimC c ne).ands = keptL (keepN ne c.ins.length) (fun p : Nat × Nat => (imOf (trimI ne c.ins.length c.nn) p.1, imOf (trimI ne c.ins.length c.nn) p.2)) c.fa c.ands := rfl
    rw [e2, e3]; omega
  have has : ∀ x, x / 2 < c.nn → keepN ne c.ins.length (x / 2) = true → HasJ (trimI ne c.ins.length c.nn) x ∧ imOf (trimI ne c.ins.length c.nn) x / 2 = cntN ne c.ins.length (x / 2) := fun x h h' => by
    have e := trimI_get (ne := ne) (ni := c.ins.length) h
    rw [if_pos h'] at e
    refine ⟨⟨_, e⟩, ?_⟩
    rw [imOf_eq e, xl_div]
    omega
  have hnn : c.nn = c.fa + c.ands.length := rfl
  have hfa : c.fa = c.fl + c.lat.length := rfl
  have hflz : c.fl = 1 + c.ins.length := rfl
  generalize hI : trimI ne c.ins.length c.nn = imgs at *
  have gA : ∀ {i l r : Nat}, c.ands[i]? = some (l, r) → keepN ne c.ins.length (c.fa + i) = true → keepN ne c.ins.length (l / 2) = true ∧ keepN ne c.ins.length (r / 2) = true := fun e h => by
    have := ands _ _ _ e (kq _ (by omega) h)
    exact ⟨kp _ this.1, kp _ this.2⟩
  have latE : (trimC c ne).lat = keptL (keepN ne c.ins.length) (fun l : Str × Nat × Nat => (l.1, l.2.1, imOf imgs l.2.2)) c.fl c.lat := by unfold trimC; rw [hI]
  have andE : (trimC c ne).ands = keptL (keepN ne c.ins.length) (fun p : Nat × Nat => (imOf imgs p.1, imOf imgs p.2)) c.fa c.ands := by unfold trimC; rw [hI]
  have outE : (trimC c ne).outs = c.outs.map fun o => (o.1, imOf imgs o.2) := by unfold trimC; rw [hI]
  have len1 : (trimC c ne).lat.length ≤ c.lat.length := by
    rw [latE]
    have := keptL_sub (keepN ne c.ins.length) c.lat c.fl
    have e : (keptL (keepN ne c.ins.length) (fun l : Str × Nat × Nat => (l.1, l.2.1, imOf imgs l.2.2)) c.fl c.lat).length = (keptL (keepN ne c.ins.length) (fun l => l) c.fl c.lat).length := by
      rw [← keptL_map (keepN ne c.ins.length) (fun l => l) (fun l : Str × Nat × Nat => (l.1, l.2.1, imOf imgs l.2.2)), List.length_map]
    rw [e]; exact this.length_le
  have len2 : (trimC c ne).ands.length ≤ c.ands.length := by
    rw [andE]
    have := keptL_sub (keepN ne c.ins.length) c.ands c.fa
    have e : (keptL (keepN ne c.ins.length) (fun p : Nat × Nat => (imOf imgs p.1, imOf imgs p.2)) c.fa c.ands).length = (keptL (keepN ne c.ins.length) (fun l => l) c.fa c.ands).length := by
      rw [← keptL_map (keepN ne c.ins.length) (fun l => l) (fun p : Nat × Nat => (imOf imgs p.1, imOf imgs p.2)), List.length_map]
    rw [e]; exact this.length_le
  obtain ⟨a1, a2, a3, a4, a5⟩ := hc.leaf
  obtain ⟨b1, b2, b3, b4⟩ := hc.outs
  have sub : List.Sublist ((trimC c ne).lat.map (·.1)) (c.lat.map (·.1)) := by
    rw [latE, keptL_map]
    have := (keptL_sub (keepN ne c.ins.length) c.lat c.fl).map (·.1)
    rwa [keptL_map] at this
  have lt : ∀ x, x / 2 < c.nn → keepN ne c.ins.length (x / 2) = true → imOf imgs x < 2 * (trimC c ne).nn := fun x h h' => by
    have := (has x h h').2
    have l := cntN_lt h h'
    omega
  refine ⟨⟨⟨a1, Nat.le_trans len1 a2, fun s hs => ?_, ?_, fun l hl => ?_⟩, ⟨Nat.le_trans len2 hc.ands.1, fun i l r e => ?_⟩, ⟨?_, ?_, ?_, fun l hl => ?_⟩⟩, rfl, by rw [← hI, trimI_len], fun k hk => ?_, fun j y hj e => ?_, outE, fun o ho => (has _ (by have := b4 o ho; omega) (kp _ (outs o ho))).1, fun k y e => ?_, fun i y hi e => ?_, len2, len1⟩
  · rcases List.mem_append.mp hs with hs | hs
    · exact a3 s (List.mem_append_left _ hs)
    · exact a3 s (List.mem_append_right _ (sub.subset hs))
  · exact List.Sublist.nodup (List.Sublist.append (List.Sublist.refl _) sub) a4
  · rw [latE] at hl
    obtain ⟨i, x, h1, h2, rfl⟩ := keptL_of hl
    have hx := a5 x (List.mem_of_getElem? h1)
    have hn := lats i x h1 (kq _ (by omega) h2)
    exact ⟨hx.1, lt _ (by omega) (kp _ hn)⟩
  · rw [andE] at e
    obtain ⟨j, ⟨x1, x2⟩, h1, h2, h3, h4⟩ := keptL_at e
    cases h3
    obtain ⟨k1, k2⟩ := gA h1 h2
    have hl := hc.ands.2 _ _ _ h1
    have hj := lt_of_get h1
    have c1 := (has x1 (by omega) k1).2
    have c2 := (has x2 (by omega) k2).2
    have m1 := cntN_lt (ne := ne) (ni := c.ins.length) (show x1 / 2 < c.fa + j by omega) k1
    have m2 := cntN_lt (ne := ne) (ni := c.ins.length) (show x2 / 2 < c.fa + j by omega) k2
    rw [dfa]
    dsimp only
    omega
  · rw [outE, List.length_map]; exact b1
  · rw [outE, List.map_map]; exact b2
  · rw [outE, List.map_map]; exact b3
  · rw [outE] at hl
    obtain ⟨o, ho, rfl⟩ := List.mem_map.mp hl
    exact lt _ (by have := b4 o ho; omega) (kp _ (outs o ho))
  · have := trimI_get (ne := ne) (ni := c.ins.length) (n := c.nn) (k := k) (by omega)
    rwa [hI, if_pos (keep_low hk), cntN_low (by omega)] at this
  · rw [← hI] at e
    obtain ⟨h1, h2, rfl⟩ := trimI_some e
    obtain ⟨⟨l, s, x⟩, e1⟩ : ∃ l, c.lat[j]? = some l := ⟨_, List.getElem?_eq_getElem hj⟩
    have g := keptL_get (ne := ne) (ni := c.ins.length) (fun l : Str × Nat × Nat => (l.1, l.2.1, imOf imgs l.2.2)) (lo := c.fl) e1 h2
    have hm := cntN_mono (ne := ne) (ni := c.ins.length) (show c.fl ≤ c.fl + j by omega)
    have hx := a5 _ (List.mem_of_getElem? e1)
    have hx : x < 2 * c.nn := hx.2
    have hn : ne.getD (x / 2) false = true := lats j _ e1 (kq _ (by omega) h2)
    refine ⟨_, l, s, x, e1, ?_, by rw [latE]; exact g, (has x (by omega) (kp _ hn)).1⟩
    rw [dfl]; omega
  · rw [← hI] at e
    obtain ⟨h1, h2, rfl⟩ := trimI_some e
    have := cntN_lt h1 h2
    omega
  · rw [← hI] at e
    obtain ⟨h1, h2, rfl⟩ := trimI_some e
    obtain ⟨⟨l, r⟩, e1⟩ : ∃ l, c.ands[i]? = some l := ⟨_, List.getElem?_eq_getElem hi⟩
    have g := keptL_get (ne := ne) (ni := c.ins.length) (fun p : Nat × Nat => (imOf imgs p.1, imOf imgs p.2)) (lo := c.fa) e1 h2
    have hm := cntN_mono (ne := ne) (ni := c.ins.length) (show c.fa ≤ c.fa + i by omega)
    have hl := hc.ands.2 _ _ _ e1
    obtain ⟨k1, k2⟩ := gA e1 h2
    rw [← andE] at g
    refine ⟨[l, r], fun o ho => ?_, fun S g' => ?_, fun S g' => ?_⟩
    · simp only [List.mem_cons, List.not_mem_nil, or_false] at ho
      rcases ho with rfl | rfl
      · exact ⟨hl.1, (has _ (by omega) k1).1⟩
      · exact ⟨hl.2, (has _ (by omega) k2).1⟩
    · have k := g'.n _ _ _ e1
      refine ⟨fun s o ho => ?_, fun s => k.up (s l (by simp)) (s r (by simp))⟩
      simp only [List.mem_cons, List.not_mem_nil, or_false] at ho
      rcases ho with rfl | rfl
      · exact (k.dn s).1
      · exact (k.dn s).2
    · have k := g'.n _ _ _ g
      rw [dfa, show cntN ne c.ins.length c.fa + (cntN ne c.ins.length (c.fa + i) - cntN ne c.ins.length c.fa) = cntN ne c.ins.length (c.fa + i) by omega] at k
      refine ⟨fun s o ho => ?_, fun s => g'.con _ (k.up (s l (by simp)) (s r (by simp)))⟩
      simp only [List.mem_cons, List.not_mem_nil, or_false] at ho
      rcases ho with rfl | rfl
      · exact (k.dn s).1
      · exact (k.dn s).2
end
section
/-! part SgMa6 -/
set_option maxRecDepth 100000
set_option linter.unusedVariables false
set_option maxHeartbeats 1000000
open PySem
/-! ### balance -/
def isU (x n : Nat) : Nat := if x / 2 = n then 1 else 0
def usesL : List (Nat × Nat) → Nat → Nat
  | [], _ => 0
  | p :: t, n => isU p.1 n + isU p.2 n + usesL t n
theorem usesL_snoc (p : Nat × Nat) (n : Nat) : ∀ t : List (Nat × Nat), usesL (t ++ [p]) n = usesL t n + (isU p.1 n + isU p.2 n)
  | [] => by show _ + 0 = 0 + _; omega
  | q :: t => by
    show _ + usesL (t ++ [p]) n = (_ + usesL t n) + _
    rw [usesL_snoc p n t]; omega
theorem usesL_le (n : Nat) : ∀ t : List (Nat × Nat), usesL t n ≤ 2 * t.length
  | [] => Nat.le_refl _
  | q :: t => by
    have := usesL_le n t
    show isU q.1 n + isU q.2 n + usesL t n ≤ 2 * (t.length + 1)
    unfold isU; split <;> split <;> omega
def innB (inn : List Bool) (x : Nat) : Bool := inn.getD (x / 2) false
/-- inner nodes: used once, as they are, by an and -/
structure InnerOk (c : Cir Str) (inn : List Bool) : Prop where
  len : inn.length = c.nn
  fa : ∀ n, inn.getD n false = true → c.fa ≤ n
  one : ∀ n, inn.getD n false = true → usesL c.ands n = 1
  ev : ∀ i l r : Nat, c.ands[i]? = some (l, r) → (innB inn l = true → l % 2 = 0) ∧ (innB inn r = true → r % 2 = 0)
  lat : ∀ l ∈ c.lat, innB inn l.2.2 = false
  out : ∀ o ∈ c.outs, innB inn o.2 = false
/-- how many ands an and swallows, itself among them -/
def gT (inn : List Bool) (fa : Nat) (T : Nat → Nat) (x : Nat) : Nat := if innB inn x then T (x / 2 - fa) else 0
def BalT (c : Cir Str) (inn : List Bool) (T : Nat → Nat) : Prop := ∀ i l r : Nat, c.ands[i]? = some (l, r) → T i = 1 + gT inn c.fa T l + gT inn c.fa T r
theorem balT_ex {c : Cir Str} {inn : List Bool} (hc : CirOk c) (hi : InnerOk c inn) : ∃ T, BalT c inn T := by
  have key : ∀ k, ∃ T : Nat → Nat, ∀ i l r : Nat, i < k → c.ands[i]? = some (l, r) → T i = 1 + gT inn c.fa T l + gT inn c.fa T r := by
    intro k
    induction k with
    | zero => exact ⟨fun _ => 0, fun i l r h => absurd h (Nat.not_lt_zero _)⟩
    | succ k ih =>
      obtain ⟨T, hT⟩ := ih
      have ext : ∀ (T' : Nat → Nat) x n, (∀ j, j < n → T' j = T j) → x / 2 < c.fa + n → gT inn c.fa T' x = gT inn c.fa T x := fun T' x n e h => by
        unfold gT
        split
        · rename_i hx
          have := hi.fa _ hx
          exact e _ (by omega)
        · rfl
      cases e : c.ands[k]? with
      | none =>
        refine ⟨T, fun i l r h h' => ?_⟩
        by_cases q : i = k
        · subst q; rw [e] at h'; cases h'
        · exact hT i l r (by omega) h'
      | some p =>
        refine ⟨fun j => if j = k then 1 + gT inn c.fa T p.1 + gT inn c.fa T p.2 else T j, fun i l r h h' => ?_⟩
        have hl := hc.ands.2 _ _ _ h'
        by_cases q : i = k
        · subst q
          rw [e] at h'
          cases h'
          show (if i = i then _ else _) = _
          rw [if_pos rfl, ext _ l i (fun j hj => if_neg (by omega)) (by omega), ext _ r i (fun j hj => if_neg (by omega)) (by omega)]
        · show (if i = k then _ else T i) = _
          rw [if_neg q, hT i l r (by omega) h', ext _ l i (fun j hj => if_neg (by omega)) (by omega), ext _ r i (fun j hj => if_neg (by omega)) (by omega)]
  obtain ⟨T, hT⟩ := key c.ands.length
  exact ⟨T, fun i l r e => hT i l r (lt_of_get e) e⟩
def sumN (f : Nat → Nat) : Nat → Nat
  | 0 => 0
  | n + 1 => sumN f n + f n
theorem sumN_add (f g : Nat → Nat) : ∀ n, sumN (fun k => f k + g k) n = sumN f n + sumN g n
  | 0 => rfl
  | n + 1 => by
    show sumN _ n + (f n + g n) = (sumN f n + f n) + (sumN g n + g n)
    rw [sumN_add f g n]; omega
theorem sumN_le {f g : Nat → Nat} : ∀ n, (∀ k, k < n → f k ≤ g k) → sumN f n ≤ sumN g n
  | 0, _ => Nat.le_refl _
  | n + 1, h => Nat.add_le_add (sumN_le n fun k hk => h k (by omega)) (h n (by omega))
theorem sumN_zero : ∀ n, sumN (fun _ => 0) n = 0
  | 0 => rfl
  | n + 1 => sumN_zero n
theorem sumN_one (g : Nat → Nat) (m : Nat) : ∀ n, sumN (fun k => (if m = k then 1 else 0) * g k) n = if m < n then g m else 0
  | 0 => (if_neg (Nat.not_lt_zero _)).symm
  | n + 1 => by
    show sumN _ n + (if m = n then 1 else 0) * g n = _
    rw [sumN_one g m n]
    by_cases h1 : m = n
    · subst h1
      rw [if_neg (Nat.lt_irrefl _), if_pos rfl, if_pos (Nat.lt_succ_self _)]; omega
    · by_cases h2 : m < n
      · rw [if_pos h2, if_neg h1, if_pos (by omega)]; omega
      · rw [if_neg h2, if_neg h1, if_neg (by omega)]; omega
theorem sumN_split (f : Nat → Nat) (a : Nat) : ∀ n, sumN f (a + n) = sumN f a + sumN (fun k => f (a + k)) n
  | 0 => rfl
  | n + 1 => by
    show sumN f (a + n) + f (a + n) = sumN f a + (sumN (fun k => f (a + k)) n + f (a + n))
    rw [sumN_split f a n]; omega
theorem uses_sum (g : Nat → Nat) (N : Nat) : ∀ t : List (Nat × Nat), (∀ p ∈ t, p.1 / 2 < N ∧ p.2 / 2 < N) → sumN (fun n => usesL t n * g n) N = sumN (fun i => match t[i]? with | some p => g (p.1 / 2) + g (p.2 / 2) | none => 0) t.length
  | [], _ => by
    show sumN (fun n => 0 * g n) N = 0
    have : (fun n => 0 * g n) = fun _ => 0 := funext fun n => Nat.zero_mul _
    rw [this, sumN_zero]
  | p :: t, h => by
    have ih := uses_sum g N t fun q hq => h q (List.mem_cons_of_mem _ hq)
    have hp := h p List.mem_cons_self
    have e : (fun n => usesL (p :: t) n * g n) = fun n => ((if p.1 / 2 = n then 1 else 0) * g n + (if p.2 / 2 = n then 1 else 0) * g n) + usesL t n * g n := funext fun n => by
      show (isU p.1 n + isU p.2 n + usesL t n) * g n = _
      unfold isU
      rw [Nat.add_mul, Nat.add_mul]
    rw [e, sumN_add, sumN_add, sumN_one, sumN_one, if_pos hp.1, if_pos hp.2, ih, List.length_cons, Nat.add_comm t.length 1, sumN_split]
    congr 1
    · show _ = 0 + _
      rw [Nat.zero_add]
      rfl
    · congr 1
      funext i
      rw [Nat.add_comm 1 i]
      rfl
theorem bal_sum {c : Cir Str} {inn : List Bool} {T : Nat → Nat} (hc : CirOk c) (hi : InnerOk c inn) (hT : BalT c inn T) : sumN (fun j => if inn.getD (c.fa + j) false then 0 else T j) c.ands.length ≤ c.ands.length := by
  let g : Nat → Nat := fun n => if inn.getD n false then T (n - c.fa) else 0
  have hnn : c.nn = c.fa + c.ands.length := rfl
  have h1 := uses_sum g c.nn c.ands fun p hp => by
    obtain ⟨j, hj⟩ := List.getElem?_of_mem hp
    have := hc.ands.2 j p.1 p.2 hj
    have hl := lt_of_get hj
    omega
  have h2 : sumN (fun n => usesL c.ands n * g n) c.nn ≤ sumN g c.nn := sumN_le _ fun n _ => by
    show usesL c.ands n * (if inn.getD n false then T (n - c.fa) else 0) ≤ (if inn.getD n false then T (n - c.fa) else 0)
    by_cases q : inn.getD n false = true
    · rw [hi.one n q, Nat.one_mul]; exact Nat.le_refl _
    · rw [if_neg q, Nat.mul_zero]; exact Nat.le_refl _
  have h3 : sumN g c.nn = sumN (fun j => if inn.getD (c.fa + j) false then T j else 0) c.ands.length := by
    rw [hnn, sumN_split]
    have : sumN g c.fa = 0 := by
      have := sumN_le (f := g) (g := fun _ => 0) c.fa fun k hk => by
        show (if inn.getD k false then T (k - c.fa) else 0) ≤ 0
        rw [if_neg (fun e => by have := hi.fa _ e; omega)]
        exact Nat.le_refl _
      rw [sumN_zero] at this
      omega
    rw [this, Nat.zero_add]
    congr 1
    funext k
    show (if inn.getD (c.fa + k) false then T (c.fa + k - c.fa) else 0) = _
    rw [Nat.add_sub_cancel_left]
  have h4 : sumN T c.ands.length ≤ sumN (fun i => 1 + (match c.ands[i]? with | some p => g (p.1 / 2) + g (p.2 / 2) | none => 0)) c.ands.length := sumN_le _ fun k hk => by
    obtain ⟨⟨l, r⟩, e⟩ : ∃ l, c.ands[k]? = some l := ⟨_, List.getElem?_eq_getElem hk⟩
    rw [hT k l r e, e]
    show 1 + gT inn c.fa T l + gT inn c.fa T r ≤ 1 + (gT inn c.fa T l + gT inn c.fa T r)
    omega
  have h5 : ∀ n, sumN (fun _ => 1) n = n := fun n => by
    induction n with
    | zero => rfl
    | succ n ih => show sumN _ n + 1 = n + 1; rw [ih]
  rw [sumN_add (fun _ => 1), h5, ← h1] at h4
  have h6 : sumN T c.ands.length = sumN (fun j => if inn.getD (c.fa + j) false then 0 else T j) c.ands.length + sumN (fun j => if inn.getD (c.fa + j) false then T j else 0) c.ands.length := by
    rw [← sumN_add]
    congr 1
    funext k
    split <;> omega
  omega
/-- the literals that an and is of -/
structure OpsR (c : Cir Str) (inn : List Bool) (k : Nat) (os : List Nat) : Prop where
  lt : ∀ o ∈ os, o < 2 * k ∧ innB inn o = false
  sem : ∀ S, GoodA c.fa c.ands S → (S (2 * k) ↔ ∀ o ∈ os, S o)
/-- the search of operands: found, waiting -/
structure OpsI (c : Cir Str) (inn : List Bool) (T : Nat → Nat) (i : Nat) (fs ws : List Nat) : Prop where
  f : ∀ o ∈ fs, o < 2 * (c.fa + i) ∧ innB inn o = false
  w : ∀ o ∈ ws, o < 2 * (c.fa + i) ∧ (innB inn o = true → o % 2 = 0)
  sem : ∀ S, GoodA c.fa c.ands S → (S (2 * (c.fa + i)) ↔ (∀ o ∈ fs, S o) ∧ ∀ o ∈ ws, S o)
  n : fs.length + (ws.map fun o => 1 + gT inn c.fa T o).sum = T i + 1
theorem OpsI.start {c : Cir Str} {inn : List Bool} {T : Nat → Nat} (hc : CirOk c) (hi : InnerOk c inn) (hT : BalT c inn T) {i l r : Nat} (e : c.ands[i]? = some (l, r)) : OpsI c inn T i [] [l, r] := by
  have hl := hc.ands.2 _ _ _ e
  have he := hi.ev _ _ _ e
  refine ⟨fun o h => (nomatch h), fun o h => ?_, fun S g => ?_, ?_⟩
  · simp only [List.mem_cons, List.not_mem_nil, or_false] at h
    rcases h with rfl | rfl
    · exact ⟨hl.1, he.1⟩
    · exact ⟨hl.2, he.2⟩
  · have k := g.n _ _ _ e
    refine ⟨fun s => ⟨fun o h => (nomatch h), fun o h => ?_⟩, fun ⟨_, s⟩ => k.up (s l (by simp)) (s r (by simp))⟩
    simp only [List.mem_cons, List.not_mem_nil, or_false] at h
    rcases h with rfl | rfl
    · exact (k.dn s).1
    · exact (k.dn s).2
  · rw [hT i l r e]
    simp; omega
theorem OpsI.grow {c : Cir Str} {inn : List Bool} {T : Nat → Nat} (hc : CirOk c) (hi : InnerOk c inn) (hT : BalT c inn T) {i : Nat} {fs ws : List Nat} {x j l r : Nat} (h : OpsI c inn T i fs (ws ++ [x])) (hx : x = 2 * (c.fa + j)) (hb : innB inn x = true) (e : c.ands[j]? = some (l, r)) : OpsI c inn T i fs (ws ++ [l, r]) := by
  have hl := hc.ands.2 _ _ _ e
  have he := hi.ev _ _ _ e
  have hw := h.w x (by simp)
  refine ⟨h.f, fun o ho => ?_, fun S g => ?_, ?_⟩
  · rcases List.mem_append.mp ho with ho | ho
    · exact h.w o (List.mem_append_left _ ho)
    · simp only [List.mem_cons, List.not_mem_nil, or_false] at ho
      rcases ho with rfl | rfl
      · exact ⟨by omega, he.1⟩
      · exact ⟨by omega, he.2⟩
  · have k := g.n _ _ _ e
    rw [← hx] at k
    rw [h.sem S g]
    refine and_congr_right fun _ => ⟨fun s o ho => ?_, fun s o ho => ?_⟩
    · rcases List.mem_append.mp ho with ho | ho
      · exact s o (List.mem_append_left _ ho)
      · simp only [List.mem_cons, List.not_mem_nil, or_false] at ho
        have := k.dn (s x (by simp))
        rcases ho with rfl | rfl
        · exact this.1
        · exact this.2
    · rcases List.mem_append.mp ho with ho | ho
      · exact s o (List.mem_append_left _ ho)
      · rw [List.mem_singleton.mp ho]
        exact k.up (s l (by simp)) (s r (by simp))
  · have := h.n
    rw [List.map_append, List.sum_append] at this ⊢
    have e1 : gT inn c.fa T x = T j := by
      unfold gT
      rw [if_pos hb, show x / 2 - c.fa = j by omega]
    have e2 := hT j l r e
    simp at this ⊢
    omega
theorem OpsI.take {c : Cir Str} {inn : List Bool} {T : Nat → Nat} {i : Nat} {fs ws : List Nat} {x : Nat} (h : OpsI c inn T i fs (ws ++ [x])) (hb : innB inn x = false) : OpsI c inn T i (fs ++ [x]) ws := by
  have hw := h.w x (by simp)
  refine ⟨fun o ho => ?_, fun o ho => h.w o (List.mem_append_left _ ho), fun S g => ?_, ?_⟩
  · rcases List.mem_append.mp ho with ho | ho
    · exact h.f o ho
    · rw [List.mem_singleton.mp ho]; exact ⟨hw.1, hb⟩
  · rw [h.sem S g]
    refine ⟨fun ⟨a, b⟩ => ⟨fun o ho => ?_, fun o ho => b o (List.mem_append_left _ ho)⟩, fun ⟨a, b⟩ => ⟨fun o ho => a o (List.mem_append_left _ ho), fun o ho => ?_⟩⟩
    · rcases List.mem_append.mp ho with ho | ho
      · exact a o ho
      · exact b o (List.mem_append_right _ ho)
    · rcases List.mem_append.mp ho with ho | ho
      · exact b o ho
      · exact a o (List.mem_append_right _ ho)
  · have := h.n
    rw [List.map_append, List.sum_append] at this
    have e1 : gT inn c.fa T x = 0 := by unfold gT; rw [hb]; rfl
    simp [e1] at this ⊢
    omega
theorem OpsI.done {c : Cir Str} {inn : List Bool} {T : Nat → Nat} {i : Nat} {fs : List Nat} (h : OpsI c inn T i fs []) : OpsR c inn (c.fa + i) fs ∧ fs.length = T i + 1 := by
  refine ⟨⟨h.f, fun S g => ?_⟩, by have := h.n; simpa using this⟩
  rw [h.sem S g]
  exact ⟨fun a => a.1, fun a => ⟨a, fun o ho => (nomatch ho)⟩⟩
/-- how long the search may last -/
def opsM (inn : List Bool) (fa : Nat) (T : Nat → Nat) (ws : List Nat) : Nat := (ws.map fun o => 1 + 2 * gT inn fa T o).sum
/-- what combined makes -/
structure CombR (b : Bld) (lits : List Nat) (y : Nat) (b' : Bld) : Prop where
  ok : BldOk b'
  lc : b'.lc = b.lc
  nn : b.nn ≤ b'.nn
  z : b'.pairs.length + 1 ≤ b.pairs.length + lits.length
  yl : y / 2 < b'.nn
  pre : ∀ (i : Nat) (p : Nat × Nat), b.pairs[i]? = some p → b'.pairs[i]? = some p
  sem : ∀ S, GoodB b' S → (S y ↔ ∀ o ∈ lits, S o)
/-- combined: the first walk -/
structure CombA (ls W : List Nat) (n : Nat) : Prop where
  nd : W.Nodup
  lt : ∀ x ∈ W, x / 2 < n
  z : W.length ≤ ls.length
  sem : ∀ S, Con S → S 1 → ((∀ o ∈ ls, S o) ↔ ∀ o ∈ W, S o)
theorem CombA.nil (n : Nat) : CombA [] [] n := ⟨List.nodup_nil, fun x h => (nomatch h), Nat.le_refl _, fun S _ _ => Iff.rfl⟩
theorem all_snoc {S : Nat → Prop} {ls : List Nat} {x : Nat} : (∀ o ∈ ls ++ [x], S o) ↔ (∀ o ∈ ls, S o) ∧ S x :=
  ⟨fun h => ⟨fun o ho => h o (List.mem_append_left _ ho), h x (by simp)⟩, fun h o ho => (List.mem_append.mp ho).elim (h.1 o) fun m => by rw [List.mem_singleton.mp m]; exact h.2⟩
theorem CombA.one {ls W : List Nat} {n : Nat} (h : CombA ls W n) : CombA (ls ++ [1]) W n :=
  ⟨h.nd, h.lt, Nat.le_trans h.z (by rw [List.length_append]; omega), fun S hc ht => by
    rw [all_snoc, h.sem S hc ht]
    exact ⟨fun a => a.1, fun a => ⟨a, ht⟩⟩⟩
theorem CombA.old {ls W : List Nat} {n x : Nat} (h : CombA ls W n) (hx : x ∈ W) : CombA (ls ++ [x]) W n :=
  ⟨h.nd, h.lt, Nat.le_trans h.z (by rw [List.length_append]; omega), fun S hc ht => by
    rw [all_snoc, h.sem S hc ht]
    exact ⟨fun a => a.1, fun a => ⟨a, a x hx⟩⟩⟩
theorem CombA.new {ls W : List Nat} {n x : Nat} (h : CombA ls W n) (hx : ¬ x ∈ W) (hl : x / 2 < n) : CombA (ls ++ [x]) (W ++ [x]) n :=
  ⟨List.nodup_append.mpr ⟨h.nd, (List.nodup_cons.mpr ⟨fun m => (nomatch m), List.nodup_nil⟩), fun a ha b hb e => by rw [List.mem_singleton.mp hb] at e; exact hx (e ▸ ha)⟩, fun y hy => (List.mem_append.mp hy).elim (h.lt y) fun m => by rw [List.mem_singleton.mp m]; exact hl,
    by rw [List.length_append, List.length_append]; have := h.z; simp; omega, fun S hc ht => by rw [all_snoc, all_snoc, h.sem S hc ht]⟩
/-- combined: the second walk, over lits, having b of b0 -/
structure CombB (b0 b : Bld) (lits W : List Nat) : Prop where
  ok : BldOk b
  lc : b.lc = b0.lc
  nn : b0.nn ≤ b.nn
  z : b.pairs.length + W.length ≤ b0.pairs.length + lits.length
  nd : W.Nodup
  lt : ∀ x ∈ W, x / 2 < b.nn
  pre : ∀ (i : Nat) (p : Nat × Nat), b0.pairs[i]? = some p → b.pairs[i]? = some p
  sem : ∀ S, GoodB b S → ((∀ o ∈ lits, S o) ↔ ∀ o ∈ W, S o)
theorem CombA.go {b : Bld} {lits W : List Nat} (hb : BldOk b) (h : CombA lits W b.nn) : CombB b b lits W :=
  ⟨hb, rfl, Nat.le_refl _, Nat.add_le_add_left h.z _, h.nd, h.lt, fun _ _ e => e, fun S g => h.sem S g.con g.t⟩
/-- the two first of W taken away, and b.both of them -/
structure CombT (b0 b b' : Bld) (lits W' : List Nat) (y : Nat) : Prop where
  ok : BldOk b'
  lc : b'.lc = b0.lc
  nn : b0.nn ≤ b'.nn
  z : b'.pairs.length + W'.length + 1 ≤ b0.pairs.length + lits.length
  nd : W'.Nodup
  yl : y / 2 < b'.nn
  lt : ∀ x ∈ W', x / 2 < b'.nn
  pre : ∀ (i : Nat) (p : Nat × Nat), b0.pairs[i]? = some p → b'.pairs[i]? = some p
  sem : ∀ S, GoodB b' S → ((∀ o ∈ lits, S o) ↔ S y ∧ ∀ o ∈ W', S o)
theorem CombB.take {b0 b b' : Bld} {lits W W' : List Nat} {p q y : Nat} (h : CombB b0 b lits W) (hW : ∀ x, x ∈ W ↔ (x = p ∨ x = q ∨ x ∈ W')) (hl : W.length = W'.length + 2) (hn : W'.Nodup) (hb : BothR b p q y b') : CombT b0 b b' lits W' y := by
  have hp : p / 2 < b.nn := h.lt p ((hW p).mpr (.inl rfl))
  have hq : q / 2 < b.nn := h.lt q ((hW q).mpr (.inr (.inl rfl)))
  have st := both_ok h.ok hp hq hb
  have n1 := st.n1
  have n2 := st.nn
  have n3 := st.lc
  have hz := h.z
  refine ⟨st.ok, st.lc.trans h.lc, Nat.le_trans h.nn st.nn, by unfold Bld.nn at *; omega, hn, st.y, fun x hx => Nat.lt_of_lt_of_le (h.lt x ((hW x).mpr (.inr (.inr hx)))) st.nn, fun i p e => st.pre _ _ (h.pre _ _ e), fun S g => ?_⟩
  have k := both_sem hb g
  rw [h.sem S (g.pre st.lc st.pre)]
  refine ⟨fun a => ⟨k.2 (a p ((hW p).mpr (.inl rfl))) (a q ((hW q).mpr (.inr (.inl rfl)))), fun o ho => a o ((hW o).mpr (.inr (.inr ho)))⟩, fun ⟨a, a'⟩ o ho => ?_⟩
  rcases (hW o).mp ho with rfl | rfl | ho
  · exact (k.1 a).1
  · exact (k.1 a).2
  · exact a' o ho
theorem CombT.zero {b0 b b' : Bld} {lits W' : List Nat} {y : Nat} (h : CombT b0 b b' lits W' y) (hy : y = 0 ∨ neg y ∈ W') : CombR b0 lits 0 b' :=
  ⟨h.ok, h.lc, h.nn, by have := h.z; omega, by unfold Bld.nn; omega, h.pre, fun S g => ⟨fun s => absurd s g.f, fun s => by
    have := (h.sem S g).mp s
    rcases hy with rfl | hy
    · exact this.1
    · exact absurd (this.2 _ hy) (g.con _ this.1)⟩⟩
theorem CombT.new {b0 b b' : Bld} {lits W' : List Nat} {y : Nat} (h : CombT b0 b b' lits W' y) (hy : ¬ y ∈ W') : CombB b0 b' lits (W' ++ [y]) :=
  ⟨h.ok, h.lc, h.nn, by rw [List.length_append]; have := h.z; simp; omega, List.nodup_append.mpr ⟨h.nd, (List.nodup_cons.mpr ⟨fun m => (nomatch m), List.nodup_nil⟩), fun a ha b hb e => by rw [List.mem_singleton.mp hb] at e; exact hy (e ▸ ha)⟩,
    fun x hx => (List.mem_append.mp hx).elim (h.lt x) fun m => by rw [List.mem_singleton.mp m]; exact h.yl, h.pre, fun S g => by rw [h.sem S g, all_snoc]; exact And.comm⟩
theorem CombT.old {b0 b b' : Bld} {lits W' : List Nat} {y : Nat} (h : CombT b0 b b' lits W' y) (hy : y ∈ W') : CombB b0 b' lits W' :=
  ⟨h.ok, h.lc, h.nn, by have := h.z; omega, h.nd, h.lt, h.pre, fun S g => by rw [h.sem S g]; exact ⟨fun a => a.2, fun a => ⟨a y hy, a⟩⟩⟩
theorem CombB.one {b0 b : Bld} {lits : List Nat} {y : Nat} (h : CombB b0 b lits [y]) : CombR b0 lits y b :=
  ⟨h.ok, h.lc, h.nn, h.z, h.lt y (by simp), h.pre, fun S g => by
    rw [h.sem S g]
    exact ⟨fun s o ho => by rw [List.mem_singleton.mp ho]; exact s, fun s => s y (by simp)⟩⟩
theorem CombA.none {b0 : Bld} {lits : List Nat} (hb : BldOk b0) (h : CombA lits [] b0.nn) (hl : 1 ≤ lits.length) : CombR b0 lits 1 b0 :=
  ⟨hb, rfl, Nat.le_refl _, by omega, by unfold Bld.nn; omega, fun _ _ e => e, fun S g => by
    rw [h.sem S g.con g.t]
    exact ⟨fun _ o ho => (nomatch ho), fun _ => g.t⟩⟩
theorem CombA.zero {b0 : Bld} {lits : List Nat} {i x : Nat} {W : List Nat} (hb : BldOk b0) (h : CombA (lits.take i) W b0.nn) (hx : lits[i]? = some x) (hz : x = 0 ∨ neg x ∈ W) : CombR b0 lits 0 b0 :=
  ⟨hb, rfl, Nat.le_refl _, by have := lt_of_get hx; omega, by unfold Bld.nn; omega, fun _ _ e => e, fun S g => ⟨fun s => absurd s g.f, fun s => by
    have sx := s x (List.mem_of_getElem? hx)
    rcases hz with rfl | hz
    · exact sx
    · exact absurd ((h.sem S g.con g.t).mp (fun o ho => s o (List.mem_of_mem_take ho)) _ hz) (g.con _ sx)⟩⟩
/-- the loop over the ands: images, builder -/
structure BalI (c : Cir Str) (inn : List Bool) (T : Nat → Nat) (i : Nat) (imgs : List (Option Nat)) (b : Bld) : Prop where
  ok : BldOk b
  lc : b.lc = c.ins.length + c.lat.length
  len : imgs.length = c.fa + i
  leaf : ∀ k, k < c.fa → imgs[k]? = some (some (2 * k))
  z : b.pairs.length ≤ sumN (fun j => if inn.getD (c.fa + j) false then 0 else T j) i
  out : ∀ j, j < i → inn.getD (c.fa + j) false = false → ∃ y, imgs[c.fa + j]? = some (some y) ∧ y / 2 < b.nn ∧ ∃ os, OpsR c inn (c.fa + j) os ∧ ∀ S, GoodB b S → (S y ↔ ∀ o ∈ os, S (imOf imgs o))
  inn : ∀ j, j < i → inn.getD (c.fa + j) false = true → imgs[c.fa + j]? = some none
theorem BalI.zero {c : Cir Str} {inn : List Bool} {T : Nat → Nat} : BalI c inn T 0 (leafI c.fa) (bld0 (c.ins.length + c.lat.length)) := by
  have k := CarryOk.zero c
  refine ⟨k.ok, k.lc, k.len, fun j hj => ?_, Nat.le_refl _, fun j hj => absurd hj (Nat.not_lt_zero _), fun j hj => absurd hj (Nat.not_lt_zero _)⟩
  unfold leafI
  rw [List.getElem?_map, List.getElem?_range hj]
  rfl
section
variable {c : Cir Str} {inn : List Bool} {T : Nat → Nat} {i : Nat} {imgs : List (Option Nat)} {b b' : Bld}
theorem innB_leaf (hi : InnerOk c inn) {k : Nat} (h : k < c.fa) : inn.getD k false = false := by
  cases e : inn.getD k false with
  | false => rfl
  | true => exact absurd (hi.fa k e) (by omega)
theorem BalI.has (h : BalI c inn T i imgs b) {x : Nat} (hx : x / 2 < c.fa + i) (hb : innB inn x = false) : HasJ imgs x ∧ imOf imgs x / 2 < b.nn := by
  by_cases q : x / 2 < c.fa
  · have e := h.leaf _ q
    refine ⟨⟨_, e⟩, ?_⟩
    rw [imOf_eq e, xl_div]
    have h1 := h.lc
    unfold Bld.nn Cir.fa at *
    omega
  · obtain ⟨j, hj⟩ : ∃ j, x / 2 = c.fa + j := ⟨x / 2 - c.fa, by omega⟩
    unfold innB at hb
    rw [hj] at hb
    obtain ⟨y, e, hy, _⟩ := h.out j (by omega) hb
    rw [← hj] at e
    exact ⟨⟨_, e⟩, by rw [imOf_eq e, xl_div]; exact hy⟩
theorem BalI.skip (h : BalI c inn T i imgs b) (hb : inn.getD (c.fa + i) false = true) : BalI c inn T (i + 1) (imgs ++ [none]) b := by
  have hl := h.len
  refine ⟨h.ok, h.lc, by rw [List.length_append, h.len]; rfl, fun k hk => by rw [List.getElem?_append_left (by omega)]; exact h.leaf k hk, Nat.le_trans h.z (Nat.le_add_right _ _), fun j hj e => ?_, fun j hj e => ?_⟩
  · have : j ≠ i := fun q => by rw [q, hb] at e; cases e
    obtain ⟨y, h1, h2, os, h3, h4⟩ := h.out j (by omega) e
    refine ⟨y, by rw [List.getElem?_append_left (by omega)]; exact h1, h2, os, h3, fun S g => ?_⟩
    rw [h4 S g]
    exact ⟨fun s o ho => by rw [imOf_app (by have := (h3.lt o ho).1; omega)]; exact s o ho, fun s o ho => by have := s o ho; rwa [imOf_app (by have := (h3.lt o ho).1; omega)] at this⟩
  · by_cases q : j = i
    · subst q
      rw [List.getElem?_append_right (by omega), hl, Nat.sub_self]; rfl
    · rw [List.getElem?_append_left (by omega)]
      exact h.inn j (by omega) e
theorem BalI.step (h : BalI c inn T i imgs b) (hb : inn.getD (c.fa + i) false = false) {os : List Nat} {y : Nat} (ho : OpsR c inn (c.fa + i) os) (hl : os.length = T i + 1) (hr : CombR b (os.map (imOf imgs)) y b') : BalI c inn T (i + 1) (imgs ++ [some y]) b' := by
  have hlen := h.len
  refine ⟨hr.ok, hr.lc.trans h.lc, by rw [List.length_append, h.len]; rfl, fun k hk => by rw [List.getElem?_append_left (by omega)]; exact h.leaf k hk, ?_, fun j hj e => ?_, fun j hj e => ?_⟩
  · have hz := hr.z
    rw [List.length_map, hl] at hz
    show _ ≤ sumN _ i + (if inn.getD (c.fa + i) false = true then 0 else T i)
    rw [hb, if_neg (by decide)]
    have := h.z
    omega
  · by_cases q : j = i
    · subst q
      refine ⟨y, by rw [List.getElem?_append_right (by omega), hlen, Nat.sub_self]; rfl, hr.yl, os, ho, fun S g => ?_⟩
      rw [hr.sem S g]
      refine ⟨fun s o hm => ?_, fun s o hm => ?_⟩
      · rw [imOf_app (by have := (ho.lt o hm).1; omega)]
        exact s _ (List.mem_map_of_mem hm)
      · obtain ⟨z, hz, rfl⟩ := List.mem_map.mp hm
        have := s z hz
        rwa [imOf_app (by have := (ho.lt z hz).1; omega)] at this
    · obtain ⟨y', h1, h2, os', h3, h4⟩ := h.out j (by omega) e
      refine ⟨y', by rw [List.getElem?_append_left (by omega)]; exact h1, Nat.lt_of_lt_of_le h2 hr.nn, os', h3, fun S g => ?_⟩
      rw [h4 S (g.pre hr.lc hr.pre)]
      exact ⟨fun s o ho => by rw [imOf_app (by have := (h3.lt o ho).1; omega)]; exact s o ho, fun s o ho => by have := s o ho; rwa [imOf_app (by have := (h3.lt o ho).1; omega)] at this⟩
  · have : j ≠ i := fun q => by rw [q, hb] at e; cases e
    rw [List.getElem?_append_left (by omega)]
    exact h.inn j (by omega) e
theorem bal_small (hc : CirOk c) (hi : InnerOk c inn) (hT : BalT c inn T) (h : BalI c inn T c.ands.length imgs b) : b.pairs.length ≤ c.ands.length := Nat.le_trans h.z (bal_sum hc hi hT)
theorem bal_pass (hc : CirOk c) (hi : InnerOk c inn) (hT : BalT c inn T) (h : BalI c inn T c.ands.length imgs b) (hd : CirOk (rebC c b imgs)) : PassOk c (rebC c b imgs) imgs := by
  have hfa : c.fa + c.ands.length = c.nn := rfl
  refine reb_pass hc hd h.lc h.len h.leaf (fun l hl => ?_) (fun l hl => ?_) (fun k y e => ?_) (fun i y hi' e => ?_) (bal_small hc hi hT h)
  · have := (hc.leaf.2.2.2.2 l hl).2
    exact (h.has (by omega) (hi.lat l hl)).1
  · have := hc.outs.2.2.2 l hl
    exact (h.has (by omega) (hi.out l hl)).1
  · have hk := lt_of_get e
    rw [h.len] at hk
    by_cases q : k < c.fa
    · rw [h.leaf k q] at e
      cases e
      have h1 := h.lc
      unfold Bld.nn Cir.fa at *
      omega
    · obtain ⟨j, rfl⟩ : ∃ j, k = c.fa + j := ⟨k - c.fa, by omega⟩
      cases eb : inn.getD (c.fa + j) false with
      | true => rw [h.inn j (by omega) eb] at e; cases e
      | false =>
        obtain ⟨y', h1, h2, _⟩ := h.out j (by omega) eb
        rw [h1] at e; cases e
        exact h2
  · cases eb : inn.getD (c.fa + i) false with
    | true => rw [h.inn i hi' eb] at e; cases e
    | false =>
      obtain ⟨y', h1, h2, os, h3, h4⟩ := h.out i hi' eb
      rw [h1] at e; cases e
      refine ⟨os, fun o ho => ⟨(h3.lt o ho).1, (h.has (by have := (h3.lt o ho).1; omega) (h3.lt o ho).2).1⟩, fun S g => ⟨(h3.sem S g).mp, (h3.sem S g).mpr⟩, fun S g => ?_⟩
      rw [rebC_fa h.lc] at g
      exact ⟨(h4 S g).mp, fun s => g.con _ ((h4 S g).mpr s)⟩
end
end
section
/-! part SgCo -/
set_option Elab.async false
set_option maxRecDepth 100000
set_option linter.unusedVariables false
set_option maxHeartbeats 1000000
open PySem PySem.Spec PyProof.Rows L2


/-- what is not a list, not a dict, stays -/
def KeepO (H H' : Hp) : Prop := ∀ a u, H a = some u → (∀ vs, u ≠ .lst vs) → (∀ kv, u ≠ .dK kv) → (∀ kv, u ≠ .dT kv) → H' a = some u
theorem KeepO.same {H H' : Hp} (s : Same H H') : KeepO H H' := fun a u e _ _ _ => s a u e
theorem KeepO.trans {H H1 H2 : Hp} (k : KeepO H H1) (k' : KeepO H1 H2) : KeepO H H2 := fun a u e h1 h2 h3 => k' a u (k a u e h1 h2 h3) h1 h2 h3
theorem tabs_keep {T : List (Addr × Str)} {H H' : Hp} (h : LamX.Tabs T H) (k : KeepO H H') : LamX.Tabs T H' := fun p hp => by
  obtain ⟨ps, h1, h2, h3⟩ := h p hp
  refine ⟨ps, k _ _ h1 (fun _ q => nomatch q) (fun _ q => nomatch q) (fun _ q => nomatch q), h2, fun pos cv hc => ?_⟩
  obtain ⟨c, e1, e2⟩ := h3 pos cv hc
  exact ⟨c, e1, k _ _ e2 (fun _ q => by unfold LamX.CodeO at q; cases q) (fun _ q => by unfold LamX.CodeO at q; cases q) (fun _ q => by unfold LamX.CodeO at q; cases q)⟩
/-- all but the builder's lists and the tables stays -/
def KeepT (l m n : Addr) (H H' : Hp) : Prop := ∀ a u, a ≠ l → a ≠ m → a ≠ n → (∀ ps, u ≠ .tbl ps) → H a = some u → H' a = some u
theorem KeepT.same {l m n : Addr} {H H' : Hp} (s : Same H H') : KeepT l m n H H' := fun a u _ _ _ _ e => s a u e
theorem KeepT.keep3 {l m n : Addr} {H H' : Hp} (s : Keep3 l m n H H') : KeepT l m n H H' := fun a u h1 h2 h3 _ e => s a u h1 h2 h3 e
theorem KeepT.extN {l m n : Addr} {H H' : Hp} (s : LamX.ExtN H H') : KeepT l m n H H' := fun a u _ _ _ h e => s a u e h
theorem KeepT.trans {l m n : Addr} {H H1 H2 : Hp} (k : KeepT l m n H H1) (k' : KeepT l m n H1 H2) : KeepT l m n H H2 := fun a u h1 h2 h3 h e => k' a u h1 h2 h3 h (k a u h1 h2 h3 h e)
theorem KeepT.new {l m n a : Addr} {H H' : Hp} {o : HO} (k : KeepT l m n H H') (h : H a = none) : KeepT l m n H (upd H' a o) := fun b u h1 h2 h3 ht e => by
  rw [upd_ne (ne_of_none e h)]; exact k b u h1 h2 h3 ht e
theorem KeepO.dict {H : Hp} {a : Addr} {kv : List (L2.Key × V)} {o : HO} (h : H a = some (.dK kv)) : KeepO H (upd H a o) := fun b u e h1 h2 h3 => by
  rw [upd_ne (fun z => by rw [z, h] at e; cases e; exact h2 _ rfl)]; exact e
theorem KeepO.bld {K : PySem.W.Frag} {C : Addr} {H H' : Hp} {p dx lp ln ll : Addr} {b : Bld} (hb : BldAt K C H p dx lp ln ll b) (k : Keep3 lp ln ll H H') : KeepO H H' := fun a u e h1 h2 h3 => by
  obtain ⟨_, ⟨_, e1, _⟩, e2, e3, _⟩ := hb
  exact k a u (fun z => by rw [z, e1] at e; cases e; exact h1 _ rfl) (fun z => by rw [z, e2] at e; cases e; exact h3 _ rfl) (fun z => by rw [z, e3] at e; cases e; exact h1 _ rfl) e
theorem BldAt.dict {K : PySem.W.Frag} {C : Addr} {H : Hp} {p dx lp ln ll a : Addr} {b : Bld} {kv : List (L2.Key × V)} {o : HO} (hb : BldAt K C H p dx lp ln ll b) (h : H a = some (.dK kv)) : BldAt K C (upd H a o) p dx lp ln ll b := by
  obtain ⟨f1, f2, f4, f5, f6⟩ := hb
  have n1 : p ≠ a := fun z => by rw [z, h] at f1; cases f1
  have n2 : ln ≠ a := fun z => by rw [z, h] at f4; cases f4
  have n3 : ll ≠ a := fun z => by rw [z, h] at f5; cases f5
  have n4 : lp ≠ a := by obtain ⟨_, e, _⟩ := f2; exact fun z => by rw [z, h] at e; cases e
  exact ⟨lk_ne n1 f1, LstAt.keepT to_P (Keep.upd (o := o)) h (fun _ q => nomatch q) n4 f2, lk_ne n2 f4, lk_ne n3 f5, f6⟩
theorem drop_in (W : List Nat) (x : Nat) : dropK (mkD (inK W)) (Sum.inl (x : Int)) = mkD (inK (W.filter fun y => decide (y ≠ x))) := by
  unfold dropK mkD inK
  induction W with
  | nil => rfl
  | cons y t ih =>
    simp only [List.map_cons, List.filter_cons]
    have e : decide ((Sum.inl (y : Int) : L2.Key) ≠ Sum.inl (x : Int)) = decide (y ≠ x) := by
      by_cases q : y = x
      · subst q; simp
      · rw [decide_eq_true q, decide_eq_true (by intro z; injection z with z; omega)]
    rw [e]
    split
    · simp only [List.map_cons, ih]
    · exact ih
theorem filt_two {W ws : List Nat} {p q : Nat} {r : List Nat} (hn : W.Nodup) (hp : ws.Perm W) (e : ws = p :: q :: r) :
    p ∈ W ∧ q ∈ W.filter (fun y => decide (y ≠ p)) ∧ W.length = ((W.filter fun y => decide (y ≠ p)).filter fun y => decide (y ≠ q)).length + 2 ∧ ∀ x, x ∈ W ↔ (x = p ∨ x = q ∨ x ∈ (W.filter fun y => decide (y ≠ p)).filter fun y => decide (y ≠ q)) := by
  have hws : ws.Nodup := hp.nodup_iff.mpr hn
  subst e
  obtain ⟨n1, n2⟩ := List.nodup_cons.mp hws
  obtain ⟨n3, n4⟩ := List.nodup_cons.mp n2
  have npq : p ≠ q := fun z => n1 (by rw [z]; exact List.mem_cons_self)
  have mem : ∀ x, x ∈ W ↔ x = p ∨ x = q ∨ x ∈ r := fun x => by
    rw [← hp.mem_iff]
    simp
  have f1 : (W.filter fun y => decide (y ≠ p)).Perm (q :: r) := by
    have := hp.symm.filter (fun y => decide (y ≠ p))
    have e : (q :: r).filter (fun y => decide (y ≠ p)) = q :: r := List.filter_eq_self.mpr fun x hx => decide_eq_true fun z => n1 (by rw [← z]; exact hx)
    rw [List.filter_cons_of_neg (by simp), e] at this
    exact this
  have f2 : ((W.filter fun y => decide (y ≠ p)).filter fun y => decide (y ≠ q)).Perm r := by
    have := f1.filter (fun y => decide (y ≠ q))
    have e : r.filter (fun y => decide (y ≠ q)) = r := List.filter_eq_self.mpr fun x hx => decide_eq_true fun z => n3 (by rw [← z]; exact hx)
    rw [List.filter_cons_of_neg (by simp), e] at this
    exact this
  refine ⟨(mem p).mpr (.inl rfl), f1.mem_iff.mpr List.mem_cons_self, ?_, fun x => ?_⟩
  · rw [f2.length_eq, ← hp.length_eq]; rfl
  · rw [mem x, f2.mem_iff]
theorem cut2 (a b : V) (r : List V) : cutV (a :: b :: r) none (some ((2 : Nat) : Int)) = [a, b] := by
  unfold cutV HT.sIx
  simp
section
variable {P : Program} {w : World} {K : PySem.W.Frag} {mg : Str → Option Value} {base : Heap} {f pr : Addr} {fd : FuncData}
def spCombined (K : PySem.W.Frag) (T : List (Addr × Str)) : Sp := fun vs H Q _ => ∃ (p dx lp ln ll a : Addr) (b : Bld) (lits : List Nat), vs = [.ref p, .ref a] ∧ BldAt K (He.ga K "Builder") H p dx lp ln ll b ∧ BldOk b ∧ H a = some (.lst (nums lits)) ∧ a ≠ lp ∧ a ≠ ln ∧ a ≠ ll ∧ (∀ x ∈ lits, x / 2 < b.nn) ∧ 1 ≤ lits.length ∧ lits.length ≤ 500 ∧ b.nn ≤ 3000 ∧ LamX.Tabs T H ∧
  ∀ y b' H', CombR b lits y b' → KeepT lp ln ll H H' → LamX.Tabs T H' → BldAt K (He.ga K "Builder") H' p dx lp ln ll b' → Q (.int (y : Int)) H'
theorem ok_combined {cc Pt : Addr} (F : FunD K "combined" "combined" (defArgs s_combined) (defBody s_combined) (defScope s_combined) [] [] f fd) (hm : mg "combined" = some (.ref f)) (hcode : fd.code = .ref cc) (TBh : LamX.TabB base mg cc Pt) (T : Txt K mg) (M_Builder_level_of : MethOk P w K mg base 1 (He.ga K "Builder") "level_of" ["self", "literal"] (spLevelOf K (He.ga K "Builder"))) (M_Builder_both : MethOk P w K mg base 2 (He.ga K "Builder") "both" ["self", "left", "right"] (spBoth K (He.ga K "Builder") BothR)) : DefOk P w K mg base 6 "combined" ["builder", "literals"] (spCombined K [(Pt, "combined.<locals>.<lambda>")]) := by
  refine ⟨f, fd, hm, F.kp, (FunD.bindsN (ps := ["builder", "literals"]) F fun _ _ _ _ _ _ us hl => match us, hl with | [_, _], _ => rfl), fn_okC F hcode sc_combined ?len (fun A outer s H vs Q E hr h => ⟨_, (pss_cons (ps_set (i := 2) sc_combined.nd rfl (Or.inl rfl) pe_dnewK)
  (pss_cons (ps_for PassesOwn.never rfl (pi_list (pv 1)) (pg_name (i := 3) sc_combined.nd rfl (Or.inl rfl))
  (pss_cons (ps_if (PW.pt (pw_or (pt_cmpR op_eq (pv 3) (pe_int (i := ((0 : Nat) : Int))) (nomark _)) (pw_or1 (pt_cmp (pc_din (hu_of hr) (pe_op op_xor (pv 3) (pe_int (i := ((1 : Nat) : Int)))) (pv 2)) (by rfl))))) (pss_one (ps_ret (pe_int (i := ((0 : Nat) : Int))))) pss_nil)
  (pss_one (ps_if (pt_cmpR op_ne (pv 3) (pe_int (i := ((1 : Nat) : Int))) (nomark _)) (pss_one (ps_dput (hu_of hr) (pv 2) (pv 3) pe_bl (by rfl))) pss_nil))))
  (pss_cons (ps_while PassesOwn.never (pt_cmpR op_gt (pe_callB call_lenD' (by rfl) T.m_len (by decide +kernel) (pa_cons (pv 2) pa_nil)) (pe_int (i := ((1 : Nat) : Int))) (nomark _)) (pss_cons (ps_asg (pe_slice sl_list (pe_sortLam (T := [(Pt, "combined.<locals>.<lambda>")]) (c := cc) (P := Pt) (a := "literal") (k := 2) (i := 3) rfl (by rfl) T.m_sorted (pv 2) TBh rfl (by exact List.mem_singleton.mpr rfl) (fun p hp _ => by rw [List.mem_singleton.mp hp]; rfl) (by exact hr) (by exact lam1_by (show lam1B (defScope s_combined) _ _ = true by decide +kernel)) (by rfl) (fun _ _ _ _ _ _ => by rfl) (by rfl) sc_combined.nd (fun A outer s H f c' hr' => (pe_tup (pa_cons (pe_methD M_Builder_level_of T.c_Builder (hr'.mono (by decide)) (pv 0) (pa_cons (pv 3) pa_nil)) (pa_cons (pv 3) pa_nil))))) po_none (po_some (pe_int (i := ((2 : Nat) : Int))))) (pg_lst rfl (pgs_cons (pg_name (i := 4) sc_combined.nd rfl (Or.inl rfl)) (pgs_cons (pg_name (i := 5) sc_combined.nd rfl (Or.inl rfl)) pgs_nil))))
  (pss_cons (ps_ddel2 (pv 2) (pv 4) (pv 2) (pv 5))
  (pss_cons (ps_set (i := 3) sc_combined.nd rfl (Or.inl rfl) (pe_methD M_Builder_both T.c_Builder (hr.mono (by decide)) (pv 0) (pa_cons (pv 4) (pa_cons (pv 5) pa_nil))))
  (pss_cons (ps_if (PW.pt (pw_or (pt_cmpR op_eq (pv 3) (pe_int (i := ((0 : Nat) : Int))) (nomark _)) (pw_or1 (pt_cmp (pc_din (hu_of hr) (pe_op op_xor (pv 3) (pe_int (i := ((1 : Nat) : Int)))) (pv 2)) (by rfl))))) (pss_one (ps_ret (pe_int (i := ((0 : Nat) : Int))))) pss_nil)
  (pss_one (ps_dput (hu_of hr) (pv 2) (pv 3) pe_bl (by rfl))))))))
  (pss_cons (ps_lock (ps_for PassesOwn.never rfl (pi_keys (pv 2)) (pg_name (i := 3) sc_combined.nd rfl (Or.inl rfl))
  (pss_one (ps_ret (pv 3)))))
  (pss_one (ps_ret (pe_int (i := ((1 : Nat) : Int))))))))), ?_⟩)⟩
  case len => walk_at "ln"
  obtain ⟨p, dx, lp, ln, ll, a, b, lits, rfl, hb, hok, hA, na1, na2, na3, hlt, hl1, hl5, hz, hT, q⟩ := h
  have h1 := hb.1
  walk_at "st"
  walk_at "go"
  rename_i wt hwt
  have na : a ≠ wt := ne_of_none hA hwt
  refine g_rForL (xs := nums lits) (by walk_at "lk") (fun i σ H' => ∃ W o1 o2 o3, σ = [some (.ref p), some (.ref a), some (.ref wt), o1, o2, o3] ∧ Same H H' ∧ H' wt = some (.dK (mkD (inK W))) ∧ CombA (lits.take i) W b.nn)
    ⟨[], _, _, _, rfl, Same.new hwt, upd_same, by rw [List.take_zero]; exact CombA.nil _⟩ ?_ ?_ ?_
  · rintro i σ H' hi ⟨W, _, _, _, rfl, hS, _⟩
    exact hS _ _ hA
  · rintro i v σ H' hv ⟨W, _, _, _, rfl, hS, hW, hC⟩
    obtain ⟨x, hx, rfl⟩ := nums_of hv
    have hxl := hlt x (List.mem_of_getElem? hx)
    have hil := lt_of_get hx
    have hWz := hC.z
    rw [List.length_take] at hWz
    have fin : ∀ {H2 : Hp}, x = 0 ∨ neg x ∈ W → Same H H2 → Q (.int ((0 : Nat) : Int)) H2 := fun hz' hS2 => q 0 b _ (hC.zero hok hx hz') (KeepT.same hS2) (tabs_keep hT (KeepO.same hS2)) (hb.mono hS2)
    walk_at "go"
    refine br (fun c1 => ?_) (fun c1 => ?_)
    · walk_at "go"
      exact fin (.inl c1) hS
    walk_at "go"
    refine br (fun c2 => ?_) (fun c2 => ?_)
    · walk_at "go"
      exact fin (.inr c2) hS
    walk_at "go"
    refine brn (fun c3 => ?_) (fun c3 => ?_)
    · walk_at "go"
      by_cases hm : x ∈ W
      · refine g_rDPutI_in hW hm (by omega) ?_
        refine ⟨W, _, _, _, rfl, Same.mut hS hwt, upd_same, ?_⟩
        rw [take_snoc hx]
        exact hC.old hm
      · refine g_rDPutI hW hm (by omega) ?_
        refine ⟨W ++ [x], _, _, _, rfl, Same.mut hS hwt, upd_same, ?_⟩
        rw [take_snoc hx]
        exact hC.new hm hxl
    · walk_at "go"
      have c4 : x = 1 := by omega
      subst c4
      refine ⟨W, _, _, _, rfl, hS, hW, ?_⟩
      rw [take_snoc hx]
      exact hC.one
  rintro σ H1 ⟨W, _, _, _, rfl, hS, hW, hC⟩
  rw [nums_len, List.take_length] at hC
  have hB := hC.go hok
  have hT1 := tabs_keep hT (KeepO.same hS)
  walk_at "go"
  refine ⟨fun m σ H' => ∃ W b2 o1 o2 o3, σ = [some (.ref p), some (.ref a), some (.ref wt), o1, o2, o3] ∧ m = W.length ∧ KeepT lp ln ll H H' ∧ LamX.Tabs [(Pt, "combined.<locals>.<lambda>")] H' ∧ BldAt K (He.ga K "Builder") H' p dx lp ln ll b2 ∧ H' wt = some (.dK (mkD (inK W))) ∧ CombB b b2 lits W ∧ (W = [] → 1 ≤ lits.length → CombR b lits 1 b2), ⟨_, W, b, _, _, _, rfl, rfl, KeepT.same hS, hT1, hb.mono hS, hW, hB, fun e hl => by subst e; exact CombA.none hok hC hl⟩, ?_⟩
  clear hS hW hC hB hT1
  rintro m σ H2 ⟨W, b2, _, _, _, rfl, rfl, kT, hT2, hb2, hW, hB, hE⟩
  have hWz : W.length ≤ 500 := by
    have h1 := hB.z
    have h2 := hB.lc
    have h3 := hB.nn
    unfold Bld.nn at h3
    omega
  have hkl : (mkD (inK W)).length = W.length := by rw [mkD_len]; unfold inK; rw [List.length_map]
  walk_at "go"
  refine g_lenD hW ?_
  rw [hkl]
  walk_at "go"
  refine br (fun c1 => ?_) (fun c1 => ?_)
  rotate_left 1
  · walk_at "go"
    refine ⟨wt, _, hW, trivial, fun od => ?_⟩
    have k1 := kT.new (o := .dK (mkD (inK W))) hwt
    have k2 := tabs_keep hT2 (KeepO.dict (o := .dK (mkD (inK W))) hW)
    have k3 := hb2.dict (o := .dK (mkD (inK W))) hW
    refine ⟨.ref wt, rfl, wt, od, rfl, .inl ⟨_, upd_same, fun i m σ' H' => i = 0 ∧ σ' = [some (.ref p), some (.ref a), some (.ref wt), _, _, _] ∧ H' = upd H2 wt (.frz od (.dK (mkD (inK W)))), ⟨0, rfl, rfl, rfl⟩, ?_⟩⟩
    rintro i m σ' H' ⟨rfl, rfl, rfl⟩
    match W, c1, hB, hE, k1, k2, k3 with
    | [], c1, hB, hE, k1, k2, k3 =>
      refine .inl ⟨⟨upd_same, Nat.zero_le _⟩, upd_same, ?_⟩
      rw [upd_upd]
      walk_at "go"
      exact q 1 b2 _ (hE rfl hl1) k1 k2 k3
    | [y], c1, hB, hE, k1, k2, k3 =>
      refine .inr ⟨⟨upd_same, Nat.zero_lt_one⟩, fun _ _ => False, fun _ _ h => h.elim, fun x' H' hy => ?_⟩
      obtain ⟨rfl, k, v, e1, rfl⟩ := hy
      cases e1
      walk_at "go"
      refine ⟨upd_same, ?_⟩
      rw [upd_upd]
      exact q y b2 _ hB.one k1 k2 k3
    | x :: y :: t, c1, _, _, _, _, _ => exact absurd (show 1 < (x :: y :: t).length by simp) (by omega)
  refine ⟨fun σ' H' => ∃ W' b3 o1 o2 o3, σ' = [some (.ref p), some (.ref a), some (.ref wt), o1, o2, o3] ∧ W'.length < W.length ∧ KeepT lp ln ll H H' ∧ LamX.Tabs [(Pt, "combined.<locals>.<lambda>")] H' ∧ BldAt K (He.ga K "Builder") H' p dx lp ln ll b3 ∧ H' wt = some (.dK (mkD (inK W'))) ∧ CombB b b3 lits W' ∧ (W' = [] → 1 ≤ lits.length → CombR b lits 1 b3), ?_, ?_⟩
  · rintro σ' H' ⟨W', b3, _, _, _, rfl, g1, g2, g3, g4, g5, g6, g7⟩
    exact ⟨_, g1, W', b3, _, _, _, rfl, rfl, g2, g3, g4, g5, g6, g7⟩
  walk_at "go"
  have hbp := hb2.1
  have hbl := hb2.2.2.2.1
  refine ⟨.ref wt, rfl, wt, mkD (inK W), W.map fun n : Nat => (n : Int), fun n : Int => (((b2.levels.getD (n.toNat / 2) 0 : Nat) : Int), n), rfl, hW, by unfold mkD inK; rw [List.map_map, List.map_map, List.map_map]; rfl, by rw [List.length_map]; omega, hT2, fun H3 hN3 hT3 => ⟨fun n hn H4 hS4 => ?_, fun ys pl H5 hp hS5 hpl => ?_⟩⟩
  · obtain ⟨x, hx, rfl⟩ := List.mem_map.mp hn
    have hxl := hB.lt x hx
    have e1 := hS4 _ _ (hN3 _ _ hbp (fun ps q => nomatch q))
    have e2 := hS4 _ _ (hN3 _ _ hbl (fun ps q => nomatch q))
    refine g_tup (g_cons ?_)
    walk_at "go"
    refine g_levelOf e1 e2 (by have h1 := hB.ok.lv; unfold Bld.nn at hxl; omega) ?_
    refine g_cons ⟨.int (x : Int), rfl, g_nil ⟨by show 2 ≤ _; decide, fun p5 hp5 => ⟨p5, rfl, Same.new hp5, upd_same⟩⟩⟩
  obtain ⟨ws, hws, rfl⟩ := perm_lift (fun n : Nat => (n : Int)) hp W rfl
  obtain ⟨p1, q1, r, rfl⟩ : ∃ p1 q1 r, ws = p1 :: q1 :: r := by
    have hl := hws.length_eq
    match ws, hl with
    | [], hl => simp at hl; omega
    | [x], hl => simp at hl; omega
    | x :: y :: r, _ => exact ⟨x, y, r, rfl⟩
  obtain ⟨m1, m2, m3, m4⟩ := filt_two hB.nd hws rfl
  have kT5 : KeepT lp ln ll H (upd H5 pl (.lst ((((p1 :: q1 :: r).map fun n : Nat => (n : Int))).map V.int))) := by
    refine (kT.trans ((KeepT.extN hN3).trans (KeepT.same hS5))).trans (KeepT.same (Same.new hpl))
  refine ⟨((2 : Nat) : Int), rfl, pl, _, rfl, SqL.of upd_same, fun p2 hp2 => ?_⟩
  refine ⟨p2, _, rfl, SqL.of upd_same, ?_, ?_⟩
  · rw [show (((p1 :: q1 :: r).map fun n : Nat => (n : Int))).map V.int = V.int (p1 : Int) :: V.int (q1 : Int) :: ((r.map fun n : Nat => (n : Int))).map V.int from rfl, cut2]
    rfl
  rw [show (((p1 :: q1 :: r).map fun n : Nat => (n : Int))).map V.int = V.int (p1 : Int) :: V.int (q1 : Int) :: ((r.map fun n : Nat => (n : Int))).map V.int from rfl] at *
  rw [cut2] at *
  have e5 : Same H3 (upd (upd H5 pl (.lst (V.int (p1 : Int) :: V.int (q1 : Int) :: ((r.map fun n : Nat => (n : Int))).map V.int))) p2 (.lst [V.int (p1 : Int), V.int (q1 : Int)])) := L2.Same.trans hS5 (L2.Same.trans (Same.new hpl) (Same.new hp2))
  have hT6 := tabs_keep hT3 (KeepO.same e5)
  have kT6 := kT5.trans (KeepT.same (Same.new (o := .lst [V.int (p1 : Int), V.int (q1 : Int)]) hp2))
  have hW6 := e5 _ _ (hN3 _ _ hW (fun ps q => nomatch q))
  have hb6 : BldAt K (He.ga K "Builder") _ p dx lp ln ll b2 := BldAt.mono e5 (by
    obtain ⟨f1, ⟨vs, f2, f3⟩, f4, f5, f6⟩ := hb2
    exact ⟨hN3 _ _ f1 (fun ps q => nomatch q), ⟨vs, hN3 _ _ f2 (fun ps q => nomatch q), f3.1, fun i v hv => by
      obtain ⟨x, hx, t, e, ht⟩ := f3.2 i v hv
      exact ⟨x, hx, t, e, hN3 _ _ ht (fun ps q => nomatch q)⟩⟩, hN3 _ _ f4 (fun ps q => nomatch q), hN3 _ _ f5 (fun ps q => nomatch q), f6⟩)
  generalize upd (upd H5 pl (.lst (V.int (p1 : Int) :: V.int (q1 : Int) :: ((r.map fun n : Nat => (n : Int))).map V.int))) p2 (.lst [V.int (p1 : Int), V.int (q1 : Int)]) = H6 at *
  clear hS5 hN3 hT3 hp2 hpl e5 kT5 hW hb2 hbp hbl kT hT2
  walk_at "go"
  refine ⟨.ref wt, rfl, .int (p1 : Int), rfl, wt, _, Sum.inl (p1 : Int), rfl, hW6, rfl, by rw [mkD_in (inK_mem.mpr m1)]; rfl, .ref wt, rfl, .int (q1 : Int), rfl, wt, _, Sum.inl (q1 : Int), rfl, upd_same, rfl, by rw [drop_in, mkD_in (inK_mem.mpr m2)]; rfl, ?_⟩
  rw [drop_in, drop_in]
  have hW'n : ((W.filter fun y => decide (y ≠ p1)).filter fun y => decide (y ≠ q1)).Nodup := (hB.nd.filter _).filter _
  generalize ((W.filter fun y => decide (y ≠ p1)).filter fun y => decide (y ≠ q1)) = W' at *
  have kT7 := (kT6.new (o := .dK (mkD (inK (W.filter fun y => decide (y ≠ p1))))) hwt).new (o := .dK (mkD (inK W'))) hwt
  have hT7 := tabs_keep hT6 ((KeepO.dict (o := .dK (mkD (inK (W.filter fun y => decide (y ≠ p1))))) hW6).trans (KeepO.dict (o := .dK (mkD (inK W'))) upd_same))
  have hb7 := (hb6.dict (o := .dK (mkD (inK (W.filter fun y => decide (y ≠ p1))))) hW6).dict (o := .dK (mkD (inK W'))) upd_same
  have hW7 : (upd (upd H6 wt (.dK (mkD (inK (W.filter fun y => decide (y ≠ p1)))))) wt (.dK (mkD (inK W')))) wt = some (.dK (mkD (inK W'))) := upd_same
  generalize upd (upd H6 wt (.dK (mkD (inK (W.filter fun y => decide (y ≠ p1)))))) wt (.dK (mkD (inK W'))) = H7 at *
  clear hb6 hT6 kT6 hW6
  have hp7 := hb7.1
  have nw1 : wt ≠ lp := by obtain ⟨_, e, _⟩ := hb.2.1; exact (ne_of_none e hwt).symm
  have nw2 : wt ≠ ln := (ne_of_none hb.2.2.1 hwt).symm
  have nw3 : wt ≠ ll := (ne_of_none hb.2.2.2.1 hwt).symm
  have hBn : b2.nn < 5000 := by
    have h1 := hB.z
    have h2 := hB.lc
    unfold Bld.nn at *
    omega
  walk_at "go"
  refine ⟨p, dx, lp, ln, ll, b2, p1, q1, rfl, hb7, hB.ok, hB.lt p1 m1, hB.lt q1 ((m4 q1).mpr (.inr (.inl rfl))), hBn, fun y b3 H8 hR k3 hb8 => ?_⟩
  have hC := hB.take m4 m3 hW'n hR
  have kT8 := kT7.trans (KeepT.keep3 k3)
  have hT8 := tabs_keep hT7 (KeepO.bld hb7 k3)
  have hW8 := k3 _ _ nw1 nw2 nw3 hW7
  have hWl : W'.length ≤ 500 := by omega
  walk_at "go"
  refine br (fun c2 => ?_) (fun c2 => ?_)
  · walk_at "go"
    exact q 0 b3 _ (hC.zero (.inl c2)) kT8 hT8 hb8
  walk_at "go"
  refine br (fun c3 => ?_) (fun c3 => ?_)
  · walk_at "go"
    exact q 0 b3 _ (hC.zero (.inr c3)) kT8 hT8 hb8
  walk_at "go"
  by_cases hm : y ∈ W'
  · refine g_rDPutI_in hW8 hm (by omega) ?_
    have hO := hC.old hm
    exact ⟨W', b3, _, _, _, rfl, by omega, kT8.new hwt, tabs_keep hT8 (KeepO.dict hW8), hb8.dict hW8, upd_same, hO, fun e => by rw [e] at hm; cases hm⟩
  · refine g_rDPutI hW8 hm (by omega) ?_
    have hO := hC.new hm
    exact ⟨W' ++ [y], b3, _, _, _, rfl, by rw [List.length_append]; show _ + 1 < _; omega, kT8.new hwt, tabs_keep hT8 (KeepO.dict hW8), hb8.dict hW8, upd_same, hO, fun e => by simp at e⟩
end
end
section
/-! part SgMa7 -/
set_option maxRecDepth 100000
set_option linter.unusedVariables false
set_option maxHeartbeats 1000000
open PySem
/-! ### inner nodes -/
def cntU : List Nat → Nat → Nat
  | [], _ => 0
  | x :: t, n => isU x n + cntU t n
theorem cntU_app (n : Nat) : ∀ a b : List Nat, cntU (a ++ b) n = cntU a n + cntU b n
  | [], b => (Nat.zero_add _).symm
  | x :: t, b => by
    show isU x n + cntU (t ++ b) n = isU x n + cntU t n + _
    rw [cntU_app n t b]; omega
def flatA : List (Nat × Nat) → List Nat
  | [] => []
  | p :: t => p.1 :: p.2 :: flatA t
theorem flatA_snoc (p : Nat × Nat) : ∀ t : List (Nat × Nat), flatA (t ++ [p]) = flatA t ++ [p.1, p.2]
  | [] => rfl
  | q :: t => by
    show _ :: _ :: flatA (t ++ [p]) = _ :: _ :: (flatA t ++ _)
    rw [flatA_snoc p t]
theorem flatA_uses (n : Nat) : ∀ t : List (Nat × Nat), cntU (flatA t) n = usesL t n
  | [] => rfl
  | p :: t => by
    show isU p.1 n + (isU p.2 n + cntU (flatA t) n) = isU p.1 n + isU p.2 n + usesL t n
    rw [flatA_uses n t]; omega
theorem flatA_mem : ∀ {t : List (Nat × Nat)} {p : Nat × Nat}, p ∈ t → p.1 ∈ flatA t ∧ p.2 ∈ flatA t
  | q :: t, p, h => by
    rcases List.mem_cons.mp h with rfl | h
    · exact ⟨List.mem_cons_self, List.mem_cons_of_mem _ List.mem_cons_self⟩
    · have := flatA_mem h
      exact ⟨List.mem_cons_of_mem _ (List.mem_cons_of_mem _ this.1), List.mem_cons_of_mem _ (List.mem_cons_of_mem _ this.2)⟩
theorem cntU_zero {n : Nat} : ∀ {t : List Nat}, cntU t n = 0 → ∀ x ∈ t, x / 2 ≠ n
  | y :: t, h, x, hx => by
    have h : isU y n + cntU t n = 0 := h
    rcases List.mem_cons.mp hx with rfl | hx
    · intro e
      unfold isU at h
      rw [if_pos e] at h
      omega
    · exact cntU_zero (by omega) x hx
structure InI (fa nn : Nat) (occ us : List Nat) (inn : List Bool) : Prop where
  l1 : us.length = nn
  l2 : inn.length = nn
  u : ∀ n, us.getD n 0 = cntU occ n
  f : ∀ n, inn.getD n false = true → fa ≤ n
  e : ∀ n, inn.getD n false = true → cntU occ n = 1 → ∀ x ∈ occ, x / 2 = n → x % 2 = 0
theorem getD_rep {α : Type} (n k : Nat) (x : α) : (List.replicate n x).getD k x = x := by
  rw [List.getD_eq_getElem?_getD, List.getElem?_replicate]
  split <;> rfl
theorem InI.zero (fa nn : Nat) : InI fa nn [] (List.replicate nn 0) (List.replicate nn false) :=
  ⟨List.length_replicate, List.length_replicate, (fun n => getD_rep _ _ _), (fun n h => by rw [getD_rep] at h; cases h), (fun n h => by rw [getD_rep] at h; cases h)⟩
theorem getD_setN {ne : List Nat} {i j v : Nat} (h : i < ne.length) : (ne.set i v).getD j 0 = if j = i then v else ne.getD j 0 := by
  rw [List.getD_eq_getElem?_getD, List.getElem?_set, List.getD_eq_getElem?_getD]
  by_cases e : i = j
  · rw [if_pos e, if_pos (e ▸ h), if_pos e.symm]; rfl
  · rw [if_neg e, if_neg (fun z => e z.symm)]
theorem getD_setB {ne : List Bool} {i j : Nat} {v : Bool} (h : i < ne.length) : (ne.set i v).getD j false = if j = i then v else ne.getD j false := by
  rw [List.getD_eq_getElem?_getD, List.getElem?_set, List.getD_eq_getElem?_getD]
  by_cases e : i = j
  · rw [if_pos e, if_pos (e ▸ h), if_pos e.symm]; rfl
  · rw [if_neg e, if_neg (fun z => e z.symm)]
theorem InI.step {fa nn x : Nat} {occ us : List Nat} {inn : List Bool} (h : InI fa nn occ us inn) (hx : x / 2 < nn) : InI fa nn (occ ++ [x]) (us.set (x / 2) (us.getD (x / 2) 0 + 1)) (inn.set (x / 2) (decide (x % 2 = 0) && decide (fa ≤ x / 2))) := by
  have c1 : ∀ n, cntU (occ ++ [x]) n = cntU occ n + isU x n := fun n => by rw [cntU_app]; rfl
  refine ⟨by rw [List.length_set]; exact h.l1, by rw [List.length_set]; exact h.l2, fun n => ?_, fun n hn => ?_, fun n hn hc y hy ey => ?_⟩
  · rw [getD_setN (by rw [h.l1]; exact hx), c1]
    unfold isU
    by_cases q : n = x / 2
    · subst q
      rw [if_pos rfl, if_pos rfl, h.u]
    · rw [if_neg q, if_neg (fun z => q z.symm), h.u]; rfl
  · rw [getD_setB (by rw [h.l2]; exact hx)] at hn
    split at hn
    · rename_i q
      rw [Bool.and_eq_true, decide_eq_true_eq, decide_eq_true_eq] at hn
      omega
    · exact h.f n hn
  · rw [getD_setB (by rw [h.l2]; exact hx)] at hn
    rw [c1] at hc
    unfold isU at hc
    split at hn
    · rename_i q
      subst q
      rw [if_pos rfl] at hc
      rw [Bool.and_eq_true, decide_eq_true_eq, decide_eq_true_eq] at hn
      rcases List.mem_append.mp hy with hy | hy
      · exact absurd ey (cntU_zero (by omega) y hy)
      · rw [List.mem_singleton.mp hy]; exact hn.1
    · rename_i q
      rw [if_neg (fun z => q z.symm)] at hc
      rcases List.mem_append.mp hy with hy | hy
      · exact h.e n hn hc y hy ey
      · rw [List.mem_singleton.mp hy] at ey
        exact absurd ey.symm q
/-- behind the second walk -/
structure InJ (inn : List Bool) (xs : List Nat) (inn' : List Bool) : Prop where
  l : inn'.length = inn.length
  s : ∀ n, inn'.getD n false = true → inn.getD n false = true
  c : ∀ x ∈ xs, inn'.getD (x / 2) false = false
theorem InJ.zero (inn : List Bool) : InJ inn [] inn := ⟨rfl, fun _ h => h, fun x h => (nomatch h)⟩
theorem InJ.step {inn inn' : List Bool} {xs : List Nat} {x : Nat} (h : InJ inn xs inn') (hx : x / 2 < inn.length) : InJ inn (xs ++ [x]) (inn'.set (x / 2) false) := by
  refine ⟨by rw [List.length_set]; exact h.l, fun n hn => ?_, fun y hy => ?_⟩
  · rw [getD_setB (by rw [h.l]; exact hx)] at hn
    split at hn
    · cases hn
    · exact h.s n hn
  · rw [getD_setB (by rw [h.l]; exact hx)]
    split
    · rfl
    · rename_i q
      rcases List.mem_append.mp hy with hy | hy
      · exact h.c y hy
      · rw [List.mem_singleton.mp hy] at q; exact absurd rfl q
def innF (inn : List Bool) (us : List Nat) (n : Nat) : List Bool := (List.range n).map fun k => inn.getD k false && decide (us.getD k 0 = 1)
theorem innF_get {inn : List Bool} {us : List Nat} {n k : Nat} : (innF inn us n).getD k false = true → k < n ∧ inn.getD k false = true ∧ us.getD k 0 = 1 := by
  unfold innF
  rw [List.getD_eq_getElem?_getD, List.getElem?_map]
  intro h
  by_cases q : k < n
  · rw [List.getElem?_range q] at h
    have h : (inn.getD k false && decide (us.getD k 0 = 1)) = true := h
    rw [Bool.and_eq_true, decide_eq_true_eq] at h
    exact ⟨q, h⟩
  · rw [List.getElem?_eq_none (by rw [List.length_range]; omega)] at h
    cases h
theorem inner_ok {c : Cir Str} {us xs : List Nat} {inn inn' : List Bool} (h : InI c.fa c.nn (flatA c.ands) us inn) (j : InJ inn xs inn') (h1 : ∀ l ∈ c.lat, l.2.2 ∈ xs) (h2 : ∀ o ∈ c.outs, o.2 ∈ xs) : InnerOk c (innF inn' us c.nn) := by
  have key : ∀ x ∈ xs, innB (innF inn' us c.nn) x = false := fun x hx => by
    unfold innB
    cases e : (innF inn' us c.nn).getD (x / 2) false with
    | false => rfl
    | true =>
      have := (innF_get e).2.1
      rw [j.c x hx] at this
      cases this
  refine ⟨by unfold innF; rw [List.length_map, List.length_range], fun n hn => h.f n (j.s n (innF_get hn).2.1), fun n hn => ?_, fun i l r e => ?_, fun l hl => key _ (h1 l hl), fun o ho => key _ (h2 o ho)⟩
  · obtain ⟨_, _, e⟩ := innF_get hn
    rw [h.u, flatA_uses] at e
    exact e
  · have m := flatA_mem (List.mem_of_getElem? e)
    refine ⟨fun hb => ?_, fun hb => ?_⟩
    · obtain ⟨_, e1, e2⟩ := innF_get hb
      exact h.e _ (j.s _ e1) (by rw [← h.u]; exact e2) l m.1 rfl
    · obtain ⟨_, e1, e2⟩ := innF_get hb
      exact h.e _ (j.s _ e1) (by rw [← h.u]; exact e2) r m.2 rfl
end
section
/-! part SgNe -/
set_option Elab.async false
set_option maxRecDepth 100000
set_option linter.unusedVariables false
set_option maxHeartbeats 1000000
open PySem PySem.Spec PyProof.Rows L2


local macro_rules | `(tactic| walk_at "na") => `(tactic| first | assumption | (refine NetAt.mono (H := ?na_H) ?na_s ?na_e; (case na_e => assumption); (case na_s => walk_at "ex")))
local macro_rules | `(tactic| walk_at "gs") => `(tactic| (with_reducible refine g_netnat (n := ?go_n) ?go_h ?_; (case go_h => walk_at "na")))
section
variable {P : Program} {w : World} {K : PySem.W.Frag} {mg : Str → Option Value} {base : Heap} {f pr : Addr} {fd : FuncData}
theorem CirOk.nn_le' {c : Cir Str} (h : CirOk c) : c.nn ≤ 3000 := by
  have h1 := h.leaf.1
  have h2 := h.leaf.2.1
  have h3 := h.ands.1
  unfold Cir.nn
  omega
theorem net_nn (c : Cir Str) : c.net.nn = c.nn := by
  unfold NetD.nn Cir.nn
  show 1 + c.ins.length + (c.lat.map _).length + _ = _
  rw [List.length_map]
  rfl
theorem net_fa (c : Cir Str) : c.net.fa = c.fa := by
  unfold NetD.fa Cir.fa
  show 1 + c.ins.length + (c.lat.map _).length = _
  rw [List.length_map]
/-- what is needed: closed under the operands, the latches' next literals -/
structure NeedOk (c : Cir Str) (ne : List Bool) : Prop where
  len : ne.length = c.nn
  outs : ∀ o ∈ c.outs, ne.getD (o.2 / 2) false = true
  ands : ∀ (i l r : Nat), c.ands[i]? = some (l, r) → ne.getD (c.fa + i) false = true → ne.getD (l / 2) false = true ∧ ne.getD (r / 2) false = true
  lats : ∀ (i : Nat) (l : Str × Nat × Nat), c.lat[i]? = some l → ne.getD (c.fl + i) false = true → ne.getD (l.2.2 / 2) false = true
structure NeedI (c : Cir Str) (ne : List Bool) (ws : List Nat) : Prop where
  len : ne.length = c.nn
  wlt : ∀ x ∈ ws, x < c.nn
  outs : ∀ o ∈ c.outs, ne.getD (o.2 / 2) false = true ∨ o.2 / 2 ∈ ws
  ands : ∀ (i l r : Nat), c.ands[i]? = some (l, r) → ne.getD (c.fa + i) false = true → (ne.getD (l / 2) false = true ∨ l / 2 ∈ ws) ∧ (ne.getD (r / 2) false = true ∨ r / 2 ∈ ws)
  lats : ∀ (i : Nat) (l : Str × Nat × Nat), c.lat[i]? = some l → ne.getD (c.fl + i) false = true → ne.getD (l.2.2 / 2) false = true ∨ l.2.2 / 2 ∈ ws
theorem NeedI.done {c : Cir Str} {ne : List Bool} (h : NeedI c ne []) : NeedOk c ne :=
  ⟨h.len, fun o ho => (h.outs o ho).elim id (fun m => nomatch m), fun i l r e n => ⟨(h.ands i l r e n).1.elim id (fun m => nomatch m), (h.ands i l r e n).2.elim id (fun m => nomatch m)⟩, fun i l e n => (h.lats i l e n).elim id (fun m => nomatch m)⟩
theorem NeedI.skip {c : Cir Str} {ne : List Bool} {ws : List Nat} {x : Nat} (h : NeedI c ne (ws ++ [x])) (hx : ne.getD x false = true) : NeedI c ne ws := by
  have k : ∀ y, (ne.getD y false = true ∨ y ∈ ws ++ [x]) → (ne.getD y false = true ∨ y ∈ ws) := fun y hy => by
    rcases hy with hy | hy
    · exact .inl hy
    · rcases List.mem_append.mp hy with hy | hy
      · exact .inr hy
      · rw [List.mem_singleton.mp hy]; exact .inl hx
  exact ⟨h.len, fun y hy => h.wlt y (List.mem_append_left _ hy), fun o ho => k _ (h.outs o ho), fun i l r e n => ⟨k _ (h.ands i l r e n).1, k _ (h.ands i l r e n).2⟩, fun i l e n => k _ (h.lats i l e n)⟩
theorem NeedI.step {c : Cir Str} {ne : List Bool} {ws : List Nat} {x : Nat} (h : NeedI c ne (ws ++ [x])) (ss : List Nat) (hss : ∀ y ∈ ss, y < c.nn)
    (ha : ∀ (i l r : Nat), c.ands[i]? = some (l, r) → c.fa + i = x → l / 2 ∈ ss ∧ r / 2 ∈ ss) (hl : ∀ (i : Nat) (l : Str × Nat × Nat), c.lat[i]? = some l → c.fl + i = x → l.2.2 / 2 ∈ ss) : NeedI c (ne.set x true) (ws ++ ss) := by
  have hx : x < ne.length := by rw [h.len]; exact h.wlt x (List.mem_append_right _ (List.mem_singleton_self x))
  have k : ∀ y, (ne.getD y false = true ∨ y ∈ ws ++ [x]) → ((ne.set x true).getD y false = true ∨ y ∈ ws ++ ss) := fun y hy => by
    rw [getD_set hx]
    by_cases e : y = x
    · rw [if_pos e]; exact .inl rfl
    · rw [if_neg e]
      rcases hy with hy | hy
      · exact .inl hy
      · rcases List.mem_append.mp hy with hy | hy
        · exact .inr (List.mem_append_left _ hy)
        · exact absurd (List.mem_singleton.mp hy) e
  refine ⟨by rw [List.length_set]; exact h.len, fun y hy => ?_, fun o ho => k _ (h.outs o ho), fun i l r e n => ?_, fun i l e n => ?_⟩
  · rcases List.mem_append.mp hy with hy | hy
    · exact h.wlt y (List.mem_append_left _ hy)
    · exact hss y hy
  · rw [getD_set hx] at n
    by_cases q : c.fa + i = x
    · obtain ⟨h1, h2⟩ := ha i l r e q
      exact ⟨.inr (List.mem_append_right _ h1), .inr (List.mem_append_right _ h2)⟩
    · rw [if_neg q] at n
      exact ⟨k _ (h.ands i l r e n).1, k _ (h.ands i l r e n).2⟩
  · rw [getD_set hx] at n
    by_cases q : c.fl + i = x
    · exact .inr (List.mem_append_right _ (hl i l e q))
    · rw [if_neg q] at n
      exact k _ (h.lats i l e n)
def spNeeded (K : PySem.W.Frag) : Sp := fun vs H Q _ => ∃ (a : Addr) (c : Cir Str), vs = [.ref a] ∧ CirAt K H a c ∧ CirOk c ∧ ∀ H' q ne, Same H H' → H q = none → NeedOk c ne → LstAt H' q IsBl ne → Q (.ref q) H'
theorem ok_needed_nodes (F : FunD K "needed_nodes" "needed_nodes" (defArgs s_needed_nodes) (defBody s_needed_nodes) (defScope s_needed_nodes) [] [] f fd) (hm : mg "needed_nodes" = some (.ref f)) (T : Txt K mg) (M_Circuit_as_net : MethOk P w K mg base 3 (He.ga K "Circuit") "as_net" ["self"] (spAsNet K)) (P_Net_node_count : PropOk P w K mg base 1 (He.ga K "Net") "node_count" (spNetNat K NetD.nn)) (P_Net_first_and : PropOk P w K mg base 1 (He.ga K "Net") "first_and" (spNetNat K NetD.fa)) (P_Net_first_latch : PropOk P w K mg base 1 (He.ga K "Net") "first_latch" (spNetNat K NetD.fl)) : DefOk P w K mg base 4 "needed_nodes" ["circuit"] (spNeeded K) := by
  refine ⟨f, fd, hm, F.kp, (FunD.bindsN (ps := ["circuit"]) F fun _ _ _ _ _ _ us hl => match us, hl with | [_], _ => rfl), fn_ok F sc_needed_nodes ?len (fun cdv A outer s H vs Q E hr h => ⟨_, (pss_cons (ps_set (i := 1) sc_needed_nodes.nd rfl (Or.inl rfl) (pe_meth0D M_Circuit_as_net T.c_Circuit (hr.mono (by decide)) (pv 0)))
  (pss_cons (ps_set (i := 2) sc_needed_nodes.nd rfl (Or.inl rfl) (pe_op op_rep (pe_lst (pa_cons pe_bl pa_nil)) (pe_propD P_Net_node_count T.c_Net (hr.mono (by decide)) (pv 1))))
  (pss_cons (ps_setLc (i := 3) (own := [("_", 7), ("literal", 8)]) (by rfl) sc_needed_nodes.nd rfl rfl (sw_true rfl rfl rfl (by decide +kernel)) (pi_list (pe_f T.c_Circuit T.n_Circuit_outputs (pv 0))) (blkOk_by (own := [("_", 7), ("literal", 8)]) (N := ["circuit", "net", "needed", "waiting", "node", "left", "right", "_", "literal"]) (sc := defScope s_needed_nodes) (by decide +kernel)) (fun _ _ _ _ _ => by exact (pg_tupK (K := K) (n := 2) (by rfl) (by rfl) (pgs_cons (pg_name (i := 7) sc_needed_nodes.nd rfl (Or.inl rfl)) (pgs_cons (pg_name (i := 8) sc_needed_nodes.nd rfl (Or.inl rfl)) pgs_nil)))) (fun _ _ _ _ _ => by exact pts_nil) (fun _ _ _ _ _ => by exact (pe_op op_shr (pv 8) (pe_int (i := ((1 : Nat) : Int))))))
  (pss_cons (ps_while PassesOwn.never (pt_cmpR op_gt (pe_callB (call_lenK (K := K) (by rfl)) (by rfl) T.m_len (by decide +kernel) (pa_cons (pv 3) pa_nil)) (pe_int (i := ((0 : Nat) : Int))) (nomark _)) (pss_cons (ps_set (i := 4) sc_needed_nodes.nd rfl (Or.inl rfl) (pe_bm0 PySem.F.plainAttrs_list PySem.F.slot_list_pop PySem.F.type_list_pop mt_pop (pv 3)))
  (pss_one (ps_if (pt_not (pt_val (pe_ix (ix_listK (K := K) (by rfl)) (pv 2) (pv 4) (fun _ _ => rfl)))) (pss_cons (ps_asg pe_bl (pg_sub (pv 2) (pv 4) set_list))
  (pss_one (ps_if (pt_cmpR op_ge (pv 4) (pe_propD P_Net_first_and T.c_Net (hr.mono (by decide)) (pv 1)) (nomark _)) (pss_cons (ps_asg (pe_ix (ix_listK (K := K) (by rfl)) (pe_f T.c_Net T.n_Net_ands (pv 1)) (pe_op op_sub (pv 4) (pe_propD P_Net_first_and T.c_Net (hr.mono (by decide)) (pv 1))) (fun _ _ => rfl)) (pg_tupK (K := K) (n := 2) (by rfl) (by rfl) (pgs_cons (pg_name (i := 5) sc_needed_nodes.nd rfl (Or.inl rfl)) (pgs_cons (pg_name (i := 6) sc_needed_nodes.nd rfl (Or.inl rfl)) pgs_nil))))
  (pss_one (ps_expr (pe_bm PySem.F.plainAttrs_list PySem.F.slot_list_extend PySem.F.type_list_extend mt_extend (pv 3) (pa_cons (pe_lst (pa_cons (pe_op op_shr (pv 5) (pe_int (i := ((1 : Nat) : Int)))) (pa_cons (pe_op op_shr (pv 6) (pe_int (i := ((1 : Nat) : Int)))) pa_nil))) pa_nil))))) (pss_one (ps_if (pt_cmpR op_ge (pv 4) (pe_propD P_Net_first_latch T.c_Net (hr.mono (by decide)) (pv 1)) (nomark _)) (pss_one (ps_expr (pe_bm PySem.F.plainAttrs_list PySem.F.slot_list_append PySem.F.type_list_append mt_append (pv 3) (pa_cons (pe_op op_shr (pe_ix (ix_tupK (K := K) (by rfl)) (pe_ix (ix_listK (K := K) (by rfl)) (pe_f T.c_Net T.n_Net_latches (pv 1)) (pe_op op_sub (pv 4) (pe_propD P_Net_first_latch T.c_Net (hr.mono (by decide)) (pv 1))) (fun _ _ => rfl)) (pe_int (i := ((1 : Nat) : Int))) (fun _ _ => rfl)) (pe_int (i := ((1 : Nat) : Int)))) pa_nil)))) pss_nil))))) pss_nil))))
  (pss_one (ps_ret (pv 2))))))), ?_⟩)⟩
  case len => walk_at "ln"
  
  obtain ⟨a, c, rfl, hc, hk, q⟩ := h
  walk_at "st"
  walk_at "go"
  obtain ⟨cx, li, ll, la, lo, h1, ⟨vi, h2, r2⟩, ⟨vl, h3, r3⟩, ⟨va, h4, r4⟩, ⟨vo, h5, r5⟩⟩ := id hc
  have hnn := hk.nn_le'
  walk_at "go"
  refine ⟨a, c, rfl, hc, hk.leaf.2.1, fun H1 nt hS1 hnt hN => ?_⟩
  obtain ⟨nx, nl1, nl2, n1, ⟨wl, n2, rl⟩, ⟨wa, n3, ra⟩⟩ := id hN
  walk_at "go"
  rename_i l1 hl1
  rw [net_nn]
  refine g_rep1 upd_same (by omega) (fun nd hnd => ?_)
  have s2 : Same H1 (upd (upd H1 l1 (.lst [.bl false])) nd (.lst (List.replicate c.nn (V.bl false)))) := L2.Same.trans (Same.new hl1) (Same.new hnd)
  have e2 : (upd (upd H1 l1 (.lst [.bl false])) nd (.lst (List.replicate c.nn (V.bl false)))) nd = some (.lst ((List.replicate c.nn false).map V.bl)) := by rw [List.map_replicate]; exact upd_same
  have hnd1 : H1 nd = none := Same.free (Same.new hl1) hnd
  generalize upd (upd H1 l1 (.lst [.bl false])) nd (.lst (List.replicate c.nn (V.bl false))) = H2 at *
  clear hl1 hnd
  have s02 := L2.Same.trans hS1 s2
  walk_at "go"
  refine g_rLcLT (xs := vo) (rep := IsI) (bs := c.outs.map fun o => o.2 / 2) (s02 _ _ h5) (by rw [r5.1]; have := hk.outs.1; omega) (by rw [r5.1]; exact List.length_map ..) mono_I stab_I (fun D i x y H3 hD hx hb hS3 Qy hQ => ?_) (fun wt H3 hwt hS3 hL3 => ?_)
  · obtain ⟨⟨s, l⟩, hs, t, rfl, ht⟩ := r5.2 i x hx
    rw [map_get hs] at hb
    cases hb
    have ht' := hS3 _ _ (s02 _ _ ht)
    walk_at "go"
    exact hQ _ _ (L2.Same.refl _) rfl
  have hW := LstAt.nums.mp hL3
  have hN3 := hS3 _ _ e2
  have s13 := L2.Same.trans s2 hS3
  have hwt1 : H1 wt = none := Same.free s2 hwt
  have nwn : wt ≠ nd := (ne_of_none e2 hwt).symm
  walk_at "go"
  have h0 : NeedI c (List.replicate c.nn false) (c.outs.map fun o => o.2 / 2) := by
    refine ⟨List.length_replicate, fun x hx => ?_, fun o ho => .inr (List.mem_map.mpr ⟨o, ho, rfl⟩), fun i l r e n => ?_, fun i l e n => ?_⟩
    · obtain ⟨o, ho, rfl⟩ := List.mem_map.mp hx
      have := hk.outs.2.2.2 o ho
      omega
    · rw [List.getD_eq_getElem?_getD, List.getElem?_replicate] at n
      split at n <;> simp at n
    · rw [List.getD_eq_getElem?_getD, List.getElem?_replicate] at n
      split at n <;> simp at n
  have hm0 : ∀ ne : List Bool, falses ne ≤ ne.length := fun ne => List.length_filter_le _ _
  have hz0 : 3 * falses (List.replicate c.nn false) + (c.outs.map fun o => o.2 / 2).length ≤ 10000 := by
    have := hm0 (List.replicate c.nn false)
    rw [List.length_replicate] at this
    rw [List.length_map]
    have := hk.outs.1
    omega
  refine ⟨fun m σ H' => ∃ ne ws o4 o5 o6 o7 o8, σ = [some (.ref a), some (.ref nt), some (.ref nd), some (.ref wt), o4, o5, o6, o7, o8] ∧ m = 3 * falses ne + ws.length ∧ m ≤ 10000 ∧ Same H1 H' ∧ H' nd = some (.lst (ne.map V.bl)) ∧ H' wt = some (.lst (nums ws)) ∧ NeedI c ne ws,
    ⟨_, _, _, _, _, _, _, _, rfl, rfl, hz0, s13, hN3, hW, h0⟩, ?_⟩
  rintro m σ H4 ⟨ne, ws, _, _, _, _, _, rfl, rfl, hmz, hS4, k1, k2, kI⟩
  walk_at "go"
  rw [nums_len]
  refine br (fun hlt => ?_) (fun hge => ?_)
  rotate_left 1
  · have e : ws = [] := List.length_eq_zero_iff.mp (by omega)
    subst e
    walk_at "go"
    exact q H4 nd ne (L2.Same.trans hS1 hS4) (Same.free hS1 hnd1) kI.done ⟨_, k1, by rw [List.length_map], fun i v hv => by
      rw [List.getElem?_map] at hv
      obtain ⟨b, hb, e⟩ := Option.map_eq_some_iff.mp hv
      exact ⟨b, hb, e.symm⟩⟩
  obtain ⟨ws', x, rfl⟩ : ∃ ws' x, ws = ws' ++ [x] := ⟨ws.dropLast, ws.getLast (by intro e; rw [e] at hlt; exact absurd hlt (Nat.lt_irrefl _)), (List.dropLast_concat_getLast _).symm⟩
  rw [List.length_append] at hmz
  have hxn := kI.wlt x (List.mem_append_right _ (List.mem_singleton_self x))
  refine ⟨fun σ' H' => ∃ ne2 ws2 o4 o5 o6 o7 o8, σ' = [some (.ref a), some (.ref nt), some (.ref nd), some (.ref wt), o4, o5, o6, o7, o8] ∧ 3 * falses ne2 + ws2.length < 3 * falses ne + (ws' ++ [x]).length ∧ Same H1 H' ∧ H' nd = some (.lst (ne2.map V.bl)) ∧ H' wt = some (.lst (nums ws2)) ∧ NeedI c ne2 ws2, ?_, ?_⟩
  · rintro σ' H' ⟨ne2, ws2, _, _, _, _, _, rfl, g1, g2, g3, g4, g5⟩
    exact ⟨_, g1, ne2, ws2, _, _, _, _, _, rfl, rfl, by rw [List.length_append] at g1; omega, g2, g3, g4, g5⟩
  walk_at "go"
  refine g_bm0 ?_
  walk_at "go"
  refine g_popN k2 ?_
  have k1' : (upd H4 wt (.lst (nums ws'))) nd = some (.lst (ne.map V.bl)) := lk_ne nwn.symm k1
  have k2' : (upd H4 wt (.lst (nums ws'))) wt = some (.lst (nums ws')) := upd_same
  have hS5 : Same H1 (upd H4 wt (.lst (nums ws'))) := Same.mut hS4 hwt1
  generalize upd H4 wt (.lst (nums ws')) = H5 at *
  obtain ⟨b, hb⟩ : ∃ b, ne[x]? = some b := ⟨_, List.getElem?_eq_getElem (by rw [kI.len]; exact hxn)⟩
  have hbg : ne.getD x false = b := by rw [List.getD_eq_getElem?_getD, hb]; rfl
  walk_at "go"
  refine g_ixL k1' (map_get hb) ?_
  cases b with
  | true =>
    walk_at "go"
    refine ⟨ne, ws', _, _, _, _, _, rfl, by rw [List.length_append]; show _ < _ + (_ + 1); omega, hS5, k1', k2', kI.skip hbg⟩
  | false =>
    walk_at "go"
    refine g_gsub ?_
    walk_at "go"
    refine g_setL k1' (by rw [List.length_map, kI.len]; exact hxn) ?_
    have k1s : (upd H5 nd (.lst ((ne.map V.bl).set x (.bl true)))) nd = some (.lst ((ne.set x true).map V.bl)) := by rw [List.map_set]; exact upd_same
    have k2s : (upd H5 nd (.lst ((ne.map V.bl).set x (.bl true)))) wt = some (.lst (nums ws')) := lk_ne nwn k2'
    have hS6 : Same H1 (upd H5 nd (.lst ((ne.map V.bl).set x (.bl true)))) := Same.mut hS5 hnd1
    generalize upd H5 nd (.lst ((ne.map V.bl).set x (.bl true))) = H6 at *
    have hf := falses_set ne x hb
    have f1 := hS6 _ _ n1
    have f2 := hS6 _ _ n2
    have f3 := hS6 _ _ n3
    have hN6 := hN.mono hS6
    walk_at "go"
    rw [net_fa]
    refine br (fun hge => ?_) (fun hlt2 => ?_)
    · have hai : x - c.fa < c.ands.length := by unfold Cir.nn at hxn; unfold Cir.fa at hge ⊢; omega
      obtain ⟨⟨l, r⟩, hlr⟩ : ∃ p, c.ands[x - c.fa]? = some p := ⟨_, List.getElem?_eq_getElem hai⟩
      obtain ⟨v, hv, t, rfl, ht⟩ := ra.get hlr
      have ht' := hS6 _ _ ht
      have hal := hk.ands.2 _ _ _ hlr
      walk_at "go"
      rw [net_fa]
      refine g_sub hge ?_
      refine g_ixL f3 hv ?_
      walk_at "go"
      rename_i l9 hl9
      refine g_extN (ys := [l / 2, r / 2]) (lk_new hl9 k2s) upd_same (by show _ + 2 ≤ _; omega) ?_
      have e9 : falses (ne.set x true) + 1 = falses ne := hf
      refine ⟨ne.set x true, ws' ++ [l / 2, r / 2], _, _, _, _, _, rfl, ?_, Same.mut (L2.Same.trans hS6 (Same.new hl9)) hwt1, lk_ne nwn.symm (lk_new hl9 k1s), upd_same, kI.step [l / 2, r / 2] (fun y hy => ?_) (fun i l' r' e ei => ?_) (fun i l' e ei => ?_)⟩
      · rw [List.length_append, List.length_append]
        show _ + (_ + 2) < _ + (_ + 1)
        omega
      · simp only [List.mem_cons, List.not_mem_nil, or_false] at hy
        unfold Cir.nn at hxn ⊢
        unfold Cir.fa at hal hge
        rcases hy with rfl | rfl <;> omega
      · have : i = x - c.fa := by omega
        subst this
        rw [hlr] at e
        cases e
        exact ⟨List.mem_cons_self, List.mem_cons_of_mem _ List.mem_cons_self⟩
      · have := lt_of_get e
        unfold Cir.fa at hge
        unfold Cir.fl at ei
        omega
    · walk_at "go"
      rw [show c.net.fl = c.fl from rfl]
      refine br (fun hge2 => ?_) (fun hlt3 => ?_)
      · have hai : x - c.fl < c.lat.length := by unfold Cir.fa at hlt2; unfold Cir.fl at hge2 ⊢; omega
        obtain ⟨⟨s, st, l⟩, hlr⟩ : ∃ p, c.lat[x - c.fl]? = some p := ⟨_, List.getElem?_eq_getElem hai⟩
        have hlr' : c.net.lat[x - c.fl]? = some (st, l) := by
          show (c.lat.map _)[x - c.fl]? = _
          rw [map_get hlr]
        obtain ⟨v, hv, t, rfl, ht⟩ := rl.get hlr'
        have ht' := hS6 _ _ ht
        have hal := (hk.leaf.2.2.2.2 _ (List.mem_of_getElem? hlr)).2
        dsimp only at hal
        walk_at "go"
        rw [show c.net.fl = c.fl from rfl]
        refine g_sub hge2 ?_
        refine g_ixL f2 hv ?_
        walk_at "go"
        case z => omega
        refine ⟨ne.set x true, ws' ++ [l / 2], _, _, _, _, _, rfl, ?_, Same.mut hS6 hwt1, lk_ne nwn.symm k1s, upd_same, kI.step [l / 2] (fun y hy => ?_) (fun i l' r' e ei => ?_) (fun i l' e ei => ?_)⟩
        · rw [List.length_append, List.length_append]
          show _ + (_ + 1) < _ + (_ + 1)
          omega
        · rw [List.mem_singleton] at hy
          subst hy
          omega
        · omega
        · have : i = x - c.fl := by omega
          subst this
          rw [hlr] at e
          cases e
          exact List.mem_cons_self
      · walk_at "go"
        refine ⟨ne.set x true, ws', _, _, _, _, _, rfl, ?_, hS6, k1s, k2s, ?_⟩
        · rw [List.length_append]
          show _ < _ + (_ + 1)
          omega
        · have := kI.step [] (fun y hy => nomatch hy) (fun i l' r' e ei => absurd ei (by omega)) (fun i l' e ei => absurd ei (by omega))
          rwa [List.append_nil] at this
end
end
section
/-! part SgIn -/
set_option Elab.async false
set_option maxRecDepth 100000
set_option linter.unusedVariables false
set_option maxHeartbeats 1000000
open PySem PySem.Spec PyProof.Rows L2


local macro_rules | `(tactic| walk_at "na") => `(tactic| first | assumption | (refine NetAt.mono (H := ?na_H) ?na_s ?na_e; (case na_e => assumption); (case na_s => walk_at "ex")))
local macro_rules | `(tactic| walk_at "gs") => `(tactic| (with_reducible refine g_netnat (n := ?go_n) ?go_h ?_; (case go_h => walk_at "na")))
def rLAug (tv : TE) (rd : V → V → Hp → VK → Prop) (D : Ends) (σ : L2.St) : V → V → Hp → Prop := fun x y H2 => ∃ (a : Addr) (xs : List V) (i : Nat) (v : V), x = .ref a ∧ y = .int (i : Int) ∧ i < 100000 ∧ H2 a = some (.lst xs) ∧ xs[i]? = some v ∧
  tv σ H2 fun y2 H3 => rd v y2 H3 fun z H4 => rSetL x y z H4 fun H5 => D.nx σ H5
theorem g_laug {K : PySem.W.Frag} {td ty tv : TE} {rd : V → V → Hp → VK → Prop} {D : Ends} {σ : L2.St} {H : Hp} (q : td σ H fun x H1 => ty σ H1 fun y H2 => rLAug tv rd D σ x y H2) : sLAug K td ty tv rd D σ H := q
theorem g_cat {H : Hp} {Q : VK} {l b : Addr} {xs ys : List V} (h : H l = some (.lst xs)) (h2 : H b = some (.lst ys)) (z : xs.length + ys.length ≤ 100000) (q : ∀ p, H p = none → Q (.ref p) (upd H p (.lst (xs ++ ys)))) : rCat (.ref l) (.ref b) H Q :=
  ⟨l, b, _, _, rfl, rfl, h, h2, Nat.le_trans z (by decide), q⟩
section
variable {P : Program} {w : World} {K : PySem.W.Frag} {mg : Str → Option Value} {base : Heap} {f pr : Addr} {fd : FuncData}
def spInner (K : PySem.W.Frag) : Sp := fun vs H Q _ => ∃ (a : Addr) (c : Cir Str), vs = [.ref a] ∧ CirAt K H a c ∧ CirOk c ∧ ∀ H' q inn, Same H H' → H q = none → InnerOk c inn → LstAt H' q IsBl inn → Q (.ref q) H'
theorem ok_inner_nodes (F : FunD K "inner_nodes" "inner_nodes" (defArgs s_inner_nodes) (defBody s_inner_nodes) (defScope s_inner_nodes) [] [] f fd) (hm : mg "inner_nodes" = some (.ref f)) (T : Txt K mg) (M_Circuit_as_net : MethOk P w K mg base 3 (He.ga K "Circuit") "as_net" ["self"] (spAsNet K)) (P_Net_node_count : PropOk P w K mg base 1 (He.ga K "Net") "node_count" (spNetNat K NetD.nn)) (P_Net_first_and : PropOk P w K mg base 1 (He.ga K "Net") "first_and" (spNetNat K NetD.fa)) : DefOk P w K mg base 4 "inner_nodes" ["circuit"] (spInner K) := by
  refine ⟨f, fd, hm, F.kp, (FunD.bindsN (ps := ["circuit"]) F fun _ _ _ _ _ _ us hl => match us, hl with | [_], _ => rfl), fn_ok F sc_inner_nodes ?len (fun cdv A outer s H vs Q E hr h => ⟨_, (pss_cons (ps_set (i := 1) sc_inner_nodes.nd rfl (Or.inl rfl) (pe_meth0D M_Circuit_as_net T.c_Circuit (hr.mono (by decide)) (pv 0)))
  (pss_cons (ps_set (i := 2) sc_inner_nodes.nd rfl (Or.inr rfl) (pe_op op_rep (pe_lst (pa_cons (pe_int (i := ((0 : Nat) : Int))) pa_nil)) (pe_propD P_Net_node_count T.c_Net (hr.mono (by decide)) (pv 1))))
  (pss_cons (ps_set (i := 3) sc_inner_nodes.nd rfl (Or.inr rfl) (pe_op op_rep (pe_lst (pa_cons pe_bl pa_nil)) (pe_propD P_Net_node_count T.c_Net (hr.mono (by decide)) (pv 1))))
  (pss_cons (ps_for PassesOwn.never rfl (pi_list (pe_f T.c_Net T.n_Net_ands (pv 1))) (pg_tupK (K := K) (n := 2) (by rfl) (by rfl) (pgs_cons (pg_name (i := 4) sc_inner_nodes.nd rfl (Or.inl rfl)) (pgs_cons (pg_name (i := 5) sc_inner_nodes.nd rfl (Or.inl rfl)) pgs_nil)))
  (pss_one (ps_for PassesOwn.never rfl (pi_tup (pe_tup (pa_cons (pv 4) (pa_cons (pv 5) pa_nil)))) (pg_name (i := 6) sc_inner_nodes.nd rfl (Or.inl rfl))
  (pss_cons (ps_augL (pv 2) (pe_op op_shr (pv 6) (pe_int (i := ((1 : Nat) : Int)))) (pe_int (i := ((1 : Nat) : Int))) ip_add)
  (pss_one (ps_asg (pe_and (pe_cmpR op_eq (pe_op op_and (pv 6) (pe_int (i := ((1 : Nat) : Int)))) (pe_int (i := ((0 : Nat) : Int))) (nomark _)) (pe_one (pe_cmpR op_ge (pe_op op_shr (pv 6) (pe_int (i := ((1 : Nat) : Int)))) (pe_propD P_Net_first_and T.c_Net (hr.mono (by decide)) (pv 1)) (nomark _)))) (pg_sub (pv 3) (pe_op op_shr (pv 6) (pe_int (i := ((1 : Nat) : Int)))) set_list)))))))
  (pss_cons (ps_for PassesOwn.never rfl (pi_list (pe_op op_cat (pe_f T.c_Net T.n_Net_latches (pv 1)) (pe_f T.c_Circuit T.n_Circuit_outputs (pv 0)))) (pg_tupK (K := K) (n := 2) (by rfl) (by rfl) (pgs_cons (pg_name (i := 7) sc_inner_nodes.nd rfl (Or.inl rfl)) (pgs_cons (pg_name (i := 6) sc_inner_nodes.nd rfl (Or.inl rfl)) pgs_nil)))
  (pss_one (ps_asg pe_bl (pg_sub (pv 3) (pe_op op_shr (pv 6) (pe_int (i := ((1 : Nat) : Int)))) set_list))))
  (pss_one (ps_ret (by exact (pe_lc (own := [("node", 8)]) (by rfl) sc_inner_nodes.nd (pi_range1 (by rfl) T.m_range (pa_cons (pe_propD P_Net_node_count T.c_Net (hr.mono (by decide)) (pv 1)) pa_nil)) (blkOk_by (own := [("node", 8)]) (N := ["circuit", "net", "uses", "inner", "left", "right", "literal", "_", "node"]) (sc := defScope s_inner_nodes) (by decide +kernel)) (fun _ _ _ _ _ => by exact (pg_name (i := 8) sc_inner_nodes.nd rfl (Or.inl rfl))) (fun _ _ _ _ _ => by exact pts_nil) (fun _ _ _ _ _ => by exact (pe_and (pe_ix (ix_listK (K := K) (by rfl)) (pv 3) (pv 8) (fun _ _ => rfl)) (pe_one (pe_cmpR op_eq (pe_ix (ix_listK (K := K) (by rfl)) (pv 2) (pv 8) (fun _ _ => rfl)) (pe_int (i := ((1 : Nat) : Int))) (nomark _)))))))))))))), ?_⟩)⟩
  case len => walk_at "ln"
  
  obtain ⟨a, c, rfl, hc, hk, q⟩ := h
  walk_at "st"
  walk_at "go"
  obtain ⟨cx, li, ll, la, lo, h1, ⟨vi, h2, r2⟩, ⟨vl, h3, r3⟩, ⟨va, h4, r4⟩, ⟨vo, h5, r5⟩⟩ := id hc
  have hnn := hk.nn_le'
  walk_at "go"
  refine ⟨a, c, rfl, hc, hk.leaf.2.1, fun H1 nt hS1 hnt hN => ?_⟩
  obtain ⟨nx, nl1, nl2, n1, ⟨wl, n2, rl⟩, ⟨wa, n3, ra⟩⟩ := id hN
  walk_at "go"
  rename_i l1 hl1
  rw [net_nn]
  refine g_rep1 upd_same (by omega) (fun us0 hus0 => ?_)
  walk_at "go"
  rename_i l2 hl2
  rw [net_nn]
  refine g_rep1 upd_same (by omega) (fun in0 hin0 => ?_)
  have e1 : (upd (upd H1 l1 (.lst [.int ((0 : Nat) : Int)])) us0 (.lst (List.replicate c.nn (V.int ((0 : Nat) : Int))))) us0 = some (.lst (nums (List.replicate c.nn 0))) := by unfold nums; rw [List.map_replicate]; exact upd_same
  have sA : Same H1 (upd (upd H1 l1 (.lst [.int ((0 : Nat) : Int)])) us0 (.lst (List.replicate c.nn (V.int ((0 : Nat) : Int))))) := L2.Same.trans (Same.new hl1) (Same.new hus0)
  have hus1 : H1 us0 = none := Same.free (Same.new hl1) hus0
  generalize upd (upd H1 l1 (.lst [.int ((0 : Nat) : Int)])) us0 (.lst (List.replicate c.nn (V.int ((0 : Nat) : Int)))) = Ha at *
  have e2 : (upd (upd Ha l2 (.lst [.bl false])) in0 (.lst (List.replicate c.nn (V.bl false)))) in0 = some (.lst ((List.replicate c.nn false).map V.bl)) := by rw [List.map_replicate]; exact upd_same
  have sB : Same Ha (upd (upd Ha l2 (.lst [.bl false])) in0 (.lst (List.replicate c.nn (V.bl false)))) := L2.Same.trans (Same.new hl2) (Same.new hin0)
  have hin1 : Ha in0 = none := Same.free (Same.new hl2) hin0
  have nui : us0 ≠ in0 := ne_of_none e1 hin1
  have e1' := sB _ _ e1
  have hin1' : H1 in0 = none := Same.free sA hin1
  have sC := L2.Same.trans sA sB
  generalize upd (upd Ha l2 (.lst [.bl false])) in0 (.lst (List.replicate c.nn (V.bl false))) = H2 at *
  clear sA sB e1 hl2 hin0 hin1 hl1 hus0
  have n1' := sC _ _ n1
  have n3' := sC _ _ n3
  walk_at "go"
  refine g_rForL (xs := wa) n3' (fun i σ H' => ∃ us inn o4 o5 o6 o7 o8, σ = [some (.ref a), some (.ref nt), some (.ref us0), some (.ref in0), o4, o5, o6, o7, o8] ∧ Same H1 H' ∧ H' us0 = some (.lst (nums us)) ∧ H' in0 = some (.lst (inn.map V.bl)) ∧ InI c.fa c.nn (flatA (c.ands.take i)) us inn)
    ⟨_, _, _, _, _, _, _, rfl, sC, e1', e2, by rw [List.take_zero]; exact InI.zero _ _⟩ ?_ ?_ ?_
  · rintro i σ H' hi ⟨_, _, _, _, _, _, _, rfl, hS, _⟩
    exact hS _ _ n3
  · rintro i v σ H' hv ⟨us, inn, _, _, _, _, _, rfl, hS, hU, hI, hJ⟩
    obtain ⟨⟨l, r⟩, hp, t, rfl, ht⟩ := ra.2 i v hv
    have hp : c.ands[i]? = some (l, r) := hp
    have hai := lt_of_get hp
    have hal := hk.ands.2 _ _ _ hp
    have hcn : c.nn = c.fa + c.ands.length := rfl
    have ht' := hS _ _ ht
    walk_at "go"
    rename_i t2 ht2
    have s2 : Same H1 (upd H' t2 (.tup [.int (l : Int), .int (r : Int)])) := L2.Same.trans hS (Same.new ht2)
    have hU2 := lk_new (o := .tup [.int (l : Int), .int (r : Int)]) ht2 hU
    have hI2 := lk_new (o := .tup [.int (l : Int), .int (r : Int)]) ht2 hI
    have hl2 : l / 2 < c.nn := by omega
    have hr2 : r / 2 < c.nn := by omega
    refine g_rForT (xs := nums [l, r]) upd_same (fun j σ H' => ∃ us inn o6, σ = [some (.ref a), some (.ref nt), some (.ref us0), some (.ref in0), some (.int (l : Int)), some (.int (r : Int)), o6, _, _] ∧ Same H1 H' ∧ H' t2 = some (.tup (nums [l, r])) ∧ H' us0 = some (.lst (nums us)) ∧ H' in0 = some (.lst (inn.map V.bl)) ∧ InI c.fa c.nn (flatA (c.ands.take i) ++ [l, r].take j) us inn)
      ⟨us, inn, _, rfl, s2, upd_same, hU2, hI2, by rw [List.take_zero, List.append_nil]; exact hJ⟩ ?_ ?_ ?_
    · rintro j σ H' hj ⟨_, _, _, rfl, _, e, _⟩
      exact e
    · rintro j v σ H3 hv ⟨us, inn, _, rfl, hS3, ht3, hU3, hI3, hJ3⟩
      obtain ⟨x, hx, rfl⟩ := nums_of hv
      have hxn : x / 2 < c.nn := by
        have := List.mem_of_getElem? hx
        simp only [List.mem_cons, List.not_mem_nil, or_false] at this
        rcases this with rfl | rfl <;> assumption
      have nt2u : t2 ≠ us0 := fun z => by rw [z, hU3] at ht3; cases ht3
      have nt2i : t2 ≠ in0 := fun z => by rw [z, hI3] at ht3; cases ht3
      have f1 := hS3 _ _ n1
      have hx1 : x / 2 < us.length := by rw [hJ3.l1]; exact hxn
      have hx2 : x / 2 < inn.length := by rw [hJ3.l2]; exact hxn
      have gu : (nums us)[x / 2]? = some (.int ((us.getD (x / 2) 0 : Nat) : Int)) := by
        refine nums_get ?_
        rw [List.getD_eq_getElem?_getD, List.getElem?_eq_getElem hx1]
        rfl
      have hN3 := hN.mono hS3
      walk_at "go"
      refine g_laug ?_
      walk_at "go"
      refine ⟨us0, nums us, x / 2, _, rfl, rfl, by omega, hU3, gu, ?_⟩
      walk_at "go"
      refine g_ipadd ?_
      refine g_setL hU3 (by rw [nums_len]; exact hx1) ?_
      have eU : (nums us).set (x / 2) (.int ((us.getD (x / 2) 0 + 1 : Nat) : Int)) = nums (us.set (x / 2) (us.getD (x / 2) 0 + 1)) := by unfold nums; rw [List.map_set]
      have hS4 : Same H1 (upd H3 us0 (.lst (nums (us.set (x / 2) (us.getD (x / 2) 0 + 1))))) := Same.mut hS3 hus1
      have ht4 : (upd H3 us0 (.lst (nums (us.set (x / 2) (us.getD (x / 2) 0 + 1))))) t2 = some (.tup (nums [l, r])) := lk_ne nt2u ht3
      have hI4 : (upd H3 us0 (.lst (nums (us.set (x / 2) (us.getD (x / 2) 0 + 1))))) in0 = some (.lst (inn.map V.bl)) := lk_ne nui.symm hI3
      have hU4 : (upd H3 us0 (.lst (nums (us.set (x / 2) (us.getD (x / 2) 0 + 1))))) us0 = some (.lst (nums (us.set (x / 2) (us.getD (x / 2) 0 + 1)))) := upd_same
      have hJ4 := hJ3.step hxn
      have e8 : flatA (c.ands.take i) ++ [l, r].take (j + 1) = flatA (c.ands.take i) ++ [l, r].take j ++ [x] := by rw [take_snoc hx, List.append_assoc]
      rw [← e8] at hJ4
      rw [eU]
      generalize upd H3 us0 (.lst (nums (us.set (x / 2) (us.getD (x / 2) 0 + 1)))) = H4 at *
      have f2 := hS4 _ _ n1
      have hN4 := hN.mono hS4
      have fin : ∀ bv : Bool, bv = (decide (x % 2 = 0) && decide (c.fa ≤ x / 2)) → Same H1 (upd H4 in0 (.lst ((inn.map V.bl).set (x / 2) (.bl bv)))) ∧ (upd H4 in0 (.lst ((inn.map V.bl).set (x / 2) (.bl bv)))) t2 = some (.tup (nums [l, r])) ∧ (upd H4 in0 (.lst ((inn.map V.bl).set (x / 2) (.bl bv)))) us0 = some (.lst (nums (us.set (x / 2) (us.getD (x / 2) 0 + 1)))) ∧ (upd H4 in0 (.lst ((inn.map V.bl).set (x / 2) (.bl bv)))) in0 = some (.lst ((inn.set (x / 2) bv).map V.bl)) ∧ InI c.fa c.nn (flatA (c.ands.take i) ++ [l, r].take (j + 1)) (us.set (x / 2) (us.getD (x / 2) 0 + 1)) (inn.set (x / 2) bv) := fun bv e => by
        subst e
        exact ⟨Same.mut hS4 hin1', lk_ne nt2i ht4, lk_ne nui hU4, by rw [List.map_set]; exact upd_same, hJ4⟩
      walk_at "go"
      refine br (fun c1 => ?_) (fun c1 => ?_)
      · walk_at "go"
        rw [net_fa]
        refine g_gsub ?_
        walk_at "go"
        refine g_setL hI4 (by rw [List.length_map]; exact hx2) ?_
        obtain ⟨b1, b2, b3, b4, b5⟩ := fin (decide (c.fa ≤ x / 2)) (by rw [decide_eq_true c1, Bool.true_and])
        exact ⟨_, _, _, rfl, b1, b2, b3, b4, b5⟩
      · walk_at "go"
        refine g_gsub ?_
        walk_at "go"
        refine g_setL hI4 (by rw [List.length_map]; exact hx2) ?_
        obtain ⟨b1, b2, b3, b4, b5⟩ := fin false (by rw [decide_eq_false c1, Bool.false_and])
        exact ⟨_, _, _, rfl, b1, b2, b3, b4, b5⟩
    · rintro σ H3 ⟨us, inn, _, rfl, hS3, ht3, hU3, hI3, hJ3⟩
      refine ⟨us, inn, _, _, _, _, _, rfl, hS3, hU3, hI3, ?_⟩
      rw [take_snoc hp, flatA_snoc]
      exact hJ3
  rintro σ H3 ⟨us, inn, _, _, _, _, _, rfl, hS3, hU3, hI3, hJ⟩
  have hwl : wa.length = c.ands.length := ra.1
  rw [hwl, List.take_length] at hJ
  have f1 := hS3 _ _ n1
  have f2 := hS3 _ _ n2
  have f3 := hS3 _ _ (hS1 _ _ h5)
  have f4 := hS3 _ _ (hS1 _ _ h1)
  have hll : wl.length ≤ 40 := by rw [rl.1]; show (c.lat.map _).length ≤ _; rw [List.length_map]; exact hk.leaf.2.1
  have hol : vo.length ≤ 32 := by rw [r5.1]; exact hk.outs.1
  walk_at "go"
  refine g_cat f2 f3 (by omega) (fun sx hsx => ?_)
  walk_at "go"
  have itm : ∀ (i : Nat) (v : V), (wl ++ vo)[i]? = some v → ∃ (t : Addr) (z : V) (x : Nat), v = .ref t ∧ H1 t = some (.tup [z, .int (x : Int)]) ∧ x / 2 < c.nn ∧ ((c.lat.map fun l => l.2.2) ++ c.outs.map fun o => o.2)[i]? = some x := by
    intro i v hv
    by_cases qi : i < wl.length
    · rw [List.getElem?_append_left qi] at hv
      obtain ⟨⟨s0, x⟩, hx, t, rfl, ht⟩ := rl.2 i v hv
      have hx : (c.lat.map fun l => (l.2.1, l.2.2))[i]? = some (s0, x) := hx
      rw [List.getElem?_map] at hx
      obtain ⟨l, hl, e⟩ := Option.map_eq_some_iff.mp hx
      cases e
      refine ⟨t, _, l.2.2, rfl, ht, hk.nlat hl, ?_⟩
      rw [List.getElem?_append_left (by rw [List.length_map]; exact lt_of_get hl), List.getElem?_map, hl]
      rfl
    · have e1 : wl.length = c.lat.length := by rw [rl.1]; exact List.length_map ..
      rw [List.getElem?_append_right (by omega)] at hv
      obtain ⟨⟨s0, x⟩, hx, t, rfl, ht⟩ := r5.2 _ v hv
      refine ⟨t, _, x, rfl, hS1 _ _ ht, ?_, ?_⟩
      · have := hk.outs.2.2.2 _ (List.mem_of_getElem? hx)
        have : x < 2 * c.nn := this
        omega
      · rw [List.getElem?_append_right (by rw [List.length_map]; omega), List.length_map, ← e1, List.getElem?_map, hx]
        rfl
  have hxl : ((c.lat.map fun l => l.2.2) ++ c.outs.map fun o => o.2).length = (wl ++ vo).length := by
    rw [List.length_append, List.length_append, List.length_map, List.length_map, rl.1, r5.1]
    show _ = (c.lat.map _).length + _
    rw [List.length_map]
  generalize hxs : (c.lat.map fun l => l.2.2) ++ c.outs.map (fun o => o.2) = xs at *
  generalize wl ++ vo = ws at *
  have nsu : sx ≠ us0 := (ne_of_none hU3 hsx).symm
  have nsi : sx ≠ in0 := (ne_of_none hI3 hsx).symm
  refine g_rForL (xs := ws) upd_same (fun i σ H' => ∃ inn' o4 o5 o6 o7 o8, σ = [some (.ref a), some (.ref nt), some (.ref us0), some (.ref in0), o4, o5, o6, o7, o8] ∧ Same H1 H' ∧ H' sx = some (.lst ws) ∧ H' us0 = some (.lst (nums us)) ∧ H' in0 = some (.lst (inn'.map V.bl)) ∧ InJ inn (xs.take i) inn')
    ⟨inn, _, _, _, _, _, rfl, L2.Same.trans hS3 (Same.new hsx), upd_same, lk_new hsx hU3, lk_new hsx hI3, by rw [List.take_zero]; exact InJ.zero _⟩ ?_ ?_ ?_
  · rintro i σ H' hi ⟨_, _, _, _, _, _, rfl, _, e, _⟩
    exact e
  · rintro i v σ H' hv ⟨inn', _, _, _, _, _, rfl, hS, e, hU, hI, hj⟩
    obtain ⟨t, z, x, rfl, ht, hxn, hx⟩ := itm i v hv
    have ht' := hS _ _ ht
    have hx2 : x / 2 < inn.length := by rw [hJ.l2]; exact hxn
    walk_at "go"
    refine g_gsub ?_
    walk_at "go"
    refine g_setL hI (by rw [List.length_map, hj.l]; exact hx2) ?_
    refine ⟨inn'.set (x / 2) false, _, _, _, _, _, rfl, Same.mut hS hin1', lk_ne nsi e, lk_ne nui hU, by rw [List.map_set]; exact upd_same, ?_⟩
    rw [take_snoc hx]
    exact hj.step hx2
  rintro σ H4 ⟨inn', _, _, _, _, _, rfl, hS4, e, hU, hI, hj⟩
  rw [← hxl, List.take_length] at hj
  have hres := inner_ok hJ hj (fun l hl => by rw [← hxs]; exact List.mem_append_left _ (List.mem_map.mpr ⟨l, hl, rfl⟩)) (fun o ho => by rw [← hxs]; exact List.mem_append_right _ (List.mem_map.mpr ⟨o, ho, rfl⟩))
  have g1 := hS4 _ _ n1
  have hN4 := hN.mono hS4
  walk_at "go"
  rw [net_nn]
  refine g_rLcRT (rep := IsBl) (bs := innF inn' us c.nn) (by omega) (by unfold innF; rw [List.length_map, List.length_range]) mono_Bl stab_Bl (fun D k b H5 hD hkn hb hS5 Qy hQ => ?_) (fun r H5 hr hS5 hL => q H5 r _ (L2.Same.trans hS1 (L2.Same.trans hS4 hS5)) (Same.free (L2.Same.trans hS1 hS4) hr) hres hL)
  have eb : b = (inn'.getD k false && decide (us.getD k 0 = 1)) := by
    unfold innF at hb
    rw [List.getElem?_map, List.getElem?_range hkn] at hb
    exact (Option.some.inj hb).symm
  have hi5 := hS5 _ _ hI
  have hu5 := hS5 _ _ hU
  have gi : (inn'.map V.bl)[k]? = some (.bl (inn'.getD k false)) := by
    rw [List.getElem?_map, List.getElem?_eq_getElem (by rw [hj.l, hJ.l2]; exact hkn)]
    rw [List.getD_eq_getElem?_getD, List.getElem?_eq_getElem (by rw [hj.l, hJ.l2]; exact hkn)]
    rfl
  have gu : (nums us)[k]? = some (.int ((us.getD k 0 : Nat) : Int)) := by
    refine nums_get ?_
    rw [List.getD_eq_getElem?_getD, List.getElem?_eq_getElem (by rw [hJ.l1]; exact hkn)]
    rfl
  generalize inn'.getD k false = bi at *
  generalize us.getD k 0 = ui at *
  walk_at "go"
  refine g_ixL hi5 gi ?_
  cases bi with
  | false =>
    walk_at "go"
    exact hQ _ _ (L2.Same.refl _) (by rw [eb]; rfl)
  | true =>
    walk_at "go"
    refine g_ixL hu5 gu ?_
    walk_at "go"
    exact hQ _ _ (L2.Same.refl _) (by rw [eb]; rfl)
end
end
section
/-! part SgOp -/
set_option Elab.async false
set_option maxRecDepth 100000
set_option linter.unusedVariables false
set_option maxHeartbeats 1000000
open PySem PySem.Spec PyProof.Rows L2


local macro_rules | `(tactic| walk_at "na") => `(tactic| first | assumption | (refine NetAt.mono (H := ?na_H) ?na_s ?na_e; (case na_e => assumption); (case na_s => walk_at "ex")))
local macro_rules | `(tactic| walk_at "gs") => `(tactic| (with_reducible refine g_netnat (n := ?go_n) ?go_h ?_; (case go_h => walk_at "na")))
section
variable {P : Program} {w : World} {K : PySem.W.Frag} {mg : Str → Option Value} {base : Heap} {f pr : Addr} {fd : FuncData}
theorem g_extTN {K : PySem.W.Frag} {H : Hp} {Q : VK} {l b : Addr} {xs ys : List Nat} (h : H l = some (.lst (nums xs))) (h2 : H b = some (.tup (nums ys))) (z : xs.length + ys.length ≤ 100000) (q : Q .non (upd H l (.lst (nums (xs ++ ys))))) : rExtendT K (.ref l) [.ref b] H Q := by
  refine ⟨l, b, _, _, rfl, rfl, h, h2, by rw [nums_len, nums_len]; exact z, ?_⟩
  rw [← nums_append]
  exact q
def spOperands (K : PySem.W.Frag) : Sp := fun vs H Q _ => ∃ (nt il : Addr) (c : Cir Str) (inn : List Bool) (T : Nat → Nat) (i : Nat), vs = [.ref nt, .ref il, .int ((c.fa + i : Nat) : Int)] ∧ NetAt K H nt c.net ∧ LstAt H il IsBl inn ∧ CirOk c ∧ InnerOk c inn ∧ BalT c inn T ∧ i < c.ands.length ∧ T i ≤ 2000 ∧
  ∀ H' q os, Same H H' → H q = none → H' q = some (.lst (nums os)) → OpsR c inn (c.fa + i) os → os.length = T i + 1 → Q (.ref q) H'
theorem ok_operands_of (F : FunD K "operands_of" "operands_of" (defArgs s_operands_of) (defBody s_operands_of) (defScope s_operands_of) [] [] f fd) (hm : mg "operands_of" = some (.ref f)) (T : Txt K mg) (P_Net_first_and : PropOk P w K mg base 1 (He.ga K "Net") "first_and" (spNetNat K NetD.fa)) : DefOk P w K mg base 3 "operands_of" ["net", "inner", "node"] (spOperands K) := by
  refine ⟨f, fd, hm, F.kp, (FunD.bindsN (ps := ["net", "inner", "node"]) F fun _ _ _ _ _ _ us hl => match us, hl with | [_, _, _], _ => rfl), fn_ok F sc_operands_of ?len (fun cdv A outer s H vs Q E hr h => ⟨_, (pss_cons (ps_set (i := 3) sc_operands_of.nd rfl (Or.inl rfl) (pe_lst pa_nil))
  (pss_cons (ps_set (i := 4) sc_operands_of.nd rfl (Or.inl rfl) (pe_callTy (call_listK (K := K) (by rfl)) (by rfl) T.m_list (by decide +kernel) (pa_cons (pe_ix (ix_listK (K := K) (by rfl)) (pe_f T.c_Net T.n_Net_ands (pv 0)) (pe_op op_sub (pv 2) (pe_propD P_Net_first_and T.c_Net (hr.mono (by decide)) (pv 0))) (fun _ _ => rfl)) pa_nil)))
  (pss_cons (ps_while PassesOwn.never (pt_cmpR op_gt (pe_callB (call_lenK (K := K) (by rfl)) (by rfl) T.m_len (by decide +kernel) (pa_cons (pv 4) pa_nil)) (pe_int (i := ((0 : Nat) : Int))) (nomark _)) (pss_cons (ps_set (i := 5) sc_operands_of.nd rfl (Or.inl rfl) (pe_bm0 PySem.F.plainAttrs_list PySem.F.slot_list_pop PySem.F.type_list_pop mt_pop (pv 4)))
  (pss_one (ps_if (PW.pt (pw_and (pt_cmpR op_eq (pe_op op_and (pv 5) (pe_int (i := ((1 : Nat) : Int)))) (pe_int (i := ((0 : Nat) : Int))) (nomark _)) (pw_and1 (pt_val (pe_ix (ix_listK (K := K) (by rfl)) (pv 1) (pe_op op_shr (pv 5) (pe_int (i := ((1 : Nat) : Int)))) (fun _ _ => rfl)))))) (pss_one (ps_expr (pe_bm PySem.F.plainAttrs_list PySem.F.slot_list_extend PySem.F.type_list_extend mt_extendT (pv 4) (pa_cons (pe_ix (ix_listK (K := K) (by rfl)) (pe_f T.c_Net T.n_Net_ands (pv 0)) (pe_op op_sub (pe_op op_shr (pv 5) (pe_int (i := ((1 : Nat) : Int)))) (pe_propD P_Net_first_and T.c_Net (hr.mono (by decide)) (pv 0))) (fun _ _ => rfl)) pa_nil)))) (pss_one (ps_expr (pe_bm PySem.F.plainAttrs_list PySem.F.slot_list_append PySem.F.type_list_append mt_append (pv 3) (pa_cons (pv 5) pa_nil))))))))
  (pss_one (ps_ret (pv 3)))))), ?_⟩)⟩
  case len => walk_at "ln"
  
  obtain ⟨nt, il, c, inn, TT, i, rfl, hN, hI, hk, hin, hT, hi, hTz, q⟩ := h
  obtain ⟨nx, nl1, nl2, n1, ⟨wl, n2, rl⟩, ⟨wa, n3, ra⟩⟩ := id hN
  obtain ⟨vi, i1, i2⟩ := id hI
  have hcn : c.nn = c.fa + c.ands.length := rfl
  obtain ⟨⟨l, r⟩, hlr⟩ : ∃ p, c.ands[i]? = some p := ⟨_, List.getElem?_eq_getElem hi⟩
  obtain ⟨v, hv, t, rfl, ht⟩ := ra.get (show c.net.ands[i]? = some (l, r) from hlr)
  have h0 := OpsI.start hk hin hT hlr
  walk_at "st"
  walk_at "go"
  rename_i fl hfl
  rw [net_fa]
  have hf1 : (upd H fl (.lst [])) nl2 = some (.lst wa) := lk_new hfl n3
  refine g_sub (by omega) ?_
  rw [show c.fa + i - c.fa = i by omega]
  walk_at "go"
  refine g_ixL hf1 hv ?_
  have ht1 : (upd H fl (.lst [])) t = some (.tup (nums [l, r])) := lk_new hfl ht
  walk_at "go"
  refine g_listOfT ht1 (fun wt hwt => ?_)
  have s1 : Same H (upd (upd H fl (.lst [])) wt (.lst (nums [l, r]))) := L2.Same.trans (Same.new hfl) (Same.new hwt)
  have nfw : fl ≠ wt := (ne_new upd_same hwt).symm
  have kf : (upd (upd H fl (.lst [])) wt (.lst (nums [l, r]))) fl = some (.lst (nums [])) := lk_ne nfw upd_same
  have kw : (upd (upd H fl (.lst [])) wt (.lst (nums [l, r]))) wt = some (.lst (nums [l, r])) := upd_same
  have hwt0 : H wt = none := Same.free (Same.new hfl) hwt
  generalize upd (upd H fl (.lst [])) wt (.lst (nums [l, r])) = H1 at *
  clear hf1 ht1 hwt
  walk_at "go"
  refine ⟨fun m σ H' => ∃ fs ws o5, σ = [some (.ref nt), some (.ref il), some (.int ((c.fa + i : Nat) : Int)), some (.ref fl), some (.ref wt), o5] ∧ m = opsM inn c.fa TT ws ∧ Same H H' ∧ H' fl = some (.lst (nums fs)) ∧ H' wt = some (.lst (nums ws)) ∧ OpsI c inn TT i fs ws, ⟨_, [], [l, r], _, rfl, rfl, s1, kf, kw, h0⟩, ?_⟩
  rintro m σ H2 ⟨fs, ws, _, rfl, rfl, hS, gf, gw, hO⟩
  have hsum : ws.length ≤ (ws.map fun o => 1 + gT inn c.fa TT o).sum := by
    clear hO gw
    induction ws with
    | nil => exact Nat.le_refl _
    | cons x t ih => simp only [List.length_cons, List.map_cons, List.sum_cons]; omega
  have hn := hO.n
  walk_at "go"
  rw [nums_len]
  refine br (fun hlt => ?_) (fun hge => ?_)
  rotate_left 1
  · have e : ws = [] := List.length_eq_zero_iff.mp (by omega)
    subst e
    obtain ⟨d1, d2⟩ := hO.done
    walk_at "go"
    exact q H2 fl fs hS hfl gf d1 d2
  obtain ⟨ws', x, rfl⟩ : ∃ ws' x, ws = ws' ++ [x] := ⟨ws.dropLast, ws.getLast (by intro e; rw [e] at hlt; exact absurd hlt (Nat.lt_irrefl _)), (List.dropLast_concat_getLast _).symm⟩
  have hxw := hO.w x (by simp)
  have em : opsM inn c.fa TT (ws' ++ [x]) = opsM inn c.fa TT ws' + (1 + 2 * gT inn c.fa TT x) := by
    unfold opsM
    rw [List.map_append, List.sum_append]
    simp
  rw [List.length_append] at hsum
  refine ⟨fun σ' H' => ∃ fs2 ws2 o5, σ' = [some (.ref nt), some (.ref il), some (.int ((c.fa + i : Nat) : Int)), some (.ref fl), some (.ref wt), o5] ∧ opsM inn c.fa TT ws2 < opsM inn c.fa TT (ws' ++ [x]) ∧ Same H H' ∧ H' fl = some (.lst (nums fs2)) ∧ H' wt = some (.lst (nums ws2)) ∧ OpsI c inn TT i fs2 ws2, ?_, ?_⟩
  · rintro σ' H' ⟨fs2, ws2, _, rfl, g1, g2, g3, g4, g5⟩
    exact ⟨_, g1, fs2, ws2, _, rfl, rfl, g2, g3, g4, g5⟩
  walk_at "go"
  refine g_bm0 ?_
  walk_at "go"
  refine g_popN gw ?_
  have kf' : (upd H2 wt (.lst (nums ws'))) fl = some (.lst (nums fs)) := lk_ne nfw gf
  have kw' : (upd H2 wt (.lst (nums ws'))) wt = some (.lst (nums ws')) := upd_same
  have hS5 : Same H (upd H2 wt (.lst (nums ws'))) := Same.mut hS hwt0
  generalize upd H2 wt (.lst (nums ws')) = H5 at *
  have gi : vi[x / 2]? = some (.bl (innB inn x)) := by
    have hlt : x / 2 < inn.length := by rw [hin.len]; omega
    obtain ⟨v, hv, e⟩ := i2.get (List.getElem?_eq_getElem hlt)
    have e : v = .bl inn[x / 2] := e
    rw [hv, e]
    unfold innB
    rw [List.getD_eq_getElem?_getD, List.getElem?_eq_getElem hlt]
    rfl
  have f1 := hS5 _ _ n1
  have f3 := hS5 _ _ n3
  have fi := hS5 _ _ i1
  have hN5 := hN.mono hS5
  have hfz : fs.length ≤ 2001 := by omega
  have hwz : ws'.length ≤ 2001 := by have h9 : [x].length = 1 := rfl; omega
  have take : innB inn x = false → ∃ fs2 ws2 o5, [some (V.ref nt), some (.ref il), some (.int ((c.fa + i : Nat) : Int)), some (.ref fl), some (.ref wt), some (.int (x : Int))] = [some (V.ref nt), some (.ref il), some (.int ((c.fa + i : Nat) : Int)), some (.ref fl), some (.ref wt), o5] ∧ opsM inn c.fa TT ws2 < opsM inn c.fa TT (ws' ++ [x]) ∧ Same H (upd H5 fl (.lst (nums (fs ++ [x])))) ∧ (upd H5 fl (.lst (nums (fs ++ [x])))) fl = some (.lst (nums fs2)) ∧ (upd H5 fl (.lst (nums (fs ++ [x])))) wt = some (.lst (nums ws2)) ∧ OpsI c inn TT i fs2 ws2 := fun hb =>
    ⟨fs ++ [x], ws', _, rfl, by omega, Same.mut hS5 hfl, upd_same, lk_ne nfw.symm kw', hO.take hb⟩
  walk_at "go"
  refine br (fun c1 => ?_) (fun c1 => ?_)
  · walk_at "go"
    refine g_ixL fi gi ?_
    cases hb : innB inn x with
    | false =>
      walk_at "go"
      case z => omega
      exact take hb
    | true =>
      have hfx := hin.fa _ hb
      have hj : x / 2 - c.fa < c.ands.length := by omega
      obtain ⟨⟨l2, r2⟩, hlr2⟩ : ∃ p, c.ands[x / 2 - c.fa]? = some p := ⟨_, List.getElem?_eq_getElem hj⟩
      obtain ⟨v2, hv2, t2, rfl, ht2⟩ := ra.get (show c.net.ands[x / 2 - c.fa]? = some (l2, r2) from hlr2)
      have ht2' : H5 t2 = some (.tup (nums [l2, r2])) := hS5 _ _ ht2
      have hg := hO.grow hk hin hT (by omega) hb hlr2
      have e1 : gT inn c.fa TT x = TT (x / 2 - c.fa) := by unfold gT; rw [if_pos hb]
      have e2 := hT _ _ _ hlr2
      walk_at "go"
      rw [net_fa]
      refine g_sub (by omega) ?_
      refine g_ixL f3 hv2 ?_
      walk_at "go"
      refine g_extTN kw' ht2' (by show _ + 2 ≤ _; omega) ?_
      refine ⟨fs, ws' ++ [l2, r2], _, rfl, ?_, Same.mut hS5 hwt0, lk_ne nfw kf', upd_same, hg⟩
      rw [em, e1, e2]
      unfold opsM
      rw [List.map_append, List.sum_append]
      simp
      omega
  · walk_at "go"
    case z => omega
    refine take ?_
    cases hb : innB inn x with
    | false => rfl
    | true => exact absurd (hxw.2 hb) c1
end
end
section
/-! part SgRb -/
set_option Elab.async false
set_option maxRecDepth 100000
set_option linter.unusedVariables false
set_option maxHeartbeats 1000000
open PySem PySem.Spec PyProof.Rows L2


section
variable {P : Program} {w : World} {K : PySem.W.Frag} {mg : Str → Option Value} {base : Heap} {f pr : Addr} {fd : FuncData}
/-- the literal has an image -/
def HasI (imgs : List (Option Nat)) (l : Nat) : Prop := ∃ y, imgs[l / 2]? = some (some y)
def spRebuilt (K : PySem.W.Frag) (C : Addr) : Sp := fun vs H Q _ => ∃ (a p im dx lp ln ll : Addr) (c : Cir Str) (b : Bld) (imgs : List (Option Nat)), vs = [.ref a, .ref p, .ref im] ∧ CirAt K H a c ∧ BldAt K C H p dx lp ln ll b ∧ LstAt H im IsON imgs ∧
  (∀ l ∈ c.lat, HasI imgs l.2.2) ∧ (∀ l ∈ c.outs, HasI imgs l.2) ∧ CirOk (rebC c b imgs) ∧ ∀ H' q, Same H H' → H q = none → CirAt K H' q (rebC c b imgs) → Q (.ref q) H'
theorem ok_rebuilt_Builder (F : FunD K "rebuilt" "rebuilt" (defArgs s_rebuilt) (defBody s_rebuilt) (defScope s_rebuilt) [] [] f fd) (hm : mg "rebuilt" = some (.ref f)) (T : Txt K mg) (D_image_of : DefOk P w K mg base 1 "image_of" ["images", "literal"] spImageOf) (I_Circuit : InitOk P w K mg base 3 "Circuit" (He.ga K "Circuit") ["self", "inputs", "latches", "ands", "outputs"] (spCirInit K)) : DefOk P w K mg base 5 "rebuilt" ["circuit", "builder", "images"] (spRebuilt K (He.ga K "Builder")) := by
  refine ⟨f, fd, hm, F.kp, (FunD.bindsN (ps := ["circuit", "builder", "images"]) F fun _ _ _ _ _ _ us hl => match us, hl with | [_, _, _], _ => rfl), fn_ok F sc_rebuilt ?len (fun cdv A outer s H vs Q E hr h => ⟨_, (pss_cons (ps_setLc (i := 3) (own := [("name", 5), ("start", 6), ("literal", 7)]) (by rfl) sc_rebuilt.nd rfl rfl (sw_true rfl rfl rfl (by decide +kernel)) (pi_list (pe_f T.c_Circuit T.n_Circuit_latches (pv 0))) (blkOk_by (own := [("name", 5), ("start", 6), ("literal", 7)]) (N := ["circuit", "builder", "images", "latches", "outputs", "name", "start", "literal"]) (sc := defScope s_rebuilt) (by decide +kernel)) (fun _ _ _ _ _ => by exact (pg_tupK (K := K) (n := 3) (by rfl) (by rfl) (pgs_cons (pg_name (i := 5) sc_rebuilt.nd rfl (Or.inl rfl)) (pgs_cons (pg_name (i := 6) sc_rebuilt.nd rfl (Or.inl rfl)) (pgs_cons (pg_name (i := 7) sc_rebuilt.nd rfl (Or.inl rfl)) pgs_nil))))) (fun _ _ _ _ _ => by exact pts_nil) (fun _ _ _ _ _ => by exact (pe_tup (pa_cons (pv 5) (pa_cons (pv 6) (pa_cons (pe_callD D_image_of (hr.mono (by decide)) (by rfl) (pa_cons (pv 2) (pa_cons (pv 7) pa_nil))) pa_nil))))))
  (pss_cons (ps_setLc (i := 4) (own := [("name", 5), ("literal", 7)]) (by rfl) sc_rebuilt.nd rfl rfl (sw_true rfl rfl rfl (by decide +kernel)) (pi_list (pe_f T.c_Circuit T.n_Circuit_outputs (pv 0))) (blkOk_by (own := [("name", 5), ("literal", 7)]) (N := ["circuit", "builder", "images", "latches", "outputs", "name", "start", "literal"]) (sc := defScope s_rebuilt) (by decide +kernel)) (fun _ _ _ _ _ => by exact (pg_tupK (K := K) (n := 2) (by rfl) (by rfl) (pgs_cons (pg_name (i := 5) sc_rebuilt.nd rfl (Or.inl rfl)) (pgs_cons (pg_name (i := 7) sc_rebuilt.nd rfl (Or.inl rfl)) pgs_nil)))) (fun _ _ _ _ _ => by exact pts_nil) (fun _ _ _ _ _ => by exact (pe_tup (pa_cons (pv 5) (pa_cons (pe_callD D_image_of (hr.mono (by decide)) (by rfl) (pa_cons (pv 2) (pa_cons (pv 7) pa_nil))) pa_nil)))))
  (pss_one (ps_ret (pe_makeD I_Circuit (hr.mono (by decide)) (by rfl) (pa_cons (pe_f T.c_Circuit T.n_Circuit_inputs (pv 0)) (pa_cons (pv 3) (pa_cons (pe_f T.c_Builder T.n_Builder_pairs (pv 1)) (pa_cons (pv 4) pa_nil))))))))), ?_⟩)⟩
  case len => walk_at "ln"
  
  obtain ⟨a, p, im, dx, lp, ln, ll, c, b, imgs, rfl, hc, hb, hi, hil, hio, hok, q⟩ := h
  obtain ⟨cx, li, l2, la, lo, h1, h2, ⟨vl, h3, r3⟩, h4, ⟨vo, h5, r5⟩⟩ := id hc
  obtain ⟨b1, b2, b3, b4, b5⟩ := id hb
  have z1 : c.lat.length ≤ 40 := by have := hok.leaf.2.1; unfold rebC at this; rw [List.length_map] at this; exact this
  have z2 : c.outs.length ≤ 32 := by have := hok.outs.1; unfold rebC at this; rw [List.length_map] at this; exact this
  walk_at "st"
  walk_at "go"
  refine g_rLcLT (xs := vl) (rep := IsL) (bs := (rebC c b imgs).lat) h3 (by rw [r3.1]; omega) (by rw [r3.1]; exact List.length_map ..) mono_L stab_L (fun D i x y H3 hD hx hb hS3 Qy hQ => ?_) (fun u H3 hu hS3 hL3 => ?_)
  · obtain ⟨⟨s, st, l⟩, hs, t, rfl, ht⟩ := r3.2 i x hx
    unfold rebC at hb
    dsimp only at hb
    rw [map_get hs] at hb
    cases hb
    have ht' := hS3 _ _ ht
    obtain ⟨y, hy⟩ := hil _ (List.mem_of_getElem? hs)
    walk_at "go"
    refine g_imageOf (l := l) (hi.mono mono_ON hS3) hy ?_
    walk_at "go"
    rename_i t5 ht5
    exact hQ _ _ (Same.new ht5) ⟨t5, rfl, upd_same⟩
  walk_at "go"
  refine g_rLcLT (xs := vo) (rep := IsO) (bs := (rebC c b imgs).outs) (hS3 _ _ h5) (by rw [r5.1]; omega) (by rw [r5.1]; exact List.length_map ..) mono_O stab_O (fun D i x y H4 hD hx hb hS4 Qy hQ => ?_) (fun v H4 hv hS4 hL4 => ?_)
  · obtain ⟨⟨s, l⟩, hs, t, rfl, ht⟩ := r5.2 i x hx
    unfold rebC at hb
    dsimp only at hb
    rw [map_get hs] at hb
    cases hb
    have ht' := hS4 _ _ (hS3 _ _ ht)
    obtain ⟨y, hy⟩ := hio _ (List.mem_of_getElem? hs)
    walk_at "go"
    refine g_imageOf (l := l) (hi.mono mono_ON (L2.Same.trans hS3 hS4)) hy ?_
    walk_at "go"
    rename_i t5 ht5
    exact hQ _ _ (Same.new ht5) ⟨t5, rfl, upd_same⟩
  have s4 := L2.Same.trans hS3 hS4
  walk_at "go"
  intro x xd hx hxd hne
  refine ⟨x, xd, li, u, lp, v, rebC c b imgs, H4, rfl, upd_same, hx, L2.Same.trans (Same.new hxd) (Same.new (by rw [upd_ne (fun e => hne e.symm)]; exact hx)), h2.mono mono_S s4, hL3.mono mono_L hS4, b2.mono mono_P s4, hL4, hok, fun H6 hS6 hC => ⟨rfl, ?_⟩⟩
  exact q H6 x (L2.Same.trans s4 hS6) (Same.free s4 hx) hC
theorem ok_rebuilt_RuleBuilder (F : FunD K "rebuilt" "rebuilt" (defArgs s_rebuilt) (defBody s_rebuilt) (defScope s_rebuilt) [] [] f fd) (hm : mg "rebuilt" = some (.ref f)) (T : Txt K mg) (D_image_of : DefOk P w K mg base 1 "image_of" ["images", "literal"] spImageOf) (I_Circuit : InitOk P w K mg base 3 "Circuit" (He.ga K "Circuit") ["self", "inputs", "latches", "ands", "outputs"] (spCirInit K)) : DefOk P w K mg base 5 "rebuilt" ["circuit", "builder", "images"] (spRebuilt K (He.ga K "RuleBuilder")) := by
  refine ⟨f, fd, hm, F.kp, (FunD.bindsN (ps := ["circuit", "builder", "images"]) F fun _ _ _ _ _ _ us hl => match us, hl with | [_, _, _], _ => rfl), fn_ok F sc_rebuilt ?len (fun cdv A outer s H vs Q E hr h => ⟨_, (pss_cons (ps_setLc (i := 3) (own := [("name", 5), ("start", 6), ("literal", 7)]) (by rfl) sc_rebuilt.nd rfl rfl (sw_true rfl rfl rfl (by decide +kernel)) (pi_list (pe_f T.c_Circuit T.n_Circuit_latches (pv 0))) (blkOk_by (own := [("name", 5), ("start", 6), ("literal", 7)]) (N := ["circuit", "builder", "images", "latches", "outputs", "name", "start", "literal"]) (sc := defScope s_rebuilt) (by decide +kernel)) (fun _ _ _ _ _ => by exact (pg_tupK (K := K) (n := 3) (by rfl) (by rfl) (pgs_cons (pg_name (i := 5) sc_rebuilt.nd rfl (Or.inl rfl)) (pgs_cons (pg_name (i := 6) sc_rebuilt.nd rfl (Or.inl rfl)) (pgs_cons (pg_name (i := 7) sc_rebuilt.nd rfl (Or.inl rfl)) pgs_nil))))) (fun _ _ _ _ _ => by exact pts_nil) (fun _ _ _ _ _ => by exact (pe_tup (pa_cons (pv 5) (pa_cons (pv 6) (pa_cons (pe_callD D_image_of (hr.mono (by decide)) (by rfl) (pa_cons (pv 2) (pa_cons (pv 7) pa_nil))) pa_nil))))))
  (pss_cons (ps_setLc (i := 4) (own := [("name", 5), ("literal", 7)]) (by rfl) sc_rebuilt.nd rfl rfl (sw_true rfl rfl rfl (by decide +kernel)) (pi_list (pe_f T.c_Circuit T.n_Circuit_outputs (pv 0))) (blkOk_by (own := [("name", 5), ("literal", 7)]) (N := ["circuit", "builder", "images", "latches", "outputs", "name", "start", "literal"]) (sc := defScope s_rebuilt) (by decide +kernel)) (fun _ _ _ _ _ => by exact (pg_tupK (K := K) (n := 2) (by rfl) (by rfl) (pgs_cons (pg_name (i := 5) sc_rebuilt.nd rfl (Or.inl rfl)) (pgs_cons (pg_name (i := 7) sc_rebuilt.nd rfl (Or.inl rfl)) pgs_nil)))) (fun _ _ _ _ _ => by exact pts_nil) (fun _ _ _ _ _ => by exact (pe_tup (pa_cons (pv 5) (pa_cons (pe_callD D_image_of (hr.mono (by decide)) (by rfl) (pa_cons (pv 2) (pa_cons (pv 7) pa_nil))) pa_nil)))))
  (pss_one (ps_ret (pe_makeD I_Circuit (hr.mono (by decide)) (by rfl) (pa_cons (pe_f T.c_Circuit T.n_Circuit_inputs (pv 0)) (pa_cons (pv 3) (pa_cons (pe_f T.c_RuleBuilder T.n_RuleBuilder_pairs (pv 1)) (pa_cons (pv 4) pa_nil))))))))), ?_⟩)⟩
  case len => walk_at "ln"
  
  obtain ⟨a, p, im, dx, lp, ln, ll, c, b, imgs, rfl, hc, hb, hi, hil, hio, hok, q⟩ := h
  obtain ⟨cx, li, l2, la, lo, h1, h2, ⟨vl, h3, r3⟩, h4, ⟨vo, h5, r5⟩⟩ := id hc
  obtain ⟨b1, b2, b3, b4, b5⟩ := id hb
  have z1 : c.lat.length ≤ 40 := by have := hok.leaf.2.1; unfold rebC at this; rw [List.length_map] at this; exact this
  have z2 : c.outs.length ≤ 32 := by have := hok.outs.1; unfold rebC at this; rw [List.length_map] at this; exact this
  walk_at "st"
  walk_at "go"
  refine g_rLcLT (xs := vl) (rep := IsL) (bs := (rebC c b imgs).lat) h3 (by rw [r3.1]; omega) (by rw [r3.1]; exact List.length_map ..) mono_L stab_L (fun D i x y H3 hD hx hb hS3 Qy hQ => ?_) (fun u H3 hu hS3 hL3 => ?_)
  · obtain ⟨⟨s, st, l⟩, hs, t, rfl, ht⟩ := r3.2 i x hx
    unfold rebC at hb
    dsimp only at hb
    rw [map_get hs] at hb
    cases hb
    have ht' := hS3 _ _ ht
    obtain ⟨y, hy⟩ := hil _ (List.mem_of_getElem? hs)
    walk_at "go"
    refine g_imageOf (l := l) (hi.mono mono_ON hS3) hy ?_
    walk_at "go"
    rename_i t5 ht5
    exact hQ _ _ (Same.new ht5) ⟨t5, rfl, upd_same⟩
  walk_at "go"
  refine g_rLcLT (xs := vo) (rep := IsO) (bs := (rebC c b imgs).outs) (hS3 _ _ h5) (by rw [r5.1]; omega) (by rw [r5.1]; exact List.length_map ..) mono_O stab_O (fun D i x y H4 hD hx hb hS4 Qy hQ => ?_) (fun v H4 hv hS4 hL4 => ?_)
  · obtain ⟨⟨s, l⟩, hs, t, rfl, ht⟩ := r5.2 i x hx
    unfold rebC at hb
    dsimp only at hb
    rw [map_get hs] at hb
    cases hb
    have ht' := hS4 _ _ (hS3 _ _ ht)
    obtain ⟨y, hy⟩ := hio _ (List.mem_of_getElem? hs)
    walk_at "go"
    refine g_imageOf (l := l) (hi.mono mono_ON (L2.Same.trans hS3 hS4)) hy ?_
    walk_at "go"
    rename_i t5 ht5
    exact hQ _ _ (Same.new ht5) ⟨t5, rfl, upd_same⟩
  have s4 := L2.Same.trans hS3 hS4
  walk_at "go"
  intro x xd hx hxd hne
  refine ⟨x, xd, li, u, lp, v, rebC c b imgs, H4, rfl, upd_same, hx, L2.Same.trans (Same.new hxd) (Same.new (by rw [upd_ne (fun e => hne e.symm)]; exact hx)), h2.mono mono_S s4, hL3.mono mono_L hS4, b2.mono mono_P s4, hL4, hok, fun H6 hS6 hC => ⟨rfl, ?_⟩⟩
  exact q H6 x (L2.Same.trans s4 hS6) (Same.free s4 hx) hC
end
end
section
/-! part SgFr -/
set_option Elab.async false
set_option maxRecDepth 100000
set_option linter.unusedVariables false
set_option maxHeartbeats 1000000
open PySem PySem.Spec PyProof.Rows L2


local macro_rules | `(tactic| walk_at "na") => `(tactic| first | assumption | (refine NetAt.mono (H := ?na_H) ?na_s ?na_e; (case na_e => assumption); (case na_s => walk_at "ex")))
local macro_rules | `(tactic| walk_at "gs") => `(tactic| (with_reducible refine g_netnat (n := ?go_n) ?go_h ?_; (case go_h => walk_at "na")))
/-! ### frames -/
def spInFrame (K : PySem.W.Frag) : Sp := fun vs H Q _ => ∃ p a n c f, vs = [.ref p, .ref a, .int ((f : Nat) : Int)] ∧ NetAt K H p n ∧ n.nn ≤ 100000 ∧ H a = some (.tup (nums c)) ∧ c.length ≤ 1000 ∧
  ∀ H' q, Same H H' → H q = none → H' q = some (.tup (nums (shiftC (f * 2 * n.nn) c))) → Q (.ref q) H'
section
variable {P : Program} {w : World} {K : PySem.W.Frag} {mg : Str → Option Value} {base : Heap} {f pr : Addr} {fd : FuncData}
theorem ok_in_frame (F : FunD K "in_frame" "in_frame" (defArgs s_in_frame) (defBody s_in_frame) (defScope s_in_frame) [] [] f fd) (hm : mg "in_frame" = some (.ref f)) (T : Txt K mg) (P_Net_node_count : PropOk P w K mg base 1 (He.ga K "Net") "node_count" (spNetNat K NetD.nn)) : DefOk P w K mg base 3 "in_frame" ["net", "clause", "frame"] (spInFrame K) := by
  refine ⟨f, fd, hm, F.kp, (FunD.bindsN (ps := ["net", "clause", "frame"]) F fun _ _ _ _ _ _ us hl => match us, hl with | [_, _, _], _ => rfl), fn_ok F sc_in_frame ?len (fun cdv A outer s H vs Q E hr h => ⟨_, (pss_cons (ps_set (i := 3) sc_in_frame.nd rfl (Or.inr rfl) (pe_op op_mul (pe_op op_mul (pv 2) (pe_int (i := ((2 : Nat) : Int)))) (pe_propD P_Net_node_count T.c_Net (hr.mono (by decide)) (pv 0))))
  (pss_one (ps_ret (pe_callTy (call_tupleK (K := K) (by rfl)) (by rfl) T.m_tuple (by decide +kernel) (pa_cons (by exact (pe_lc (own := [("literal", 4)]) (by rfl) sc_in_frame.nd (pi_tup (pv 1)) (blkOk_by (own := [("literal", 4)]) (N := ["net", "clause", "frame", "shift", "literal"]) (sc := defScope s_in_frame) (by decide +kernel)) (fun _ _ _ _ _ => by exact (pg_name (i := 4) sc_in_frame.nd rfl (Or.inl rfl))) (fun _ _ _ _ _ => by exact pts_nil) (fun _ _ _ _ _ => by exact (pe_op op_add (pv 4) (pv 3))))) pa_nil))))), ?_⟩)⟩
  case len => walk_at "ln"
  
  obtain ⟨p, a, n, c, fr, rfl, hn, hnn, ha, hc, q⟩ := h
  obtain ⟨dx, ll, la, h1, -, -⟩ := id hn
  walk_at "st"
  walk_at "go"
  refine g_rLcTI (bs := shiftC (fr * 2 * n.nn) c) ha (by omega) (List.length_map ..) (fun D i x b H' hD hx hb hS Qy hQ => ?_) (fun D H' hD hS hL => ?_)
  · unfold shiftC at hb
    rw [List.getElem?_map, hx] at hb
    cases hb
    refine g_name ?_
    refine ⟨rfl, ?_⟩
    walk_at "go"
    exact hQ _ (L2.Same.refl _)
  · walk_at "go"
    intro q' hq'
    exact q _ q' (by walk_at "ex") (by walk_at "nn") upd_same
def spFrameClauses (K : PySem.W.Frag) : Sp := fun vs H Q _ => ∃ p n f, vs = [.ref p, .int ((f : Nat) : Int)] ∧ NetAt K H p n ∧ n.nn ≤ 10000 ∧
  ∀ H' q, Same H H' → H q = none → LstAt H' q IsC (frameC n f) → Q (.ref q) H'
theorem ok_frame_clauses (F : FunD K "frame_clauses" "frame_clauses" (defArgs s_frame_clauses) (defBody s_frame_clauses) (defScope s_frame_clauses) [] [] f fd) (hm : mg "frame_clauses" = some (.ref f)) (T : Txt K mg) (P_Net_first_and : PropOk P w K mg base 1 (He.ga K "Net") "first_and" (spNetNat K NetD.fa)) (D_in_frame : DefOk P w K mg base 3 "in_frame" ["net", "clause", "frame"] (spInFrame K)) : DefOk P w K mg base 4 "frame_clauses" ["net", "frame"] (spFrameClauses K) := by
  refine ⟨f, fd, hm, F.kp, (FunD.bindsN (ps := ["net", "frame"]) F fun _ _ _ _ _ _ us hl => match us, hl with | [_, _], _ => rfl), fn_ok F sc_frame_clauses ?len (fun cdv A outer s H vs Q E hr h => ⟨_, (pss_cons (ps_set (i := 2) sc_frame_clauses.nd rfl (Or.inl rfl) (pe_lst (pa_cons (pe_tup (pa_cons (pe_int (i := ((1 : Nat) : Int))) pa_nil)) pa_nil)))
  (pss_cons (ps_for PassesOwn.never rfl (pi_enum (by rfl) T.m_enumerate (pa_cons (pe_f T.c_Net T.n_Net_ands (pv 0)) pa_nil)) (pg_tupK (K := K) (n := 2) (by rfl) (by rfl) (pgs_cons (pg_name (i := 3) sc_frame_clauses.nd rfl (Or.inl rfl)) (pgs_cons (pg_tupK (K := K) (n := 2) (by rfl) (by rfl) (pgs_cons (pg_name (i := 4) sc_frame_clauses.nd rfl (Or.inl rfl)) (pgs_cons (pg_name (i := 5) sc_frame_clauses.nd rfl (Or.inl rfl)) pgs_nil))) pgs_nil)))
  (pss_cons (ps_set (i := 6) sc_frame_clauses.nd rfl (Or.inl rfl) (pe_op op_mul (pe_int (i := ((2 : Nat) : Int))) (pe_op op_add (pe_propD P_Net_first_and T.c_Net (hr.mono (by decide)) (pv 0)) (pv 3))))
  (pss_cons (ps_expr (pe_bm PySem.F.plainAttrs_list PySem.F.slot_list_append PySem.F.type_list_append mt_append (pv 2) (pa_cons (pe_tup (pa_cons (pe_op op_add (pv 6) (pe_int (i := ((1 : Nat) : Int)))) (pa_cons (pv 4) pa_nil))) pa_nil)))
  (pss_cons (ps_expr (pe_bm PySem.F.plainAttrs_list PySem.F.slot_list_append PySem.F.type_list_append mt_append (pv 2) (pa_cons (pe_tup (pa_cons (pe_op op_add (pv 6) (pe_int (i := ((1 : Nat) : Int)))) (pa_cons (pv 5) pa_nil))) pa_nil)))
  (pss_one (ps_expr (pe_bm PySem.F.plainAttrs_list PySem.F.slot_list_append PySem.F.type_list_append mt_append (pv 2) (pa_cons (pe_tup (pa_cons (pv 6) (pa_cons (pe_op op_xor (pv 4) (pe_int (i := ((1 : Nat) : Int)))) (pa_cons (pe_op op_xor (pv 5) (pe_int (i := ((1 : Nat) : Int)))) pa_nil)))) pa_nil))))))))
  (pss_one (ps_ret (by exact (pe_lc (own := [("clause", 7)]) (by rfl) sc_frame_clauses.nd (pi_list (pv 2)) (blkOk_by (own := [("clause", 7)]) (N := ["net", "frame", "clauses", "index", "left", "right", "whole", "clause"]) (sc := defScope s_frame_clauses) (by decide +kernel)) (fun _ _ _ _ _ => by exact (pg_name (i := 7) sc_frame_clauses.nd rfl (Or.inl rfl))) (fun _ _ _ _ _ => by exact pts_nil) (fun _ _ _ _ _ => by exact (pe_callD D_in_frame (hr.mono (by decide)) (by rfl) (pa_cons (pv 0) (pa_cons (pv 7) (pa_cons (pv 1) pa_nil))))))))))), ?_⟩)⟩
  case len => walk_at "ln"
  
  obtain ⟨p, n, fr, rfl, hn, hnn, q⟩ := h
  obtain ⟨dx, ll, la, h1, -, ⟨va, h3, r3⟩⟩ := id hn
  walk_at "st"
  walk_at "go"
  rename_i t1 ht1 cl hcl
  have hc0 : H cl = none := by walk_at "nn"
  refine g_rForE (xs := va) (by walk_at "lk") (fun i σ H' => ∃ o1 o2 o3 o4, σ = [some (.ref p), some (.int (fr : Int)), some (.ref cl), o1, o2, o3, o4, none] ∧ Same H H' ∧ LstAt H' cl IsC ([1] :: andsC (2 * n.fa) (n.ands.take i)))
    ⟨_, _, _, _, rfl, by walk_at "ex", ?_⟩ ?_ ?_ ?_
  · exact ⟨_, upd_same, All2.snoc All2.nil ⟨t1, rfl, by walk_at "lk"⟩⟩
  · rintro i σ H' hi ⟨_, _, _, _, rfl, hS, hL⟩
    walk_at "lk"
  · rintro i x σ H' T' hx ⟨_, _, _, _, rfl, hS, hL⟩ hT
    obtain ⟨⟨l, r⟩, hp, a, rfl, ha⟩ := r3.2 i x hx
    walk_at "go"
    · refine ⟨_, _, _, _, rfl, by walk_at "ex", ?_⟩
      rw [take_snoc hp, andsC_snoc, take_len hp]
      rename_i hL3
      have e : 2 * n.fa + 2 * i = 2 * (n.fa + i) := by omega
      rw [e]
      simpa only [List.cons_append, List.append_assoc, List.nil_append] using hL3
    all_goals (simp only [List.length_append, List.length_cons, List.length_nil, andsC_len, take_len hp]; have := lt_of_get hp; unfold NetD.nn at hnn; omega)
  · rintro σ H' ⟨_, _, _, _, rfl, hS, ⟨vc, hc, rc⟩⟩
    rw [r3.1, List.take_length] at rc
    walk_at "go"
    have hl : vc.length = (baseC n).length := rc.1
    refine g_rLcLT (rep := IsC) (bs := frameC n fr) hc ?_ (by unfold frameC; rw [List.length_map, hl]) mono_C stab_C (fun D i x b H2 hD hx hb hS2 Qy hQ => ?_) (fun D H2 hD hS2 hL2 => ?_)
    · rw [hl, baseC_len]; unfold NetD.nn at hnn; omega
    · obtain ⟨c, hcb, a, rfl, ha⟩ := rc.2 i x hx
      have eb : b = shiftC (fr * 2 * n.nn) c := by
        have hcb' : (baseC n)[i]? = some c := hcb
        unfold frameC at hb
        rw [List.getElem?_map, hcb'] at hb
        cases hb; rfl
      subst eb
      walk_at "go"
      refine ⟨p, a, n, c, fr, rfl, by walk_at "na", by omega, by walk_at "lk", Nat.le_trans (baseC_short (List.mem_of_getElem? hcb)) (by omega), fun H3 q' hS3 hq' hr' => hQ _ H3 hS3 ⟨q', rfl, hr'⟩⟩
    · exact q H2 D (by walk_at "ex") (by walk_at "nn") hL2
def spNetClauses (K : PySem.W.Frag) (g : NetD → List (List Nat)) : Sp := fun vs H Q _ => ∃ p n, vs = [.ref p] ∧ NetAt K H p n ∧ n.nn ≤ 10000 ∧ (∀ l ∈ n.lat, l.1 ≤ 1) ∧
  ∀ H' q, Same H H' → H q = none → LstAt H' q IsC (g n) → Q (.ref q) H'
theorem ok_start_clauses (F : FunD K "start_clauses" "start_clauses" (defArgs s_start_clauses) (defBody s_start_clauses) (defScope s_start_clauses) [] [] f fd) (hm : mg "start_clauses" = some (.ref f)) (T : Txt K mg) (P_Net_first_latch : PropOk P w K mg base 1 (He.ga K "Net") "first_latch" (spNetNat K NetD.fl)) : DefOk P w K mg base 3 "start_clauses" ["net"] (spNetClauses K startC) := by
  refine ⟨f, fd, hm, F.kp, (FunD.bindsN (ps := ["net"]) F fun _ _ _ _ _ _ us hl => match us, hl with | [_], _ => rfl), fn_ok F sc_start_clauses ?len (fun cdv A outer s H vs Q E hr h => ⟨_, (pss_cons (ps_set (i := 1) sc_start_clauses.nd rfl (Or.inl rfl) (pe_lst pa_nil))
  (pss_cons (ps_for PassesOwn.never rfl (pi_enum (by rfl) T.m_enumerate (pa_cons (pe_f T.c_Net T.n_Net_latches (pv 0)) pa_nil)) (pg_tupK (K := K) (n := 2) (by rfl) (by rfl) (pgs_cons (pg_name (i := 2) sc_start_clauses.nd rfl (Or.inl rfl)) (pgs_cons (pg_tupK (K := K) (n := 2) (by rfl) (by rfl) (pgs_cons (pg_name (i := 3) sc_start_clauses.nd rfl (Or.inl rfl)) (pgs_cons (pg_name (i := 4) sc_start_clauses.nd rfl (Or.inl rfl)) pgs_nil))) pgs_nil)))
  (pss_one (ps_expr (pe_bm PySem.F.plainAttrs_list PySem.F.slot_list_append PySem.F.type_list_append mt_append (pv 1) (pa_cons (pe_tup (pa_cons (pe_op op_sub (pe_op op_add (pe_op op_mul (pe_int (i := ((2 : Nat) : Int))) (pe_op op_add (pe_propD P_Net_first_latch T.c_Net (hr.mono (by decide)) (pv 0)) (pv 2))) (pe_int (i := ((1 : Nat) : Int)))) (pv 3)) pa_nil)) pa_nil)))))
  (pss_one (ps_ret (pv 1))))), ?_⟩)⟩
  case len => walk_at "ln"
  
  obtain ⟨p, n, rfl, hn, hnn, hb, q⟩ := h
  obtain ⟨dx, ll, la, h1, ⟨vl, h2, r2⟩, -⟩ := id hn
  walk_at "st"
  walk_at "go"
  rename_i cl hcl
  refine g_rForE (xs := vl) (by walk_at "lk") (fun i σ H' => ∃ o1 o2 o3, σ = [some (.ref p), some (.ref cl), o1, o2, o3] ∧ Same H H' ∧ LstAt H' cl IsC (startsC (2 * n.fl) (n.lat.take i)))
    ⟨_, _, _, rfl, by walk_at "ex", ⟨[], upd_same, All2.nil⟩⟩ ?_ ?_ ?_
  · rintro i σ H' hi ⟨_, _, _, rfl, hS, hL⟩
    walk_at "lk"
  · rintro i x σ H' T' hx ⟨_, _, _, rfl, hS, hL⟩ hT
    obtain ⟨⟨s, l⟩, hp, a, rfl, ha⟩ := r2.2 i x hx
    have hs : s ≤ 1 := hb _ (List.mem_of_getElem? hp)
    walk_at "go"
    · refine ⟨_, _, _, rfl, by walk_at "ex", ?_⟩
      rename_i hL3
      rw [take_snoc hp, startsC_snoc, take_len hp]
      have e : 2 * n.fl + 2 * i = 2 * (n.fl + i) := by omega
      rw [e]
      exact hL3
    all_goals (rw [startsC_len, take_len hp]; have := lt_of_get hp; unfold NetD.nn at hnn; omega)
  · rintro σ H' ⟨_, _, _, rfl, hS, hL⟩
    rw [r2.1, List.take_length] at hL
    walk_at "go"
    exact q H' cl hS hcl hL
def spSame : Sp := fun vs H Q _ => ∃ x y : Nat, vs = [.int (x : Int), .int (y : Int)] ∧ ∀ H' q, Same H H' → H q = none → LstAt H' q IsC (sameC x y) → Q (.ref q) H'
theorem ok_same_clauses (F : FunD K "same_clauses" "same_clauses" (defArgs s_same_clauses) (defBody s_same_clauses) (defScope s_same_clauses) [] [] f fd) (hm : mg "same_clauses" = some (.ref f)) : DefOk P w K mg base 1 "same_clauses" ["x", "y"] spSame := by
  refine ⟨f, fd, hm, F.kp, (FunD.bindsN (ps := ["x", "y"]) F fun _ _ _ _ _ _ us hl => match us, hl with | [_, _], _ => rfl), fn_ok F sc_same_clauses ?len (fun cdv A outer s H vs Q E hr h => ⟨_, (pss_one (ps_ret (pe_lst (pa_cons (pe_tup (pa_cons (pe_op op_xor (pv 0) (pe_int (i := ((1 : Nat) : Int)))) (pa_cons (pv 1) pa_nil))) (pa_cons (pe_tup (pa_cons (pv 0) (pa_cons (pe_op op_xor (pv 1) (pe_int (i := ((1 : Nat) : Int)))) pa_nil))) pa_nil))))), ?_⟩)⟩
  case len => walk_at "ln"
  
  obtain ⟨x, y, rfl, q⟩ := h
  walk_at "st"
  walk_at "go"
  exact q _ _ (by walk_at "ex") (by walk_at "nn") ⟨_, upd_same, (All2.nil.snoc ⟨_, rfl, by walk_at "lk"⟩).snoc ⟨_, rfl, by walk_at "lk"⟩⟩
def spLinkClauses (K : PySem.W.Frag) : Sp := fun vs H Q _ => ∃ p n f, vs = [.ref p, .int ((f : Nat) : Int)] ∧ NetAt K H p n ∧ n.nn ≤ 10000 ∧ f ≤ 10 ∧
  ∀ H' q, Same H H' → H q = none → LstAt H' q IsC (linkC n f) → Q (.ref q) H'
theorem ok_link_clauses (F : FunD K "link_clauses" "link_clauses" (defArgs s_link_clauses) (defBody s_link_clauses) (defScope s_link_clauses) [] [] f fd) (hm : mg "link_clauses" = some (.ref f)) (T : Txt K mg) (P_Net_first_latch : PropOk P w K mg base 1 (He.ga K "Net") "first_latch" (spNetNat K NetD.fl)) (P_Net_node_count : PropOk P w K mg base 1 (He.ga K "Net") "node_count" (spNetNat K NetD.nn)) (D_same_clauses : DefOk P w K mg base 1 "same_clauses" ["x", "y"] spSame) : DefOk P w K mg base 3 "link_clauses" ["net", "frame"] (spLinkClauses K) := by
  refine ⟨f, fd, hm, F.kp, (FunD.bindsN (ps := ["net", "frame"]) F fun _ _ _ _ _ _ us hl => match us, hl with | [_, _], _ => rfl), fn_ok F sc_link_clauses ?len (fun cdv A outer s H vs Q E hr h => ⟨_, (pss_cons (ps_set (i := 2) sc_link_clauses.nd rfl (Or.inl rfl) (pe_lst pa_nil))
  (pss_cons (ps_set (i := 3) sc_link_clauses.nd rfl (Or.inl rfl) (pe_op op_mul (pe_int (i := ((2 : Nat) : Int))) (pe_propD P_Net_node_count T.c_Net (hr.mono (by decide)) (pv 0))))
  (pss_cons (ps_for PassesOwn.never rfl (pi_enum (by rfl) T.m_enumerate (pa_cons (pe_f T.c_Net T.n_Net_latches (pv 0)) pa_nil)) (pg_tupK (K := K) (n := 2) (by rfl) (by rfl) (pgs_cons (pg_name (i := 4) sc_link_clauses.nd rfl (Or.inl rfl)) (pgs_cons (pg_tupK (K := K) (n := 2) (by rfl) (by rfl) (pgs_cons (pg_name (i := 5) sc_link_clauses.nd rfl (Or.inl rfl)) (pgs_cons (pg_name (i := 6) sc_link_clauses.nd rfl (Or.inl rfl)) pgs_nil))) pgs_nil)))
  (pss_cons (ps_set (i := 7) sc_link_clauses.nd rfl (Or.inl rfl) (pe_op op_mul (pe_int (i := ((2 : Nat) : Int))) (pe_op op_add (pe_propD P_Net_first_latch T.c_Net (hr.mono (by decide)) (pv 0)) (pv 4))))
  (pss_one (ps_expr (pe_bm PySem.F.plainAttrs_list PySem.F.slot_list_extend PySem.F.type_list_extend mt_extend (pv 2) (pa_cons (pe_callD D_same_clauses (hr.mono (by decide)) (by rfl) (pa_cons (pe_op op_add (pv 7) (pe_op op_mul (pe_op op_add (pv 1) (pe_int (i := ((1 : Nat) : Int)))) (pv 3))) (pa_cons (pe_op op_add (pv 6) (pe_op op_mul (pv 1) (pv 3))) pa_nil))) pa_nil))))))
  (pss_one (ps_ret (pv 2)))))), ?_⟩)⟩
  case len => walk_at "ln"
  
  obtain ⟨p, n, fr, rfl, hn, hnn, hf, q⟩ := h
  obtain ⟨dx, ll, la, h1, ⟨vl, h2, r2⟩, -⟩ := id hn
  walk_at "st"
  walk_at "go"
  rename_i cl hcl
  refine g_rForE (xs := vl) (by walk_at "lk") (fun i σ H' => ∃ o1 o2 o3 o4, σ = [some (.ref p), some (.int (fr : Int)), some (.ref cl), some (.int ((2 * n.nn : Nat) : Int)), o1, o2, o3, o4] ∧ Same H H' ∧ LstAt H' cl IsC (linksC (2 * n.fl) ((fr + 1) * (2 * n.nn)) (fr * (2 * n.nn)) (n.lat.take i)))
    ⟨_, _, _, _, rfl, by walk_at "ex", ⟨[], upd_same, All2.nil⟩⟩ ?_ ?_ ?_
  · rintro i σ H' hi ⟨_, _, _, _, rfl, hS, hL⟩
    walk_at "lk"
  · rintro i x σ H' T' hx ⟨_, _, _, _, rfl, hS, hL⟩ hT
    obtain ⟨⟨s, l⟩, hp, a, rfl, ha⟩ := r2.2 i x hx
    walk_at "go"
    · refine ⟨_, _, rfl, fun H2 b hS2 hb hL2 => ?_⟩
      walk_at "go"
      · refine ⟨_, _, _, _, rfl, by walk_at "ex", ?_⟩
        rename_i hL3
        rw [take_snoc hp, linksC_snoc, take_len hp]
        have e : 2 * n.fl + 2 * i = 2 * (n.fl + i) := by omega
        rw [e]
        exact hL3
      all_goals (rw [linksC_len, take_len hp]; have := lt_of_get hp; unfold NetD.nn at hnn; show _ + 2 ≤ _; omega)
    all_goals omega
  · rintro σ H' ⟨_, _, _, _, rfl, hS, hL⟩
    rw [r2.1, List.take_length] at hL
    walk_at "go"
    exact q H' cl hS hcl hL
end
end
section
/-! part SgIc -/
set_option Elab.async false
set_option maxRecDepth 100000
set_option linter.unusedVariables false
set_option maxHeartbeats 1000000
open PySem PySem.Spec PyProof.Rows L2


local macro_rules | `(tactic| walk_at "na") => `(tactic| first | assumption | (refine NetAt.mono (H := ?na_H) ?na_s ?na_e; (case na_e => assumption); (case na_s => walk_at "ex")))
local macro_rules | `(tactic| walk_at "gs") => `(tactic| first | (with_reducible refine g_netnat (n := ?go_n) ?go_h ?_; (case go_h => walk_at "na")) | ((with_reducible show spFromL _ _ _ _ _); (refine' g_fromL (c := ?go_c) (d := ?go_d) ?go_h ?go_j ?_); (case go_h => walk_at "lk"); (case go_j => assumption)) | ((with_reducible show spFromR _ _ _ _ _); (refine' g_fromR (c := ?go_c) (d := ?go_d) ?go_h ?go_j ?_); (case go_h => walk_at "lk"); (case go_j => assumption)))
section
variable {P : Program} {w : World} {K : PySem.W.Frag} {mg : Str → Option Value} {base : Heap} {f pr : Addr} {fd : FuncData}
def certD (c d : Cir Str) (imgs : List (Option Nat)) : Crt := ⟨certC c d imgs c.fl c.lat.length, [], certC c d imgs c.fa c.ands.length, []⟩
def spImageCert (K : PySem.W.Frag) : Sp := fun vs H Q _ => ∃ (a b im ed : Addr) (c d : Cir Str) (imgs : List (Option Nat)), vs = [.ref a, .ref b, .ref im, .ref ed] ∧ CirAt K H a c ∧ CirAt K H b d ∧ LstAt H im IsON imgs ∧ H ed = some (.dK []) ∧ JoinOk c d ∧ imgs.length = c.nn ∧
  ∀ H' q, Same H H' → H q = none → CrtAt K H' q (certD c d imgs) → Q (.ref q) H'
theorem ok_image_certificate (F : FunD K "image_certificate" "image_certificate" (defArgs s_image_certificate) (defBody s_image_certificate) (defScope s_image_certificate) [] [] f fd) (hm : mg "image_certificate" = some (.ref f)) (T : Txt K mg) (I_Joined : InitOk P w K mg base 3 "Joined" (He.ga K "Joined") ["self", "left", "right"] (spJoinInit K)) (M_Circuit_as_net : MethOk P w K mg base 3 (He.ga K "Circuit") "as_net" ["self"] (spAsNet K)) (P_Net_first_latch : PropOk P w K mg base 1 (He.ga K "Net") "first_latch" (spNetNat K NetD.fl)) (P_Net_first_and : PropOk P w K mg base 1 (He.ga K "Net") "first_and" (spNetNat K NetD.fa)) (P_Net_node_count : PropOk P w K mg base 1 (He.ga K "Net") "node_count" (spNetNat K NetD.nn)) (M_Joined_from_left : MethOk P w K mg base 1 (He.ga K "Joined") "from_left" ["self", "literal"] (spFromL K)) (M_Joined_from_right : MethOk P w K mg base 1 (He.ga K "Joined") "from_right" ["self", "literal"] (spFromR K)) (D_same_clauses : DefOk P w K mg base 1 "same_clauses" ["x", "y"] spSame) (I_AlikeCertificate : InitOk P w K mg base 1 "AlikeCertificate" (He.ga K "AlikeCertificate") ["self", "facts", "start_lines", "lines", "next_lines"] (spCrtInit K)) : DefOk P w K mg base 5 "image_certificate" ["before", "after", "images", "extra"] (spImageCert K) := by
  refine ⟨f, fd, hm, F.kp, (FunD.bindsN (ps := ["before", "after", "images", "extra"]) F fun _ _ _ _ _ _ us hl => match us, hl with | [_, _, _, _], _ => rfl), fn_ok F sc_image_certificate ?len (fun cdv A outer s H vs Q E hr h => ⟨_, (pss_cons (ps_set (i := 4) sc_image_certificate.nd rfl (Or.inl rfl) (pe_makeD I_Joined (hr.mono (by decide)) (by rfl) (pa_cons (pv 0) (pa_cons (pv 1) pa_nil))))
  (pss_cons (ps_set (i := 5) sc_image_certificate.nd rfl (Or.inl rfl) (pe_meth0D M_Circuit_as_net T.c_Circuit (hr.mono (by decide)) (pv 0)))
  (pss_cons (ps_set (i := 6) sc_image_certificate.nd rfl (Or.inl rfl) (pe_lst pa_nil))
  (pss_cons (ps_set (i := 7) sc_image_certificate.nd rfl (Or.inl rfl) (pe_lst pa_nil))
  (pss_cons (ps_for PassesOwn.never rfl (pi_range2 (by rfl) T.m_range (pa_cons (pe_propD P_Net_first_latch T.c_Net (hr.mono (by decide)) (pv 5)) (pa_cons (pe_propD P_Net_node_count T.c_Net (hr.mono (by decide)) (pv 5)) pa_nil))) (pg_name (i := 8) sc_image_certificate.nd rfl (Or.inl rfl))
  (pss_one (ps_if (pt_cmpR op_notN' (pe_ix (ix_listK (K := K) (by rfl)) (pv 2) (pv 8) (fun _ _ => rfl)) pe_non (nomark _)) (pss_cons (ps_set (i := 9) sc_image_certificate.nd rfl (Or.inl rfl) (pe_callD D_same_clauses (hr.mono (by decide)) (by rfl) (pa_cons (pe_methD M_Joined_from_left T.c_Joined (hr.mono (by decide)) (pv 4) (pa_cons (pe_op op_mul (pe_int (i := ((2 : Nat) : Int))) (pv 8)) pa_nil)) (pa_cons (pe_methD M_Joined_from_right T.c_Joined (hr.mono (by decide)) (pv 4) (pa_cons (pe_ix (ix_listK (K := K) (by rfl)) (pv 2) (pv 8) (fun _ _ => rfl)) pa_nil)) pa_nil))))
  (pss_one (ps_if (pt_cmpR op_lt (pv 8) (pe_propD P_Net_first_and T.c_Net (hr.mono (by decide)) (pv 5)) (nomark _)) (pss_one (ps_expr (pe_bm PySem.F.plainAttrs_list PySem.F.slot_list_extend PySem.F.type_list_extend mt_extend (pv 6) (pa_cons (pv 9) pa_nil)))) (pss_cons (ps_expr (pe_bm PySem.F.plainAttrs_list PySem.F.slot_list_extend PySem.F.type_list_extend mt_extend (pv 7) (pa_cons (pe_dget2 (hu_of hr) (pv 3) (pv 8) (pe_lst pa_nil) ⟨by rfl, by rfl, by rfl, by rfl⟩) pa_nil)))
  (pss_one (ps_expr (pe_bm PySem.F.plainAttrs_list PySem.F.slot_list_extend PySem.F.type_list_extend mt_extend (pv 7) (pa_cons (pv 9) pa_nil)))))))) pss_nil)))
  (pss_one (ps_ret (pe_makeD I_AlikeCertificate (hr.mono (by decide)) (by rfl) (pa_cons (pv 6) (pa_cons (pe_lst pa_nil) (pa_cons (pv 7) (pa_cons (pe_lst pa_nil) pa_nil)))))))))))), ?_⟩)⟩
  case len => walk_at "ln"
  
  obtain ⟨a, b, im, ed, c, d, imgs, rfl, hA, hB, hi, he, hk, hn, q⟩ := h
  obtain ⟨vi, ei, ri⟩ := id hi
  walk_at "st"
  walk_at "go"
  intro j jd hj hjd hne
  refine ⟨j, jd, a, b, c, d, H, rfl, upd_same, hj, by walk_at "ex", hA, hB, hk, fun H1 hS1 hJ => ⟨rfl, ?_⟩⟩
  obtain ⟨cx, li, l2, la, lo, h1, _⟩ := hA.mono hS1
  walk_at "go"
  refine ⟨a, c, rfl, hA.mono hS1, hk.z2, fun H2 nt hS2 hnt hN => ?_⟩
  have s2 := L2.Same.trans hS1 hS2
  obtain ⟨nx, nl1, nl2, n1, _⟩ := id hN
  obtain ⟨jx, fs, jn, lg, j1, hj0, _⟩ := hJ.mono hS2
  have hj1 := hj0.2.2.2.2.2.2.1
  have hj2 := hj0.2.2.2.2.2.2.2
  walk_at "go"
  rename_i lf hlf ll hll
  have zll : H2 ll = none := Same.free (Same.new hlf) hll
  have nfl : lf ≠ ll := (ne_new upd_same hll).symm
  have e1 : c.net.fl = c.fl := rfl
  have e2 : c.net.fa = c.fa := by
    unfold NetD.fa Cir.fa
    show 1 + c.ins.length + (c.lat.map _).length = _
    rw [List.length_map]
  have e3 : c.net.nn = c.fl + (c.lat.length + c.ands.length) := by
    unfold NetD.nn Cir.fl
    show 1 + c.ins.length + (c.lat.map _).length + c.ands.length = _
    rw [List.length_map]; omega
  have z := hk.z1
  have z' := hk.z2
  have z'' := hk.z4
  have hcn : c.nn = c.fl + (c.lat.length + c.ands.length) := by unfold Cir.nn Cir.fl; omega
  have hfa : c.fa = c.fl + c.lat.length := rfl
  rw [e1]
  refine g_rForR2 (n := c.lat.length + c.ands.length) (by rw [e3]; unfold Cir.fl; omega) e3 (fun i σ H' => ∃ o1 o2, σ = [some (.ref a), some (.ref b), some (.ref im), some (.ref ed), some (.ref j), some (.ref nt), some (.ref lf), some (.ref ll), o1, o2] ∧ Same H2 H' ∧ LstAt H' lf IsC (certC c d imgs c.fl (min i c.lat.length)) ∧ LstAt H' ll IsC (certC c d imgs c.fa (i - c.lat.length)))
    ⟨_, _, rfl, by walk_at "ex", ⟨[], lk_new hll upd_same, by rw [Nat.zero_min]; exact All2.nil⟩, ⟨[], upd_same, by rw [Nat.zero_sub]; exact All2.nil⟩⟩ ?_ ?_
  · rintro i σ H' hin ⟨_, _, rfl, hS, hF, hL⟩
    have s' := L2.Same.trans s2 hS
    have hlt : c.fl + i < imgs.length := by omega
    obtain ⟨v, hv, ev⟩ := ri.get (List.getElem?_eq_getElem hlt)
    have himg : imgs[c.fl + i]? = some imgs[c.fl + i] := List.getElem?_eq_getElem hlt
    generalize imgs[c.fl + i] = iv at *
    walk_at "go"
    refine g_ixL (s' _ _ ei) hv ?_
    have eF : i < c.lat.length → certC c d imgs c.fl (min (i + 1) c.lat.length) = certC c d imgs c.fl (min i c.lat.length) ++ certL c d imgs (c.fl + i) := fun h => by
      rw [Nat.min_eq_left (by omega), Nat.min_eq_left (by omega)]; rfl
    have eF' : ¬ i < c.lat.length → certC c d imgs c.fl (min (i + 1) c.lat.length) = certC c d imgs c.fl (min i c.lat.length) := fun h => by
      rw [Nat.min_eq_right (by omega), Nat.min_eq_right (by omega)]
    have eL : i < c.lat.length → certC c d imgs c.fa (i + 1 - c.lat.length) = certC c d imgs c.fa (i - c.lat.length) := fun h => by
      rw [show i + 1 - c.lat.length = 0 by omega, show i - c.lat.length = 0 by omega]
    have eL' : ¬ i < c.lat.length → certC c d imgs c.fa (i + 1 - c.lat.length) = certC c d imgs c.fa (i - c.lat.length) ++ certL c d imgs (c.fl + i) := fun h => by
      rw [show i + 1 - c.lat.length = (i - c.lat.length) + 1 by omega]
      show _ ++ certL c d imgs (c.fa + (i - c.lat.length)) = _
      rw [hfa, show c.fl + c.lat.length + (i - c.lat.length) = c.fl + i by omega]
    cases iv with
    | none =>
      cases ev
      walk_at "go"
      have ec : certL c d imgs (c.fl + i) = [] := by unfold certL; rw [himg]
      rw [ec] at eF eL'
      refine ⟨_, _, rfl, hS, ?_, ?_⟩
      · by_cases h : i < c.lat.length
        · rw [eF h, List.append_nil]; exact hF
        · rw [eF' h]; exact hF
      · by_cases h : i < c.lat.length
        · rw [eL h]; exact hL
        · rw [eL' h, List.append_nil]; exact hL
    | some y =>
      cases ev
      have ec : certL c d imgs (c.fl + i) = sameC (fromL c d (2 * (c.fl + i))) (fromR c d y) := by unfold certL; rw [himg]
      walk_at "go"
      refine g_ixL (s' _ _ ei) hv ?_
      walk_at "go"
      refine ⟨_, _, rfl, fun H3 sl hS3 hsl hL3 => ?_⟩
      have hF3 := hF.mono mono_C hS3
      have hL4 := hL.mono mono_C hS3
      have s3 := L2.Same.trans hS hS3
      walk_at "go"
      rw [e2]
      rw [ec] at eF eL'
      have nFs : lf ≠ sl := by obtain ⟨_, e, _⟩ := hF; exact (ne_of_none e hsl)
      refine br (fun hlt' => ?_) (fun hge => ?_)
      · have h : i < c.lat.length := by omega
        walk_at "go"
        case z => have := certC_len c d imgs c.fl (min i c.lat.length); show _ + 2 ≤ _; omega
        rename_i H4 k4 hL5
        refine ⟨_, _, rfl, Same.keep k4 s3 (by walk_at "nn"), by rw [eF h]; exact hL5, ?_⟩
        rw [eL h]
        exact LstAt.keepL to_C k4 hF3 nfl.symm hL4
      · have h : ¬ i < c.lat.length := by omega
        have s3' := L2.Same.trans s2 s3
        walk_at "go"
        rename_i ln hln
        refine g_rDGetO (lk_new hln (s3' _ _ he)) rfl ?_
        have hL6 := hL4.mono mono_C (Same.new (o := .lst []) hln)
        have hnew : LstAt (upd H3 ln (.lst [])) ln IsC [] := ⟨[], upd_same, All2.nil⟩
        have hL7 := hL3.mono mono_C (Same.new (o := .lst []) hln)
        have hF7 := hF3.mono mono_C (Same.new (o := .lst []) hln)
        have s7 : Same H2 (upd H3 ln (.lst [])) := L2.Same.trans s3 (Same.new hln)
        have nsl : sl ≠ ll := by obtain ⟨_, e, _⟩ := hL; exact (ne_of_none e hsl).symm
        refine g_nil ?_
        refine g_extendR (R := IsC) hL6 hnew stab_C (by have := certC_len c d imgs c.fa (i - c.lat.length); show _ + 0 ≤ _; omega) (fun H8 k8 hL8 => ?_)
        have hF8 := LstAt.keepL to_C k8 hL6 nfl hF7
        have hs8 := LstAt.keepL to_C k8 hL6 nsl hL7
        have s8 := Same.keep k8 s7 zll
        rw [List.append_nil] at hL8
        walk_at "go"
        case z => have := certC_len c d imgs c.fa (i - c.lat.length); show _ + 2 ≤ _; omega
        rename_i H9 k9 hL9
        refine ⟨_, _, rfl, Same.keep k9 s8 zll, ?_, by rw [eL' h]; exact hL9⟩
        rw [eF' h]
        exact LstAt.keepL to_C k9 hL8 nfl hF8
  · rintro σ H' ⟨_, _, rfl, hS, hF, hL⟩
    have s' := L2.Same.trans s2 hS
    rw [Nat.min_eq_right (Nat.le_add_right _ _)] at hF
    rw [Nat.add_sub_cancel_left] at hL
    walk_at "go"
    rename_i la1 hla1 la2 hla2
    intro x xd hx hxd hne
    have sA : Same H' (upd (upd H' la1 (.lst [])) la2 (.lst [])) := L2.Same.trans (Same.new hla1) (Same.new hla2)
    refine ⟨x, xd, lf, la1, ll, la2, certD c d imgs, _, rfl, upd_same, hx, L2.Same.trans (Same.new hxd) (Same.new (by rw [upd_ne (fun e => hne e.symm)]; exact hx)), hF.mono mono_C sA, ⟨[], lk_new hla2 upd_same, All2.nil⟩, hL.mono mono_C sA, ⟨[], upd_same, All2.nil⟩, ?_, Nat.zero_le _, ?_, Nat.zero_le _, fun H6 hS6 hC => ⟨rfl, ?_⟩⟩
    · have := certC_len c d imgs c.fl c.lat.length
      show (certC _ _ _ _ _).length ≤ _
      omega
    · have := certC_len c d imgs c.fa c.ands.length
      show (certC _ _ _ _ _).length ≤ _
      omega
    · exact q H6 x (L2.Same.trans s' (L2.Same.trans sA hS6)) (Same.free (L2.Same.trans s' sA) hx) hC
end
end
section
/-! part SgUn -/
set_option Elab.async false
set_option maxRecDepth 100000
set_option linter.unusedVariables false
set_option maxHeartbeats 1000000
open PySem PySem.Spec PyProof.Rows L2


section
variable {P : Program} {w : World} {K : PySem.W.Frag} {mg : Str → Option Value} {base : Heap} {f pr : Addr} {fd : FuncData}
def Keep2 (l m : Addr) (H H' : Hp) : Prop := ∀ a u, a ≠ l → a ≠ m → H a = some u → H' a = some u
/-- unit propagation's settle -/
def spSettle (K : PySem.W.Frag) : Sp := fun vs H Q _ => ∃ (p dx cl hd sh a kd ql : Addr) (i : Nat) (kv : List V) (ks known : List Nat), vs = [.ref p, .int (i : Int), .ref kd, .ref ql] ∧ H p = some (.ins (He.ga K "Units") dx (F_Units (.ref cl) (.ref hd) (.ref sh))) ∧
  H cl = some (.lst kv) ∧ kv[i]? = some (.ref a) ∧ H a = some (.lst (nums ks)) ∧ ks.Nodup ∧ H kd = some (.dK (mkD (inK known))) ∧ H ql = some (.lst (nums known)) ∧ known.length < 100000 ∧
  ∀ res known' H', SettleR ks known res known' → Keep2 kd ql H H' → H' kd = some (.dK (mkD (inK known'))) → H' ql = some (.lst (nums known')) → Q (.bl res) H'
theorem ok_settle (F : FunD K "settle" "Units.settle" (defArgs s_Units_settle) (defBody s_Units_settle) (defScope s_Units_settle) [] [] f fd) (hm : Meth K (He.ga K "Units") "settle" f) (T : Txt K mg) : MethOk P w K mg base 1 (He.ga K "Units") "settle" ["self", "index", "known", "queue"] (spSettle K) := by
  refine ⟨f, fd, hm, (FunD.bindsN (ps := ["self", "index", "known", "queue"]) F fun _ _ _ _ _ _ us hl => match us, hl with | [_, _, _, _], _ => rfl), fn_ok F sc_Units_settle ?len (fun cdv A outer s H vs Q E hr h => ⟨_, (pss_cons (ps_set (i := 4) sc_Units_settle.nd rfl (Or.inl rfl) (pe_un un_neg (pe_int (i := ((1 : Nat) : Int)))))
  (pss_cons (ps_for PassesOwn.never rfl (pi_list (pe_ix (ix_listK (K := K) (by rfl)) (pe_f T.c_Units T.n_Units_clauses (pv 0)) (pv 1) (fun _ _ => rfl))) (pg_name (i := 5) sc_Units_settle.nd rfl (Or.inl rfl))
  (pss_cons (ps_if (pt_cmp (pc_din (hu_of hr) (pv 5) (pv 2)) (by rfl)) (pss_one (ps_ret pe_bl)) pss_nil)
  (pss_one (ps_if (pt_cmp (pc_dnotin (hu_of hr) (pe_op op_xor (pv 5) (pe_int (i := ((1 : Nat) : Int)))) (pv 2)) (by rfl)) (pss_cons (ps_if (pt_cmpR op_ge (pv 4) (pe_int (i := ((0 : Nat) : Int))) (nomark _)) (pss_one (ps_ret pe_bl)) pss_nil)
  (pss_one (ps_set (i := 4) sc_Units_settle.nd rfl (Or.inl rfl) (pv 5)))) pss_nil))))
  (pss_cons (ps_if (pt_cmpR op_lt (pv 4) (pe_int (i := ((0 : Nat) : Int))) (nomark _)) (pss_one (ps_ret pe_bl)) pss_nil)
  (pss_cons (ps_dput (hu_of hr) (pv 2) (pv 4) pe_bl (by rfl))
  (pss_cons (ps_expr (pe_bm PySem.F.plainAttrs_list PySem.F.slot_list_append PySem.F.type_list_append mt_append (pv 3) (pa_cons (pv 4) pa_nil)))
  (pss_one (ps_ret pe_bl))))))), ?_⟩)⟩
  case len => walk_at "ln"
  
  obtain ⟨p, dx, cl, hd, sh, a, kd, ql, i0, kv, ks, known, rfl, hp, hc, hi, ha, hn, hk, hq, hl, q⟩ := h
  walk_at "st"
  walk_at "go"
  refine g_ixL hc hi ?_
  refine g_rForL (xs := nums ks) ha (fun i σ H' => H' = H ∧ ∃ o o5, ScanI ks known i o ∧ σ = [some (.ref p), some (.int (i0 : Int)), some (.ref kd), some (.ref ql), some (.int (fVal o)), o5]) ⟨rfl, none, _, ScanI.zero ks known, rfl⟩ ?_ ?_ ?_
  · rintro i σ H' hi ⟨rfl, _⟩
    exact ha
  · rintro i v σ H' hv ⟨rfl, o, _, hs, rfl⟩
    obtain ⟨x, hx, rfl⟩ := nums_of hv
    walk_at "go"
    refine br (fun h1 => ?_) (fun h1 => ?_)
    · walk_at "go"
      exact q true known H' (.inr (.inl ⟨rfl, rfl, .inl ⟨x, List.mem_of_getElem? hx, h1⟩⟩)) (fun _ _ _ _ e => e) hk hq
    walk_at "go"
    refine brn (fun h2 => ?_) (fun h2 => ?_)
    · cases o with
      | none =>
        walk_at "go"
        refine g_I0 ?_
        walk_at "go"
        refine br_f (by show ¬ ((0 : Nat) : Int) ≤ (-1 : Int); decide) ?_
        walk_at "go"
        refine ⟨rfl, some x, _, hs.free hx h1 h2, rfl⟩
      | some z =>
        walk_at "go"
        refine g_I0 ?_
        walk_at "go"
        refine br_t (by show ((0 : Nat) : Int) ≤ (z : Int); omega) ?_
        walk_at "go"
        exact q true known H' (.inr (.inl ⟨rfl, rfl, hs.two hn hx h2⟩)) (fun _ _ _ _ e => e) hk hq
    · walk_at "go"
      exact ⟨rfl, o, _, hs.false hx h1 h2, rfl⟩
  · rintro σ H' ⟨rfl, o, _, hs, rfl⟩
    rw [nums_len] at hs
    have he := hs.end
    walk_at "go"
    cases o with
    | none =>
      refine g_I0 ?_
      walk_at "go"
      refine br_t (by show (-1 : Int) < ((0 : Nat) : Int); decide) ?_
      walk_at "go"
      exact q false known H' (.inl ⟨rfl, rfl, he⟩) (fun _ _ _ _ e => e) hk hq
    | some z =>
      obtain ⟨e1, e2, e3, e4⟩ := he
      refine g_I0 ?_
      walk_at "go"
      refine br_f (by show ¬ (z : Int) < ((0 : Nat) : Int); omega) ?_
      walk_at "go"
      refine g_rDPutI hk e2 hl ?_
      have nq : ql ≠ kd := ne_of hq hk (fun e => nomatch e)
      walk_at "go"
      refine g_append (lk_ne nq hq) (by rw [nums_len]; exact Nat.lt_of_lt_of_le hl (by decide)) ?_
      walk_at "go"
      refine q true (known ++ [z]) _ (.inr (.inr ⟨z, rfl, rfl, e1, e2, e3, e4⟩)) (fun b u n1 n2 e => lk_ne n2 (lk_ne n1 e)) (lk_ne nq.symm upd_same) ?_
      rw [nums_append]
      exact upd_same
end
end
section
/-! part SgUn2 -/
set_option Elab.async false
set_option maxRecDepth 100000
set_option linter.unusedVariables false
set_option maxHeartbeats 1000000
open PySem PySem.Spec PyProof.Rows L2


section
variable {P : Program} {w : World} {K : PySem.W.Frag} {mg : Str → Option Value} {base : Heap} {f pr : Addr} {fd : FuncData}
theorem Keep2.refl {l m : Addr} {H : Hp} : Keep2 l m H H := fun _ _ _ _ e => e
theorem Same.keep2 {l m : Addr} {H0 H H' : Hp} (k : Keep2 l m H H') (e : Same H0 H) (h : H0 l = none) (h' : H0 m = none) : Same H0 H' := fun a u ha => k a u (ne_of_none ha h) (ne_of_none ha h') (e a u ha)
/-- the clauses kept, the places by literal, the short ones -/
def UnRd (K : PySem.W.Frag) (H : Hp) (p : Addr) (kept : List (List Nat)) : Prop := ∃ (dx cl hd sh : Addr) (kv : List V) (kvs : List (L2.Key × V)) (ss : List Nat), H p = some (.ins (He.ga K "Units") dx (F_Units (.ref cl) (.ref hd) (.ref sh))) ∧
  H cl = some (.lst kv) ∧ kv.length = kept.length ∧ (∀ (i : Nat) (ks : List Nat), kept[i]? = some ks → ∃ a : Addr, kv[i]? = some (V.ref a) ∧ H a = some (.lst (nums ks))) ∧ H hd = some (.dK kvs) ∧
  (∀ l : Nat, (valV kvs (.inl (l : Int)) = none ∧ ∀ ks ∈ kept, ¬ l ∈ ks) ∨ ∃ a is, valV kvs (.inl (l : Int)) = some (.ref a) ∧ H a = some (.lst (nums is)) ∧ ∀ i, i ∈ is ↔ ∃ ks, kept[i]? = some ks ∧ l ∈ ks) ∧
  H sh = some (.lst (nums ss)) ∧ ∀ i, i ∈ ss ↔ ∃ ks, kept[i]? = some ks ∧ ks.length < 2
theorem UnRd.mono {H H' : Hp} {p : Addr} {kept : List (List Nat)} (s : Same H H') (h : UnRd K H p kept) : UnRd K H' p kept := by
  obtain ⟨dx, cl, hd, sh, kv, kvs, ss, h1, h2, h3, h4, h5, h6, h7, h8⟩ := h
  refine ⟨dx, cl, hd, sh, kv, kvs, ss, s _ _ h1, s _ _ h2, h3, fun i ks e => ?_, s _ _ h5, fun l => ?_, s _ _ h7, h8⟩
  · obtain ⟨a, e1, e2⟩ := h4 i ks e
    exact ⟨a, e1, s _ _ e2⟩
  · rcases h6 l with h | ⟨a, is, e1, e2, e3⟩
    · exact .inl h
    · exact .inr ⟨a, is, e1, s _ _ e2, e3⟩
structure KeptOk (kept : List (List Nat)) (L : Nat) : Prop where
  nd : ∀ c ∈ kept, c.Nodup
  lt : ∀ c ∈ kept, ∀ x ∈ c, x < L
def SpI (kept : List (List Nat)) (L : Nat) (K : List Nat) : Prop := K.Nodup ∧ (∀ x ∈ K, x < L) ∧ Con (· ∈ K)
theorem SpI.len {kept : List (List Nat)} {L : Nat} {K : List Nat} (h : SpI kept L K) : K.length ≤ L := nodup_len L K h.1 h.2.1
theorem SpI.add {kept : List (List Nat)} {L x : Nat} {K : List Nat} (h : SpI kept L K) (hx : x < L) (h1 : ¬ x ∈ K) (h2 : ¬ neg x ∈ K) : SpI kept L (K ++ [x]) := by
  obtain ⟨a, b, c⟩ := h
  refine ⟨List.nodup_append.mpr ⟨a, List.nodup_cons.mpr ⟨(fun h => by cases h), List.nodup_nil⟩, fun y hy z hz e => ?_⟩, fun y hy => ?_, fun y hy hy' => ?_⟩
  · rw [List.mem_singleton] at hz
    exact h1 (by rw [← hz, ← e]; exact hy)
  · rcases List.mem_append.mp hy with hy | hy
    · exact b y hy
    · rw [List.mem_singleton.mp hy]; exact hx
  · rcases List.mem_append.mp hy with hy | hy
    · rcases List.mem_append.mp hy' with hy' | hy'
      · exact c y hy hy'
      · have e := List.mem_singleton.mp hy'
        exact h2 (by rw [← e, neg_neg]; exact hy)
    · have e := List.mem_singleton.mp hy
      rcases List.mem_append.mp hy' with hy' | hy'
      · exact h2 (by rw [← e]; exact hy')
      · exact neg_ne y ((List.mem_singleton.mp hy').trans e.symm)
/-- what a settle that answers True leaves -/
theorem SettleR.step {kept : List (List Nat)} {L : Nat} {ks K K' : List Nat} (h : SettleR ks K true K') (hk : KeptOk kept L) (hm : ks ∈ kept) (hi : SpI kept L K) : SpI kept L K' ∧ (∀ x ∈ K, x ∈ K') ∧ (∀ n, n ≤ K.length → OkAt ks K' n) ∧ (ks.length < 2 → ∃ x ∈ ks, x ∈ K') ∧ (∀ c n, n ≤ K.length → OkAt c K n → OkAt c K' n) ∧ ∃ t, K' = K ++ t := by
  rcases h with ⟨e, _⟩ | ⟨_, rfl, h⟩ | ⟨x, _, rfl, h1, h2, h3, h4⟩
  · cases e
  · exact ⟨hi, fun _ h => h, fun n _ => h.at n, fun hl => h.short hl, fun _ _ _ h => h, [], (List.append_nil _).symm⟩
  · have hx : x ∈ K ++ [x] := List.mem_append_right _ (List.mem_singleton_self x)
    exact ⟨hi.add (hk.lt _ hm _ h1) h2 h3, fun y hy => List.mem_append_left _ hy, fun n _ => .inl ⟨x, h1, hx⟩, fun _ => ⟨x, h1, hx⟩, fun c n hn h => h.grow hn x, [x], rfl⟩
structure SpJ (kept : List (List Nat)) (L : Nat) (lits K : List Nat) (at' : Nat) : Prop where
  i : SpI kept L K
  l : ∀ x ∈ lits, x ∈ K
  s : ∀ c ∈ kept, c.length < 2 → ∃ x ∈ c, x ∈ K
  d : ∀ J z, J < at' → K[J]? = some z → ∀ c ∈ kept, neg z ∈ c → OkAt c K (J + 1)
theorem SpJ.step {kept : List (List Nat)} {L at' : Nat} {lits ks K K' : List Nat} (j : SpJ kept L lits K at') (ha : at' ≤ K.length) (h : SettleR ks K true K') (hk : KeptOk kept L) (hm : ks ∈ kept) : SpJ kept L lits K' at' := by
  obtain ⟨r1, r2, r3, r4, r5, t, rfl⟩ := h.step hk hm j.i
  refine ⟨r1, fun x hx => r2 x (j.l x hx), fun c hc hl => ?_, fun J z hJ hz c hc hm => ?_⟩
  · obtain ⟨x, x1, x2⟩ := j.s c hc hl
    exact ⟨x, x1, r2 x x2⟩
  · rw [List.getElem?_append_left (by omega)] at hz
    exact r5 c _ (by omega) (j.d J z hJ hz c hc hm)
def spSpread (K : PySem.W.Frag) : Sp := fun vs H Q _ => ∃ (p a : Addr) (kept : List (List Nat)) (lits : List Nat) (L : Nat), vs = [.ref p, .ref a] ∧ UnRd K H p kept ∧ H a = some (.lst (nums lits)) ∧ KeptOk kept L ∧ (∀ x ∈ lits, x < L) ∧ L ≤ 50000 ∧ FolN kept lits ∧
  ∀ H' q l, Same H H' → H' q = some (.tup [.bl true, .ref l]) → Q (.ref q) H'
theorem ok_spread (F : FunD K "spread" "Units.spread" (defArgs s_Units_spread) (defBody s_Units_spread) (defScope s_Units_spread) [] [] f fd) (hm : Meth K (He.ga K "Units") "spread" f) (T : Txt K mg) (M_Units_settle : MethOk P w K mg base 1 (He.ga K "Units") "settle" ["self", "index", "known", "queue"] (spSettle K)) : MethOk P w K mg base 2 (He.ga K "Units") "spread" ["self", "literals"] (spSpread K) := by
  refine ⟨f, fd, hm, (FunD.bindsN (ps := ["self", "literals"]) F fun _ _ _ _ _ _ us hl => match us, hl with | [_, _], _ => rfl), fn_ok F sc_Units_spread ?len (fun cdv A outer s H vs Q E hr h => ⟨_, (pss_cons (ps_set (i := 2) sc_Units_spread.nd rfl (Or.inl rfl) pe_dnewK)
  (pss_cons (ps_set (i := 3) sc_Units_spread.nd rfl (Or.inl rfl) (pe_lst pa_nil))
  (pss_cons (ps_for PassesOwn.never rfl (pi_list (pv 1)) (pg_name (i := 4) sc_Units_spread.nd rfl (Or.inl rfl))
  (pss_cons (ps_if (pt_cmp (pc_din (hu_of hr) (pe_op op_xor (pv 4) (pe_int (i := ((1 : Nat) : Int)))) (pv 2)) (by rfl)) (pss_one (ps_ret (pe_tup (pa_cons pe_bl (pa_cons (pe_lst pa_nil) pa_nil))))) pss_nil)
  (pss_one (ps_if (pt_cmp (pc_dnotin (hu_of hr) (pv 4) (pv 2)) (by rfl)) (pss_cons (ps_dput (hu_of hr) (pv 2) (pv 4) pe_bl (by rfl))
  (pss_one (ps_expr (pe_bm PySem.F.plainAttrs_list PySem.F.slot_list_append PySem.F.type_list_append mt_append (pv 3) (pa_cons (pv 4) pa_nil))))) pss_nil))))
  (pss_cons (ps_for PassesOwn.never rfl (pi_list (pe_f T.c_Units T.n_Units_shorts (pv 0))) (pg_name (i := 5) sc_Units_spread.nd rfl (Or.inl rfl))
  (pss_one (ps_if (pt_not (pt_val (pe_methD M_Units_settle T.c_Units (hr.mono (by decide)) (pv 0) (pa_cons (pv 5) (pa_cons (pv 2) (pa_cons (pv 3) pa_nil)))))) (pss_one (ps_ret (pe_tup (pa_cons pe_bl (pa_cons (pe_lst pa_nil) pa_nil))))) pss_nil)))
  (pss_cons (ps_set (i := 6) sc_Units_spread.nd rfl (Or.inl rfl) (pe_int (i := ((0 : Nat) : Int))))
  (pss_cons (ps_while PassesOwn.never (pt_cmpR op_lt (pv 6) (pe_callB (call_lenK (K := K) (by rfl)) (by rfl) T.m_len (by decide +kernel) (pa_cons (pv 3) pa_nil)) (nomark _)) (pss_cons (ps_for PassesOwn.never rfl (pi_list (pe_dget2 (hu_of hr) (pe_f T.c_Units T.n_Units_holders (pv 0)) (pe_op op_xor (pe_ix (ix_listK (K := K) (by rfl)) (pv 3) (pv 6) (fun _ _ => rfl)) (pe_int (i := ((1 : Nat) : Int)))) (pe_lst pa_nil) ⟨by rfl, by rfl, by rfl, by rfl⟩)) (pg_name (i := 5) sc_Units_spread.nd rfl (Or.inl rfl))
  (pss_one (ps_if (pt_not (pt_val (pe_methD M_Units_settle T.c_Units (hr.mono (by decide)) (pv 0) (pa_cons (pv 5) (pa_cons (pv 2) (pa_cons (pv 3) pa_nil)))))) (pss_one (ps_ret (pe_tup (pa_cons pe_bl (pa_cons (pe_lst pa_nil) pa_nil))))) pss_nil)))
  (pss_one (ps_set (i := 6) sc_Units_spread.nd rfl (Or.inl rfl) (pe_op op_add (pv 6) (pe_int (i := ((1 : Nat) : Int))))))))
  (pss_one ps_never))))))), ?_⟩)⟩
  case len => walk_at "ln"
  
  obtain ⟨p, a, kept, lits, L, rfl, hU, ha, hk, hlt, hL, hF, q⟩ := h
  walk_at "st"
  walk_at "go"
  rename_i kd hkd ql hql
  have zq : H ql = none := by walk_at "nn"
  have nq : ql ≠ kd := ne_new upd_same hql
  have SpW : ∀ (K : List Nat), SpI kept L K → K.length < 100000 := fun K h => Nat.lt_of_le_of_lt h.len (by omega)
  refine g_rForL (xs := nums lits) (by walk_at "lk") (fun i σ H' => ∃ K o4 o5 o6, σ = [some (.ref p), some (.ref a), some (.ref kd), some (.ref ql), o4, o5, o6] ∧ Same H H' ∧ H' kd = some (.dK (mkD (inK K))) ∧ H' ql = some (.lst (nums K)) ∧ SpI kept L K ∧ ∀ x ∈ lits.take i, x ∈ K)
    ⟨[], _, _, _, rfl, by walk_at "ex", lk_ne nq.symm upd_same, upd_same, ⟨List.nodup_nil, (fun x h => by cases h), (fun x h => by cases h)⟩, fun x h => by simp at h⟩ ?_ ?_ ?_
  · rintro i σ H' hi ⟨K, _, _, _, rfl, hS, h1, h2, h3, h4⟩
    walk_at "lk"
  · rintro i v σ H' hv ⟨K, _, _, _, rfl, hS, h1, h2, h3, h4⟩
    obtain ⟨x, hx, rfl⟩ := nums_of hv
    have hxL := hlt x (List.mem_of_getElem? hx)
    walk_at "go"
    refine br (fun m => ?_) (fun m => ?_)
    · walk_at "go"
      rename_i p3 hp3 p4 hp4
      exact q _ p4 p3 (L2.Same.trans hS (L2.Same.trans (Same.new hp3) (Same.new hp4))) upd_same
    walk_at "go"
    refine brn (fun m2 => ?_) (fun m2 => ?_)
    · walk_at "go"
      refine g_rDPutI h1 m2 (SpW K h3) ?_
      walk_at "go"
      case z => exact Nat.lt_of_lt_of_le (SpW K h3) (by decide)
      refine ⟨K ++ [x], _, _, _, rfl, by walk_at "ex", lk_ne nq.symm upd_same, upd_same, h3.add hxL m2 m, fun y hy => ?_⟩
      rw [take_snoc hx] at hy
      rcases List.mem_append.mp hy with hy | hy
      · exact List.mem_append_left _ (h4 y hy)
      · rw [List.mem_singleton.mp hy]; exact List.mem_append_right _ (List.mem_singleton_self x)
    · walk_at "go"
      refine ⟨K, _, _, _, rfl, hS, h1, h2, h3, fun y hy => ?_⟩
      rw [take_snoc hx] at hy
      rcases List.mem_append.mp hy with hy | hy
      · exact h4 y hy
      · rw [List.mem_singleton.mp hy]; exact m2
  rintro σ H1 ⟨K1, _, _, _, rfl, hS1, h1, h2, h3, h4⟩
  rw [nums_len, List.take_length] at h4
  have hU1 := hU.mono hS1
  obtain ⟨dx, cl, hd, sh, kv, kvs, ss, u1, u2, u3, u4, u5, u6, u7, u8⟩ := id hU
  have nsh : sh ≠ kd := ne_of_none u7 hkd
  walk_at "go"
  refine g_rForL (xs := nums ss) (by walk_at "lk") (fun i σ H' => ∃ K o4 o5 o6, σ = [some (.ref p), some (.ref a), some (.ref kd), some (.ref ql), o4, o5, o6] ∧ Same H H' ∧ H' kd = some (.dK (mkD (inK K))) ∧ H' ql = some (.lst (nums K)) ∧ SpI kept L K ∧ (∀ x ∈ lits, x ∈ K) ∧ ∀ j ∈ ss.take i, ∀ ks, kept[j]? = some ks → ∃ x ∈ ks, x ∈ K)
    ⟨K1, _, _, _, rfl, hS1, h1, h2, h3, h4, fun x h => by simp at h⟩ ?_ ?_ ?_
  · rintro i σ H' hi ⟨K, _, _, _, rfl, hS, _⟩
    walk_at "lk"
  · rintro i v σ H' hv ⟨K, _, _, _, rfl, hS, g1, g2, g3, g4, g5⟩
    obtain ⟨j, hj, rfl⟩ := nums_of hv
    obtain ⟨ks, hks, hlen⟩ := (u8 j).mp (List.mem_of_getElem? hj)
    obtain ⟨ka, hka1, hka2⟩ := u4 j ks hks
    walk_at "go"
    refine ⟨p, dx, cl, hd, sh, ka, kd, ql, j, kv, ks, K, rfl, hS _ _ u1, hS _ _ u2, hka1, hS _ _ hka2, hk.nd _ (List.mem_of_getElem? hks), g1, g2, SpW K g3, fun res K' H2 hR hK2 e1 e2 => ?_⟩
    have hS2 : Same H H2 := Same.keep2 hK2 hS hkd zq
    cases res with
    | false =>
      walk_at "go"
      rename_i p3 hp3 p4 hp4
      exact q _ p4 p3 (L2.Same.trans hS2 (L2.Same.trans (Same.new hp3) (Same.new hp4))) upd_same
    | true =>
      walk_at "go"
      obtain ⟨r1, r2, r3, r4, r5, r6⟩ := hR.step hk (List.mem_of_getElem? hks) g3
      refine ⟨K', _, _, _, rfl, hS2, e1, e2, r1, fun x hx => r2 x (g4 x hx), fun y hy cs hcs => ?_⟩
      rw [take_snoc hj] at hy
      rcases List.mem_append.mp hy with hy | hy
      · obtain ⟨x, x1, x2⟩ := g5 y hy cs hcs
        exact ⟨x, x1, r2 x x2⟩
      · rw [List.mem_singleton.mp hy, hks] at hcs
        cases hcs
        exact r4 hlen
  rintro σ H2 ⟨K2, _, _, _, rfl, hS2, g1, g2, g3, g4, g5⟩
  rw [nums_len, List.take_length] at g5
  have g6 : ∀ c ∈ kept, c.length < 2 → ∃ x ∈ c, x ∈ K2 := fun c hc hl => by
    obtain ⟨j, hj⟩ := List.getElem?_of_mem hc
    exact g5 j ((u8 j).mpr ⟨c, hj, hl⟩) c hj
  walk_at "go"
  refine ⟨fun m σ H' => ∃ K at' o4 o5, σ = [some (.ref p), some (.ref a), some (.ref kd), some (.ref ql), o4, o5, some (.int ((at' : Nat) : Int))] ∧ m = L - at' ∧ at' ≤ K.length ∧ Same H H' ∧ H' kd = some (.dK (mkD (inK K))) ∧ H' ql = some (.lst (nums K)) ∧ SpJ kept L lits K at',
    ⟨_, K2, 0, _, _, rfl, rfl, Nat.zero_le _, hS2, g1, g2, ⟨g3, g4, g6, fun J z h => absurd h (Nat.not_lt_zero _)⟩⟩, ?_⟩
  rintro m σ H3 ⟨K3, at3, _, _, rfl, rfl, ha3, hS3, k1, k2, kj⟩
  have kl := kj.i.len
  walk_at "go"
  rw [nums_len]
  refine br (fun hlt3 => ?_) (fun hge => ?_)
  rotate_left 1
  · exfalso
    have e : at3 = K3.length := by omega
    subst e
    exact hF (· ∈ K3) kj.i.2.2 (spread_clo hk.nd kj.s fun J z hz => kj.d J z (lt_of_get hz) hz) kj.l
  refine ⟨fun σ' H' => ∃ K o4 o5, σ' = [some (.ref p), some (.ref a), some (.ref kd), some (.ref ql), o4, o5, some (.int ((at3 + 1 : Nat) : Int))] ∧ at3 + 1 ≤ K.length ∧ Same H H' ∧ H' kd = some (.dK (mkD (inK K))) ∧ H' ql = some (.lst (nums K)) ∧ SpJ kept L lits K (at3 + 1), ?_, ?_⟩
  · rintro σ' H' ⟨K, o4, o5, rfl, b1, b2, b3, b4, b5⟩
    exact ⟨L - (at3 + 1), by omega, K, at3 + 1, _, _, rfl, rfl, b1, b2, b3, b4, b5⟩
  obtain ⟨z, hz⟩ : ∃ z, K3[at3]? = some z := ⟨_, List.getElem?_eq_getElem hlt3⟩
  walk_at "go"
  refine g_ixL k2 (nums_get hz) ?_
  walk_at "go"
  rename_i ln hln
  have u5' : H3 hd = some (.dK kvs) := hS3 _ _ u5
  refine g_rDGetO (lk_new hln u5') rfl ?_
  have nk : ∀ b o, H b = some o → b ≠ kd ∧ b ≠ ql := fun b o e => ⟨ne_of_none e hkd, ne_of_none e zq⟩
  obtain ⟨la, is, ela, hla, n1, n2, hin, hout⟩ : ∃ (la : Addr) (is : List Nat), (valV kvs (.inl ((neg z : Nat) : Int))).getD (.ref ln) = .ref la ∧ (upd H3 ln (.lst [])) la = some (.lst (nums is)) ∧ la ≠ kd ∧ la ≠ ql ∧
      (∀ i, i ∈ is → ∃ ks, kept[i]? = some ks ∧ neg z ∈ ks) ∧ ∀ (i : Nat) ks, kept[i]? = some ks → neg z ∈ ks → i ∈ is := by
    rcases u6 (neg z) with ⟨e1, e2⟩ | ⟨la, is, e1, e2, e3⟩
    · exact ⟨ln, [], by rw [e1]; rfl, upd_same, ne_new k1 hln, ne_new k2 hln, (fun i h => by cases h), fun i ks h m => absurd m (e2 ks (List.mem_of_getElem? h))⟩
    · exact ⟨la, is, by rw [e1]; rfl, lk_new hln (hS3 _ _ e2), (nk _ _ e2).1, (nk _ _ e2).2, fun i h => (e3 i).mp h, fun i ks h m => (e3 i).mpr ⟨ks, h, m⟩⟩
  rw [ela]
  refine g_rForL (xs := nums is) hla (fun i σ H' => ∃ K t o4 o5, σ = [some (.ref p), some (.ref a), some (.ref kd), some (.ref ql), o4, o5, some (.int ((at3 : Nat) : Int))] ∧ K = K3 ++ t ∧ Keep2 kd ql (upd H3 ln (.lst [])) H' ∧ Same H H' ∧ H' kd = some (.dK (mkD (inK K))) ∧ H' ql = some (.lst (nums K)) ∧ SpJ kept L lits K at3 ∧ ∀ j ∈ is.take i, ∀ c, kept[j]? = some c → OkAt c K (at3 + 1))
    ⟨K3, [], _, _, rfl, (List.append_nil _).symm, Keep2.refl, L2.Same.trans hS3 (Same.new hln), lk_new hln k1, lk_new hln k2, kj, fun j h => by simp at h⟩ ?_ ?_ ?_
  · rintro i σ H' hi ⟨_, _, _, _, rfl, _, k, _⟩
    exact k _ _ n1 n2 hla
  · rintro i v σ H' hv ⟨K, t, _, _, rfl, rfl, hK, hS, b1, b2, bj, bo⟩
    obtain ⟨j, hj, rfl⟩ := nums_of hv
    obtain ⟨ks, hks, hlen⟩ := hin j (List.mem_of_getElem? hj)
    obtain ⟨ka, hka1, hka2⟩ := u4 j ks hks
    walk_at "go"
    refine ⟨p, dx, cl, hd, sh, ka, kd, ql, j, kv, ks, K3 ++ t, rfl, hS _ _ u1, hS _ _ u2, hka1, hS _ _ hka2, hk.nd _ (List.mem_of_getElem? hks), b1, b2, SpW _ bj.i, fun res K' H4 hR hK2 e1 e2 => ?_⟩
    have hS4 : Same H H4 := Same.keep2 hK2 hS hkd zq
    cases res with
    | false =>
      walk_at "go"
      rename_i p3 hp3 p4 hp4
      exact q _ p4 p3 (L2.Same.trans hS4 (L2.Same.trans (Same.new hp3) (Same.new hp4))) upd_same
    | true =>
      walk_at "go"
      have hal : at3 + 1 ≤ (K3 ++ t).length := by rw [List.length_append]; omega
      obtain ⟨r1, r2, r3, r4, r5, t2, r6⟩ := hR.step hk (List.mem_of_getElem? hks) bj.i
      refine ⟨K', t ++ t2, _, _, rfl, by rw [r6, List.append_assoc], fun b u m1 m2 e => hK2 b u m1 m2 (hK b u m1 m2 e), hS4, e1, e2, bj.step (by omega) hR hk (List.mem_of_getElem? hks), fun y hy cs hcs => ?_⟩
      rw [take_snoc hj] at hy
      rcases List.mem_append.mp hy with hy | hy
      · exact r5 cs _ hal (bo y hy cs hcs)
      · rw [List.mem_singleton.mp hy, hks] at hcs
        cases hcs
        exact r3 _ hal
  rintro σ H4 ⟨K4, t4, _, _, rfl, rfl, hK4, hS4, b1, b2, bj, bo⟩
  rw [nums_len, List.take_length] at bo
  walk_at "go"
  refine ⟨K3 ++ t4, _, _, rfl, by rw [List.length_append]; omega, hS4, b1, b2, bj.i, bj.l, bj.s, fun J y hJ hy c hc hm => ?_⟩
  by_cases e : J = at3
  · subst e
    rw [List.getElem?_append_left hlt3, hz] at hy
    cases hy
    obtain ⟨j, hj⟩ := List.getElem?_of_mem hc
    exact bo j (hout j c hj hm) c hj
  · exact bj.d J y (by omega) hy c hc hm
def spFollows (K : PySem.W.Frag) : Sp := fun vs H Q _ => ∃ (p a : Addr) (kept : List (List Nat)) (line : List Nat) (L : Nat), vs = [.ref p, .ref a] ∧ UnRd K H p kept ∧ H a = some (.tup (nums line)) ∧ KeptOk kept L ∧ (∀ x ∈ line, neg x < L) ∧ line.length ≤ 1000 ∧ L ≤ 50000 ∧ Fol kept line ∧
  ∀ H', Same H H' → Q (.bl true) H'
theorem ok_follows (F : FunD K "follows" "Units.follows" (defArgs s_Units_follows) (defBody s_Units_follows) (defScope s_Units_follows) [] [] f fd) (hm : Meth K (He.ga K "Units") "follows" f) (T : Txt K mg) (M_Units_spread : MethOk P w K mg base 2 (He.ga K "Units") "spread" ["self", "literals"] (spSpread K)) : MethOk P w K mg base 3 (He.ga K "Units") "follows" ["self", "line"] (spFollows K) := by
  refine ⟨f, fd, hm, (FunD.bindsN (ps := ["self", "line"]) F fun _ _ _ _ _ _ us hl => match us, hl with | [_, _], _ => rfl), fn_ok F sc_Units_follows ?len (fun cdv A outer s H vs Q E hr h => ⟨_, (pss_one (ps_ret (pe_ix (ix_tupK (K := K) (by rfl)) (pe_methD M_Units_spread T.c_Units (hr.mono (by decide)) (pv 0) (pa_cons (by exact (pe_lc (own := [("literal", 2)]) (by rfl) sc_Units_follows.nd (pi_tup (pv 1)) (blkOk_by (own := [("literal", 2)]) (N := ["self", "line", "literal"]) (sc := defScope s_Units_follows) (by decide +kernel)) (fun _ _ _ _ _ => by exact (pg_name (i := 2) sc_Units_follows.nd rfl (Or.inl rfl))) (fun _ _ _ _ _ => by exact pts_nil) (fun _ _ _ _ _ => by exact (pe_op op_xor (pv 2) (pe_int (i := ((1 : Nat) : Int))))))) pa_nil)) (pe_int (i := ((0 : Nat) : Int))) (fun _ _ => rfl)))), ?_⟩)⟩
  case len => walk_at "ln"
  
  obtain ⟨p, a, kept, line, L, rfl, hU, ha, hk, hlt, hl, hL, hF, q⟩ := h
  obtain ⟨dx, cl, hd, sh, kv, kvs, ss, u1, _⟩ := id hU
  walk_at "st"
  walk_at "go"
  refine g_rLcTI (ns := line) (bs := line.map neg) ha (by omega) (List.length_map ..) (fun D i x b H' hD hx hb hS Qy hQ => ?_) (fun D H' hD hS hL' => ?_)
  · rw [map_get hx] at hb
    cases hb
    walk_at "go"
    exact hQ _ (L2.Same.refl _)
  · walk_at "go"
    refine ⟨p, D, kept, line.map neg, L, rfl, hU.mono hS, hL', hk, fun x hx => ?_, hL, hF, fun H2 q2 l2 hS2 hq2 => ?_⟩
    · obtain ⟨y, hy, rfl⟩ := List.mem_map.mp hx
      exact hlt y hy
    · walk_at "go"
      exact q H2 (L2.Same.trans hS hS2)
end
end
section
/-! part SgUn3 -/
set_option Elab.async false
set_option maxRecDepth 100000
set_option linter.unusedVariables false
set_option maxHeartbeats 1000000
open PySem PySem.Spec PyProof.Rows L2
local macro_rules | `(tactic| walk_at "h1") => `(tactic| first
  | ((with_reducible refine' g_var ?go_h ?_); (case go_h => exact rfl))
  | with_reducible refine' g_c ?_
  | with_reducible refine' g_op ?_
  | with_reducible refine' g_seq ?_
  | with_reducible refine' g_asg ?_
  | ((with_reducible refine' g_name2 ?go_e ?_); (case go_e => first | (simp only [wipe, List.map_cons, List.map_nil, List.set_cons_succ, List.set_cons_zero]; exact rfl) | exact rfl))
  | with_reducible refine' g_cons ?_
  | with_reducible refine' g_nil ?_
  | with_reducible refine' g_call ?_
  | with_reducible refine' g_f ?_
  | ((with_reducible refine' g_fx ?go_h ?go_l ?_); (case go_h => walk_at "lk"); (case go_l => walk_at "fl"))
  | with_reducible refine' g_if ?_
  | with_reducible refine' g_andV ?_
  | with_reducible refine' g_orV ?_
  | with_reducible refine' g_notV ?_
  | with_reducible refine' g_meth ?_
  | with_reducible refine' g_prop ?_
  | with_reducible refine' g_make ?_
  | with_reducible refine' g_sF ?_
  | with_reducible refine' g_bm ?_
  | ((with_reducible refine' g_mul ?go_b ?_); (case go_b => first | decide | omega))
  | ((with_reducible refine' g_sub ?go_b ?_); (case go_b => omega))
  | ((with_reducible refine' g_appC2 ?go_h ?go_t ?z ?_); (case go_h => walk_at "la"); (case go_t => walk_at "lk"); rotate_left; intro _ _ _)
  | ((with_reducible refine' g_appC1 ?go_h ?go_t ?z ?_); (case go_h => walk_at "la"); (case go_t => walk_at "lk"); rotate_left; intro _ _ _)
  | ((with_reducible refine' g_appP ?go_h ?go_t ?z ?_); (case go_h => walk_at "la"); (case go_t => walk_at "lk"); rotate_left; intro _ _ _)
  | ((with_reducible refine' g_extN ?go_h ?go_i ?z ?_); (case go_h => walk_at "lk"); (case go_i => walk_at "lk"); rotate_left)
  | ((with_reducible refine' g_appI ?go_h ?z ?_); (case go_h => walk_at "la"); rotate_left; intro _ _ _)
  | ((with_reducible refine' g_appC3 ?go_h ?go_t ?z ?_); (case go_h => walk_at "la"); (case go_t => walk_at "lk"); rotate_left; intro _ _ _)
  | ((with_reducible refine' g_wipe ?go_w ?_); (case go_w => exact rfl))
  | ((with_reducible refine' g_extendR (R := IsC) ?go_h ?go_i ?go_s ?z ?_); (case go_h => walk_at "la"); (case go_i => walk_at "la"); (case go_s => exact stab_C); rotate_left; intro _ _ _)
  | ((with_reducible refine' g_extendR (R := IsP) ?go_h ?go_i ?go_s ?z ?_); (case go_h => walk_at "la"); (case go_i => walk_at "la"); (case go_s => exact stab_P); rotate_left; intro _ _ _)
  | ((with_reducible refine' g_extendR (R := IsI) ?go_h ?go_i ?go_s ?z ?_); (case go_h => walk_at "la"); (case go_i => walk_at "la"); (case go_s => exact stab_I); rotate_left; intro _ _ _)
  | walk_at "gs"
  | with_reducible refine' g_forL ?_
  | with_reducible refine' g_forS ?_
  | with_reducible refine' g_dIn ?_
  | with_reducible refine' g_dNotIn ?_
  | with_reducible refine' g_dPut ?_
  | (with_reducible refine' g_dNewK ?_; intro _ _)
  | (with_reducible refine' g_dNewT ?_; intro _ _)
  | with_reducible refine' g_inSign ?_
  | with_reducible refine' g_dGet2 ?_
  | with_reducible refine' g_dGet ?_
  | ((with_reducible refine' g_rDGet2 ?go_h ?_); (case go_h => walk_at "lk"))
  | with_reducible refine' g_un ?_
  | with_reducible refine' g_neg ?_
  | with_reducible refine' g_ninSign ?_
  | ((with_reducible refine' g_rDInN ?go_h ?_); (case go_h => walk_at "lk"))
  | ((with_reducible refine' g_rDInI ?go_h ?_); (case go_h => walk_at "lk"))
  | ((with_reducible refine' g_rDNotInN ?go_h ?_); (case go_h => walk_at "lk"))
  | ((with_reducible refine' g_rDNotInI ?go_h ?_); (case go_h => walk_at "lk"))
  | with_reducible refine' g_forE ?_
  | with_reducible refine' g_forR ?_
  | with_reducible refine' g_forR2 ?_
  | with_reducible refine' g_forT ?_
  | with_reducible refine' g_lcL ?_
  | with_reducible refine' g_lcR ?_
  | with_reducible refine' g_lcT ?_
  | ((with_reducible refine' g_mod ?go_b ?_); (case go_b => first | decide | omega))
  | ((with_reducible refine' g_fdiv ?go_b ?go_c ?_); (case go_b => first | decide | omega); (case go_c => first | decide | omega))
  | ((with_reducible refine' g_fdivW ?go_b ?go_c ?_); (case go_b => first | decide | omega); (case go_c => first | decide | omega))
  | with_reducible refine' g_min ?_
  | with_reducible refine' g_max ?_
  | with_reducible refine' g_int ?_
  | ((with_reducible refine' g_tupOf ?go_h ?_); (case go_h => walk_at "lk"))
  | ((with_reducible refine' g_tupOfT ?go_h ?_); (case go_h => walk_at "lk"))
  | ((with_reducible refine' g_gtup ?go_h ?go_l ?_); (case go_h => walk_at "lk"); (case go_l => exact rfl))
  | ((with_reducible refine' g_rSF ?go_h ?go_l ?go_b ?_); (case go_h => walk_at "lk"); (case go_l => walk_at "fz"); (case go_b => exact rfl))
  | ((with_reducible refine' g_listOf ?go_h ?_); (case go_h => walk_at "lk"))
  | ((with_reducible refine' g_disp ?go_h ?_); (case go_h => exact rfl); intro _ _)
  | ((with_reducible refine' g_rProp ?go_h ?_); (case go_h => walk_at "lk"))
  | ((with_reducible refine' g_rMeth ?go_h ?go_l ?_); (case go_h => walk_at "lk"); (case go_l => walk_at "fn"))
  | ((with_reducible refine' g_rBM ?go_h ?_); (case go_h => walk_at "lk"))
  | ((with_reducible refine' g_rBMR (R := IsC) ?go_h ?_); (case go_h => walk_at "la"))
  | ((with_reducible refine' g_rBMR (R := IsP) ?go_h ?_); (case go_h => walk_at "la"))
  | ((with_reducible refine' g_rBMR (R := IsI) ?go_h ?_); (case go_h => walk_at "la"))
  | ((with_reducible refine' g_rBMR (R := IsL) ?go_h ?_); (case go_h => walk_at "la"))
  | ((with_reducible refine' g_rBMR (R := IsO) ?go_h ?_); (case go_h => walk_at "la"))
  | ((with_reducible refine' g_rBMR (R := IsS) ?go_h ?_); (case go_h => walk_at "la"))
  | ((with_reducible refine' g_len ?go_h ?_); (case go_h => walk_at "lk"))
  | ((with_reducible refine' g_lenR (R := IsP) ?go_h ?_); (case go_h => walk_at "la"))
  | ((with_reducible refine' g_in2 ?go_h ?_); (case go_h => walk_at "lk"))
  | with_reducible refine' g_test ?_
  | with_reducible refine' g_rB ?_
  | with_reducible refine' g_B ?_
  | with_reducible refine' g_add ?_
  | with_reducible refine' g_mul2 ?_
  | with_reducible refine' g_shr1 ?_
  | with_reducible refine' g_and1 ?_
  | with_reducible refine' g_xor1 ?_
  | with_reducible refine' g_lt ?_
  | with_reducible refine' g_le ?_
  | with_reducible refine' g_gt ?_
  | with_reducible refine' g_ge ?_
  | with_reducible refine' g_eq ?_
  | with_reducible refine' g_ne ?_
  | with_reducible refine' g_ret ?_
  | with_reducible refine' g_drop ?_
  | with_reducible refine' g_and ?_
  | with_reducible refine' g_or ?_
  | with_reducible refine' g_not ?_
  | with_reducible refine' g_cb ?_
  | with_reducible refine' g_tup ?_
  | with_reducible refine' g_lst ?_
  | with_reducible refine' g_next ?_
  | with_reducible refine' g_par ?_
  | ((with_reducible refine' g_par2 ?go_e ?_); (case go_e => first | (simp only [wipe, List.map_cons, List.map_nil, List.set_cons_succ, List.set_cons_zero]; exact rfl) | exact rfl))
  | with_reducible refine' g_gcons ?_
  | with_reducible refine' g_gnil ?_
  | with_reducible refine' g_chain ?_
  | with_reducible refine' g_isT ?_
  | with_reducible refine' g_isF_int ?_
  | with_reducible refine' g_isF_ref ?_
  | with_reducible refine' g_noT ?_
  | with_reducible refine' g_noF_int ?_
  | with_reducible refine' g_noF_ref ?_
  | with_reducible refine' ite_t ?_
  | with_reducible refine' ite_f ?_
  | with_reducible refine' iteN_t ?_
  | with_reducible refine' iteN_f ?_
  | with_reducible refine' g_band ?_
  | with_reducible refine' g_xor ?_
  | ((with_reducible refine' g_ixL ?go_h ?go_x ?_); (case go_h => walk_at "lk"); (case go_x => exact rfl))
  | ((with_reducible refine' g_ixT ?go_h ?go_x ?_); (case go_h => walk_at "lk"); (case go_x => exact rfl))
  | ((with_reducible refine' br_t ?go_h ?_); (case go_h => first | assumption | omega))
  | ((with_reducible refine' br_f ?go_h ?_); (case go_h => first | assumption | omega))
  | ((with_reducible refine' brn_t ?go_h ?_); (case go_h => first | assumption | omega))
  | ((with_reducible refine' brn_f ?go_h ?_); (case go_h => first | assumption | omega)))
local macro_rules | `(tactic| walk_at "ho") => `(tactic| repeat walk_at "h1")

section
variable {P : Program} {w : World} {K : PySem.W.Frag} {mg : Str → Option Value} {base : Heap} {f pr : Addr} {fd : FuncData}
/-- the state of a Units object, its parts apart; V: which clause holds which literal -/
structure UnR (K : PySem.W.Frag) (H : Hp) (p dx cl hd sh : Addr) (kfp : List Addr) (kvs : List (L2.Key × V)) (ha : Nat → Option Addr) (ss : List Nat) (kept : List (List Nat)) (W : Nat → Nat → Prop) (Sh : Nat → Prop) (M T : Nat) : Prop where
  hp : H p = some (.ins (He.ga K "Units") dx (F_Units (.ref cl) (.ref hd) (.ref sh)))
  hc : H cl = some (.lst (kfp.map V.ref))
  kl : kfp.length = kept.length
  kk : ∀ (i : Nat) (ks : List Nat) (a : Addr), kept[i]? = some ks → kfp[i]? = some a → H a = some (.lst (nums ks))
  hh : H hd = some (.dK kvs)
  hv : ∀ l : Nat, valV kvs (.inl (l : Int)) = (ha l).map V.ref
  inj : ∀ l l' a, ha l = some a → ha l' = some a → l = l'
  hl : ∀ l a, ha l = some a → ∃ is : List Nat, H a = some (.lst (nums is)) ∧ is.Nodup ∧ ∀ i, i ∈ is ↔ W i l
  hn : ∀ l, ha l = none → ∀ i, ¬ W i l
  wb : ∀ i l, W i l → i < M
  hs : H sh = some (.lst (nums ss))
  sn : ss.Nodup
  hss : ∀ i, i ∈ ss ↔ Sh i
  n1 : cl ≠ sh
  n2 : ∀ a ∈ kfp, a ≠ cl ∧ a ≠ sh ∧ ∀ l, ha l ≠ some a
  n3 : ∀ l a, ha l = some a → a ≠ cl ∧ a ≠ sh
  len : kvs.length ≤ T
def UnW (kept : List (List Nat)) (i l : Nat) : Prop := ∃ ks, kept[i]? = some ks ∧ l ∈ ks
def UnS (kept : List (List Nat)) (i : Nat) : Prop := ∃ ks, kept[i]? = some ks ∧ ks.length < 2
def UnF (H0 : Hp) (p cl hd sh : Addr) (ha : Nat → Option Addr) : Prop := H0 p = none ∧ H0 cl = none ∧ H0 hd = none ∧ H0 sh = none ∧ ∀ l a, ha l = some a → H0 a = none
/-- a Units object with the clauses C, new since H0 -/
def UnAt (K : PySem.W.Frag) (H0 H : Hp) (p : Addr) (C : List (List Nat)) : Prop := ∃ kept dx cl hd sh kfp kvs ha ss, KeptOf C kept ∧ UnR K H p dx cl hd sh kfp kvs ha ss kept (UnW kept) (UnS kept) kept.length (10 * kept.length) ∧ UnF H0 p cl hd sh ha
theorem UnR.rd {H : Hp} {p dx cl hd sh : Addr} {kfp : List Addr} {kvs : List (L2.Key × V)} {ha : Nat → Option Addr} {ss : List Nat} {kept : List (List Nat)} {M T : Nat} (h : UnR K H p dx cl hd sh kfp kvs ha ss kept (UnW kept) (UnS kept) M T) : UnRd K H p kept := by
  refine ⟨dx, cl, hd, sh, kfp.map V.ref, kvs, ss, h.hp, h.hc, by rw [List.length_map]; exact h.kl, fun i ks e => ?_, h.hh, fun l => ?_, h.hs, h.hss⟩
  · have hi : i < kfp.length := by rw [h.kl]; exact lt_of_get e
    exact ⟨kfp[i], map_get (List.getElem?_eq_getElem hi), h.kk i ks _ e (List.getElem?_eq_getElem hi)⟩
  · cases e : ha l with
    | none => exact .inl ⟨by rw [h.hv, e]; rfl, fun ks hk hl => by
        obtain ⟨i, hi⟩ := List.getElem?_of_mem hk
        exact h.hn l e i ⟨ks, hi, hl⟩⟩
    | some a =>
      obtain ⟨is, e1, _, e3⟩ := h.hl l a e
      exact .inr ⟨a, is, by rw [h.hv, e]; rfl, e1, e3⟩
theorem UnR.mono {H H' : Hp} {p dx cl hd sh : Addr} {kfp : List Addr} {kvs : List (L2.Key × V)} {ha : Nat → Option Addr} {ss : List Nat} {kept : List (List Nat)} {W : Nat → Nat → Prop} {Sh : Nat → Prop} {M T : Nat} (s : Same H H') (h : UnR K H p dx cl hd sh kfp kvs ha ss kept W Sh M T) : UnR K H' p dx cl hd sh kfp kvs ha ss kept W Sh M T :=
  { h with
    hp := s _ _ h.hp, hc := s _ _ h.hc, hh := s _ _ h.hh, hs := s _ _ h.hs
    kk := fun i ks a e1 e2 => s _ _ (h.kk i ks a e1 e2)
    hl := fun l a e => let ⟨is, e1, e2⟩ := h.hl l a e; ⟨is, s _ _ e1, e2⟩ }
theorem UnAt.mono {H0 H H' : Hp} {p : Addr} {C : List (List Nat)} (s : Same H H') (h : UnAt K H0 H p C) : UnAt K H0 H' p C := by
  obtain ⟨kept, dx, cl, hd, sh, kfp, kvs, ha, ss, h1, h2, h3⟩ := h
  exact ⟨kept, dx, cl, hd, sh, kfp, kvs, ha, ss, h1, h2.mono s, h3⟩
/-- reckoned from another heap: what came later stands in it too -/
theorem UnAt.rebase {H0 H H' : Hp} {p : Addr} {C : List (List Nat)} (h : UnAt K H0 H p C) (s0 : Same H0 H) (s : Same H H') : ∃ H1, Same H0 H1 ∧ Same H1 H' ∧ UnAt K H1 H' p C ∧ (∀ a o, H a = none → H' a = some o → H1 a = some o) ∧ ∀ a xs, H' a = some (.tup xs) → H1 a = some (.tup xs) := by
  obtain ⟨kept, dx, cl, hd, sh, kfp, kvs, ha, ss, h1, h2, f1, f2, f3, f4, f5⟩ := h
  have R := h2.mono s
  have cl' : ∀ a, Decidable (a = p ∨ a = cl ∨ a = hd ∨ a = sh ∨ ∃ l, ha l = some a) := fun a => Classical.propDecidable _
  refine ⟨fun a => if a = p ∨ a = cl ∨ a = hd ∨ a = sh ∨ ∃ l, ha l = some a then none else H' a, fun a o e => ?_, fun a o e => ?_, ⟨kept, dx, cl, hd, sh, kfp, kvs, ha, ss, h1, R, ?_⟩, fun a o e e' => ?_, fun a xs e => ?_⟩
  · refine (if_neg ?_).trans (s _ _ (s0 _ _ e))
    · rintro (rfl | rfl | rfl | rfl | ⟨l, hl⟩)
      · rw [f1] at e; cases e
      · rw [f2] at e; cases e
      · rw [f3] at e; cases e
      · rw [f4] at e; cases e
      · rw [f5 l _ hl] at e; cases e
  · have e' : (if a = p ∨ a = cl ∨ a = hd ∨ a = sh ∨ ∃ l, ha l = some a then none else H' a) = some o := e
    split at e'
    · cases e'
    · exact e'
  · exact ⟨if_pos (.inl rfl), if_pos (.inr (.inl rfl)), if_pos (.inr (.inr (.inl rfl))), if_pos (.inr (.inr (.inr (.inl rfl)))), fun l a e => if_pos (.inr (.inr (.inr (.inr ⟨l, e⟩))))⟩
  · refine (if_neg ?_).trans e'
    · rintro (rfl | rfl | rfl | rfl | ⟨l, hl⟩)
      · rw [h2.hp] at e; cases e
      · rw [h2.hc] at e; cases e
      · rw [h2.hh] at e; cases e
      · rw [h2.hs] at e; cases e
      · obtain ⟨is, e1, _⟩ := h2.hl l _ hl
        rw [e1] at e; cases e
  · refine (if_neg ?_).trans e
    · rintro (rfl | rfl | rfl | rfl | ⟨l, hl⟩)
      · rw [R.hp] at e; cases e
      · rw [R.hc] at e; cases e
      · rw [R.hh] at e; cases e
      · rw [R.hs] at e; cases e
      · obtain ⟨is, e1, _⟩ := R.hl l _ hl
        rw [e1] at e; cases e
section
variable {H : Hp} {p dx cl hd sh : Addr} {kfp : List Addr} {kvs : List (L2.Key × V)} {ha : Nat → Option Addr} {ss : List Nat} {kept : List (List Nat)} {W W' : Nat → Nat → Prop} {Sh Sh' : Nat → Prop} {M T : Nat}
theorem UnR.cl_ne (h : UnR K H p dx cl hd sh kfp kvs ha ss kept W Sh M T) : p ≠ cl ∧ hd ≠ cl ∧ p ≠ sh ∧ hd ≠ sh ∧ p ≠ hd := ⟨ne_of h.hp h.hc (fun q => nomatch q), ne_of h.hh h.hc (fun q => nomatch q), ne_of h.hp h.hs (fun q => nomatch q), ne_of h.hh h.hs (fun q => nomatch q), ne_of h.hp h.hh (fun q => nomatch q)⟩
theorem UnR.cast {M' T' : Nat} (h : UnR K H p dx cl hd sh kfp kvs ha ss kept W Sh M T) (hW : ∀ j l, W' j l ↔ W j l) (hM : M ≤ M') (hT : T ≤ T') : UnR K H p dx cl hd sh kfp kvs ha ss kept W' Sh M' T' :=
  { h with
    hl := fun l a e => let ⟨is, e1, e2, e3⟩ := h.hl l a e; ⟨is, e1, e2, fun i => (e3 i).trans (hW i l).symm⟩
    hn := fun l e i w => h.hn l e i ((hW i l).mp w)
    wb := fun i l w => Nat.lt_of_lt_of_le (h.wb i l ((hW i l).mp w)) hM
    len := Nat.le_trans h.len hT }
theorem UnR.pushC {k : Addr} {ks : List Nat} (h : UnR K H p dx cl hd sh kfp kvs ha ss kept W Sh M T) (hk : H k = some (.lst (nums ks))) (k1 : k ≠ cl) (k2 : k ≠ sh) (k3 : ∀ l, ha l ≠ some k) :
    UnR K (upd H cl (.lst (kfp.map V.ref ++ [V.ref k]))) p dx cl hd sh (kfp ++ [k]) kvs ha ss (kept ++ [ks]) W Sh M T := by
  obtain ⟨a1, a2, a3, a4, a5⟩ := h.cl_ne
  exact { hp := lk_ne a1 h.hp, hc := by rw [List.map_append]; exact upd_same, kl := by rw [List.length_append, List.length_append, h.kl]; rfl
          kk := fun i c a e1 e2 => by
            by_cases hi : i < kept.length
            · rw [List.getElem?_append_left hi] at e1
              rw [List.getElem?_append_left (by rw [h.kl]; exact hi)] at e2
              exact lk_ne (h.n2 a (List.mem_of_getElem? e2)).1 (h.kk i c a e1 e2)
            · rw [List.getElem?_append_right (by omega)] at e1
              rw [List.getElem?_append_right (by rw [h.kl]; omega)] at e2
              have h0 : i - kept.length = 0 := by
                have := (List.getElem?_eq_some_iff.mp e1).1
                simp at this; omega
              rw [h0] at e1
              rw [h.kl, h0] at e2
              cases e1; cases e2
              exact lk_ne k1 hk
          hh := lk_ne a2 h.hh, hv := h.hv, inj := h.inj
          hl := fun l a e => let ⟨is, e1, e2⟩ := h.hl l a e; ⟨is, lk_ne (h.n3 l a e).1 e1, e2⟩
          hn := h.hn, wb := h.wb, hs := lk_ne h.n1.symm h.hs, sn := h.sn, hss := h.hss, n1 := h.n1
          n2 := fun a m => by
            rcases List.mem_append.mp m with m | m
            · exact h.n2 a m
            · rw [List.mem_singleton.mp m]; exact ⟨k1, k2, k3⟩
          n3 := h.n3, len := h.len }
theorem UnR.pushS {i : Nat} (h : UnR K H p dx cl hd sh kfp kvs ha ss kept W Sh M T) (hi : ¬ i ∈ ss) (hS : ∀ j, Sh' j ↔ Sh j ∨ j = i) :
    UnR K (upd H sh (.lst (nums (ss ++ [i])))) p dx cl hd sh kfp kvs ha (ss ++ [i]) kept W Sh' M T := by
  obtain ⟨a1, a2, a3, a4, a5⟩ := h.cl_ne
  exact { h with
          hp := lk_ne a3 h.hp, hc := lk_ne h.n1 h.hc
          kk := fun i c a e1 e2 => lk_ne (h.n2 a (List.mem_of_getElem? e2)).2.1 (h.kk i c a e1 e2)
          hh := lk_ne a4 h.hh
          hl := fun l a e => let ⟨is, e1, e2⟩ := h.hl l a e; ⟨is, lk_ne (h.n3 l a e).2 e1, e2⟩
          hs := upd_same
          sn := List.nodup_append.mpr ⟨h.sn, List.nodup_cons.mpr ⟨(fun h => by cases h), List.nodup_nil⟩, fun y hy z hz e => by
            rw [List.mem_singleton] at hz
            exact hi (by rw [← hz, ← e]; exact hy)⟩
          hss := fun j => by rw [List.mem_append, h.hss, hS, List.mem_singleton] }
theorem UnR.holdOld {i x : Nat} {a : Addr} {is : List Nat} (h : UnR K H p dx cl hd sh kfp kvs ha ss kept W Sh M T) (e : ha x = some a) (ea : H a = some (.lst (nums is))) (en : is.Nodup) (ei : ∀ i, i ∈ is ↔ W i x) (hi : ¬ W i x) (hM : i < M) (hW : ∀ j l, W' j l ↔ W j l ∨ (j = i ∧ l = x)) :
    UnR K (upd H a (.lst (nums (is ++ [i])))) p dx cl hd sh kfp kvs ha ss kept W' Sh M (T + 1) := by
  have b1 : p ≠ a := ne_of h.hp ea (fun q => nomatch q)
  have b2 : hd ≠ a := ne_of h.hh ea (fun q => nomatch q)
  obtain ⟨b3, b4⟩ := h.n3 x a e
  exact { h with
          hp := lk_ne b1 h.hp, hc := lk_ne b3.symm h.hc
          kk := fun i c b e1 e2 => lk_ne (fun q => (h.n2 b (List.mem_of_getElem? e2)).2.2 x (by rw [q]; exact e)) (h.kk i c b e1 e2)
          hh := lk_ne b2 h.hh
          hl := fun l b eb => by
            by_cases q : l = x
            · subst q
              rw [e] at eb; cases eb
              refine ⟨is ++ [i], upd_same, List.nodup_append.mpr ⟨en, List.nodup_cons.mpr ⟨(fun h => by cases h), List.nodup_nil⟩, fun y hy z hz e => ?_⟩, fun j => ?_⟩
              · rw [List.mem_singleton] at hz
                exact hi ((ei i).mp (by rw [← hz, ← e]; exact hy))
              · rw [List.mem_append, ei, List.mem_singleton, hW]
                exact ⟨fun o => o.imp id fun z => ⟨z, rfl⟩, fun o => o.imp id fun z => z.1⟩
            · obtain ⟨js, e1, e2, e3⟩ := h.hl l b eb
              refine ⟨js, lk_ne (fun z => q (h.inj l x a (by rw [← z]; exact eb) e)) e1, e2, fun j => ?_⟩
              rw [e3, hW]
              exact ⟨fun o => .inl o, fun o => o.elim id fun z => absurd z.2 q⟩
          hn := fun l el j w => by
            rcases (hW j l).mp w with w | ⟨_, w⟩
            · exact h.hn l el j w
            · rw [w, e] at el; cases el
          wb := fun j l w => by
            rcases (hW j l).mp w with w | ⟨w, _⟩
            · exact h.wb j l w
            · rw [w]; exact hM
          hs := lk_ne b4.symm h.hs
          len := Nat.le_succ_of_le h.len }
theorem UnR.holdNew {i x : Nat} {ln : Addr} (h : UnR K H p dx cl hd sh kfp kvs ha ss kept W Sh M T) (e : ha x = none) (hln : H ln = none) (hM : i < M) (hW : ∀ j l, W' j l ↔ W j l ∨ (j = i ∧ l = x)) :
    UnR K (upd (upd (upd H ln (.lst [])) hd (.dK (putK kvs (.inl (x : Int)) (.ref ln)))) ln (.lst (nums [i]))) p dx cl hd sh kfp (putK kvs (.inl (x : Int)) (.ref ln)) (fun l => if l = x then some ln else ha l) ss kept W' Sh M (T + 1) := by
  have nl : ∀ a o, H a = some o → a ≠ ln := fun a o e => ne_of_none e hln
  obtain ⟨a1, a2, a3, a4, a5⟩ := h.cl_ne
  have kp : ∀ a o, a ≠ hd → H a = some o → (upd (upd (upd H ln (.lst [])) hd (.dK (putK kvs (.inl (x : Int)) (.ref ln)))) ln (.lst (nums [i]))) a = some o := fun a o n e => lk_ne (nl a o e) (lk_ne n (lk_ne (nl a o e) e))
  have hav : ∀ l a, ha l = some a → ∃ is, H a = some (.lst (nums is)) := fun l a e => let ⟨is, e1, _⟩ := h.hl l a e; ⟨is, e1⟩
  exact { h with
          hp := kp _ _ a5 h.hp, hc := kp _ _ a2.symm h.hc
          kk := fun i c b e1 e2 => kp _ _ (ne_of (h.kk i c b e1 e2) h.hh (fun q => nomatch q)) (h.kk i c b e1 e2)
          hh := lk_ne (nl _ _ h.hh) upd_same
          hv := fun l => by
            rw [valV_put]
            by_cases q : l = x
            · rw [if_pos (by rw [q]), if_pos q]; rfl
            · rw [if_neg (fun z => q (by injection z with z; omega)), if_neg q]; exact h.hv l
          inj := fun l l' a e1 e2 => by
            by_cases q : l = x
            · by_cases q' : l' = x
              · rw [q, q']
              · rw [if_pos q] at e1; rw [if_neg q'] at e2
                cases e1
                obtain ⟨is, z⟩ := hav _ _ e2
                rw [hln] at z; cases z
            · rw [if_neg q] at e1
              by_cases q' : l' = x
              · rw [if_pos q'] at e2
                cases e2
                obtain ⟨is, z⟩ := hav _ _ e1
                rw [hln] at z; cases z
              · rw [if_neg q'] at e2
                exact h.inj l l' a e1 e2
          hl := fun l b eb => by
            by_cases q : l = x
            · rw [if_pos q] at eb
              cases eb
              refine ⟨[i], upd_same, List.nodup_cons.mpr ⟨(fun h => by cases h), List.nodup_nil⟩, fun j => ?_⟩
              rw [List.mem_singleton, hW, q]
              exact ⟨fun z => .inr ⟨z, rfl⟩, fun z => z.elim (fun w => absurd w (h.hn x e j)) fun w => w.1⟩
            · rw [if_neg q] at eb
              obtain ⟨js, e1, e2, e3⟩ := h.hl l b eb
              refine ⟨js, kp _ _ (ne_of e1 h.hh (fun q => nomatch q)) e1, e2, fun j => ?_⟩
              rw [e3, hW]
              exact ⟨fun o => .inl o, fun o => o.elim id fun z => absurd z.2 q⟩
          hn := fun l el j w => by
            by_cases q : l = x
            · rw [if_pos q] at el; cases el
            · rw [if_neg q] at el
              rcases (hW j l).mp w with w | ⟨_, w⟩
              · exact h.hn l el j w
              · exact q w
          wb := fun j l w => by
            rcases (hW j l).mp w with w | ⟨w, _⟩
            · exact h.wb j l w
            · rw [w]; exact hM
          hs := kp _ _ a4.symm h.hs
          n2 := fun a m => by
            obtain ⟨b1, b2, b3⟩ := h.n2 a m
            refine ⟨b1, b2, fun l el => ?_⟩
            by_cases q : l = x
            · rw [if_pos q] at el
              cases el
              obtain ⟨j, hj⟩ := List.getElem?_of_mem m
              obtain ⟨c, hc⟩ : ∃ c, kept[j]? = some c := ⟨_, List.getElem?_eq_getElem (by rw [← h.kl]; exact lt_of_get hj)⟩
              have := h.kk j c _ hc hj
              rw [hln] at this; cases this
            · rw [if_neg q] at el
              exact b3 l el
          n3 := fun l a el => by
            by_cases q : l = x
            · rw [if_pos q] at el
              cases el
              exact ⟨(nl _ _ h.hc).symm, (nl _ _ h.hs).symm⟩
            · rw [if_neg q] at el
              exact h.n3 l a el
          len := Nat.le_trans (length_putK ..) (Nat.succ_le_succ h.len) }
end
def spAdd (K : PySem.W.Frag) : Sp := fun vs H Q _ => ∃ (p a : Addr) (C : List (List Nat)) (c : List Nat) (H0 : Hp), vs = [.ref p, .ref a] ∧ UnAt K H0 H p C ∧ Same H0 H ∧ H a = some (.tup (nums c)) ∧ c.length ≤ 10 ∧ C.length < 5000 ∧
  ∀ H', Same H0 H' → UnAt K H0 H' p (C ++ [c]) → Q .non H'
theorem ok_add_clause (F : FunD K "add_clause" "Units.add_clause" (defArgs s_Units_add_clause) (defBody s_Units_add_clause) (defScope s_Units_add_clause) [] [] f fd) (hm : Meth K (He.ga K "Units") "add_clause" f) (T : Txt K mg) : MethOk P w K mg base 1 (He.ga K "Units") "add_clause" ["self", "clause"] (spAdd K) := by
  refine ⟨f, fd, hm, (FunD.bindsN (ps := ["self", "clause"]) F fun _ _ _ _ _ _ us hl => match us, hl with | [_, _], _ => rfl), fn_ok F sc_Units_add_clause ?len (fun cdv A outer s H vs Q E hr h => ⟨_, (pss_cons (ps_set (i := 2) sc_Units_add_clause.nd rfl (Or.inl rfl) (pe_callB (call_lenK (K := K) (by rfl)) (by rfl) T.m_len (by decide +kernel) (pa_cons (pe_f T.c_Units T.n_Units_clauses (pv 0)) pa_nil)))
  (pss_cons (ps_set (i := 3) sc_Units_add_clause.nd rfl (Or.inl rfl) (pe_callB (call_sortedSet (w := w) (by rfl) (by rfl)) (by rfl) T.m_sorted (by decide +kernel) (pa_cons (pe_callTy (call_setT (K := K) (w := w) (by rfl) (by rfl) (by rfl)) (by rfl) T.m_set (by decide +kernel) (pa_cons (pv 1) pa_nil)) pa_nil)))
  (pss_cons (ps_expr (pe_bm PySem.F.plainAttrs_list PySem.F.slot_list_append PySem.F.type_list_append mt_append (pe_f T.c_Units T.n_Units_clauses (pv 0)) (pa_cons (pv 3) pa_nil)))
  (pss_cons (ps_if (pt_cmpR op_lt (pe_callB (call_lenK (K := K) (by rfl)) (by rfl) T.m_len (by decide +kernel) (pa_cons (pv 3) pa_nil)) (pe_int (i := ((2 : Nat) : Int))) (nomark _)) (pss_one (ps_expr (pe_bm PySem.F.plainAttrs_list PySem.F.slot_list_append PySem.F.type_list_append mt_append (pe_f T.c_Units T.n_Units_shorts (pv 0)) (pa_cons (pv 2) pa_nil)))) pss_nil)
  (pss_one (ps_for PassesOwn.never rfl (pi_list (pv 3)) (pg_name (i := 4) sc_Units_add_clause.nd rfl (Or.inl rfl))
  (pss_cons (ps_if (pt_cmp (pc_dnotin (hu_of hr) (pv 4) (pe_f T.c_Units T.n_Units_holders (pv 0))) (by rfl)) (pss_one (ps_dput (hu_of hr) (pe_f T.c_Units T.n_Units_holders (pv 0)) (pv 4) (pe_lst pa_nil) (by rfl))) pss_nil)
  (pss_one (ps_expr (pe_bm PySem.F.plainAttrs_list PySem.F.slot_list_append PySem.F.type_list_append mt_append (pe_dget (hu_of hr) (pe_f T.c_Units T.n_Units_holders (pv 0)) (pv 4) (fun _ _ => rfl)) (pa_cons (pv 2) pa_nil))))))))))), ?_⟩)⟩
  case len => walk_at "ln"
  
  obtain ⟨p, a, C, c, H0, rfl, ⟨kept, dx, cl, hd, sh, kfp, kvs, ha, ss, hK, hR, z1, z2, z3, z4, z5⟩, hS, hca, hcl, hCl, q⟩ := h
  have q1 := hR.hp
  have q2 := hR.hc
  walk_at "st"
  walk_at "ho"
  refine ⟨a, c.map (fun n : Nat => (n : Int)), rfl, SqT.of (by rw [List.map_map]; exact hca), by rw [List.length_map]; omega, fun p2 cn hp2 hcn => ?_⟩
  walk_at "ho"
  refine ⟨p2, _, cn, rfl, upd_same, by rw [List.length_map] at hcn; omega, fun ns p3 hpw hmem hnl hp3 => ?_⟩
  obtain ⟨ks, rfl, hkn, hkm⟩ := sorted_nums hpw hmem
  rw [List.map_map, show (ks.map (V.int ∘ fun n : Nat => (n : Int))) = nums ks from rfl]
  rw [List.length_map] at hnl
  walk_at "ho"
  have hS3 : Same H (upd (upd H p2 (SetO w p2 (fun j => decide (j ∈ c.map fun n : Nat => (n : Int))) cn)) p3 (.lst (nums ks))) := L2.Same.trans (Same.new hp2) (Same.new hp3)
  have hR3 := hR.mono hS3
  have hH3 : (upd (upd H p2 (SetO w p2 (fun j => decide (j ∈ c.map fun n : Nat => (n : Int))) cn)) p3 (.lst (nums ks))) p3 = some (.lst (nums ks)) := upd_same
  have hS03 := L2.Same.trans hS hS3
  have k0 : H p3 = none := by walk_at "nn"
  have k1 : p3 ≠ cl := (ne_of_none hR.hc k0).symm
  have k2 : p3 ≠ sh := (ne_of_none hR.hs k0).symm
  have k3 : ∀ l, ha l ≠ some p3 := fun l e => by
    obtain ⟨is, e1, _⟩ := hR.hl l _ e
    rw [k0] at e1; cases e1
  generalize upd (upd H p2 (SetO w p2 (fun j => decide (j ∈ c.map fun n : Nat => (n : Int))) cn)) p3 (.lst (nums ks)) = H3 at *
  have hkl : (kfp.map V.ref).length = kept.length := by rw [List.length_map]; exact hR.kl
  have hlk : kept.length = C.length := hK.1
  refine g_append hR3.hc (by rw [hkl]; exact Nat.lt_of_lt_of_le (show kept.length < 100000 by omega) (by decide)) ?_
  have hR4 := hR3.pushC hH3 k1 k2 k3
  have hS04 : Same H0 (upd H3 cl (.lst (kfp.map V.ref ++ [V.ref p3]))) := Same.mut hS03 z2
  have e4 : (upd H3 cl (.lst (kfp.map V.ref ++ [V.ref p3]))) p3 = some (.lst (nums ks)) := lk_ne k1 hH3
  generalize upd H3 cl (.lst (kfp.map V.ref ++ [V.ref p3])) = H4 at *
  clear hS3 hR3 hH3 hS03 q1 q2 hR
  rw [hkl]
  walk_at "ho"
  rw [nums_len]
  have q1 := hR4.hp
  have q5 := hR4.hs
  have q6 := hR4.hss
  have hns : ¬ kept.length ∈ ss := fun m => by
    obtain ⟨k, e, _⟩ := (q6 _).mp m
    exact absurd (lt_of_get e) (Nat.lt_irrefl _)
  have ssl : ss.length < 100000 := Nat.lt_of_le_of_lt (nodup_len kept.length ss hR4.sn fun i m => by
    obtain ⟨k, e, _⟩ := (q6 _).mp m
    exact lt_of_get e) (by omega)
  have hSh : ∀ j, UnS (kept ++ [ks]) j ↔ UnS kept j ∨ (j = kept.length ∧ ks.length < 2) := fun j => by
    unfold UnS
    constructor
    · rintro ⟨k, e, l⟩
      by_cases hj : j < kept.length
      · rw [List.getElem?_append_left hj] at e
        exact .inl ⟨k, e, l⟩
      · rw [List.getElem?_append_right (by omega)] at e
        have h0 : j - kept.length = 0 := by
          have := (List.getElem?_eq_some_iff.mp e).1
          simp at this; omega
        rw [h0] at e; cases e
        exact .inr ⟨by omega, l⟩
    · rintro (⟨k, e, l⟩ | ⟨rfl, l⟩)
      · exact ⟨k, by rw [List.getElem?_append_left (lt_of_get e)]; exact e, l⟩
      · exact ⟨ks, by rw [List.getElem?_append_right (Nat.le_refl _), Nat.sub_self]; rfl, l⟩
  refine br (fun hlen => ?_) (fun hlen => ?_)
  focus
    walk_at "ho"
    refine g_append q5 (by rw [nums_len]; exact Nat.lt_of_lt_of_le ssl (by decide)) ?_
    rw [show nums ss ++ [V.int (kept.length : Int)] = nums (ss ++ [kept.length]) from (nums_append ss [kept.length]).symm]
    obtain ⟨ss', hR5⟩ : ∃ ss', UnR K (upd H4 sh (.lst (nums (ss ++ [kept.length])))) p dx cl hd sh (kfp ++ [p3]) kvs ha ss' (kept ++ [ks]) (UnW kept) (UnS (kept ++ [ks])) kept.length (10 * kept.length) :=
      ⟨_, hR4.pushS hns fun j => (hSh j).trans ⟨fun o => o.imp id fun z => z.1, fun o => o.imp id fun z => ⟨z, hlen⟩⟩⟩
    have hS05 : Same H0 (upd H4 sh (.lst (nums (ss ++ [kept.length])))) := Same.mut hS04 z4
    have e5 : (upd H4 sh (.lst (nums (ss ++ [kept.length])))) p3 = some (.lst (nums ks)) := lk_ne k2 e4
    generalize upd H4 sh (.lst (nums (ss ++ [kept.length]))) = H5 at *
    clear hR4 hS04 e4 q5 q6 hns ssl q1 hlen
    walk_at "ho"
  rotate_left 1
  focus
    obtain ⟨ss', hR5⟩ : ∃ ss', UnR K H4 p dx cl hd sh (kfp ++ [p3]) kvs ha ss' (kept ++ [ks]) (UnW kept) (UnS (kept ++ [ks])) kept.length (10 * kept.length) :=
      ⟨ss, { hR4 with hss := fun j => (hR4.hss j).trans ((hSh j).trans ⟨fun o => o.elim id fun z => absurd z.2 hlen, .inl⟩).symm }⟩
    have hS05 := hS04
    have e5 := e4
    generalize H4 = H5 at *
    clear hR4 hS04 e4 q5 q6 hns ssl q1 hlen
    walk_at "ho"
  all_goals
    have hk10 : ks.length ≤ 10 := by rw [List.length_map] at hcn; omega
    have hWk : ∀ j l, (UnW kept j l ∨ (j = kept.length ∧ l ∈ ks.take 0)) ↔ UnW kept j l := fun j l => ⟨fun o => o.elim id fun z => by simp at z, .inl⟩
    refine g_rForL (xs := nums ks) e5 (fun i σ H' => ∃ kvs' ha' o4, σ = [some (.ref p), some (.ref a), some (.int (kept.length : Int)), some (.ref p3), o4] ∧ Same H0 H' ∧ H' p3 = some (.lst (nums ks)) ∧ UnR K H' p dx cl hd sh (kfp ++ [p3]) kvs' ha' ss' (kept ++ [ks]) (fun j l => UnW kept j l ∨ (j = kept.length ∧ l ∈ ks.take i)) (UnS (kept ++ [ks])) (kept.length + 1) (10 * kept.length + i) ∧ ∀ l a, ha' l = some a → H0 a = none)
      ⟨_, _, _, rfl, hS05, e5, hR5.cast hWk (Nat.le_succ _) (Nat.le_refl _), z5⟩ ?_ ?_ ?_
    · rintro i σ H' hi ⟨_, _, _, rfl, _, e, _⟩
      exact e
    · rintro i v σ H' hv ⟨kvs', ha', _, rfl, hS6, e6, R, hf⟩
      obtain ⟨x, hx, rfl⟩ := nums_of hv
      have hik := lt_of_get hx
      have q1 := R.hp
      have q2 := R.hh
      have hp3' := R.n2 p3 (List.mem_append_right _ (List.mem_singleton_self _))
      have hxi : ¬ x ∈ ks.take i := nodup_at hkn hx
      have hlen : kvs'.length < 100000 := Nat.lt_of_le_of_lt R.len (by omega)
      have hWx : ∀ j l, (UnW kept j l ∨ (j = kept.length ∧ l ∈ ks.take (i + 1))) ↔ ((UnW kept j l ∨ (j = kept.length ∧ l ∈ ks.take i)) ∨ (j = kept.length ∧ l = x)) := fun j l => by
        rw [take_snoc hx, List.mem_append, List.mem_singleton]
        constructor
        · rintro (h | ⟨h, h' | h'⟩)
          · exact .inl (.inl h)
          · exact .inl (.inr ⟨h, h'⟩)
          · exact .inr ⟨h, h'⟩
        · rintro ((h | ⟨h, h'⟩) | ⟨h, h'⟩)
          · exact .inl h
          · exact .inr ⟨h, .inl h'⟩
          · exact .inr ⟨h, .inr h'⟩
      have hWno : ¬ (UnW kept kept.length x ∨ (kept.length = kept.length ∧ x ∈ ks.take i)) := by
        rintro (⟨k, e, _⟩ | ⟨_, h⟩)
        · exact absurd (lt_of_get e) (Nat.lt_irrefl _)
        · exact hxi h
      walk_at "ho"
      cases e : ha' x with
      | none =>
        refine g_rDNotIn q2 (b := false) (by rw [R.hv, e]; rfl) ?_
        walk_at "ho"
        rename_i ln hln
        have nl : ln ≠ hd := (ne_of_none q2 hln).symm
        refine g_rDPut (lk_new hln q2) hlen ?_
        have np : p ≠ hd := R.cl_ne.2.2.2.2
        walk_at "ho"
        refine g_rDGet upd_same (by rw [valV_put, if_pos rfl]) ?_
        walk_at "ho"
        refine g_append (lk_ne nl upd_same) (by show (0 : Nat) < _; decide) ?_
        walk_at "ho"
        have R7 := R.holdNew e hln (Nat.lt_succ_self _) hWx
        have hln0 : H0 ln = none := Same.free hS6 hln
        have np3 : p3 ≠ hd := ne_of e6 q2 (fun q => nomatch q)
        refine ⟨_, _, _, rfl, Same.mut (Same.mut (Same.mut hS6 hln0) z3) hln0, lk_ne (ne_of_none e6 hln) (lk_ne np3 (lk_new hln e6)), R7, fun l b eb => ?_⟩
        by_cases hq : l = x
        · rw [if_pos hq] at eb; cases eb; exact hln0
        · rw [if_neg hq] at eb; exact hf l b eb
      | some b =>
        obtain ⟨is, eb, en, ei⟩ := R.hl x b e
        refine g_rDNotIn q2 (b := true) (by rw [R.hv, e]; rfl) ?_
        walk_at "ho"
        refine g_rDGet q2 (by rw [R.hv, e]; rfl) ?_
        walk_at "ho"
        refine g_append eb (by
          rw [nums_len]
          exact Nat.lt_of_le_of_lt (nodup_len (kept.length + 1) is en fun j hj => R.wb j x ((ei j).mp hj)) (Nat.lt_of_lt_of_le (show kept.length + 1 < 100000 by omega) (by decide))) ?_
        walk_at "ho"
        have R7 := R.holdOld e eb en ei hWno (Nat.lt_succ_self _) hWx
        have hb0 := hf x b e
        refine ⟨kvs', ha', _, rfl, Same.mut hS6 hb0, lk_ne (fun q => hp3'.2.2 x (by rw [q]; exact e)) e6, ?_, hf⟩
        rw [show nums is ++ [V.int (kept.length : Int)] = nums (is ++ [kept.length]) from (nums_append is [kept.length]).symm]
        exact R7
    · rintro σ H' ⟨kvs', ha', _, rfl, hS6, e6, R, hf⟩
      rw [nums_len, List.take_length] at R
      walk_at "ho"
      refine q H' hS6 ⟨kept ++ [ks], dx, cl, hd, sh, kfp ++ [p3], kvs', ha', ss', hK.add hkn hkm, ?_, z1, z2, z3, z4, hf⟩
      have hl1 : (kept ++ [ks]).length = kept.length + 1 := by rw [List.length_append]; rfl
      rw [hl1]
      refine R.cast (fun j l => ?_) (Nat.le_refl _) (by omega)
      unfold UnW
      constructor
      · rintro ⟨k, e, l⟩
        by_cases hj : j < kept.length
        · rw [List.getElem?_append_left hj] at e
          exact .inl ⟨k, e, l⟩
        · rw [List.getElem?_append_right (by omega)] at e
          have h0 : j - kept.length = 0 := by
            have := (List.getElem?_eq_some_iff.mp e).1
            simp at this; omega
          rw [h0] at e; cases e
          exact .inr ⟨by omega, l⟩
      · rintro (⟨k, e, l⟩ | ⟨rfl, l⟩)
        · exact ⟨k, by rw [List.getElem?_append_left (lt_of_get e)]; exact e, l⟩
        · exact ⟨ks, by rw [List.getElem?_append_right (Nat.le_refl _), Nat.sub_self]; rfl, l⟩
def spUnInit (K : PySem.W.Frag) : Sp := fun vs H Q _ => ∃ (p dx a : Addr) (C : List (List Nat)) (H0 : Hp), vs = [.ref p, .ref a] ∧ H p = some (.ins (He.ga K "Units") dx []) ∧ H0 p = none ∧ Same H0 H ∧ LstAt H0 a IsC C ∧ (∀ c ∈ C, c.length ≤ 10) ∧ C.length < 5000 ∧
  ∀ H', Same H0 H' → UnAt K H0 H' p C → Q .non H'
theorem ok_Units_init (F : FunD K "__init__" "Units.__init__" (defArgs s_Units_init) (defBody s_Units_init) (defScope s_Units_init) [] [] f fd) (hm : mg "Units" = some (.ref (He.ga K "Units"))) (M : Mk K (He.ga K "Units") f) (T : Txt K mg) (M_Units_add_clause : MethOk P w K mg base 1 (He.ga K "Units") "add_clause" ["self", "clause"] (spAdd K)) : InitOk P w K mg base 2 "Units" (He.ga K "Units") ["self", "clauses"] (spUnInit K) := by
  refine ⟨f, fd, hm, M, (FunD.bindsN (ps := ["self", "clauses"]) F fun _ _ _ _ _ _ us hl => match us, hl with | [_, _], _ => rfl), fn_ok F sc_Units_init ?len (fun cdv A outer s H vs Q E hr h => ⟨_, (pss_cons (ps_f T.c_Units T.n_Units_clauses (pv 0) (pe_lst pa_nil))
  (pss_cons (ps_f T.c_Units T.n_Units_holders (pv 0) pe_dnewK)
  (pss_cons (ps_f T.c_Units T.n_Units_shorts (pv 0) (pe_lst pa_nil))
  (pss_one (ps_for PassesOwn.never rfl (pi_list (pv 1)) (pg_name (i := 2) sc_Units_init.nd rfl (Or.inl rfl))
  (pss_one (ps_expr (pe_methD M_Units_add_clause T.c_Units (hr.mono (by decide)) (pv 0) (pa_cons (pv 2) pa_nil))))))))), ?_⟩)⟩
  case len => walk_at "ln"
  
  obtain ⟨p, dx, a, C, H0, rfl, hp, hp0, hS, ⟨va, e1, r1⟩, hc, hl, q⟩ := h
  walk_at "st"
  walk_at "ho"
  rename_i l1 hl1 l2 hl2 l3 hl3
  have m1 : l1 ≠ p := ne_new hp hl1
  have m2 : l2 ≠ p := ne_new upd_same hl2
  have m3 : l3 ≠ p := ne_new upd_same hl3
  have w1 : H0 l1 = none := Same.free hS hl1
  have w2 : H0 l2 = none := Same.free (Same.mut (Same.mut hS w1) hp0) hl2
  have w3 : H0 l3 = none := Same.free (Same.mut (Same.mut (Same.mut (Same.mut hS w1) hp0) w2) hp0) hl3
  have m12 : l1 ≠ l2 := (ne_new (lk_ne m1 upd_same) hl2).symm
  have m13 : l1 ≠ l3 := (ne_new (lk_ne m1 (lk_ne m12 (lk_ne m1 upd_same))) hl3).symm
  have m23 : l2 ≠ l3 := (ne_new (lk_ne m2 upd_same) hl3).symm
  have uw : ∀ i l, ¬ UnW [] i l := fun i l ⟨k, e, _⟩ => by simp at e
  have us : ∀ i, ¬ UnS [] i := fun i ⟨k, e, _⟩ => by simp at e
  have key : ∀ G : Hp, G p = some (.ins (He.ga K "Units") dx (F_Units (.ref l1) (.ref l2) (.ref l3))) → G l1 = some (.lst []) → G l2 = some (.dK []) → G l3 = some (.lst []) → UnAt K H0 G p [] := fun G g1 g2 g3 g4 => by
    have R : UnR K G p dx l1 l2 l3 [] [] (fun _ => none) [] [] (UnW []) (UnS []) 0 0 :=
      ⟨g1, g2, rfl, (fun i ks a e => by simp at e), g3, (fun _ => rfl), (fun _ _ _ e => by cases e), (fun _ _ e => by cases e), (fun l _ i w => uw i l w), (fun i l w => absurd w (uw i l)), g4, List.nodup_nil, (fun i => ⟨(fun h => by cases h), fun h => absurd h (us i)⟩), m13, (fun a h => by cases h), (fun _ _ e => by cases e), Nat.le_refl _⟩
    exact ⟨[], dx, l1, l2, l3, [], [], fun _ => none, [], KeptOf.nil, R, hp0, w1, w2, w3, (fun _ _ e => by cases e)⟩
  refine g_rForL (xs := va) (lk_ne (ne_of_none e1 hp0) (lk_ne (ne_of_none e1 w3) (lk_ne (ne_of_none e1 hp0) (lk_ne (ne_of_none e1 w2) (lk_ne (ne_of_none e1 hp0) (lk_ne (ne_of_none e1 w1) (hS _ _ e1)))))))
    (fun i σ H' => ∃ o, σ = [some (.ref p), some (.ref a), o] ∧ Same H0 H' ∧ UnAt K H0 H' p (C.take i))
    ⟨_, rfl, Same.mut (Same.mut (Same.mut (Same.mut (Same.mut (Same.mut hS w1) hp0) w2) hp0) w3) hp0, key _ upd_same (lk_ne m1 (lk_ne m13 (lk_ne m1 (lk_ne m12 (lk_ne m1 upd_same))))) (lk_ne m2 (lk_ne m23 (lk_ne m2 upd_same))) (lk_ne m3 upd_same)⟩ ?_ ?_ ?_
  · rintro i σ H' hi ⟨_, rfl, hS', _⟩
    exact hS' _ _ e1
  · rintro i v σ H' hv ⟨_, rfl, hS', hU⟩
    obtain ⟨c, hcc, t, rfl, ht⟩ := r1.2 i v hv
    obtain ⟨kept, dx', cl', hd', sh', _, _, _, _, _, hR, _⟩ := id hU
    have q1 := hR.hp
    walk_at "ho"
    refine ⟨p, t, C.take i, c, H0, rfl, hU, hS', hS' _ _ ht, hc c (List.mem_of_getElem? hcc), by rw [List.length_take]; omega, fun H2 hS2 hU2 => ?_⟩
    walk_at "ho"
    refine ⟨_, rfl, hS2, ?_⟩
    rw [take_snoc hcc]
    exact hU2
  · rintro σ H' ⟨_, rfl, hS', hU⟩
    rw [r1.1, List.take_length] at hU
    exact q H' hS' hU
end
end
section
/-! part SgAl -/
set_option Elab.async false
set_option maxRecDepth 100000
set_option linter.unusedVariables false
set_option maxHeartbeats 1000000
open PySem PySem.Spec PyProof.Rows L2


local macro_rules | `(tactic| walk_at "na") => `(tactic| first | assumption | (refine NetAt.mono (H := ?na_H) ?na_s ?na_e; (case na_e => assumption); (case na_s => walk_at "ex")))
local macro_rules | `(tactic| walk_at "gs") => `(tactic| (with_reducible refine g_netnat (n := ?go_n) ?go_h ?_; (case go_h => walk_at "na")))
section
variable {P : Program} {w : World} {K : PySem.W.Frag} {mg : Str → Option Value} {base : Heap} {f pr : Addr} {fd : FuncData}
def spInRange : Sp := fun vs H Q _ => ∃ (a : Addr) (c : List Nat) (L : Nat), vs = [.ref a, .int (L : Int)] ∧ H a = some (.tup (nums c)) ∧ (∀ x ∈ c, x < L) ∧ ∀ H', Same H H' → Q (.bl true) H'
theorem ok_in_range (F : FunD K "in_range" "in_range" (defArgs s_in_range) (defBody s_in_range) (defScope s_in_range) [] [] f fd) (hm : mg "in_range" = some (.ref f)) : DefOk P w K mg base 1 "in_range" ["clause", "limit"] spInRange := by
  refine ⟨f, fd, hm, F.kp, (FunD.bindsN (ps := ["clause", "limit"]) F fun _ _ _ _ _ _ us hl => match us, hl with | [_, _], _ => rfl), fn_ok F sc_in_range ?len (fun cdv A outer s H vs Q E hr h => ⟨_, (pss_one (ps_ret (pe_cmpR (op_eqD hr.units) (by exact (pe_lc (own := [("literal", 2)]) (by rfl) sc_in_range.nd (pi_tup (pv 0)) (blkOk_by (own := [("literal", 2)]) (N := ["clause", "limit", "literal"]) (sc := defScope s_in_range) (by decide +kernel)) (fun _ _ _ _ _ => by exact (pg_name (i := 2) sc_in_range.nd rfl (Or.inl rfl))) (fun _ _ _ _ _ => by exact pts_one (pt_not (pt_chain op_le op_lt (pe_int (i := ((0 : Nat) : Int))) (pv 2) (pv 1)))) (fun _ _ _ _ _ => by exact (pv 2)))) (pe_lst pa_nil) (nomark _)))), ?_⟩)⟩
  case len => walk_at "ln"
  
  obtain ⟨a, c, L, rfl, ha, hc, q⟩ := h
  walk_at "st"
  walk_at "go"
  refine g_rLcTN (xs := nums c) ha (fun D i x H' hD hx hS QB hQ => ?_) (fun D H' hD e => ?_)
  · obtain ⟨n, hn, rfl⟩ := nums_of hx
    have hlt := hc n (List.mem_of_getElem? hn)
    walk_at "go"
    rw [decide_eq_true hlt]
    exact hQ _ _ rfl
  · subst e
    walk_at "go"
    rename_i l1 hl1
    refine g_eqD (K := K) (d := .list []) (.lst (SqL.of (lk_new hl1 upd_same)) .nil) (.lst (SqL.of upd_same) .nil) ⟨rfl, by decide⟩ ?_
    walk_at "go"
    exact q _ (L2.Same.trans (Same.new hD) (Same.new hl1))
theorem g_inRange {H : Hp} {Q : VK} {E : XK} {a : Addr} {c : List Nat} {L : Nat} (ha : H a = some (.tup (nums c))) (hc : ∀ x ∈ c, x < L) (q : ∀ H', Same H H' → Q (.bl true) H') : spInRange [.ref a, .int (L : Int)] H Q E := ⟨a, c, L, rfl, ha, hc, q⟩
theorem UnAt.rd {H0 H : Hp} {p : Addr} {C : List (List Nat)} {L : Nat} (h : UnAt K H0 H p C) (hl : CLt C L) : ∃ kept, KeptOf C kept ∧ UnRd K H p kept ∧ KeptOk kept L := by
  obtain ⟨kept, dx, cl, hd, sh, kfp, kvs, ha, ss, h1, h2, h3⟩ := h
  refine ⟨kept, h1, h2.rd, fun k hk => ?_, fun k hk x hx => ?_⟩
  · obtain ⟨c, _, c2, _⟩ := h1.of hk; exact c2
  · obtain ⟨c, c1, _, c3⟩ := h1.of hk
    exact hl c c1 x ((c3 x).mp hx)
theorem UnAt.ins {H0 H : Hp} {p : Addr} {C : List (List Nat)} (h : UnAt K H0 H p C) : ∃ dx cl hd sh, H p = some (.ins (He.ga K "Units") dx (F_Units (.ref cl) (.ref hd) (.ref sh))) := by
  obtain ⟨kept, dx, cl, hd, sh, kfp, kvs, ha, ss, h1, h2, h3⟩ := h
  exact ⟨_, _, _, _, h2.hp⟩
theorem g_follows {H0 H : Hp} {Q : VK} {E : XK} {p a : Addr} {C : List (List Nat)} {c : List Nat} {L : Nat} (hU : UnAt K H0 H p C) (ha : H a = some (.tup (nums c))) (hl : CLt C L) (hc : ∀ x ∈ c, x < L) (hL : L % 2 = 0) (hL2 : L ≤ 50000) (hz : c.length ≤ 10) (hF : Fol C c) (q : ∀ H', Same H H' → Q (.bl true) H') : spFollows K [.ref p, .ref a] H Q E := by
  obtain ⟨kept, k1, k2, k3⟩ := hU.rd hl
  exact ⟨p, a, kept, c, L, rfl, k2, ha, k3, fun x hx => neg_lt hL (hc x hx), by omega, hL2, k1.fol hF, q⟩
def spLines (K : PySem.W.Frag) : Sp := fun vs H Q _ => ∃ (p a : Addr) (M L : Nat) (z : Str) (C lines : List (List Nat)) (H0 : Hp), vs = [.ref p, .int (M : Int), .ref a, .str z] ∧ UnAt K H0 H p C ∧ Same H0 H ∧ LstAt H0 a IsC lines ∧ CLt C L ∧ CLt lines M ∧ M ≤ L ∧ L % 2 = 0 ∧ L ≤ 50000 ∧ Short lines ∧ C.length + lines.length < 5000 ∧ FolS C lines ∧
  ∀ H', Same H0 H' → UnAt K H0 H' p (C ++ lines) → Q .non H'
theorem ok_fault_of_lines (F : FunD K "fault_of_lines" "fault_of_lines" (defArgs s_fault_of_lines) (defBody s_fault_of_lines) (defScope s_fault_of_lines) [] [] f fd) (hm : mg "fault_of_lines" = some (.ref f)) (T : Txt K mg) (D_in_range : DefOk P w K mg base 1 "in_range" ["clause", "limit"] spInRange) (M_Units_follows : MethOk P w K mg base 3 (He.ga K "Units") "follows" ["self", "line"] (spFollows K)) (M_Units_add_clause : MethOk P w K mg base 1 (He.ga K "Units") "add_clause" ["self", "clause"] (spAdd K)) : DefOk P w K mg base 4 "fault_of_lines" ["units", "limit", "lines", "part"] (spLines K) := by
  refine ⟨f, fd, hm, F.kp, (FunD.bindsN (ps := ["units", "limit", "lines", "part"]) F fun _ _ _ _ _ _ us hl => match us, hl with | [_, _, _, _], _ => rfl), fn_ok F sc_fault_of_lines ?len (fun cdv A outer s H vs Q E hr h => ⟨_, (pss_cons (ps_for PassesOwn.never rfl (pi_enum (by rfl) T.m_enumerate (pa_cons (pv 2) pa_nil)) (pg_tupK (K := K) (n := 2) (by rfl) (by rfl) (pgs_cons (pg_name (i := 4) sc_fault_of_lines.nd rfl (Or.inl rfl)) (pgs_cons (pg_name (i := 5) sc_fault_of_lines.nd rfl (Or.inl rfl)) pgs_nil)))
  (pss_cons (ps_if (PW.pt (pw_or (pt_not (pt_val (pe_callD D_in_range (hr.mono (by decide)) (by rfl) (pa_cons (pv 5) (pa_cons (pv 1) pa_nil))))) (pw_or1 (pt_not (pt_val (pe_methD M_Units_follows T.c_Units (hr.mono (by decide)) (pv 0) (pa_cons (pv 5) pa_nil))))))) (pss_one (ps_ret (pe_tup (pa_cons (pv 3) (pa_cons (pv 4) pa_nil))))) pss_nil)
  (pss_one (ps_expr (pe_methD M_Units_add_clause T.c_Units (hr.mono (by decide)) (pv 0) (pa_cons (pv 5) pa_nil))))))
  (pss_one (ps_ret pe_non))), ?_⟩)⟩
  case len => walk_at "ln"
  
  obtain ⟨p, a, M, L, z, C, lines, H0, rfl, hU, hS, ⟨va, e1, r1⟩, hC, hM, hML, hL, hL2, hs, hlen, hF, q⟩ := h
  walk_at "st"
  walk_at "go"
  refine g_rForE (xs := va) (hS _ _ e1) (fun i σ H' => ∃ o1 o2, σ = [some (.ref p), some (.int (M : Int)), some (.ref a), some (.str z), o1, o2] ∧ Same H0 H' ∧ UnAt K H0 H' p (C ++ lines.take i))
    ⟨_, _, rfl, hS, by rw [List.take_zero, List.append_nil]; exact hU⟩ ?_ ?_ ?_
  · rintro i σ H' hi ⟨_, _, rfl, hS', _⟩
    exact hS' _ _ e1
  · rintro i v σ H' T' hv ⟨_, _, rfl, hS', hU'⟩ hT
    obtain ⟨c, hcc, t, rfl, ht⟩ := r1.2 i v hv
    have hmem := List.mem_of_getElem? hcc
    have hcl : CLt (C ++ lines.take i) L := fun d hd x hx => by
      rcases List.mem_append.mp hd with hd | hd
      · exact hC d hd x hx
      · exact Nat.lt_of_lt_of_le (hM d (List.mem_of_mem_take hd) x hx) hML
    walk_at "go"
    refine g_inRange (lk_new hT (hS' _ _ ht)) (hM c hmem) (fun H2 hS2 => ?_)
    have hU2 := hU'.mono (L2.Same.trans (Same.new hT) hS2)
    have ht2 := hS2 _ _ (lk_new (o := .tup [.int (i : Int), .ref t]) hT (hS' _ _ ht))
    obtain ⟨dx, cl, hd, sh, q1⟩ := hU2.ins
    walk_at "go"
    refine g_follows hU2 ht2 hcl (fun x hx => Nat.lt_of_lt_of_le (hM c hmem x hx) hML) hL hL2 (hs c hmem) (hF i c hcc) (fun H3 hS3 => ?_)
    have hU3 := hU2.mono hS3
    have ht3 := hS3 _ _ ht2
    obtain ⟨dx3, cl3, hd3, sh3, q3⟩ := hU3.ins
    have hS03 : Same H0 H3 := L2.Same.trans hS' (L2.Same.trans (Same.new hT) (L2.Same.trans hS2 hS3))
    clear q1
    walk_at "go"
    refine ⟨p, t, _, c, H0, rfl, hU3, hS03, ht3, hs c hmem, by rw [List.length_append, List.length_take]; omega, fun H4 hS4 hU4 => ?_⟩
    walk_at "go"
    refine ⟨_, _, rfl, hS4, ?_⟩
    rw [take_snoc hcc, ← List.append_assoc]
    exact hU4
  · rintro σ H' ⟨_, _, rfl, hS', hU'⟩
    rw [r1.1, List.take_length] at hU'
    walk_at "go"
    exact q H' hS' hU'
theorem g_lines {H0 H : Hp} {Q : VK} {E : XK} {p a : Addr} {M L : Nat} {z : Str} {C lines : List (List Nat)} (hU : UnAt K H0 H p C) (hS : Same H0 H) (ha : LstAt H0 a IsC lines) (hC : CLt C L) (hM : CLt lines M) (hML : M ≤ L) (hL : L % 2 = 0) (hL2 : L ≤ 50000) (hs : Short lines) (hz : C.length + lines.length < 5000) (hF : FolS C lines)
    (q : ∀ H', Same H0 H' → UnAt K H0 H' p (C ++ lines) → Q .non H') : spLines K [.ref p, .int (M : Int), .ref a, .str z] H Q E := ⟨p, a, M, L, z, C, lines, H0, rfl, hU, hS, ha, hC, hM, hML, hL, hL2, hs, hz, hF, q⟩
end
end
section
/-! part SgAl2 -/
set_option Elab.async false
set_option maxRecDepth 100000
set_option linter.unusedVariables false
set_option maxHeartbeats 1000000
open PySem PySem.Spec PyProof.Rows L2


local macro_rules | `(tactic| walk_at "na") => `(tactic| first | assumption | (refine NetAt.mono (H := ?na_H) ?na_s ?na_e; (case na_e => assumption); (case na_s => walk_at "ex")))
local macro_rules | `(tactic| walk_at "gs") => `(tactic| (with_reducible refine g_netnat (n := ?go_n) ?go_h ?_; (case go_h => walk_at "na")))
section
variable {P : Program} {w : World} {K : PySem.W.Frag} {mg : Str → Option Value} {base : Heap} {f pr : Addr} {fd : FuncData}
theorem set_get {α : Type} {xs : List α} {i : Nat} {x : α} (h : xs[i]? = some x) : xs.set i x = xs := by
  apply List.ext_getElem?
  intro j
  rw [List.getElem?_set]
  split
  · rename_i e
    subst e
    rw [if_pos (lt_of_get h), h]
  · rfl
/-- for clause in list: units.add_clause(clause) -/
theorem g_addLoop {i j : Nat} {D : Ends} {σ : L2.St} {o0 : Option V} {l u : Addr} {H0 H : Hp} {C xs : List (List Nat)} (hj : σ[j]? = some (some (.ref u))) (hi : σ[i]? = some o0) (hij : i ≠ j) (hl : LstAt H0 l IsC xs) (hU : UnAt K H0 H u C) (hS : Same H0 H) (hs : Short xs) (hz : C.length + xs.length < 5000)
    (q : ∀ o H', Same H0 H' → UnAt K H0 H' u (C ++ xs) → D.nx (σ.set i o) H') : rForL K (gName i) (tDrop (tMeth (He.ga K "Units") "add_clause" (spAdd K) [] E0 (tVar j) (tCons (tVar i) tNil))) D σ (.ref l) H := by
  obtain ⟨va, e1, r1⟩ := hl
  refine g_rForL (xs := va) (hS _ _ e1) (fun k σ' H' => ∃ o, σ' = σ.set i o ∧ Same H0 H' ∧ UnAt K H0 H' u (C ++ xs.take k)) ⟨o0, (set_get hi).symm, hS, by rw [List.take_zero, List.append_nil]; exact hU⟩ ?_ ?_ ?_
  · rintro k σ' H' _ ⟨_, _, hS', _⟩
    exact hS' _ _ e1
  · rintro k v σ' H' hv ⟨o, rfl, hS', hU'⟩
    obtain ⟨c, hcc, t, rfl, ht⟩ := r1.2 k v hv
    obtain ⟨dx, cl, hd, sh, q1⟩ := hU'.ins
    have hil : i < σ.length := lt_of_get hi
    have z1 : ((σ.set i o).set i (some (.ref t)))[j]? = some (some (.ref u)) := by
      rw [List.getElem?_set_ne hij, List.getElem?_set_ne hij]; exact hj
    have z2 : ((σ.set i o).set i (some (.ref t)))[i]? = some (some (.ref t)) := by
      rw [List.getElem?_set_self (by rw [List.length_set]; exact hil)]
    refine g_name ?_
    refine g_drop (g_meth (g_var z1 (g_rMeth q1 (F_Units_no_add_clause _ _ _) (g_cons (g_var z2 (g_nil ?_))))))
    refine ⟨u, t, C ++ xs.take k, c, H0, rfl, hU', hS', hS' _ _ ht, hs c (List.mem_of_getElem? hcc), by rw [List.length_append, List.length_take]; omega, fun H2 hS2 hU2 => ?_⟩
    refine ⟨some (.ref t), by rw [List.set_set], hS2, ?_⟩
    rw [take_snoc hcc, ← List.append_assoc]
    exact hU2
  · rintro σ' H' ⟨o, rfl, hS', hU'⟩
    rw [r1.1, List.take_length] at hU'
    exact q o H' hS' hU'
def spAtStart (K : PySem.W.Frag) : Sp := fun vs H Q _ => ∃ (p cp : Addr) (n : NetD) (ct : Crt), vs = [.ref p, .ref cp] ∧ NetAt K H p n ∧ CrtAt K H cp ct ∧ NetOk n ∧ ct.starts = [] ∧ CLt ct.facts (2 * n.nn) ∧ Short ct.facts ∧ ct.facts.length ≤ 200 ∧ FolS (frameC n 0 ++ startC n) ct.facts ∧
  ∀ H', Same H H' → Q .non H'
theorem ok_fault_at_start (F : FunD K "fault_at_start" "fault_at_start" (defArgs s_fault_at_start) (defBody s_fault_at_start) (defScope s_fault_at_start) [] [] f fd) (hm : mg "fault_at_start" = some (.ref f)) (T : Txt K mg) (P_Net_node_count : PropOk P w K mg base 1 (He.ga K "Net") "node_count" (spNetNat K NetD.nn)) (D_frame_clauses : DefOk P w K mg base 4 "frame_clauses" ["net", "frame"] (spFrameClauses K)) (I_Units : InitOk P w K mg base 2 "Units" (He.ga K "Units") ["self", "clauses"] (spUnInit K)) (D_start_clauses : DefOk P w K mg base 3 "start_clauses" ["net"] (spNetClauses K startC)) (M_Units_add_clause : MethOk P w K mg base 1 (He.ga K "Units") "add_clause" ["self", "clause"] (spAdd K)) (D_fault_of_lines : DefOk P w K mg base 4 "fault_of_lines" ["units", "limit", "lines", "part"] (spLines K)) : DefOk P w K mg base 5 "fault_at_start" ["net", "certificate"] (spAtStart K) := by
  refine ⟨f, fd, hm, F.kp, (FunD.bindsN (ps := ["net", "certificate"]) F fun _ _ _ _ _ _ us hl => match us, hl with | [_, _], _ => rfl), fn_ok F sc_fault_at_start ?len (fun cdv A outer s H vs Q E hr h => ⟨_, (pss_cons (ps_set (i := 2) sc_fault_at_start.nd rfl (Or.inl rfl) (pe_op op_mul (pe_int (i := ((2 : Nat) : Int))) (pe_propD P_Net_node_count T.c_Net (hr.mono (by decide)) (pv 0))))
  (pss_cons (ps_set (i := 3) sc_fault_at_start.nd rfl (Or.inl rfl) (pe_makeD I_Units (hr.mono (by decide)) (by rfl) (pa_cons (pe_callD D_frame_clauses (hr.mono (by decide)) (by rfl) (pa_cons (pv 0) (pa_cons (pe_int (i := ((0 : Nat) : Int))) pa_nil))) pa_nil)))
  (pss_cons (ps_for PassesOwn.never rfl (pi_list (pe_callD D_start_clauses (hr.mono (by decide)) (by rfl) (pa_cons (pv 0) pa_nil))) (pg_name (i := 4) sc_fault_at_start.nd rfl (Or.inl rfl))
  (pss_one (ps_expr (pe_methD M_Units_add_clause T.c_Units (hr.mono (by decide)) (pv 3) (pa_cons (pv 4) pa_nil)))))
  (pss_cons (ps_set (i := 5) sc_fault_at_start.nd rfl (Or.inl rfl) (pe_callD D_fault_of_lines (hr.mono (by decide)) (by rfl) (pa_cons (pv 3) (pa_cons (pv 2) (pa_cons (pe_f T.c_AlikeCertificate T.n_AlikeCertificate_start_lines (pv 1)) (pa_cons pe_str pa_nil))))))
  (pss_cons (ps_if (pt_cmpR op_notN' (pv 5) pe_non (nomark _)) (pss_one (ps_ret (pv 5))) pss_nil)
  (pss_one (ps_ret (pe_callD D_fault_of_lines (hr.mono (by decide)) (by rfl) (pa_cons (pv 3) (pa_cons (pv 2) (pa_cons (pe_f T.c_AlikeCertificate T.n_AlikeCertificate_facts (pv 1)) (pa_cons pe_str pa_nil)))))))))))), ?_⟩)⟩
  case len => walk_at "ln"
  
  obtain ⟨p, cp, n, ct, rfl, hn, hc, hk, h0, hL, hs, hfl, hF, q⟩ := h
  obtain ⟨dx, ll, la, h1, -, -⟩ := id hn
  obtain ⟨cd, l1, l2, l3, l4, c1, c2, c3, c4, c5⟩ := id hc
  have hz := hk.z
  have hal : n.ands.length ≤ 300 := by unfold NetD.nn at hz; omega
  have hll : n.lat.length ≤ 300 := by unfold NetD.nn at hz; omega
  walk_at "st"
  walk_at "go"
  refine ⟨p, n, 0, rfl, hn, by omega, fun H1 a hS1 ha hl1 => ?_⟩
  walk_at "go"
  intro u ud hu hud hne
  refine ⟨u, ud, a, frameC n 0, H1, rfl, upd_same, hu, by walk_at "ex", hl1, (fun c hc => frameC_short n 0 c hc), by rw [frameC_len]; omega, fun H2 hS2 hU2 => ⟨rfl, ?_⟩⟩
  walk_at "go"
  refine ⟨p, n, rfl, hn.mono (L2.Same.trans hS1 hS2), by omega, hk.s, fun H3 b hS3 hb hl3 => ?_⟩
  obtain ⟨H4, hS14, hS43, hU3, hnew, htup⟩ := hU2.rebase hS2 hS3
  have hl4 : LstAt H4 b IsC (startC n) := by
    obtain ⟨vs, e, r⟩ := hl3
    exact ⟨vs, hnew _ _ hb e, r.imp fun v x => to_C _ _ v x htup⟩
  refine g_addLoop (K := K) rfl rfl (by decide) hl4 hU3 hS43 (startsC_short _ _) (by rw [frameC_len]; unfold startC; rw [startsC_len]; omega) (fun o H5 hS5 hU5 => ?_)
  have s4 := L2.Same.trans hS1 hS14
  have c2' := c2.mono mono_C s4
  have c3' : LstAt H4 l2 IsC [] := h0 ▸ c3.mono mono_C s4
  have q1 := hS5 _ _ (hS14 _ _ (hS1 _ _ c1))
  simp only [List.set_cons_succ, List.set_cons_zero]
  walk_at "go"
  have hcl : CLt (frameC n 0 ++ startC n) (2 * n.nn) := (frameC_lt hk 0 |>.le (by omega)).app (startsC_lt n.lat (2 * n.fl) (by unfold NetD.nn NetD.fl; omega))
  have hcz : (frameC n 0 ++ startC n).length ≤ 1201 := by rw [List.length_append, frameC_len]; unfold startC; rw [startsC_len]; omega
  refine g_lines (L := 2 * n.nn) (lines := []) hU5 hS5 c3' hcl (fun c hc => nomatch hc) (Nat.le_refl _) (by omega) (by omega) (fun c hc => nomatch hc) (by show _ + 0 < _; omega) (FolS.nil _) (fun H6 hS6 hU6 => ?_)
  rw [List.append_nil] at hU6
  have q6 := hS6 _ _ (hS14 _ _ (hS1 _ _ c1))
  clear q1
  walk_at "go"
  refine g_lines (L := 2 * n.nn) hU6 hS6 c2' hcl hL (Nat.le_refl _) (by omega) (by omega) hs (by omega) hF (fun H7 hS7 hU7 => ?_)
  exact q H7 (L2.Same.trans s4 hS7)
def spInCycle (K : PySem.W.Frag) : Sp := fun vs H Q _ => ∃ (u jp cp : Addr) (c d : Cir Str) (ct : Crt) (H0 : Hp), vs = [.ref u, .ref jp, .ref cp] ∧ UnAt K H0 H u (frameC (joinN c d) 0) ∧ Same H0 H ∧ JoinAt K H0 jp c d ∧ CrtAt K H0 cp ct ∧ NetOk (joinN c d) ∧
  CLt ct.facts (2 * (joinN c d).nn) ∧ Short ct.facts ∧ ct.facts.length ≤ 200 ∧ CLt ct.lines (2 * (joinN c d).nn) ∧ Short ct.lines ∧ ct.lines.length ≤ 1000 ∧ FolS (frameC (joinN c d) 0 ++ ct.facts) ct.lines ∧
  (∀ g ∈ joinG c d, g.1 < 2 * (joinN c d).nn ∧ g.2 < 2 * (joinN c d).nn ∧ ∀ k ∈ sameC g.1 g.2, Fol (frameC (joinN c d) 0 ++ ct.facts ++ ct.lines) k) ∧
  ∀ H', Same H0 H' → UnAt K H0 H' u (frameC (joinN c d) 0 ++ ct.facts ++ ct.lines) → Q .non H'
theorem ok_fault_in_cycle (F : FunD K "fault_in_cycle" "fault_in_cycle" (defArgs s_fault_in_cycle) (defBody s_fault_in_cycle) (defScope s_fault_in_cycle) [] [] f fd) (hm : mg "fault_in_cycle" = some (.ref f)) (T : Txt K mg) (P_Net_node_count : PropOk P w K mg base 1 (He.ga K "Net") "node_count" (spNetNat K NetD.nn)) (D_same_clauses : DefOk P w K mg base 1 "same_clauses" ["x", "y"] spSame) (M_Units_follows : MethOk P w K mg base 3 (He.ga K "Units") "follows" ["self", "line"] (spFollows K)) (M_Units_add_clause : MethOk P w K mg base 1 (He.ga K "Units") "add_clause" ["self", "clause"] (spAdd K)) (D_fault_of_lines : DefOk P w K mg base 4 "fault_of_lines" ["units", "limit", "lines", "part"] (spLines K)) : DefOk P w K mg base 5 "fault_in_cycle" ["units", "joined", "certificate"] (spInCycle K) := by
  refine ⟨f, fd, hm, F.kp, (FunD.bindsN (ps := ["units", "joined", "certificate"]) F fun _ _ _ _ _ _ us hl => match us, hl with | [_, _, _], _ => rfl), fn_ok F sc_fault_in_cycle ?len (fun cdv A outer s H vs Q E hr h => ⟨_, (pss_cons (ps_set (i := 3) sc_fault_in_cycle.nd rfl (Or.inl rfl) (pe_op op_mul (pe_int (i := ((2 : Nat) : Int))) (pe_propD P_Net_node_count T.c_Net (hr.mono (by decide)) (pe_f T.c_Joined T.n_Joined_joint (pv 1)))))
  (pss_cons (ps_for PassesOwn.never rfl (pi_list (pe_f T.c_AlikeCertificate T.n_AlikeCertificate_facts (pv 2))) (pg_name (i := 4) sc_fault_in_cycle.nd rfl (Or.inl rfl))
  (pss_one (ps_expr (pe_methD M_Units_add_clause T.c_Units (hr.mono (by decide)) (pv 0) (pa_cons (pv 4) pa_nil)))))
  (pss_cons (ps_set (i := 5) sc_fault_in_cycle.nd rfl (Or.inl rfl) (pe_callD D_fault_of_lines (hr.mono (by decide)) (by rfl) (pa_cons (pv 0) (pa_cons (pv 3) (pa_cons (pe_f T.c_AlikeCertificate T.n_AlikeCertificate_lines (pv 2)) (pa_cons pe_str pa_nil))))))
  (pss_cons (ps_if (pt_cmpR op_notN' (pv 5) pe_non (nomark _)) (pss_one (ps_ret (pv 5))) pss_nil)
  (pss_cons (ps_for PassesOwn.never rfl (pi_enum (by rfl) T.m_enumerate (pa_cons (pe_f T.c_Joined T.n_Joined_goals (pv 1)) pa_nil)) (pg_tupK (K := K) (n := 2) (by rfl) (by rfl) (pgs_cons (pg_name (i := 6) sc_fault_in_cycle.nd rfl (Or.inl rfl)) (pgs_cons (pg_tupK (K := K) (n := 2) (by rfl) (by rfl) (pgs_cons (pg_name (i := 7) sc_fault_in_cycle.nd rfl (Or.inl rfl)) (pgs_cons (pg_name (i := 8) sc_fault_in_cycle.nd rfl (Or.inl rfl)) pgs_nil))) pgs_nil)))
  (pss_one (ps_for PassesOwn.never rfl (pi_list (pe_callD D_same_clauses (hr.mono (by decide)) (by rfl) (pa_cons (pv 7) (pa_cons (pv 8) pa_nil)))) (pg_name (i := 9) sc_fault_in_cycle.nd rfl (Or.inl rfl))
  (pss_one (ps_if (pt_not (pt_val (pe_methD M_Units_follows T.c_Units (hr.mono (by decide)) (pv 0) (pa_cons (pv 9) pa_nil)))) (pss_one (ps_ret (pe_tup (pa_cons pe_str (pa_cons (pv 6) pa_nil))))) pss_nil)))))
  (pss_one (ps_ret pe_non))))))), ?_⟩)⟩
  case len => walk_at "ln"
  
  obtain ⟨u, jp, cp, c, d, ct, H0, rfl, hU, hS, hj, hc, hk, f1, f2, f3, g1, g2, g3, hF, hG, q⟩ := h
  obtain ⟨dx, fs, jn, lg, j1, j2, j3, j4, j5, j6⟩ := id hj
  obtain ⟨nx, nl1, nl2, j7, -, -⟩ := id j5
  obtain ⟨cd, l1, l2, l3, l4, c1, c2, c3, c4, c5⟩ := id hc
  generalize hn : joinN c d = n at *
  have hz := hk.z
  have hal : n.ands.length ≤ 300 := by unfold NetD.nn at hz; omega
  have hfl : (frameC n 0).length ≤ 901 := by rw [frameC_len]; omega
  have hft : CLt (frameC n 0) (2 * n.nn) := (frameC_lt hk 0).le (by omega)
  walk_at "st"
  walk_at "go"
  refine g_addLoop (K := K) rfl rfl (by decide) c2 hU hS f2 (by omega) (fun o H1 hS1 hU1 => ?_)
  simp only [List.set_cons_succ, List.set_cons_zero]
  walk_at "go"
  refine g_lines (L := 2 * n.nn) hU1 hS1 c4 (hft.app f1) g1 (Nat.le_refl _) (by omega) (by omega) g2 (by rw [List.length_append]; omega) hF (fun H2 hS2 hU2 => ?_)
  have hct : CLt (frameC n 0 ++ ct.facts ++ ct.lines) (2 * n.nn) := (hft.app f1).app g1
  walk_at "go"
  obtain ⟨vg, eg, rg⟩ := j6
  have hjp := fun H' (s : Same H0 H') => s _ _ j1
  refine g_rForE (xs := vg) (hS2 _ _ eg) (fun i σ H' => ∃ o1 o2 o3 o4 o5 o6, σ = [some (.ref u), some (.ref jp), some (.ref cp), some (.int ((2 * n.nn : Nat) : Int)), o1, o2, o3, o4, o5, o6] ∧ Same H2 H') ⟨_, _, _, _, _, _, rfl, L2.Same.refl _⟩ ?_ ?_ ?_
  · rintro i σ H' hi ⟨_, _, _, _, _, _, rfl, hS'⟩
    exact hS' _ _ (hS2 _ _ eg)
  · rintro i v σ H' T' hv ⟨_, _, _, _, _, _, rfl, hS'⟩ hT
    obtain ⟨⟨x, y⟩, hxy, t, rfl, ht⟩ := rg.2 i v hv
    obtain ⟨b1, b2, b3⟩ := hG _ (List.mem_of_getElem? hxy)
    have ht' := hS' _ _ (hS2 _ _ ht)
    walk_at "go"
    refine ⟨x, y, rfl, fun H3 l hS3 hl0 ⟨vl, el, rl⟩ => ?_⟩
    have s23 : Same H2 H3 := L2.Same.trans hS' (L2.Same.trans (Same.new hT) hS3)
    refine g_rForL (xs := vl) el (fun k σ H' => ∃ o1 o2 o3 o4 o5 o6, σ = [some (.ref u), some (.ref jp), some (.ref cp), some (.int ((2 * n.nn : Nat) : Int)), o1, o2, o3, o4, o5, o6] ∧ Same H3 H') ⟨_, _, _, _, _, _, rfl, L2.Same.refl _⟩ ?_ ?_ ?_
    · rintro k σ H' _ ⟨_, _, _, _, _, _, rfl, hS'⟩
      exact hS' _ _ el
    · rintro k v σ H' hv ⟨_, _, _, _, _, _, rfl, hS''⟩
      obtain ⟨cl, hcc, t, rfl, ht⟩ := rl.2 k v hv
      have hU3 := hU2.mono (L2.Same.trans s23 hS'')
      obtain ⟨dx, cl', hd, sh, q1⟩ := hU3.ins
      have hmem := List.mem_of_getElem? hcc
      walk_at "go"
      refine g_follows hU3 (hS'' _ _ ht) hct (sameC_lt (by omega) b1 b2 _ hmem) (by omega) (by omega) (sameC_short _ _ _ hmem) (b3 _ hmem) (fun H4 hS4 => ?_)
      walk_at "go"
      exact ⟨_, _, _, _, _, _, rfl, L2.Same.trans hS'' hS4⟩
    · rintro σ H' ⟨_, _, _, _, _, _, rfl, hS''⟩
      exact ⟨_, _, _, _, _, _, rfl, L2.Same.trans s23 hS''⟩
  · rintro σ H' ⟨_, _, _, _, _, _, rfl, hS'⟩
    walk_at "go"
    exact q H' (L2.Same.trans hS2 hS') (hU2.mono hS')
def spInNext (K : PySem.W.Frag) : Sp := fun vs H Q _ => ∃ (u p cp : Addr) (n : NetD) (ct : Crt) (C : List (List Nat)) (H0 : Hp), vs = [.ref u, .ref p, .ref cp] ∧ UnAt K H0 H u C ∧ Same H0 H ∧ NetAt K H0 p n ∧ CrtAt K H0 cp ct ∧ NetOk n ∧
  CLt C (2 * n.nn) ∧ C.length ≤ 2200 ∧ CLt ct.facts (2 * n.nn) ∧ Short ct.facts ∧ ct.facts.length ≤ 200 ∧ ct.nexts = [] ∧ FolS (C ++ frameC n 1 ++ linkC n 0) (ct.facts.map (shiftC (1 * 2 * n.nn))) ∧
  ∀ H', Same H0 H' → Q .non H'
theorem ok_fault_in_next (F : FunD K "fault_in_next" "fault_in_next" (defArgs s_fault_in_next) (defBody s_fault_in_next) (defScope s_fault_in_next) [] [] f fd) (hm : mg "fault_in_next" = some (.ref f)) (T : Txt K mg) (P_Net_node_count : PropOk P w K mg base 1 (He.ga K "Net") "node_count" (spNetNat K NetD.nn)) (D_frame_clauses : DefOk P w K mg base 4 "frame_clauses" ["net", "frame"] (spFrameClauses K)) (D_link_clauses : DefOk P w K mg base 3 "link_clauses" ["net", "frame"] (spLinkClauses K)) (D_in_frame : DefOk P w K mg base 3 "in_frame" ["net", "clause", "frame"] (spInFrame K)) (M_Units_follows : MethOk P w K mg base 3 (He.ga K "Units") "follows" ["self", "line"] (spFollows K)) (M_Units_add_clause : MethOk P w K mg base 1 (He.ga K "Units") "add_clause" ["self", "clause"] (spAdd K)) (D_fault_of_lines : DefOk P w K mg base 4 "fault_of_lines" ["units", "limit", "lines", "part"] (spLines K)) : DefOk P w K mg base 5 "fault_in_next" ["units", "net", "certificate"] (spInNext K) := by
  refine ⟨f, fd, hm, F.kp, (FunD.bindsN (ps := ["units", "net", "certificate"]) F fun _ _ _ _ _ _ us hl => match us, hl with | [_, _, _], _ => rfl), fn_ok F sc_fault_in_next ?len (fun cdv A outer s H vs Q E hr h => ⟨_, (pss_cons (ps_for PassesOwn.never rfl (pi_list (pe_callD D_frame_clauses (hr.mono (by decide)) (by rfl) (pa_cons (pv 1) (pa_cons (pe_int (i := ((1 : Nat) : Int))) pa_nil)))) (pg_name (i := 3) sc_fault_in_next.nd rfl (Or.inl rfl))
  (pss_one (ps_expr (pe_methD M_Units_add_clause T.c_Units (hr.mono (by decide)) (pv 0) (pa_cons (pv 3) pa_nil)))))
  (pss_cons (ps_for PassesOwn.never rfl (pi_list (pe_callD D_link_clauses (hr.mono (by decide)) (by rfl) (pa_cons (pv 1) (pa_cons (pe_int (i := ((0 : Nat) : Int))) pa_nil)))) (pg_name (i := 3) sc_fault_in_next.nd rfl (Or.inl rfl))
  (pss_one (ps_expr (pe_methD M_Units_add_clause T.c_Units (hr.mono (by decide)) (pv 0) (pa_cons (pv 3) pa_nil)))))
  (pss_cons (ps_set (i := 4) sc_fault_in_next.nd rfl (Or.inl rfl) (pe_callD D_fault_of_lines (hr.mono (by decide)) (by rfl) (pa_cons (pv 0) (pa_cons (pe_op op_mul (pe_int (i := ((4 : Nat) : Int))) (pe_propD P_Net_node_count T.c_Net (hr.mono (by decide)) (pv 1))) (pa_cons (pe_f T.c_AlikeCertificate T.n_AlikeCertificate_next_lines (pv 2)) (pa_cons pe_str pa_nil))))))
  (pss_cons (ps_if (pt_cmpR op_notN' (pv 4) pe_non (nomark _)) (pss_one (ps_ret (pv 4))) pss_nil)
  (pss_cons (ps_for PassesOwn.never rfl (pi_enum (by rfl) T.m_enumerate (pa_cons (pe_f T.c_AlikeCertificate T.n_AlikeCertificate_facts (pv 2)) pa_nil)) (pg_tupK (K := K) (n := 2) (by rfl) (by rfl) (pgs_cons (pg_name (i := 5) sc_fault_in_next.nd rfl (Or.inl rfl)) (pgs_cons (pg_name (i := 6) sc_fault_in_next.nd rfl (Or.inl rfl)) pgs_nil)))
  (pss_cons (ps_set (i := 7) sc_fault_in_next.nd rfl (Or.inl rfl) (pe_callD D_in_frame (hr.mono (by decide)) (by rfl) (pa_cons (pv 1) (pa_cons (pv 6) (pa_cons (pe_int (i := ((1 : Nat) : Int))) pa_nil)))))
  (pss_cons (ps_if (pt_not (pt_val (pe_methD M_Units_follows T.c_Units (hr.mono (by decide)) (pv 0) (pa_cons (pv 7) pa_nil)))) (pss_one (ps_ret (pe_tup (pa_cons pe_str (pa_cons (pv 5) pa_nil))))) pss_nil)
  (pss_one (ps_expr (pe_methD M_Units_add_clause T.c_Units (hr.mono (by decide)) (pv 0) (pa_cons (pv 7) pa_nil)))))))
  (pss_one (ps_ret pe_non))))))), ?_⟩)⟩
  case len => walk_at "ln"
  
  obtain ⟨u, p, cp, n, ct, C, H0, rfl, hU, hS, hn, hc, hk, f1, f2, f3, f4, f5, f6, hF, q⟩ := h
  obtain ⟨nx, nl1, nl2, j7, -, -⟩ := id hn
  obtain ⟨cd, l1, l2, l3, l4, c1, c2, c3, c4, c5⟩ := id hc
  have hz := hk.z
  have hal : n.ands.length ≤ 300 := by unfold NetD.nn at hz; omega
  have hll : n.lat.length ≤ 300 := by unfold NetD.nn at hz; omega
  walk_at "st"
  walk_at "go"
  refine ⟨p, n, 1, rfl, hn.mono hS, by omega, fun H1 b hS1 hb hl1 => ?_⟩
  obtain ⟨H2, s02, s21, hU1, hnew, htup⟩ := hU.rebase hS hS1
  have hl2 : LstAt H2 b IsC (frameC n 1) := by
    obtain ⟨vs, e, r⟩ := hl1
    exact ⟨vs, hnew _ _ hb e, r.imp fun v x => to_C _ _ v x htup⟩
  refine g_addLoop (K := K) rfl rfl (by decide) hl2 hU1 s21 (frameC_short n 1) (by rw [frameC_len]; omega) (fun o H3 s23 hU3 => ?_)
  simp only [List.set_cons_succ, List.set_cons_zero]
  walk_at "go"
  refine ⟨p, n, 0, rfl, hn.mono (L2.Same.trans s02 s23), by omega, by omega, fun H4 b' s34 hb' hl4 => ?_⟩
  obtain ⟨H5, s25, s54, hU4, hnew', htup'⟩ := hU3.rebase s23 s34
  have hl5 : LstAt H5 b' IsC (linkC n 0) := by
    obtain ⟨vs, e, r⟩ := hl4
    exact ⟨vs, hnew' _ _ hb' e, r.imp fun v x => to_C _ _ v x htup'⟩
  have s05 := L2.Same.trans s02 s25
  have zl : (C ++ frameC n 1).length ≤ 3101 := by rw [List.length_append, frameC_len]; omega
  have zk : (linkC n 0).length ≤ 600 := by unfold linkC; rw [linksC_len]; omega
  refine g_addLoop (K := K) rfl rfl (by decide) hl5 hU4 s54 (linksC_short _ _ _ _) (by omega) (fun o' H6 s56 hU6 => ?_)
  simp only [List.set_cons_succ, List.set_cons_zero]
  have s06 := L2.Same.trans s05 s56
  have q1 := s06 _ _ c1
  have q2 := s06 _ _ j7
  have hct : CLt (C ++ frameC n 1 ++ linkC n 0) (4 * n.nn) := ((f1.le (by omega)).app ((frameC_lt hk 1).le (by omega))).app (linksC_lt (by omega) _ _ (by unfold NetD.fl NetD.nn; omega) (fun p hp => by have := hk.l p hp; omega))
  have c5' : LstAt H5 l4 IsC [] := f6 ▸ c5.mono mono_C s05
  walk_at "go"
  generalize hCC : C ++ frameC n 1 ++ linkC n 0 = CC at *
  have zC : CC.length ≤ 3701 := by rw [← hCC, List.length_append]; omega
  refine g_lines (L := 4 * n.nn) (lines := []) hU6 s56 c5' hct (fun c hc => nomatch hc) (Nat.le_refl _) (by omega) (by omega) (fun c hc => nomatch hc) (by show _ + 0 < _; omega) (FolS.nil _) (fun H7 s57 hU7 => ?_)
  rw [List.append_nil] at hU7
  have q7 := s57 _ _ (s05 _ _ c1)
  obtain ⟨vf, ef, rf⟩ := c2.mono mono_C s05
  have hn5 := hn.mono s05
  have n5 := s05 _ _ j7
  clear q1 q2 s06 hU6 s56 s54 hU4 hl5 htup' hnew' s25 s34 hl4 hU3 s23 hl2 htup hnew hU1 s21 s02 hS1 hl1 hb hb' hU hS hn hc j7 c1 c2 c3 c4 c5
  walk_at "go"
  refine g_rForE (xs := vf) (s57 _ _ ef) (fun i σ H' => ∃ o1 o2 o3 o4 o5, σ = [some (.ref u), some (.ref p), some (.ref cp), o1, o2, o3, o4, o5] ∧ Same H5 H' ∧ UnAt K H5 H' u (CC ++ (ct.facts.map (shiftC (1 * 2 * n.nn))).take i)) ⟨_, _, _, _, _, rfl, s57, by rw [List.take_zero, List.append_nil]; exact hU7⟩ ?_ ?_ ?_
  · rintro i σ H' hi ⟨_, _, _, _, _, rfl, hS', _⟩
    exact hS' _ _ ef
  · rintro i v σ H' T' hv ⟨_, _, _, _, _, rfl, hS', hU'⟩ hT
    obtain ⟨c, hcc, t, rfl, ht⟩ := rf.2 i v hv
    have hmem := List.mem_of_getElem? hcc
    have hcm : (ct.facts.map (shiftC (1 * 2 * n.nn)))[i]? = some (shiftC (1 * 2 * n.nn) c) := map_get hcc
    have hsh : ∀ x ∈ shiftC (1 * 2 * n.nn) c, x < 4 * n.nn := fun x hx => by
      obtain ⟨y, hy, rfl⟩ := List.mem_map.mp hx
      have := f3 c hmem y hy
      omega
    have hcl : CLt (CC ++ (ct.facts.map (shiftC (1 * 2 * n.nn))).take i) (4 * n.nn) := hct.app fun d hd x hx => by
      obtain ⟨e, he, rfl⟩ := List.mem_map.mp (List.mem_of_mem_take hd)
      obtain ⟨y, hy, rfl⟩ := List.mem_map.mp hx
      have := f3 e he y hy
      omega
    have q8 := hS' _ _ n5
    walk_at "go"
    refine ⟨p, t, n, c, 1, rfl, (hn5.mono hS').mono (Same.new hT), by omega, lk_new hT (hS' _ _ ht), Nat.le_trans (f4 c hmem) (by omega), fun H8 l hS8 hl0 hl8 => ?_⟩
    have hU8 := hU'.mono (L2.Same.trans (Same.new hT) hS8)
    obtain ⟨dx, cl, hd, sh, q1⟩ := hU8.ins
    walk_at "go"
    have hz9 : (shiftC (1 * 2 * n.nn) c).length ≤ 10 := by unfold shiftC; rw [List.length_map]; exact f4 c hmem
    refine g_follows hU8 hl8 hcl hsh (by omega) (by omega) hz9 (hF i _ hcm) (fun H9 hS9 => ?_)
    have hU9 := hU8.mono hS9
    obtain ⟨dx', cl', hd', sh', q9⟩ := hU9.ins
    clear q1
    walk_at "go"
    refine ⟨u, l, _, _, H5, rfl, hU9, L2.Same.trans hS' (L2.Same.trans (Same.new hT) (L2.Same.trans hS8 hS9)), hS9 _ _ hl8, hz9, by rw [List.length_append, List.length_take, List.length_map]; omega, fun H10 hS10 hU10 => ?_⟩
    walk_at "go"
    refine ⟨_, _, _, _, _, rfl, hS10, ?_⟩
    rw [take_snoc hcm, ← List.append_assoc]
    exact hU10
  · rintro σ H' ⟨_, _, _, _, _, rfl, hS', hU'⟩
    walk_at "go"
    exact q H' (L2.Same.trans s05 hS')
end
end
section
/-! part SgAl3 -/
set_option Elab.async false
set_option maxRecDepth 100000
set_option linter.unusedVariables false
set_option maxHeartbeats 1000000
open PySem PySem.Spec PyProof.Rows L2


local macro_rules | `(tactic| walk_at "na") => `(tactic| first | assumption | (refine NetAt.mono (H := ?na_H) ?na_s ?na_e; (case na_e => assumption); (case na_s => walk_at "ex")))
section
variable {P : Program} {w : World} {K : PySem.W.Frag} {mg : Str → Option Value} {base : Heap} {f pr : Addr} {fd : FuncData}
structure AlikeOk (c d : Cir Str) (ct : Crt) : Prop where
  j : JoinOk c d
  n : NetOk (joinN c d)
  s0 : ct.starts = []
  n0 : ct.nexts = []
  f1 : CLt ct.facts (2 * (joinN c d).nn)
  f2 : Short ct.facts
  f3 : ct.facts.length ≤ 200
  l1 : CLt ct.lines (2 * (joinN c d).nn)
  l2 : Short ct.lines
  l3 : ct.lines.length ≤ 1000
  a : FolS (frameC (joinN c d) 0 ++ startC (joinN c d)) ct.facts
  b : FolS (frameC (joinN c d) 0 ++ ct.facts) ct.lines
  g : ∀ g ∈ joinG c d, g.1 < 2 * (joinN c d).nn ∧ g.2 < 2 * (joinN c d).nn ∧ ∀ k ∈ sameC g.1 g.2, Fol (frameC (joinN c d) 0 ++ ct.facts ++ ct.lines) k
  e : FolS (frameC (joinN c d) 0 ++ ct.facts ++ ct.lines ++ frameC (joinN c d) 1 ++ linkC (joinN c d) 0) (ct.facts.map (shiftC (1 * 2 * (joinN c d).nn)))
def spAlike (K : PySem.W.Frag) : Sp := fun vs H Q _ => ∃ (a b cp : Addr) (c d : Cir Str) (ct : Crt), vs = [.ref a, .ref b, .ref cp] ∧ CirAt K H a c ∧ CirAt K H b d ∧ CrtAt K H cp ct ∧ AlikeOk c d ct ∧ ∀ H', Same H H' → Q .non H'
theorem ok_fault_of_alike (F : FunD K "fault_of_alike" "fault_of_alike" (defArgs s_fault_of_alike) (defBody s_fault_of_alike) (defScope s_fault_of_alike) [] [] f fd) (hm : mg "fault_of_alike" = some (.ref f)) (T : Txt K mg) (I_Joined : InitOk P w K mg base 3 "Joined" (He.ga K "Joined") ["self", "left", "right"] (spJoinInit K)) (D_fault_at_start : DefOk P w K mg base 5 "fault_at_start" ["net", "certificate"] (spAtStart K)) (D_frame_clauses : DefOk P w K mg base 4 "frame_clauses" ["net", "frame"] (spFrameClauses K)) (I_Units : InitOk P w K mg base 2 "Units" (He.ga K "Units") ["self", "clauses"] (spUnInit K)) (D_fault_in_cycle : DefOk P w K mg base 5 "fault_in_cycle" ["units", "joined", "certificate"] (spInCycle K)) (D_fault_in_next : DefOk P w K mg base 5 "fault_in_next" ["units", "net", "certificate"] (spInNext K)) : DefOk P w K mg base 6 "fault_of_alike" ["left", "right", "certificate"] (spAlike K) := by
  refine ⟨f, fd, hm, F.kp, (FunD.bindsN (ps := ["left", "right", "certificate"]) F fun _ _ _ _ _ _ us hl => match us, hl with | [_, _, _], _ => rfl), fn_ok F sc_fault_of_alike ?len (fun cdv A outer s H vs Q E hr h => ⟨_, (pss_cons (ps_try_thru0 (pss_one (ps_set (i := 3) sc_fault_of_alike.nd rfl (Or.inl rfl) (pe_makeD I_Joined (hr.mono (by decide)) (by rfl) (pa_cons (pv 0) (pa_cons (pv 1) pa_nil))))))
  (pss_cons (ps_set (i := 4) sc_fault_of_alike.nd rfl (Or.inl rfl) (pe_callD D_fault_at_start (hr.mono (by decide)) (by rfl) (pa_cons (pe_f T.c_Joined T.n_Joined_joint (pv 3)) (pa_cons (pv 2) pa_nil))))
  (pss_cons (ps_if (pt_cmpR op_notN' (pv 4) pe_non (nomark _)) (pss_one (ps_ret (pv 4))) pss_nil)
  (pss_cons (ps_set (i := 5) sc_fault_of_alike.nd rfl (Or.inl rfl) (pe_makeD I_Units (hr.mono (by decide)) (by rfl) (pa_cons (pe_callD D_frame_clauses (hr.mono (by decide)) (by rfl) (pa_cons (pe_f T.c_Joined T.n_Joined_joint (pv 3)) (pa_cons (pe_int (i := ((0 : Nat) : Int))) pa_nil))) pa_nil)))
  (pss_cons (ps_set (i := 4) sc_fault_of_alike.nd rfl (Or.inl rfl) (pe_callD D_fault_in_cycle (hr.mono (by decide)) (by rfl) (pa_cons (pv 5) (pa_cons (pv 3) (pa_cons (pv 2) pa_nil)))))
  (pss_cons (ps_if (pt_cmpR op_notN' (pv 4) pe_non (nomark _)) (pss_one (ps_ret (pv 4))) pss_nil)
  (pss_one (ps_ret (pe_callD D_fault_in_next (hr.mono (by decide)) (by rfl) (pa_cons (pv 5) (pa_cons (pe_f T.c_Joined T.n_Joined_joint (pv 3)) (pa_cons (pv 2) pa_nil)))))))))))), ?_⟩)⟩
  case len => walk_at "ln"
  
  obtain ⟨a, b, cp, c, d, ct, rfl, hA, hB, hc, hk, q⟩ := h
  have hz := hk.n.z
  have hal : (joinN c d).ands.length ≤ 300 := by unfold NetD.nn at hz; omega
  walk_at "st"
  walk_at "go"
  intro j jd hj hjd hne
  refine ⟨j, jd, a, b, c, d, H, rfl, upd_same, hj, by walk_at "ex", hA, hB, hk.j, fun H1 hS1 hJ => ⟨rfl, ?_⟩⟩
  obtain ⟨dx, fs, jn, lg, j1, j2, j3, j4, j5, j6⟩ := id hJ
  have hc1 := hc.mono hS1
  walk_at "go"
  refine ⟨jn, cp, joinN c d, ct, rfl, j5, hc1, hk.n, hk.s0, hk.f1, hk.f2, hk.f3, hk.a, fun H2 hS2 => ?_⟩
  have j12 := hS2 _ _ j1
  have j52 := j5.mono hS2
  walk_at "go"
  refine ⟨jn, joinN c d, 0, rfl, j52, by omega, fun H3 cl hS3 hcl hl3 => ?_⟩
  walk_at "go"
  intro u ud hu hud hne'
  refine ⟨u, ud, cl, frameC (joinN c d) 0, H3, rfl, upd_same, hu, by walk_at "ex", hl3, (fun c hc => frameC_short _ 0 c hc), by rw [frameC_len]; omega, fun H4 hS4 hU4 => ⟨rfl, ?_⟩⟩
  have s13 : Same H1 H3 := L2.Same.trans hS2 hS3
  have hJ3 := hJ.mono s13
  have hc3 := hc1.mono s13
  walk_at "go"
  refine ⟨u, j, cp, c, d, ct, H3, rfl, hU4, hS4, hJ3, hc3, hk.n, hk.f1, hk.f2, hk.f3, hk.l1, hk.l2, hk.l3, hk.b, hk.g, fun H5 hS5 hU5 => ?_⟩
  have j15 := hS5 _ _ (s13 _ _ j1)
  clear j12
  walk_at "go"
  refine ⟨u, jn, cp, joinN c d, ct, frameC (joinN c d) 0 ++ ct.facts ++ ct.lines, H3, rfl, hU5, hS5, j5.mono s13, hc3, hk.n, ((frameC_lt hk.n 0).le (by omega)).app hk.f1 |>.app hk.l1, ?_, hk.f1, hk.f2, hk.f3, hk.n0, hk.e, fun H6 hS6 => ?_⟩
  · have := hk.f3
    have := hk.l3
    rw [List.length_append, List.length_append, frameC_len]
    omega
  · exact q H6 (L2.Same.trans hS1 (L2.Same.trans s13 hS6))
def IsCir (K : PySem.W.Frag) : Hp → V → Cir Str → Prop := fun H v c => ∃ p, v = .ref p ∧ CirAt K H p c
def IsCrt (K : PySem.W.Frag) : Hp → V → Crt → Prop := fun H v c => ∃ p, v = .ref p ∧ CrtAt K H p c
def spChain (K : PySem.W.Frag) : Sp := fun vs H Q _ => ∃ (a b : Addr) (cs : List (Cir Str)) (cts : List Crt), vs = [.ref a, .ref b] ∧ LstAt H a (IsCir K) cs ∧ LstAt H b (IsCrt K) cts ∧ cs.length = cts.length + 1 ∧
  (∀ (i : Nat) (c d : Cir Str) (ct : Crt), cs[i]? = some c → cs[i + 1]? = some d → cts[i]? = some ct → AlikeOk c d ct) ∧ ∀ H', Same H H' → Q .non H'
theorem ok_fault_of_chain (F : FunD K "fault_of_chain" "fault_of_chain" (defArgs s_fault_of_chain) (defBody s_fault_of_chain) (defScope s_fault_of_chain) [] [] f fd) (hm : mg "fault_of_chain" = some (.ref f)) (T : Txt K mg) (D_fault_of_alike : DefOk P w K mg base 6 "fault_of_alike" ["left", "right", "certificate"] (spAlike K)) : DefOk P w K mg base 7 "fault_of_chain" ["circuits", "certificates"] (spChain K) := by
  refine ⟨f, fd, hm, F.kp, (FunD.bindsN (ps := ["circuits", "certificates"]) F fun _ _ _ _ _ _ us hl => match us, hl with | [_, _], _ => rfl), fn_ok F sc_fault_of_chain ?len (fun cdv A outer s H vs Q E hr h => ⟨_, (pss_cons (ps_for PassesOwn.never rfl (pi_enum (by rfl) T.m_enumerate (pa_cons (pv 1) pa_nil)) (pg_tupK (K := K) (n := 2) (by rfl) (by rfl) (pgs_cons (pg_name (i := 2) sc_fault_of_chain.nd rfl (Or.inl rfl)) (pgs_cons (pg_name (i := 3) sc_fault_of_chain.nd rfl (Or.inl rfl)) pgs_nil)))
  (pss_cons (ps_set (i := 4) sc_fault_of_chain.nd rfl (Or.inl rfl) (pe_callD D_fault_of_alike (hr.mono (by decide)) (by rfl) (pa_cons (pe_ix (ix_listK (K := K) (by rfl)) (pv 0) (pv 2) (fun _ _ => rfl)) (pa_cons (pe_ix (ix_listK (K := K) (by rfl)) (pv 0) (pe_op op_add (pv 2) (pe_int (i := ((1 : Nat) : Int)))) (fun _ _ => rfl)) (pa_cons (pv 3) pa_nil)))))
  (pss_one (ps_if (pt_cmpR op_notN' (pv 4) pe_non (nomark _)) (pss_one (ps_ret (pe_tup (pa_cons (pv 2) (pa_cons (pe_ix (ix_tupK (K := K) (by rfl)) (pv 4) (pe_int (i := ((0 : Nat) : Int))) (fun _ _ => rfl)) (pa_cons (pe_ix (ix_tupK (K := K) (by rfl)) (pv 4) (pe_int (i := ((1 : Nat) : Int))) (fun _ _ => rfl)) pa_nil)))))) pss_nil))))
  (pss_one (ps_ret pe_non))), ?_⟩)⟩
  case len => walk_at "ln"
  
  obtain ⟨a, b, cs, cts, rfl, ⟨va, ea, ra⟩, ⟨vb, eb, rb⟩, hlen, hk, q⟩ := h
  walk_at "st"
  walk_at "go"
  refine g_rForE (xs := vb) eb (fun i σ H' => ∃ o1 o2 o3, σ = [some (.ref a), some (.ref b), o1, o2, o3] ∧ Same H H') ⟨_, _, _, rfl, L2.Same.refl _⟩ ?_ ?_ ?_
  · rintro i σ H' hi ⟨_, _, _, rfl, hS⟩
    exact hS _ _ eb
  · rintro i v σ H' T' hv ⟨_, _, _, rfl, hS⟩ hT
    obtain ⟨ct, hct, cp, rfl, hcp⟩ := rb.2 i v hv
    have hi := lt_of_get hct
    obtain ⟨c, hc⟩ : ∃ c, cs[i]? = some c := ⟨_, List.getElem?_eq_getElem (by omega)⟩
    obtain ⟨d, hd⟩ : ∃ d, cs[i + 1]? = some d := ⟨_, List.getElem?_eq_getElem (by omega)⟩
    obtain ⟨v1, hv1, p1, rfl, hp1⟩ := ra.get hc
    obtain ⟨v2, hv2, p2, rfl, hp2⟩ := ra.get hd
    have s1 : Same H (upd H' T' (.tup [.int (i : Int), .ref cp])) := L2.Same.trans hS (Same.new hT)
    walk_at "go"
    refine g_ixL (s1 _ _ ea) hv1 ?_
    walk_at "go"
    refine g_ixL (s1 _ _ ea) hv2 ?_
    walk_at "go"
    refine ⟨p1, p2, cp, c, d, ct, rfl, hp1.mono s1, hp2.mono s1, hcp.mono s1, hk i c d ct hc hd hct, fun H2 hS2 => ?_⟩
    walk_at "go"
    exact ⟨_, _, _, rfl, L2.Same.trans s1 hS2⟩
  · rintro σ H' ⟨_, _, _, rfl, hS⟩
    walk_at "go"
    exact q H' hS
end
end
section
/-! part SgSt -/
set_option Elab.async false
set_option maxRecDepth 100000
set_option linter.unusedVariables false
set_option maxHeartbeats 1000000
open PySem PySem.Spec PyProof.Rows L2


section
variable {P : Program} {w : World} {K : PySem.W.Frag} {mg : Str → Option Value} {base : Heap} {f pr : Addr} {fd : FuncData}
theorem Same.keep3 {l m n : Addr} {H0 H H' : Hp} (k : Keep3 l m n H H') (e : Same H0 H) (h1 : H0 l = none) (h2 : H0 m = none) (h3 : H0 n = none) : Same H0 H' := fun a u ha => k a u (ne_of_none ha h1) (ne_of_none ha h2) (ne_of_none ha h3) (e a u ha)
theorem CirOk.join {c : Cir Str} {imgs : List (Option Nat)} {b : Bld} (hc : CirOk c) (hd : CirOk (rebC c b imgs)) : JoinOk c (rebC c b imgs) := by
  refine ⟨rfl, ?_, fun s hs => (hc.leaf.2.2.1 s (List.mem_append_left _ hs)).str, fun s hs => (hc.outs.2.1 s hs).str, hc.leaf.1, hc.leaf.2.1, hd.leaf.2.1, hc.ands.1, hd.ands.1, hc.outs.1⟩
  unfold rebC
  dsimp only
  rw [List.map_map]
  rfl
def spCarried (K : PySem.W.Frag) (C : Addr) (R : Bld → Nat → Nat → Nat → Bld → Prop) : Sp := fun vs H Q _ => ∃ (a p dx lp ln ll : Addr) (c : Cir Str) (H0 : Hp), vs = [.ref a, .ref p] ∧ Same H0 H ∧ CirAt K H0 a c ∧ CirOk c ∧ BldAt K C H p dx lp ln ll (bld0 (c.ins.length + c.lat.length)) ∧ H0 lp = none ∧ H0 ln = none ∧ H0 ll = none ∧
  ∀ imgs b H' q a2 c2, CarryR R c c.ands.length imgs b → Same H0 H' → H' q = some (.tup [.ref a2, .ref c2]) → CirOk (rebC c b imgs) → CirAt K H' a2 (rebC c b imgs) → CrtAt K H' c2 (certD c (rebC c b imgs) imgs) → Q (.ref q) H'
theorem ok_carried_over_Builder {R : Bld → Nat → Nat → Nat → Bld → Prop} (hR : StepR R) (F : FunD K "carried_over" "carried_over" (defArgs s_carried_over) (defBody s_carried_over) (defScope s_carried_over) [] [] f fd) (hm : mg "carried_over" = some (.ref f)) (T : Txt K mg) (D_leaf_images : DefOk P w K mg base 1 "leaf_images" ["circuit"] (spLeafImages K)) (M_Builder_both : MethOk P w K mg base 2 (He.ga K "Builder") "both" ["self", "left", "right"] (spBoth K (He.ga K "Builder") R)) (D_image_of : DefOk P w K mg base 1 "image_of" ["images", "literal"] spImageOf) (D_rebuilt : DefOk P w K mg base 5 "rebuilt" ["circuit", "builder", "images"] (spRebuilt K (He.ga K "Builder"))) (D_image_certificate : DefOk P w K mg base 5 "image_certificate" ["before", "after", "images", "extra"] (spImageCert K)) : DefOk P w K mg base 6 "carried_over" ["circuit", "builder"] (spCarried K (He.ga K "Builder") R) := by
  refine ⟨f, fd, hm, F.kp, (FunD.bindsN (ps := ["circuit", "builder"]) F fun _ _ _ _ _ _ us hl => match us, hl with | [_, _], _ => rfl), fn_ok F sc_carried_over ?len (fun cdv A outer s H vs Q E hr h => ⟨_, (pss_cons (ps_set (i := 2) sc_carried_over.nd rfl (Or.inl rfl) (pe_callD D_leaf_images (hr.mono (by decide)) (by rfl) (pa_cons (pv 0) pa_nil)))
  (pss_cons (ps_for PassesOwn.never rfl (pi_list (pe_f T.c_Circuit T.n_Circuit_ands (pv 0))) (pg_tupK (K := K) (n := 2) (by rfl) (by rfl) (pgs_cons (pg_name (i := 3) sc_carried_over.nd rfl (Or.inl rfl)) (pgs_cons (pg_name (i := 4) sc_carried_over.nd rfl (Or.inl rfl)) pgs_nil)))
  (pss_one (ps_expr (pe_bm PySem.F.plainAttrs_list PySem.F.slot_list_append PySem.F.type_list_append mt_append (pv 2) (pa_cons (pe_methD M_Builder_both T.c_Builder (hr.mono (by decide)) (pv 1) (pa_cons (pe_callD D_image_of (hr.mono (by decide)) (by rfl) (pa_cons (pv 2) (pa_cons (pv 3) pa_nil))) (pa_cons (pe_callD D_image_of (hr.mono (by decide)) (by rfl) (pa_cons (pv 2) (pa_cons (pv 4) pa_nil))) pa_nil))) pa_nil)))))
  (pss_cons (ps_set (i := 5) sc_carried_over.nd rfl (Or.inl rfl) (pe_callD D_rebuilt (hr.mono (by decide)) (by rfl) (pa_cons (pv 0) (pa_cons (pv 1) (pa_cons (pv 2) pa_nil)))))
  (pss_one (ps_ret (pe_tup (pa_cons (pv 5) (pa_cons (pe_callD D_image_certificate (hr.mono (by decide)) (by rfl) (pa_cons (pv 0) (pa_cons (pv 5) (pa_cons (pv 2) (pa_cons pe_dnewK pa_nil))))) pa_nil)))))))), ?_⟩)⟩
  case len => walk_at "ln"
  
  obtain ⟨a, p, dx, lp, ln, ll, c, H0, rfl, hS, hc, hk, hb, z1, z2, z3, q⟩ := h
  obtain ⟨cx, li, l2, la, lo, h1, h2, ⟨vl, h3, r3⟩, ⟨va, h4, r4⟩, ⟨vo, h5, r5⟩⟩ := id hc
  have hnn : c.nn ≤ 3000 := by have h1 := hk.leaf.1; have h2 := hk.leaf.2.1; have h3 := hk.ands.1; unfold Cir.nn; omega
  have hfa : c.fa + c.ands.length = c.nn := rfl
  walk_at "st"
  walk_at "go"
  refine ⟨a, c, rfl, hc.mono hS, by omega, fun H1 im hS1 him hI => ?_⟩
  have him0 : H0 im = none := Same.free hS him
  have b1 : BldAt K (He.ga K "Builder") H1 p dx lp ln ll (bld0 (c.ins.length + c.lat.length)) := hb.mono hS1
  have n1 : im ≠ lp := by obtain ⟨_, e, _⟩ := hb.2.1; exact (ne_of_none e him).symm
  have n2 : im ≠ ln := (ne_of_none hb.2.2.1 him).symm
  have n3 : im ≠ ll := (ne_of_none hb.2.2.2.1 him).symm
  have np : p ≠ im := ne_of_none hb.1 him
  have s1 := L2.Same.trans hS hS1
  clear hS hS1 him hb
  walk_at "go"
  refine g_rForL (xs := va) (s1 _ _ h4) (fun i σ H' => ∃ imgs b o1 o2 o3, σ = [some (.ref a), some (.ref p), some (.ref im), o1, o2, o3] ∧ Same H0 H' ∧ BldAt K (He.ga K "Builder") H' p dx lp ln ll b ∧ LstAt H' im IsON imgs ∧ CarryR R c i imgs b)
    ⟨_, _, _, _, _, rfl, s1, b1, hI, CarryR.zero⟩ ?_ ?_ ?_
  · rintro i σ H' hi ⟨_, _, _, _, _, rfl, hS, _⟩
    exact hS _ _ h4
  · rintro i v σ H' hv ⟨imgs, b, _, _, _, rfl, hS, hb, hL, hC⟩
    obtain ⟨⟨l, r⟩, hp, t, rfl, ht⟩ := r4.2 i v hv
    have hai := lt_of_get hp
    obtain ⟨al, ar⟩ := hk.ands.2 _ _ _ hp
    have ok := hC.ok hR hk
    obtain ⟨yl, hyl⟩ := ok.has (l := l) (by omega)
    obtain ⟨yr, hyr⟩ := ok.has (l := r) (by omega)
    have ll1 := ok.lt (l := l) (by omega)
    have lr1 := ok.lt (l := r) (by omega)
    have ht' := hS _ _ ht
    have hbi := hb.1
    walk_at "go"
    refine g_rBMR (R := IsON) hL ?_
    walk_at "go"
    refine g_imageOf (l := l) hL hyl ?_
    walk_at "go"
    refine g_imageOf (l := r) hL hyr ?_
    walk_at "go"
    refine ⟨p, dx, lp, ln, ll, b, imOf imgs l, imOf imgs r, rfl, hb, ok.ok, ll1, lr1, by have := ok.nn; omega, fun y b' H2 hr k2 hb2 => ?_⟩
    have hL2 : LstAt H2 im IsON imgs := by
      obtain ⟨vs, e, r⟩ := hL
      exact ⟨vs, k2 _ _ n1 n2 n3 e, r⟩
    walk_at "go"
    refine g_appendR (R := IsON) (x := some y) hL2 stab_ON rfl (by rw [ok.len]; omega) (fun H3 k3 hL3 => ?_)
    have s2 := Same.keep3 k2 hS z1 z2 z3
    refine ⟨_, b', _, _, _, rfl, Same.keep k3 s2 him0, ⟨k3 _ _ np hb2.1, LstAt.keepL to_P k3 hL2 n1.symm hb2.2.1, k3 _ _ n2.symm hb2.2.2.1, k3 _ _ n3.symm hb2.2.2.2.1, hb2.2.2.2.2⟩, hL3, CarryR.step hC hp hr⟩
  · rintro σ H' ⟨imgs, b, _, _, _, rfl, hS, hb, hL, hC⟩
    rw [r4.1] at hC
    have ok := hC.ok hR hk
    have hlat : ∀ l ∈ c.lat, l.2.2 / 2 < c.fa + c.ands.length := fun l hl => by have := (hk.leaf.2.2.2.2 l hl).2; omega
    have hout : ∀ l ∈ c.outs, l.2 / 2 < c.fa + c.ands.length := fun l hl => by have := hk.outs.2.2.2 l hl; omega
    have hd : CirOk (rebC c b imgs) := reb_ok hk ok.ok ok.lc (by have := ok.nn; have := ok.lc; have := hk.ands.1; unfold Bld.nn at *; unfold Cir.fa at *; omega) (fun l hl => ok.lt (hlat l hl)) (fun l hl => ok.lt (hout l hl))
    walk_at "go"
    refine ⟨a, p, im, dx, lp, ln, ll, c, b, imgs, rfl, hc.mono hS, hb, hL, fun l hl => ok.has (hlat l hl), fun l hl => ok.has (hout l hl), hd, fun H2 a2 hS2 ha2 hC2 => ?_⟩
    have s2 := L2.Same.trans hS hS2
    walk_at "go"
    rename_i ed hed
    have sE : Same H2 (upd H2 ed (.dK [])) := Same.new hed
    refine ⟨a, a2, im, ed, c, rebC c b imgs, imgs, rfl, (hc.mono s2).mono sE, hC2.mono sE, (hL.mono mono_ON hS2).mono mono_ON sE, upd_same, hk.join hd, ok.len, fun H3 c2 hS3 hc2 hC3 => ?_⟩
    walk_at "go"
    rename_i q4 hq4
    have s3 : Same H2 (upd H3 q4 (.tup [.ref a2, .ref c2])) := L2.Same.trans (L2.Same.trans sE hS3) (Same.new hq4)
    exact q imgs b _ q4 a2 c2 hC (L2.Same.trans s2 s3) upd_same hd (hC2.mono s3) (hC3.mono (Same.new hq4))
theorem ok_carried_over_RuleBuilder {R : Bld → Nat → Nat → Nat → Bld → Prop} (hR : StepR R) (F : FunD K "carried_over" "carried_over" (defArgs s_carried_over) (defBody s_carried_over) (defScope s_carried_over) [] [] f fd) (hm : mg "carried_over" = some (.ref f)) (T : Txt K mg) (D_leaf_images : DefOk P w K mg base 1 "leaf_images" ["circuit"] (spLeafImages K)) (M_RuleBuilder_both : MethOk P w K mg base 3 (He.ga K "RuleBuilder") "both" ["self", "left", "right"] (spBoth K (He.ga K "RuleBuilder") R)) (D_image_of : DefOk P w K mg base 1 "image_of" ["images", "literal"] spImageOf) (D_rebuilt : DefOk P w K mg base 5 "rebuilt" ["circuit", "builder", "images"] (spRebuilt K (He.ga K "RuleBuilder"))) (D_image_certificate : DefOk P w K mg base 5 "image_certificate" ["before", "after", "images", "extra"] (spImageCert K)) : DefOk P w K mg base 6 "carried_over" ["circuit", "builder"] (spCarried K (He.ga K "RuleBuilder") R) := by
  refine ⟨f, fd, hm, F.kp, (FunD.bindsN (ps := ["circuit", "builder"]) F fun _ _ _ _ _ _ us hl => match us, hl with | [_, _], _ => rfl), fn_ok F sc_carried_over ?len (fun cdv A outer s H vs Q E hr h => ⟨_, (pss_cons (ps_set (i := 2) sc_carried_over.nd rfl (Or.inl rfl) (pe_callD D_leaf_images (hr.mono (by decide)) (by rfl) (pa_cons (pv 0) pa_nil)))
  (pss_cons (ps_for PassesOwn.never rfl (pi_list (pe_f T.c_Circuit T.n_Circuit_ands (pv 0))) (pg_tupK (K := K) (n := 2) (by rfl) (by rfl) (pgs_cons (pg_name (i := 3) sc_carried_over.nd rfl (Or.inl rfl)) (pgs_cons (pg_name (i := 4) sc_carried_over.nd rfl (Or.inl rfl)) pgs_nil)))
  (pss_one (ps_expr (pe_bm PySem.F.plainAttrs_list PySem.F.slot_list_append PySem.F.type_list_append mt_append (pv 2) (pa_cons (pe_methD M_RuleBuilder_both T.c_RuleBuilder (hr.mono (by decide)) (pv 1) (pa_cons (pe_callD D_image_of (hr.mono (by decide)) (by rfl) (pa_cons (pv 2) (pa_cons (pv 3) pa_nil))) (pa_cons (pe_callD D_image_of (hr.mono (by decide)) (by rfl) (pa_cons (pv 2) (pa_cons (pv 4) pa_nil))) pa_nil))) pa_nil)))))
  (pss_cons (ps_set (i := 5) sc_carried_over.nd rfl (Or.inl rfl) (pe_callD D_rebuilt (hr.mono (by decide)) (by rfl) (pa_cons (pv 0) (pa_cons (pv 1) (pa_cons (pv 2) pa_nil)))))
  (pss_one (ps_ret (pe_tup (pa_cons (pv 5) (pa_cons (pe_callD D_image_certificate (hr.mono (by decide)) (by rfl) (pa_cons (pv 0) (pa_cons (pv 5) (pa_cons (pv 2) (pa_cons pe_dnewK pa_nil))))) pa_nil)))))))), ?_⟩)⟩
  case len => walk_at "ln"
  
  obtain ⟨a, p, dx, lp, ln, ll, c, H0, rfl, hS, hc, hk, hb, z1, z2, z3, q⟩ := h
  obtain ⟨cx, li, l2, la, lo, h1, h2, ⟨vl, h3, r3⟩, ⟨va, h4, r4⟩, ⟨vo, h5, r5⟩⟩ := id hc
  have hnn : c.nn ≤ 3000 := by have h1 := hk.leaf.1; have h2 := hk.leaf.2.1; have h3 := hk.ands.1; unfold Cir.nn; omega
  have hfa : c.fa + c.ands.length = c.nn := rfl
  walk_at "st"
  walk_at "go"
  refine ⟨a, c, rfl, hc.mono hS, by omega, fun H1 im hS1 him hI => ?_⟩
  have him0 : H0 im = none := Same.free hS him
  have b1 : BldAt K (He.ga K "RuleBuilder") H1 p dx lp ln ll (bld0 (c.ins.length + c.lat.length)) := hb.mono hS1
  have n1 : im ≠ lp := by obtain ⟨_, e, _⟩ := hb.2.1; exact (ne_of_none e him).symm
  have n2 : im ≠ ln := (ne_of_none hb.2.2.1 him).symm
  have n3 : im ≠ ll := (ne_of_none hb.2.2.2.1 him).symm
  have np : p ≠ im := ne_of_none hb.1 him
  have s1 := L2.Same.trans hS hS1
  clear hS hS1 him hb
  walk_at "go"
  refine g_rForL (xs := va) (s1 _ _ h4) (fun i σ H' => ∃ imgs b o1 o2 o3, σ = [some (.ref a), some (.ref p), some (.ref im), o1, o2, o3] ∧ Same H0 H' ∧ BldAt K (He.ga K "RuleBuilder") H' p dx lp ln ll b ∧ LstAt H' im IsON imgs ∧ CarryR R c i imgs b)
    ⟨_, _, _, _, _, rfl, s1, b1, hI, CarryR.zero⟩ ?_ ?_ ?_
  · rintro i σ H' hi ⟨_, _, _, _, _, rfl, hS, _⟩
    exact hS _ _ h4
  · rintro i v σ H' hv ⟨imgs, b, _, _, _, rfl, hS, hb, hL, hC⟩
    obtain ⟨⟨l, r⟩, hp, t, rfl, ht⟩ := r4.2 i v hv
    have hai := lt_of_get hp
    obtain ⟨al, ar⟩ := hk.ands.2 _ _ _ hp
    have ok := hC.ok hR hk
    obtain ⟨yl, hyl⟩ := ok.has (l := l) (by omega)
    obtain ⟨yr, hyr⟩ := ok.has (l := r) (by omega)
    have ll1 := ok.lt (l := l) (by omega)
    have lr1 := ok.lt (l := r) (by omega)
    have ht' := hS _ _ ht
    have hbi := hb.1
    walk_at "go"
    refine g_rBMR (R := IsON) hL ?_
    walk_at "go"
    refine g_imageOf (l := l) hL hyl ?_
    walk_at "go"
    refine g_imageOf (l := r) hL hyr ?_
    walk_at "go"
    refine ⟨p, dx, lp, ln, ll, b, imOf imgs l, imOf imgs r, rfl, hb, ok.ok, ll1, lr1, by have := ok.nn; omega, fun y b' H2 hr k2 hb2 => ?_⟩
    have hL2 : LstAt H2 im IsON imgs := by
      obtain ⟨vs, e, r⟩ := hL
      exact ⟨vs, k2 _ _ n1 n2 n3 e, r⟩
    walk_at "go"
    refine g_appendR (R := IsON) (x := some y) hL2 stab_ON rfl (by rw [ok.len]; omega) (fun H3 k3 hL3 => ?_)
    have s2 := Same.keep3 k2 hS z1 z2 z3
    refine ⟨_, b', _, _, _, rfl, Same.keep k3 s2 him0, ⟨k3 _ _ np hb2.1, LstAt.keepL to_P k3 hL2 n1.symm hb2.2.1, k3 _ _ n2.symm hb2.2.2.1, k3 _ _ n3.symm hb2.2.2.2.1, hb2.2.2.2.2⟩, hL3, CarryR.step hC hp hr⟩
  · rintro σ H' ⟨imgs, b, _, _, _, rfl, hS, hb, hL, hC⟩
    rw [r4.1] at hC
    have ok := hC.ok hR hk
    have hlat : ∀ l ∈ c.lat, l.2.2 / 2 < c.fa + c.ands.length := fun l hl => by have := (hk.leaf.2.2.2.2 l hl).2; omega
    have hout : ∀ l ∈ c.outs, l.2 / 2 < c.fa + c.ands.length := fun l hl => by have := hk.outs.2.2.2 l hl; omega
    have hd : CirOk (rebC c b imgs) := reb_ok hk ok.ok ok.lc (by have := ok.nn; have := ok.lc; have := hk.ands.1; unfold Bld.nn at *; unfold Cir.fa at *; omega) (fun l hl => ok.lt (hlat l hl)) (fun l hl => ok.lt (hout l hl))
    walk_at "go"
    refine ⟨a, p, im, dx, lp, ln, ll, c, b, imgs, rfl, hc.mono hS, hb, hL, fun l hl => ok.has (hlat l hl), fun l hl => ok.has (hout l hl), hd, fun H2 a2 hS2 ha2 hC2 => ?_⟩
    have s2 := L2.Same.trans hS hS2
    walk_at "go"
    rename_i ed hed
    have sE : Same H2 (upd H2 ed (.dK [])) := Same.new hed
    refine ⟨a, a2, im, ed, c, rebC c b imgs, imgs, rfl, (hc.mono s2).mono sE, hC2.mono sE, (hL.mono mono_ON hS2).mono mono_ON sE, upd_same, hk.join hd, ok.len, fun H3 c2 hS3 hc2 hC3 => ?_⟩
    walk_at "go"
    rename_i q4 hq4
    have s3 : Same H2 (upd H3 q4 (.tup [.ref a2, .ref c2])) := L2.Same.trans (L2.Same.trans sE hS3) (Same.new hq4)
    exact q imgs b _ q4 a2 c2 hC (L2.Same.trans s2 s3) upd_same hd (hC2.mono s3) (hC3.mono (Same.new hq4))
end
end
section
/-! part SgMb -/
set_option Elab.async false
set_option maxRecDepth 100000
set_option linter.unusedVariables false
set_option maxHeartbeats 1000000
open PySem PySem.Spec PyProof.Rows L2
theorem pass_join {c d : Cir Str} {imgs : List (Option Nat)} (hc : CirOk c) (hp : PassOk c d imgs) : JoinOk c d := by
  have hd := hp.ok
  refine ⟨hp.ins.symm, ?_, fun s hs => (hc.leaf.2.2.1 s (List.mem_append_left _ hs)).str, fun s hs => (hc.outs.2.1 s hs).str, hc.leaf.1, hc.leaf.2.1, hd.leaf.2.1, hc.ands.1, hd.ands.1, hc.outs.1⟩
  rw [hp.out, List.map_map]
  rfl
/-- a pass's certificate has no fault -/
theorem pass_alike {c d : Cir Str} {imgs : List (Option Nat)} (hc : CirOk c) (hs : Small c) (hp : PassOk c d imgs) : AlikeOk c d (certD c d imgs) := by
  have hnn : c.nn = c.fa + c.ands.length := rfl
  have hfa : c.fa = c.fl + c.lat.length := rfl
  have l1 := certC_len c d imgs c.fl c.lat.length
  have l2 := certC_len c d imgs c.fa c.ands.length
  obtain ⟨s1, s2, s3, s4⟩ := hs
  exact ⟨pass_join hc hp, net_ok hc hp.ok hp.ins ⟨s1, s2, s3, s4⟩ (Small.pass ⟨s1, s2, s3, s4⟩ hp), rfl, rfl, cert_lt hp (by omega), cert_short _ _, by show (certC _ _ _ _ _).length ≤ _; omega, cert_lt hp (by omega), cert_short _ _, by show (certC _ _ _ _ _).length ≤ _; omega,
    start_fol hc hp, lines_fol hp, goals_fol hc hp, next_fol hc hp⟩
end
section
/-! part SgBal -/
set_option Elab.async false
set_option maxRecDepth 100000
set_option linter.unusedVariables false
set_option maxHeartbeats 1000000
open PySem PySem.Spec PyProof.Rows L2


local macro_rules | `(tactic| walk_at "na") => `(tactic| first | assumption | (refine NetAt.mono (H := ?na_H) ?na_s ?na_e; (case na_e => assumption); (case na_s => walk_at "ex")))
local macro_rules | `(tactic| walk_at "gs") => `(tactic| (with_reducible refine g_netnat (n := ?go_n) ?go_h ?_; (case go_h => walk_at "na")))
section
variable {P : Program} {w : World} {K : PySem.W.Frag} {mg : Str → Option Value} {base : Heap} {f pr : Addr} {fd : FuncData}
theorem sumN_ge {f : Nat → Nat} : ∀ {n i : Nat}, i < n → f i ≤ sumN f n
  | n + 1, i, h => by
    show _ ≤ sumN f n + f n
    by_cases q : i = n
    · subst q; exact Nat.le_add_left _ _
    · exact Nat.le_trans (sumN_ge (show i < n by omega)) (Nat.le_add_right _ _)
theorem sumN_mono {f : Nat → Nat} : ∀ {n i : Nat}, i ≤ n → sumN f i ≤ sumN f n
  | 0, i, h => by rw [Nat.le_zero.mp h]; exact Nat.le_refl _
  | n + 1, i, h => by
    by_cases q : i = n + 1
    · rw [q]; exact Nat.le_refl _
    · exact Nat.le_trans (sumN_mono (show i ≤ n by omega)) (Nat.le_add_right _ _)
theorem LstAt.extN {α : Type} {H H' : Hp} {l : Addr} {R : Hp → V → α → Prop} {xs : List α} (to : TO R) (s : LamX.ExtN H H') (h : LstAt H l R xs) : LstAt H' l R xs := by
  obtain ⟨vs, e, r⟩ := h
  exact ⟨vs, s _ _ e (fun _ q => nomatch q), r.1, fun i v hv => by
    obtain ⟨x, hx, hr⟩ := r.2 i v hv
    exact ⟨x, hx, to _ _ _ _ (fun t xs e => s _ _ e (fun _ q => nomatch q)) hr⟩⟩
theorem to_Bl : TO IsBl := fun _ _ _ _ _ h => h
theorem to_ON : TO IsON := fun _ _ _ _ _ h => h
theorem NetAt.extN {H H' : Hp} {p : Addr} {n : NetD} (s : LamX.ExtN H H') (h : NetAt K H p n) : NetAt K H' p n := by
  obtain ⟨dx, ll, la, h1, h2, h3⟩ := h
  exact ⟨dx, ll, la, s _ _ h1 (fun _ q => nomatch q), h2.extN to_P s, h3.extN to_P s⟩
theorem CirAt.extN {H H' : Hp} {p : Addr} {n : Cir Str} (s : LamX.ExtN H H') (h : CirAt K H p n) : CirAt K H' p n := by
  obtain ⟨dx, li, ll, la, lo, h1, h2, h3, h4, h5⟩ := h
  exact ⟨dx, li, ll, la, lo, s _ _ h1 (fun _ q => nomatch q), h2.extN to_S s, h3.extN to_L s, h4.extN to_P s, h5.extN to_O s⟩
theorem CrtAt.extN {H H' : Hp} {p : Addr} {n : Crt} (s : LamX.ExtN H H') (h : CrtAt K H p n) : CrtAt K H' p n := by
  obtain ⟨dx, li, ll, la, lo, h1, h2, h3, h4, h5⟩ := h
  exact ⟨dx, li, ll, la, lo, s _ _ h1 (fun _ q => nomatch q), h2.extN to_C s, h3.extN to_C s, h4.extN to_C s, h5.extN to_C s⟩
theorem ExtN.keepT {l m n : Addr} {H H1 H2 : Hp} (s : LamX.ExtN H H1) (k : KeepT l m n H1 H2) (h1 : H l = none) (h2 : H m = none) (h3 : H n = none) : LamX.ExtN H H2 := fun a u e ht => k a u (ne_of_none e h1) (ne_of_none e h2) (ne_of_none e h3) ht (s a u e ht)
theorem ExtN.keep {l : Addr} {H H1 H2 : Hp} (s : LamX.ExtN H H1) (k : Keep l H1 H2) (h1 : H l = none) : LamX.ExtN H H2 := fun a u e ht => k a u (ne_of_none e h1) (s a u e ht)
theorem BldAt.keepL {α : Type} {C : Addr} {H H' : Hp} {p dx lp ln ll im : Addr} {b : Bld} {R : Hp → V → α → Prop} {xs : List α} (hb : BldAt K C H p dx lp ln ll b) (k : Keep im H H') (hi : LstAt H im R xs) (np : p ≠ im) (n1 : im ≠ lp) (n2 : im ≠ ln) (n3 : im ≠ ll) : BldAt K C H' p dx lp ln ll b :=
  ⟨k _ _ np hb.1, LstAt.keepL to_P k hi n1.symm hb.2.1, k _ _ n2.symm hb.2.2.1, k _ _ n3.symm hb.2.2.2.1, hb.2.2.2.2⟩
theorem KeepO.lst {H H' : Hp} {l : Addr} {vs : List V} (h : H l = some (.lst vs)) (k : Keep l H H') : KeepO H H' := fun a u e h1 _ _ => k a u (fun z => by rw [z, h] at e; cases e; exact h1 _ rfl) e
def spBalanced (K : PySem.W.Frag) (TT : List (Addr × Str)) : Sp := fun vs H Q _ => ∃ (a : Addr) (c : Cir Str), vs = [.ref a] ∧ CirAt K H a c ∧ CirOk c ∧ c.ands.length ≤ 400 ∧ LamX.Tabs TT H ∧
  ∀ H' q a2 im inn T imgs b, LamX.ExtN H H' → LamX.Tabs TT H' → H' q = some (.tup [.ref a2, .ref im]) → InnerOk c inn → BalT c inn T → BalI c inn T c.ands.length imgs b → CirOk (rebC c b imgs) → CirAt K H' a2 (rebC c b imgs) → LstAt H' im IsON imgs → Q (.ref q) H'
theorem ok_balanced {TT : List (Addr × Str)} (F : FunD K "balanced" "balanced" (defArgs s_balanced) (defBody s_balanced) (defScope s_balanced) [] [] f fd) (hm : mg "balanced" = some (.ref f)) (T : Txt K mg) (M_Circuit_as_net : MethOk P w K mg base 3 (He.ga K "Circuit") "as_net" ["self"] (spAsNet K)) (D_inner_nodes : DefOk P w K mg base 4 "inner_nodes" ["circuit"] (spInner K)) (P_Net_first_and : PropOk P w K mg base 1 (He.ga K "Net") "first_and" (spNetNat K NetD.fa)) (P_Net_node_count : PropOk P w K mg base 1 (He.ga K "Net") "node_count" (spNetNat K NetD.nn)) (I_Builder : InitOk P w K mg base 1 "Builder" (He.ga K "Builder") ["self", "leaf_count"] (spBldInit K (He.ga K "Builder"))) (D_leaf_images : DefOk P w K mg base 1 "leaf_images" ["circuit"] (spLeafImages K)) (D_operands_of : DefOk P w K mg base 3 "operands_of" ["net", "inner", "node"] (spOperands K)) (D_image_of : DefOk P w K mg base 1 "image_of" ["images", "literal"] spImageOf) (D_combined : DefOk P w K mg base 6 "combined" ["builder", "literals"] (spCombined K TT)) (D_rebuilt : DefOk P w K mg base 5 "rebuilt" ["circuit", "builder", "images"] (spRebuilt K (He.ga K "Builder"))) : DefOk P w K mg base 7 "balanced" ["circuit"] (spBalanced K TT) := by
  refine ⟨f, fd, hm, F.kp, (FunD.bindsN (ps := ["circuit"]) F fun _ _ _ _ _ _ us hl => match us, hl with | [_], _ => rfl), fn_ok F sc_balanced ?len (fun cdv A outer s H vs Q E hr h => ⟨_, (pss_cons (ps_set (i := 1) sc_balanced.nd rfl (Or.inl rfl) (pe_meth0D M_Circuit_as_net T.c_Circuit (hr.mono (by decide)) (pv 0)))
  (pss_cons (ps_set (i := 2) sc_balanced.nd rfl (Or.inl rfl) (pe_callD D_inner_nodes (hr.mono (by decide)) (by rfl) (pa_cons (pv 0) pa_nil)))
  (pss_cons (ps_set (i := 3) sc_balanced.nd rfl (Or.inl rfl) (pe_makeD I_Builder (hr.mono (by decide)) (by rfl) (pa_cons (pe_op op_sub (pe_propD P_Net_first_and T.c_Net (hr.mono (by decide)) (pv 1)) (pe_int (i := ((1 : Nat) : Int)))) pa_nil)))
  (pss_cons (ps_set (i := 4) sc_balanced.nd rfl (Or.inr rfl) (pe_callD D_leaf_images (hr.mono (by decide)) (by rfl) (pa_cons (pv 0) pa_nil)))
  (pss_cons (ps_for PassesOwn.never rfl (pi_range2 (by rfl) T.m_range (pa_cons (pe_propD P_Net_first_and T.c_Net (hr.mono (by decide)) (pv 1)) (pa_cons (pe_propD P_Net_node_count T.c_Net (hr.mono (by decide)) (pv 1)) pa_nil))) (pg_name (i := 5) sc_balanced.nd rfl (Or.inl rfl))
  (pss_one (ps_if (pt_val (pe_ix (ix_listK (K := K) (by rfl)) (pv 2) (pv 5) (fun _ _ => rfl))) (pss_one (ps_expr (pe_bm PySem.F.plainAttrs_list PySem.F.slot_list_append PySem.F.type_list_append mt_append (pv 4) (pa_cons pe_non pa_nil)))) (pss_cons (ps_set (i := 6) sc_balanced.nd rfl (Or.inl rfl) (pe_callD D_operands_of (hr.mono (by decide)) (by rfl) (pa_cons (pv 1) (pa_cons (pv 2) (pa_cons (pv 5) pa_nil)))))
  (pss_one (ps_expr (pe_bm PySem.F.plainAttrs_list PySem.F.slot_list_append PySem.F.type_list_append mt_append (pv 4) (pa_cons (pe_callD D_combined (hr.mono (by decide)) (by rfl) (pa_cons (pv 3) (pa_cons (by exact (pe_lc (own := [("literal", 7)]) (by rfl) sc_balanced.nd (pi_list (pv 6)) (blkOk_by (own := [("literal", 7)]) (N := ["circuit", "net", "inner", "builder", "images", "node", "operands", "literal"]) (sc := defScope s_balanced) (by decide +kernel)) (fun _ _ _ _ _ => by exact (pg_name (i := 7) sc_balanced.nd rfl (Or.inl rfl))) (fun _ _ _ _ _ => by exact pts_nil) (fun _ _ _ _ _ => by exact (pe_callD D_image_of (hr.mono (by decide)) (by rfl) (pa_cons (pv 4) (pa_cons (pv 7) pa_nil)))))) pa_nil))) pa_nil))))))))
  (pss_one (ps_ret (pe_tup (pa_cons (pe_callD D_rebuilt (hr.mono (by decide)) (by rfl) (pa_cons (pv 0) (pa_cons (pv 3) (pa_cons (pv 4) pa_nil)))) (pa_cons (pv 4) pa_nil)))))))))), ?_⟩)⟩
  case len => walk_at "ln"
  
  obtain ⟨a, c, rfl, hc, hk, hz, hT, q⟩ := h
  obtain ⟨cx, li, ll, la, lo, h1, ⟨vi, h2, r2⟩, ⟨vl, h3, r3⟩, ⟨va, h4, r4⟩, ⟨vo, h5, r5⟩⟩ := id hc
  have hnn := hk.nn_le'
  have e2 := r2.1
  have e3 := r3.1
  have z1 := hk.leaf.1
  have z2 := hk.leaf.2.1
  have hcn : c.nn = c.fa + c.ands.length := rfl
  have hfa : c.fa = 1 + c.ins.length + c.lat.length := rfl
  walk_at "st"
  walk_at "go"
  refine ⟨a, c, rfl, hc, hk.leaf.2.1, fun H1 nt hS1 hnt hN => ?_⟩
  walk_at "go"
  refine ⟨a, c, rfl, hc.mono hS1, hk, fun H2 il inn hS2 hil hin hI => ?_⟩
  have s2 := L2.Same.trans hS1 hS2
  have hN2 := hN.mono hS2
  obtain ⟨TB, hTB⟩ := balT_ex hk hin
  have hbs := bal_sum hk hin hTB
  obtain ⟨nx, nl1, nl2, n1, _, _⟩ := id hN2
  walk_at "go"
  rw [net_fa]
  refine g_sub (by omega) ?_
  walk_at "go"
  intro p dx hp hdx hne
  have sA : Same H2 (upd (upd H2 dx (.own p)) p (.ins (He.ga K "Builder") dx [])) := L2.Same.trans (Same.new hdx) (Same.new (by rw [upd_ne (fun e => hne e.symm)]; exact hp))
  refine ⟨p, dx, _, rfl, upd_same, by omega, fun H3 lp ln lv k1 m1 m2 m3 hb => ⟨rfl, ?_⟩⟩
  have sB : Same H2 H3 := fun a u e => k1 a u (ne_of_none e hp) (sA a u e)
  have hlp := Same.free sA m1
  have hln := Same.free sA m2
  have hlv := Same.free sA m3
  rw [show c.fa - 1 = c.ins.length + c.lat.length by omega] at hb
  walk_at "go"
  refine ⟨a, c, rfl, (hc.mono s2).mono sB, by omega, fun H4 im hS4 him hIm => ?_⟩
  have s4 := L2.Same.trans sB hS4
  have him2 : H2 im = none := Same.free sB him
  have hb4 := hb.mono hS4
  have ni1 : im ≠ lp := by obtain ⟨_, e, _⟩ := hb.2.1; exact (ne_of_none e him).symm
  have ni2 : im ≠ ln := (ne_of_none hb.2.2.1 him).symm
  have ni3 : im ≠ lv := (ne_of_none hb.2.2.2.1 him).symm
  have nip : p ≠ im := ne_of_none hb.1 him
  have hT4 := tabs_keep hT (KeepO.same (L2.Same.trans s2 s4))
  have ex4 : LamX.ExtN H2 H4 := LamX.ExtN.of s4
  have ez : LamX.ExtN H H2 := LamX.ExtN.of s2
  have n14 := s4 _ _ n1
  have hN4 := hN2.mono s4
  clear hb sA sB m1 m2 m3 him hS4 k1 hT
  walk_at "go"
  rw [net_fa, net_nn]
  refine g_rForR2 (n := c.ands.length) (by omega) hcn (fun i σ H' => ∃ imgs b o5 o6 o7, σ = [some (.ref a), some (.ref nt), some (.ref il), some (.ref p), some (.ref im), o5, o6, o7] ∧ LamX.ExtN H2 H' ∧ LamX.Tabs TT H' ∧ BldAt K (He.ga K "Builder") H' p dx lp ln lv b ∧ LstAt H' im IsON imgs ∧ BalI c inn TB i imgs b)
    ⟨_, _, _, _, _, rfl, ex4, hT4, hb4, hIm, BalI.zero⟩ ?_ ?_
  · rintro i σ H5 hi ⟨imgs, b, _, _, _, rfl, hx, hT, hb, hL, hB⟩
    have hz5 : b.pairs.length ≤ c.ands.length := Nat.le_trans hB.z (Nat.le_trans (sumN_mono (Nat.le_of_lt hi)) hbs)
    have hbn : b.nn ≤ 3000 := by have := hB.lc; unfold Bld.nn; omega
    obtain ⟨vi2, ei2, ri2⟩ := hI.extN to_Bl hx
    have hN5 := hN2.extN hx
    have him5 : ∃ vs, H5 im = some (.lst vs) ∧ vs.length = imgs.length := by obtain ⟨vs, e, r⟩ := hL; exact ⟨vs, e, r.1⟩
    have gi : vi2[c.fa + i]? = some (.bl (inn.getD (c.fa + i) false)) := by
      have hlt : c.fa + i < inn.length := by rw [hin.len]; omega
      obtain ⟨v, hv, e⟩ := ri2.get (List.getElem?_eq_getElem hlt)
      have e : v = .bl inn[c.fa + i] := e
      rw [hv, e, List.getD_eq_getElem?_getD, List.getElem?_eq_getElem hlt]
      rfl
    walk_at "go"
    refine g_ixL ei2 gi ?_
    cases hb0 : inn.getD (c.fa + i) false with
    | true =>
      walk_at "go"
      refine g_rBMR (R := IsON) hL ?_
      walk_at "go"
      refine g_appendR (R := IsON) (x := none) hL stab_ON rfl (by rw [hB.len]; omega) (fun H6 k6 hL6 => ?_)
      obtain ⟨vs, e, _⟩ := id hL
      exact ⟨_, b, _, _, _, rfl, ExtN.keep hx k6 him2, tabs_keep hT (KeepO.lst e k6), hb.keepL k6 hL nip ni1 ni2 ni3, hL6, hB.skip hb0⟩
    | false =>
      have hTi : TB i ≤ 2000 := by
        have h9 := sumN_ge (f := fun j => if inn.getD (c.fa + j) false then 0 else TB j) hi
        rw [hb0, if_neg (by decide)] at h9
        omega
      have hTi4 : TB i ≤ 400 := by
        have h9 := sumN_ge (f := fun j => if inn.getD (c.fa + j) false then 0 else TB j) hi
        rw [hb0, if_neg (by decide)] at h9
        omega
      walk_at "go"
      refine ⟨nt, il, c, inn, TB, i, rfl, hN5, ⟨vi2, ei2, ri2⟩, hk, hin, hTB, hi, hTi, fun H6 oq os hS6 hoq ho hR hol => ?_⟩
      have hL6 := hL.mono mono_ON hS6
      walk_at "go"
      refine g_rBMR (R := IsON) hL6 ?_
      walk_at "go"
      refine g_rLcLT (xs := nums os) (rep := IsI) (bs := os.map (imOf imgs)) ho (by rw [nums_len]; omega) (by rw [nums_len]; exact List.length_map ..) mono_I stab_I (fun D j x y H7 hD hx hbx hS7 Qy hQ => ?_) (fun cl H7 hcl hS7 hL7 => ?_)
      · obtain ⟨o, hxo, rfl⟩ := nums_of hx
        rw [map_get hxo] at hbx
        cases hbx
        have hoo := hR.lt o (List.mem_of_getElem? hxo)
        obtain ⟨y, hy⟩ := (hB.has (by omega) hoo.2).1
        walk_at "go"
        refine g_imageOf (l := o) (hL6.mono mono_ON hS7) hy ?_
        exact hQ _ _ (L2.Same.refl _) rfl
      have hA7 := LstAt.nums.mp hL7
      have s7 := L2.Same.trans hS6 hS7
      have hb7 := hb.mono s7
      have hcl5 : H5 cl = none := Same.free hS6 hcl
      have nc1 : cl ≠ lp := by obtain ⟨_, e, _⟩ := hb.2.1; exact (ne_of_none e hcl5).symm
      have nc2 : cl ≠ ln := (ne_of_none hb.2.2.1 hcl5).symm
      have nc3 : cl ≠ lv := (ne_of_none hb.2.2.2.1 hcl5).symm
      have hbp := hb7.1
      walk_at "go"
      refine ⟨p, dx, lp, ln, lv, cl, b, os.map (imOf imgs), rfl, hb7, hB.ok, hA7, nc1, nc2, nc3, fun x hx => ?_, by rw [List.length_map]; omega, by rw [List.length_map]; omega, hbn, tabs_keep hT (KeepO.same s7), fun y b' H8 hCo k8 hT8 hb8 => ?_⟩
      · obtain ⟨o, ho', rfl⟩ := List.mem_map.mp hx
        have hoo := hR.lt o ho'
        exact (hB.has (by omega) hoo.2).2
      have hL8 : LstAt H8 im IsON imgs := by
        obtain ⟨vs, e, r⟩ := hL6.mono mono_ON hS7
        exact ⟨vs, k8 _ _ ni1 ni2 ni3 (fun _ q => nomatch q) e, r⟩
      walk_at "go"
      refine g_appendR (R := IsON) (x := some y) hL8 stab_ON rfl (by rw [hB.len]; omega) (fun H9 k9 hL9 => ?_)
      have ex8 : LamX.ExtN H2 H8 := ExtN.keepT (LamX.ExtN.trans hx (LamX.ExtN.of s7)) k8 hlp hln hlv
      obtain ⟨vs, e, _⟩ := id hL8
      exact ⟨_, b', _, _, _, rfl, ExtN.keep ex8 k9 him2, tabs_keep hT8 (KeepO.lst e k9), hb8.keepL k9 hL8 nip ni1 ni2 ni3, hL9, hB.step hb0 hR hol hCo⟩
  rintro σ H5 ⟨imgs, b, _, _, _, rfl, hx, hT, hb, hL, hB⟩
  have hzp := bal_small hk hin hTB hB
  have hl1 : ∀ l ∈ c.lat, HasI imgs l.2.2 ∧ imOf imgs l.2.2 / 2 < b.nn := fun l hl => by
    have := (hk.leaf.2.2.2.2 l hl).2
    exact hB.has (by omega) (hin.lat l hl)
  have ho1 : ∀ l ∈ c.outs, HasI imgs l.2 ∧ imOf imgs l.2 / 2 < b.nn := fun l hl => by
    have := hk.outs.2.2.2 l hl
    exact hB.has (by omega) (hin.out l hl)
  have hd : CirOk (rebC c b imgs) := reb_ok hk hB.ok hB.lc (by omega) (fun l hl => (hl1 l hl).2) (fun l hl => (ho1 l hl).2)
  have hc5 := ((hc.mono s2).extN hx)
  walk_at "go"
  refine ⟨a, p, im, dx, lp, ln, lv, c, b, imgs, rfl, hc5, hb, hL, fun l hl => (hl1 l hl).1, fun l hl => (ho1 l hl).1, hd, fun H6 a2 hS6 ha2 hC6 => ?_⟩
  walk_at "go"
  rename_i tq htq
  have s7 : Same H5 (upd H6 tq (.tup [.ref a2, .ref im])) := L2.Same.trans hS6 (Same.new htq)
  exact q _ tq a2 im inn TB imgs b (LamX.ExtN.trans ez (LamX.ExtN.trans hx (LamX.ExtN.of s7))) (tabs_keep hT (KeepO.same s7)) upd_same hin hTB hB hd (hC6.mono (Same.new htq)) (hL.mono mono_ON s7)
end
end
section
/-! part SgTr -/
set_option Elab.async false
set_option maxRecDepth 100000
set_option linter.unusedVariables false
set_option maxHeartbeats 1000000
open PySem PySem.Spec PyProof.Rows L2


section
variable {P : Program} {w : World} {K : PySem.W.Frag} {mg : Str → Option Value} {base : Heap} {f pr : Addr} {fd : FuncData}
def spTrimImages (K : PySem.W.Frag) : Sp := fun vs H Q _ => ∃ (a b : Addr) (c : Cir Str) (ne : List Bool), vs = [.ref a, .ref b] ∧ CirAt K H a c ∧ LstAt H b IsBl ne ∧ ne.length ≤ 10000 ∧ ∀ H' q, Same H H' → H q = none → LstAt H' q IsON (trimI ne c.ins.length ne.length) → Q (.ref q) H'
theorem ok_trim_images (F : FunD K "trim_images" "trim_images" (defArgs s_trim_images) (defBody s_trim_images) (defScope s_trim_images) [] [] f fd) (hm : mg "trim_images" = some (.ref f)) (T : Txt K mg) : DefOk P w K mg base 1 "trim_images" ["circuit", "needed"] (spTrimImages K) := by
  refine ⟨f, fd, hm, F.kp, (FunD.bindsN (ps := ["circuit", "needed"]) F fun _ _ _ _ _ _ us hl => match us, hl with | [_, _], _ => rfl), fn_ok F sc_trim_images ?len (fun cdv A outer s H vs Q E hr h => ⟨_, (pss_cons (ps_set (i := 2) sc_trim_images.nd rfl (Or.inl rfl) (pe_lst pa_nil))
  (pss_cons (ps_set (i := 3) sc_trim_images.nd rfl (Or.inl rfl) (pe_int (i := ((0 : Nat) : Int))))
  (pss_cons (ps_for PassesOwn.never rfl (pi_enum (by rfl) T.m_enumerate (pa_cons (pv 1) pa_nil)) (pg_tupK (K := K) (n := 2) (by rfl) (by rfl) (pgs_cons (pg_name (i := 4) sc_trim_images.nd rfl (Or.inl rfl)) (pgs_cons (pg_name (i := 5) sc_trim_images.nd rfl (Or.inl rfl)) pgs_nil)))
  (pss_one (ps_if (PW.pt (pw_or (pt_val (pv 5)) (pw_or1 (pt_cmpR op_le (pv 4) (pe_callB (call_lenK (K := K) (by rfl)) (by rfl) T.m_len (by decide +kernel) (pa_cons (pe_f T.c_Circuit T.n_Circuit_inputs (pv 0)) pa_nil)) (nomark _))))) (pss_cons (ps_expr (pe_bm PySem.F.plainAttrs_list PySem.F.slot_list_append PySem.F.type_list_append mt_append (pv 2) (pa_cons (pe_op op_mul (pe_int (i := ((2 : Nat) : Int))) (pv 3)) pa_nil)))
  (pss_one (ps_aug (i := 3) sc_trim_images.nd rfl (Or.inl rfl) (pe_int (i := ((1 : Nat) : Int))) ip_add))) (pss_one (ps_expr (pe_bm PySem.F.plainAttrs_list PySem.F.slot_list_append PySem.F.type_list_append mt_append (pv 2) (pa_cons pe_non pa_nil)))))))
  (pss_one (ps_ret (pv 2)))))), ?_⟩)⟩
  case len => walk_at "ln"
  
  obtain ⟨a, b, c, ne, rfl, hc, ⟨vn, en, rn⟩, hn, q⟩ := h
  obtain ⟨cx, li, l2, la, lo, h1, ⟨vi, h2, r2⟩, _⟩ := id hc
  walk_at "st"
  walk_at "go"
  rename_i im him
  refine g_rForE (xs := vn) (by walk_at "lk") (fun i σ H' => ∃ o1 o2, σ = [some (.ref a), some (.ref b), some (.ref im), some (.int ((cntN ne c.ins.length i : Nat) : Int)), o1, o2] ∧ Same H H' ∧ LstAt H' im IsON (trimI ne c.ins.length i)) ⟨_, _, rfl, by walk_at "ex", ⟨[], upd_same, All2.nil⟩⟩ ?_ ?_ ?_
  · rintro i σ H' hi ⟨_, _, rfl, hS, hL⟩
    walk_at "lk"
  · rintro i v σ H' T' hv ⟨_, _, rfl, hS, hL⟩ hT
    obtain ⟨t, ht, ev⟩ := rn.2 i v hv
    cases ev
    have hi := lt_of_get ht
    have eg : ne.getD i false = t := by rw [List.getD_eq_getElem?_getD, ht]; rfl
    have el := r2.1
    have hLT := hL.mono mono_ON (Same.new (o := .tup [.int (i : Int), .bl t]) hT)
    have hs : (trimI ne c.ins.length i).length < 100000 := by rw [trimI_len]; omega
    walk_at "go"
    cases t with
    | true =>
      have hk : keepN ne c.ins.length i = true := by unfold keepN; rw [eg]; rfl
      walk_at "go"
      refine g_rBMR (R := IsON) hLT ?_
      walk_at "go"
      refine g_appendR (R := IsON) (x := some (2 * cntN ne c.ins.length i)) hLT stab_ON rfl hs (fun H2 k2 hL2 => ?_)
      walk_at "go"
      refine g_aug rfl ?_
      walk_at "go"
      refine g_ipadd ?_
      refine ⟨_, _, by rw [show cntN ne c.ins.length (i + 1) = cntN ne c.ins.length i + 1 by show _ + (if _ then 1 else 0) = _; rw [if_pos hk]]; rfl, Same.keep k2 (L2.Same.trans hS (Same.new hT)) him, ?_⟩
      rw [trimI_snoc, if_pos hk]
      exact hL2
    | false =>
      walk_at "go"
      rw [el]
      refine br (fun hle => ?_) (fun hgt => ?_)
      · have hk : keepN ne c.ins.length i = true := by unfold keepN; rw [eg, decide_eq_true hle]; rfl
        walk_at "go"
        refine g_rBMR (R := IsON) hLT ?_
        walk_at "go"
        refine g_appendR (R := IsON) (x := some (2 * cntN ne c.ins.length i)) hLT stab_ON rfl hs (fun H2 k2 hL2 => ?_)
        walk_at "go"
        refine g_aug rfl ?_
        walk_at "go"
        refine g_ipadd ?_
        refine ⟨_, _, by rw [show cntN ne c.ins.length (i + 1) = cntN ne c.ins.length i + 1 by show _ + (if _ then 1 else 0) = _; rw [if_pos hk]]; rfl, Same.keep k2 (L2.Same.trans hS (Same.new hT)) him, ?_⟩
        rw [trimI_snoc, if_pos hk]
        exact hL2
      · have hk : ¬ keepN ne c.ins.length i = true := by unfold keepN; rw [eg, decide_eq_false hgt]; decide
        walk_at "go"
        refine g_rBMR (R := IsON) hLT ?_
        walk_at "go"
        refine g_appendR (R := IsON) (x := none) hLT stab_ON rfl hs (fun H2 k2 hL2 => ?_)
        refine ⟨_, _, by rw [show cntN ne c.ins.length (i + 1) = cntN ne c.ins.length i by show _ + (if _ then 1 else 0) = _; rw [if_neg hk]; rfl], Same.keep k2 (L2.Same.trans hS (Same.new hT)) him, ?_⟩
        rw [trimI_snoc, if_neg hk]
        exact hL2
  · rintro σ H' ⟨_, _, rfl, hS, hL⟩
    rw [rn.1] at hL
    walk_at "go"
    exact q H' im hS him hL
end
end
section
/-! part SgSt2 -/
set_option Elab.async false
set_option maxRecDepth 100000
set_option linter.unusedVariables false
set_option maxHeartbeats 1000000
open PySem PySem.Spec PyProof.Rows L2


section
variable {P : Program} {w : World} {K : PySem.W.Frag} {mg : Str → Option Value} {base : Heap} {f pr : Addr} {fd : FuncData}
/-- a pass -/
def spPass (K : PySem.W.Frag) : Sp := fun vs H Q _ => ∃ (a : Addr) (c : Cir Str), vs = [.ref a] ∧ CirAt K H a c ∧ CirOk c ∧
  ∀ H' q a2 c2 d imgs, Same H H' → H' q = some (.tup [.ref a2, .ref c2]) → PassOk c d imgs → CirAt K H' a2 d → CrtAt K H' c2 (certD c d imgs) → Q (.ref q) H'
theorem ok_hash_circuit (F : FunD K "hash_circuit" "hash_circuit" (defArgs s_hash_circuit) (defBody s_hash_circuit) (defScope s_hash_circuit) [] [] f fd) (hm : mg "hash_circuit" = some (.ref f)) (T : Txt K mg) (I_Builder : InitOk P w K mg base 1 "Builder" (He.ga K "Builder") ["self", "leaf_count"] (spBldInit K (He.ga K "Builder"))) (D_carried_over : DefOk P w K mg base 6 "carried_over" ["circuit", "builder"] (spCarried K (He.ga K "Builder") BothR)) : DefOk P w K mg base 7 "hash_circuit" ["circuit"] (spPass K) := by
  refine ⟨f, fd, hm, F.kp, (FunD.bindsN (ps := ["circuit"]) F fun _ _ _ _ _ _ us hl => match us, hl with | [_], _ => rfl), fn_ok F sc_hash_circuit ?len (fun cdv A outer s H vs Q E hr h => ⟨_, (pss_one (ps_ret (pe_callD D_carried_over (hr.mono (by decide)) (by rfl) (pa_cons (pv 0) (pa_cons (pe_makeD I_Builder (hr.mono (by decide)) (by rfl) (pa_cons (pe_op op_add (pe_callB (call_lenK (K := K) (by rfl)) (by rfl) T.m_len (by decide +kernel) (pa_cons (pe_f T.c_Circuit T.n_Circuit_inputs (pv 0)) pa_nil)) (pe_callB (call_lenK (K := K) (by rfl)) (by rfl) T.m_len (by decide +kernel) (pa_cons (pe_f T.c_Circuit T.n_Circuit_latches (pv 0)) pa_nil))) pa_nil)) pa_nil))))), ?_⟩)⟩
  case len => walk_at "ln"
  
  obtain ⟨a, c, rfl, hc, hk, q⟩ := h
  obtain ⟨cx, li, ll, la, lo, h1, ⟨vi, h2, r2⟩, ⟨vl, h3, r3⟩, ⟨va, h4, r4⟩, ⟨vo, h5, r5⟩⟩ := id hc
  have e2 := r2.1
  have e3 := r3.1
  have z1 := hk.leaf.1
  have z2 := hk.leaf.2.1
  walk_at "st"
  walk_at "go"
  intro x xd hx hxd hne
  have s1 : Same H (upd (upd H xd (.own x)) x (.ins (He.ga K "Builder") xd [])) := L2.Same.trans (Same.new hxd) (Same.new (by rw [upd_ne (fun e => hne e.symm)]; exact hx))
  refine ⟨x, xd, _, rfl, upd_same, by omega, fun H1 lp ln lv k1 n1 n2 n3 hb => ⟨rfl, ?_⟩⟩
  have s2 : Same H H1 := fun a u e => k1 a u (ne_of_none e hx) (s1 a u e)
  walk_at "go"
  rw [e2, e3] at hb
  refine ⟨a, x, xd, lp, ln, lv, c, H, rfl, s2, hc, hk, hb, Same.free s1 n1, Same.free s1 n2, Same.free s1 n3, fun imgs b H' r a2 c2 hC hS hr hd hA hB => ?_⟩
  exact q H' r a2 c2 _ imgs hS hr (carry_pass both_step both_semR hk hC hd) hA hB
theorem ok_apply_rules (F : FunD K "apply_rules" "apply_rules" (defArgs s_apply_rules) (defBody s_apply_rules) (defScope s_apply_rules) [] [] f fd) (hm : mg "apply_rules" = some (.ref f)) (T : Txt K mg) (I_RuleBuilder : InitOk P w K mg base 1 "RuleBuilder" (He.ga K "RuleBuilder") ["self", "leaf_count"] (spBldInit K (He.ga K "RuleBuilder"))) (D_carried_over : DefOk P w K mg base 6 "carried_over" ["circuit", "builder"] (spCarried K (He.ga K "RuleBuilder") RuleR)) : DefOk P w K mg base 7 "apply_rules" ["circuit"] (spPass K) := by
  refine ⟨f, fd, hm, F.kp, (FunD.bindsN (ps := ["circuit"]) F fun _ _ _ _ _ _ us hl => match us, hl with | [_], _ => rfl), fn_ok F sc_apply_rules ?len (fun cdv A outer s H vs Q E hr h => ⟨_, (pss_one (ps_ret (pe_callD D_carried_over (hr.mono (by decide)) (by rfl) (pa_cons (pv 0) (pa_cons (pe_makeD I_RuleBuilder (hr.mono (by decide)) (by rfl) (pa_cons (pe_op op_add (pe_callB (call_lenK (K := K) (by rfl)) (by rfl) T.m_len (by decide +kernel) (pa_cons (pe_f T.c_Circuit T.n_Circuit_inputs (pv 0)) pa_nil)) (pe_callB (call_lenK (K := K) (by rfl)) (by rfl) T.m_len (by decide +kernel) (pa_cons (pe_f T.c_Circuit T.n_Circuit_latches (pv 0)) pa_nil))) pa_nil)) pa_nil))))), ?_⟩)⟩
  case len => walk_at "ln"
  
  obtain ⟨a, c, rfl, hc, hk, q⟩ := h
  obtain ⟨cx, li, ll, la, lo, h1, ⟨vi, h2, r2⟩, ⟨vl, h3, r3⟩, ⟨va, h4, r4⟩, ⟨vo, h5, r5⟩⟩ := id hc
  have e2 := r2.1
  have e3 := r3.1
  have z1 := hk.leaf.1
  have z2 := hk.leaf.2.1
  walk_at "st"
  walk_at "go"
  intro x xd hx hxd hne
  have s1 : Same H (upd (upd H xd (.own x)) x (.ins (He.ga K "RuleBuilder") xd [])) := L2.Same.trans (Same.new hxd) (Same.new (by rw [upd_ne (fun e => hne e.symm)]; exact hx))
  refine ⟨x, xd, _, rfl, upd_same, by omega, fun H1 lp ln lv k1 n1 n2 n3 hb => ⟨rfl, ?_⟩⟩
  have s2 : Same H H1 := fun a u e => k1 a u (ne_of_none e hx) (s1 a u e)
  walk_at "go"
  rw [e2, e3] at hb
  refine ⟨a, x, xd, lp, ln, lv, c, H, rfl, s2, hc, hk, hb, Same.free s1 n1, Same.free s1 n2, Same.free s1 n3, fun imgs b H' r a2 c2 hC hS hr hd hA hB => ?_⟩
  exact q H' r a2 c2 _ imgs hS hr (carry_pass rule_step rule_semR hk hC hd) hA hB
theorem ok_trim (F : FunD K "trim" "trim" (defArgs s_trim) (defBody s_trim) (defScope s_trim) [] [] f fd) (hm : mg "trim" = some (.ref f)) (T : Txt K mg) (D_needed_nodes : DefOk P w K mg base 4 "needed_nodes" ["circuit"] (spNeeded K)) (D_trim_images : DefOk P w K mg base 1 "trim_images" ["circuit", "needed"] (spTrimImages K)) (D_image_of : DefOk P w K mg base 1 "image_of" ["images", "literal"] spImageOf) (I_Circuit : InitOk P w K mg base 3 "Circuit" (He.ga K "Circuit") ["self", "inputs", "latches", "ands", "outputs"] (spCirInit K)) (D_image_certificate : DefOk P w K mg base 5 "image_certificate" ["before", "after", "images", "extra"] (spImageCert K)) : DefOk P w K mg base 6 "trim" ["circuit"] (spPass K) := by
  refine ⟨f, fd, hm, F.kp, (FunD.bindsN (ps := ["circuit"]) F fun _ _ _ _ _ _ us hl => match us, hl with | [_], _ => rfl), fn_ok F sc_trim ?len (fun cdv A outer s H vs Q E hr h => ⟨_, (pss_cons (ps_set (i := 1) sc_trim.nd rfl (Or.inr rfl) (pe_callD D_trim_images (hr.mono (by decide)) (by rfl) (pa_cons (pv 0) (pa_cons (pe_callD D_needed_nodes (hr.mono (by decide)) (by rfl) (pa_cons (pv 0) pa_nil)) pa_nil))))
  (pss_cons (ps_set (i := 2) sc_trim.nd rfl (Or.inl rfl) (pe_lst pa_nil))
  (pss_cons (ps_for PassesOwn.never rfl (pi_enum (by rfl) T.m_enumerate (pa_cons (pe_f T.c_Circuit T.n_Circuit_latches (pv 0)) pa_nil)) (pg_tupK (K := K) (n := 2) (by rfl) (by rfl) (pgs_cons (pg_name (i := 3) sc_trim.nd rfl (Or.inl rfl)) (pgs_cons (pg_tupK (K := K) (n := 3) (by rfl) (by rfl) (pgs_cons (pg_name (i := 4) sc_trim.nd rfl (Or.inl rfl)) (pgs_cons (pg_name (i := 5) sc_trim.nd rfl (Or.inl rfl)) (pgs_cons (pg_name (i := 6) sc_trim.nd rfl (Or.inl rfl)) pgs_nil)))) pgs_nil)))
  (pss_one (ps_if (pt_cmpR op_notN' (pe_ix (ix_listK (K := K) (by rfl)) (pv 1) (pe_op op_add (pe_op op_add (pe_int (i := ((1 : Nat) : Int))) (pe_callB (call_lenK (K := K) (by rfl)) (by rfl) T.m_len (by decide +kernel) (pa_cons (pe_f T.c_Circuit T.n_Circuit_inputs (pv 0)) pa_nil))) (pv 3)) (fun _ _ => rfl)) pe_non (nomark _)) (pss_one (ps_expr (pe_bm PySem.F.plainAttrs_list PySem.F.slot_list_append PySem.F.type_list_append mt_append (pv 2) (pa_cons (pe_tup (pa_cons (pv 4) (pa_cons (pv 5) (pa_cons (pe_callD D_image_of (hr.mono (by decide)) (by rfl) (pa_cons (pv 1) (pa_cons (pv 6) pa_nil))) pa_nil)))) pa_nil)))) pss_nil)))
  (pss_cons (ps_set (i := 7) sc_trim.nd rfl (Or.inl rfl) (pe_lst pa_nil))
  (pss_cons (ps_for PassesOwn.never rfl (pi_enum (by rfl) T.m_enumerate (pa_cons (pe_f T.c_Circuit T.n_Circuit_ands (pv 0)) pa_nil)) (pg_tupK (K := K) (n := 2) (by rfl) (by rfl) (pgs_cons (pg_name (i := 3) sc_trim.nd rfl (Or.inl rfl)) (pgs_cons (pg_tupK (K := K) (n := 2) (by rfl) (by rfl) (pgs_cons (pg_name (i := 8) sc_trim.nd rfl (Or.inl rfl)) (pgs_cons (pg_name (i := 9) sc_trim.nd rfl (Or.inl rfl)) pgs_nil))) pgs_nil)))
  (pss_one (ps_if (pt_cmpR op_notN' (pe_ix (ix_listK (K := K) (by rfl)) (pv 1) (pe_op op_add (pe_op op_add (pe_op op_add (pe_int (i := ((1 : Nat) : Int))) (pe_callB (call_lenK (K := K) (by rfl)) (by rfl) T.m_len (by decide +kernel) (pa_cons (pe_f T.c_Circuit T.n_Circuit_inputs (pv 0)) pa_nil))) (pe_callB (call_lenK (K := K) (by rfl)) (by rfl) T.m_len (by decide +kernel) (pa_cons (pe_f T.c_Circuit T.n_Circuit_latches (pv 0)) pa_nil))) (pv 3)) (fun _ _ => rfl)) pe_non (nomark _)) (pss_one (ps_expr (pe_bm PySem.F.plainAttrs_list PySem.F.slot_list_append PySem.F.type_list_append mt_append (pv 7) (pa_cons (pe_tup (pa_cons (pe_callD D_image_of (hr.mono (by decide)) (by rfl) (pa_cons (pv 1) (pa_cons (pv 8) pa_nil))) (pa_cons (pe_callD D_image_of (hr.mono (by decide)) (by rfl) (pa_cons (pv 1) (pa_cons (pv 9) pa_nil))) pa_nil))) pa_nil)))) pss_nil)))
  (pss_cons (ps_setLc (i := 10) (own := [("name", 4), ("literal", 6)]) (by rfl) sc_trim.nd rfl rfl (sw_true rfl rfl rfl (by decide +kernel)) (pi_list (pe_f T.c_Circuit T.n_Circuit_outputs (pv 0))) (blkOk_by (own := [("name", 4), ("literal", 6)]) (N := ["circuit", "images", "latches", "place", "name", "start", "literal", "ands", "left", "right", "outputs", "after"]) (sc := defScope s_trim) (by decide +kernel)) (fun _ _ _ _ _ => by exact (pg_tupK (K := K) (n := 2) (by rfl) (by rfl) (pgs_cons (pg_name (i := 4) sc_trim.nd rfl (Or.inl rfl)) (pgs_cons (pg_name (i := 6) sc_trim.nd rfl (Or.inl rfl)) pgs_nil)))) (fun _ _ _ _ _ => by exact pts_nil) (fun _ _ _ _ _ => by exact (pe_tup (pa_cons (pv 4) (pa_cons (pe_callD D_image_of (hr.mono (by decide)) (by rfl) (pa_cons (pv 1) (pa_cons (pv 6) pa_nil))) pa_nil)))))
  (pss_cons (ps_set (i := 11) sc_trim.nd rfl (Or.inl rfl) (pe_makeD I_Circuit (hr.mono (by decide)) (by rfl) (pa_cons (pe_f T.c_Circuit T.n_Circuit_inputs (pv 0)) (pa_cons (pv 2) (pa_cons (pv 7) (pa_cons (pv 10) pa_nil))))))
  (pss_one (ps_ret (pe_tup (pa_cons (pv 11) (pa_cons (pe_callD D_image_certificate (hr.mono (by decide)) (by rfl) (pa_cons (pv 0) (pa_cons (pv 11) (pa_cons (pv 1) (pa_cons pe_dnewK pa_nil))))) pa_nil)))))))))))), ?_⟩)⟩
  case len => walk_at "ln"
  
  obtain ⟨a, c, rfl, hc, hk, q⟩ := h
  obtain ⟨cx, li, ll, la, lo, h1, ⟨vi, h2, r2⟩, ⟨vl, h3, r3⟩, ⟨va, h4, r4⟩, ⟨vo, h5, r5⟩⟩ := id hc
  walk_at "st"
  walk_at "go"
  refine ⟨a, c, rfl, hc, hk, fun H1 nq ne hS1 hnq hN hne => ?_⟩
  walk_at "go"
  have hnn : c.nn ≤ 3000 := by have h1 := hk.leaf.1; have h2 := hk.leaf.2.1; have h3 := hk.ands.1; unfold Cir.nn; omega
  have hp := trim_pass hk hN.outs hN.ands hN.lats
  refine ⟨a, nq, c, ne, rfl, hc.mono hS1, hne, by rw [hN.len]; omega, fun H2 im hS2 him hI => ?_⟩
  have s2 := L2.Same.trans hS1 hS2
  have len := hp.len
  rw [hN.len] at hI
  have hlatE : (trimC c ne).lat = keptL (keepN ne c.ins.length) (fun l : Str × Nat × Nat => (l.1, l.2.1, imOf (trimI ne c.ins.length c.nn) l.2.2)) c.fl c.lat := rfl
  have handE : (trimC c ne).ands = keptL (keepN ne c.ins.length) (fun p : Nat × Nat => (imOf (trimI ne c.ins.length c.nn) p.1, imOf (trimI ne c.ins.length c.nn) p.2)) c.fa c.ands := rfl
  have houtE : (trimC c ne).outs = c.outs.map fun o => (o.1, imOf (trimI ne c.ins.length c.nn) o.2) := rfl
  have hget : ∀ k, k < c.nn → (trimI ne c.ins.length c.nn)[k]? = some (if keepN ne c.ins.length k then some (2 * cntN ne c.ins.length k) else none) := fun k hk => trimI_get hk
  have hkeep : ∀ x, x / 2 < c.nn → ne.getD (x / 2) false = true → HasI (trimI ne c.ins.length c.nn) x := fun x h h' => ⟨_, by rw [hget _ h, if_pos (by unfold keepN; rw [h']; rfl)]⟩
  have hkq : ∀ k, c.ins.length < k → keepN ne c.ins.length k = true → ne.getD k false = true := fun k h h' => by
    unfold keepN at h'
    rwa [decide_eq_false (by omega), Bool.or_false] at h'
  have lz := keptL_len (ne := ne) (ni := c.ins.length) (fun l : Str × Nat × Nat => (l.1, l.2.1, imOf (trimI ne c.ins.length c.nn) l.2.2)) c.fl
  have az := keptL_len (ne := ne) (ni := c.ins.length) (fun p : Nat × Nat => (imOf (trimI ne c.ins.length c.nn) p.1, imOf (trimI ne c.ins.length c.nn) p.2)) c.fa
  have cz : ∀ k, cntN ne c.ins.length k ≤ k := cntN_le
  generalize hgI : trimI ne c.ins.length c.nn = imgs at *
  have hcn : c.nn = c.fl + (c.lat.length + c.ands.length) := by unfold Cir.nn Cir.fl; omega
  have hfa : c.fa = c.fl + c.lat.length := rfl
  have hfl : c.fl = 1 + c.ins.length := rfl
  have e2 := r2.1
  have e3 := r3.1
  have e4 := r4.1
  walk_at "go"
  rename_i ll' hll'
  refine g_rForE (xs := vl) (by walk_at "lk") (fun i σ H' => ∃ o1 o2 o3 o4 o5 o6 o7 o8 o9, σ = [some (.ref a), some (.ref im), some (.ref ll'), o1, o2, o3, o4, o5, o6, o7, o8, o9] ∧ Same H2 H' ∧ LstAt H' ll' IsL (keptL (keepN ne c.ins.length) (fun l : Str × Nat × Nat => (l.1, l.2.1, imOf imgs l.2.2)) c.fl (c.lat.take i)))
    ⟨_, _, _, _, _, _, _, _, _, rfl, Same.new hll', ⟨[], upd_same, by rw [List.take_zero]; exact All2.nil⟩⟩ ?_ ?_ ?_
  · rintro i σ H' hi ⟨_, _, _, _, _, _, _, _, _, rfl, hS, _⟩
    exact L2.Same.trans s2 hS _ _ h3
  · rintro i v σ H' T' hv ⟨_, _, _, _, _, _, _, _, _, rfl, hS, hL⟩ hT
    obtain ⟨⟨s, st, l⟩, hs, t, rfl, ht⟩ := r3.2 i v hv
    have ht' := hS _ _ (s2 _ _ ht)
    have hil := lt_of_get hs
    obtain ⟨vi2, ei2, ri2⟩ := hI.mono mono_ON hS
    obtain ⟨x, hx, ex⟩ := ri2.get (hget (c.fl + i) (by omega))
    walk_at "go"
    have hS' : Same H2 (upd H' T' (.tup [.int ((i : Nat) : Int), .ref t])) := L2.Same.trans hS (Same.new hT)
    have nT : ll' ≠ T' := by obtain ⟨_, e, _⟩ := hL; exact ne_of_none e hT
    have hL' : LstAt (upd H' T' (.tup [.int ((i : Nat) : Int), .ref t])) ll' IsL (keptL (keepN ne c.ins.length) (fun l : Str × Nat × Nat => (l.1, l.2.1, imOf imgs l.2.2)) c.fl (c.lat.take i)) := hL.mono mono_L (Same.new hT)
    refine g_ixL (lk_new hT ei2) (show vi2[1 + vi.length + i]? = some x by rw [show 1 + vi.length + i = c.fl + i by omega]; exact hx) ?_
    have ek := keptL_snoc (keepN ne c.ins.length) (fun l : Str × Nat × Nat => (l.1, l.2.1, imOf imgs l.2.2)) (s, st, l) (c.lat.take i) c.fl
    rw [take_len hs, ← take_snoc hs] at ek
    have hlen := lz (c.lat.take i)
    have hcz := cz (c.fl + (c.lat.take i).length)
    rw [List.length_take] at hlen hcz
    by_cases hkp : keepN ne c.ins.length (c.fl + i) = true
    · rw [if_pos hkp] at ex ek
      cases ex
      have hln : ne.getD (l / 2) false = true := hN.lats i _ hs (hkq _ (by omega) hkp)
      have hl := (hk.leaf.2.2.2.2 _ (List.mem_of_getElem? hs)).2
      have hl : l < 2 * c.nn := hl
      obtain ⟨y, hy⟩ := hkeep l (by omega) hln
      walk_at "go"
      refine g_imageOf (l := l) ((hI.mono mono_ON hS')) hy ?_
      walk_at "go"
      rename_i t5 ht5
      refine g_appendR (R := IsL) (x := (s, st, imOf imgs l)) (hL'.mono mono_L (Same.new ht5)) stab_L ⟨t5, rfl, upd_same⟩ (by omega) (fun H3 k3 hL3 => ?_)
      refine ⟨_, _, _, _, _, _, _, _, _, rfl, Same.keep k3 (L2.Same.trans hS' (Same.new ht5)) hll', ?_⟩
      rw [ek]
      exact hL3
    · rw [if_neg hkp] at ex ek
      cases ex
      walk_at "go"
      refine ⟨_, _, _, _, _, _, _, _, _, rfl, hS', ?_⟩
      rw [ek, List.append_nil]
      exact hL'
  rintro σ H' ⟨_, _, _, _, _, _, _, _, _, rfl, hS, hL⟩
  rw [e3, List.take_length, ← hlatE] at hL
  clear lz
  have s3 := L2.Same.trans s2 hS
  have hI3 := hI.mono mono_ON hS
  generalize H' = H3 at *
  walk_at "go"
  rename_i la' hla'
  have hL0 := hL
  refine g_rForE (xs := va) (by walk_at "lk") (fun i σ H' => ∃ o1 o2 o3 o4 o5 o6 o7 o8, σ = [some (.ref a), some (.ref im), some (.ref ll'), o1, o2, o3, o4, some (.ref la'), o5, o6, o7, o8] ∧ Same H3 H' ∧ LstAt H' la' IsP (keptL (keepN ne c.ins.length) (fun p : Nat × Nat => (imOf imgs p.1, imOf imgs p.2)) c.fa (c.ands.take i)))
    ⟨_, _, _, _, _, _, _, _, rfl, Same.new hla', ⟨[], upd_same, by rw [List.take_zero]; exact All2.nil⟩⟩ ?_ ?_ ?_
  · rintro i σ H' hi ⟨_, _, _, _, _, _, _, _, rfl, hS', _⟩
    exact L2.Same.trans s3 hS' _ _ h4
  · rintro i v σ H' T' hv ⟨_, _, _, _, _, _, _, _, rfl, hS, hL⟩ hT
    obtain ⟨⟨l, r⟩, hs, t, rfl, ht⟩ := r4.2 i v hv
    have ht' := hS _ _ (s3 _ _ ht)
    have hil := lt_of_get hs
    obtain ⟨vi2, ei2, ri2⟩ := hI3.mono mono_ON hS
    obtain ⟨x, hx, ex⟩ := ri2.get (hget (c.fa + i) (by omega))
    obtain ⟨vl3, e33, r33⟩ := LstAt.mono mono_L (L2.Same.refl _) ⟨vl, h3, r3⟩
    have hl3 := (L2.Same.trans s3 hS) _ _ h3
    walk_at "go"
    have hS' : Same H3 (upd H' T' (.tup [.int ((i : Nat) : Int), .ref t])) := L2.Same.trans hS (Same.new hT)
    have hL' : LstAt (upd H' T' (.tup [.int ((i : Nat) : Int), .ref t])) la' IsP (keptL (keepN ne c.ins.length) (fun p : Nat × Nat => (imOf imgs p.1, imOf imgs p.2)) c.fa (c.ands.take i)) := hL.mono mono_P (Same.new hT)
    refine g_ixL (lk_new hT ei2) (show vi2[1 + vi.length + vl.length + i]? = some x by rw [show 1 + vi.length + vl.length + i = c.fa + i by omega]; exact hx) ?_
    have ek := keptL_snoc (keepN ne c.ins.length) (fun p : Nat × Nat => (imOf imgs p.1, imOf imgs p.2)) (l, r) (c.ands.take i) c.fa
    rw [take_len hs, ← take_snoc hs] at ek
    have hlen := az (c.ands.take i)
    have hcz := cz (c.fa + (c.ands.take i).length)
    rw [List.length_take] at hlen hcz
    by_cases hkp : keepN ne c.ins.length (c.fa + i) = true
    · rw [if_pos hkp] at ex ek
      cases ex
      obtain ⟨hln, hrn⟩ := hN.ands i _ _ hs (hkq _ (by omega) hkp)
      have hl := hk.ands.2 _ _ _ hs
      obtain ⟨y, hy⟩ := hkeep l (by omega) hln
      obtain ⟨z, hz⟩ := hkeep r (by omega) hrn
      walk_at "go"
      refine g_imageOf (l := l) ((hI3.mono mono_ON hS')) hy ?_
      walk_at "go"
      refine g_imageOf (l := r) ((hI3.mono mono_ON hS')) hz ?_
      walk_at "go"
      rename_i t5 ht5 H4 k4 hL4
      case z => omega
      refine ⟨_, _, _, _, _, _, _, _, rfl, Same.keep k4 (L2.Same.trans hS' (Same.new ht5)) hla', ?_⟩
      rw [ek]
      exact hL4
    · rw [if_neg hkp] at ex ek
      cases ex
      walk_at "go"
      refine ⟨_, _, _, _, _, _, _, _, rfl, hS', ?_⟩
      rw [ek, List.append_nil]
      exact hL'
  rintro σ H' ⟨_, _, _, _, _, _, _, _, rfl, hS, hL⟩
  rw [e4, List.take_length, ← handE] at hL
  have hL0 := hL0.mono mono_L hS
  have s4 := L2.Same.trans s3 hS
  have hI4 := hI3.mono mono_ON hS
  generalize H' = H4 at *
  walk_at "go"
  refine g_rLcLT (xs := vo) (rep := IsO) (bs := (trimC c ne).outs) (s4 _ _ h5) (by rw [r5.1]; have := hk.outs.1; omega) (by rw [r5.1, houtE]; exact List.length_map ..) mono_O stab_O (fun D i x y H5 hD hx hb hS5 Qy hQ => ?_) (fun v H5 hv hS5 hL5 => ?_)
  · obtain ⟨⟨s, l⟩, hs, t, rfl, ht⟩ := r5.2 i x hx
    rw [houtE, map_get hs] at hb
    cases hb
    have ht' := hS5 _ _ (s4 _ _ ht)
    have hl := hk.outs.2.2.2 _ (List.mem_of_getElem? hs)
    have hl : l < 2 * c.nn := hl
    obtain ⟨y, hy⟩ := hkeep l (by omega) (hN.outs _ (List.mem_of_getElem? hs))
    walk_at "go"
    refine g_imageOf (l := l) (hI4.mono mono_ON hS5) hy ?_
    walk_at "go"
    rename_i t5 ht5
    exact hQ _ _ (Same.new ht5) ⟨t5, rfl, upd_same⟩
  have s5 := L2.Same.trans s4 hS5
  have h1' := s5 _ _ h1
  walk_at "go"
  intro x xd hx hxd hne
  have hok := hp.ok
  refine ⟨x, xd, li, ll', la', v, trimC c ne, H5, rfl, upd_same, hx, L2.Same.trans (Same.new hxd) (Same.new (by rw [upd_ne (fun e => hne e.symm)]; exact hx)), LstAt.mono mono_S s5 ⟨vi, h2, r2⟩, hL0.mono mono_L hS5, hL.mono mono_P hS5, hL5, hok, fun H6 hS6 hC => ⟨rfl, ?_⟩⟩
  have s6 := L2.Same.trans s5 hS6
  walk_at "go"
  rename_i ed hed
  have sE : Same H6 (upd H6 ed (.dK [])) := Same.new hed
  refine ⟨a, x, im, ed, c, trimC c ne, imgs, rfl, (hc.mono s6).mono sE, hC.mono sE, ((hI4.mono mono_ON hS5).mono mono_ON hS6).mono mono_ON sE, upd_same, ?_, len, fun H7 c2 hS7 hc2 hC7 => ?_⟩
  · refine ⟨hp.ins.symm, ?_, fun s hs => (hk.leaf.2.2.1 s (List.mem_append_left _ hs)).str, fun s hs => (hk.outs.2.1 s hs).str, hk.leaf.1, hk.leaf.2.1, hok.leaf.2.1, hk.ands.1, hok.ands.1, hk.outs.1⟩
    rw [hp.out, List.map_map]
    rfl
  walk_at "go"
  rename_i q4 hq4
  have s7 : Same H6 (upd H7 q4 (.tup [.ref x, .ref c2])) := L2.Same.trans (L2.Same.trans sE hS7) (Same.new hq4)
  exact q _ q4 x c2 (trimC c ne) imgs (L2.Same.trans s6 s7) upd_same hp (hC.mono s7) (hC7.mono (Same.new hq4))
end
end
section
/-! part SgPa -/
set_option Elab.async false
set_option maxRecDepth 100000
set_option linter.unusedVariables false
set_option maxHeartbeats 1000000
open PySem PySem.Spec PyProof.Rows L2


section
variable {P : Program} {w : World} {K : PySem.W.Frag} {mg : Str → Option Value} {base : Heap} {f pr : Addr} {fd : FuncData}
/-- a pass where tables may grow -/
def spPassN (K : PySem.W.Frag) (TT : List (Addr × Str)) : Sp := fun vs H Q _ => ∃ (a : Addr) (c : Cir Str), vs = [.ref a] ∧ CirAt K H a c ∧ CirOk c ∧ Small c ∧ LamX.Tabs TT H ∧
  ∀ H' q a2 c2 d imgs, LamX.ExtN H H' → LamX.Tabs TT H' → H' q = some (.tup [.ref a2, .ref c2]) → PassOk c d imgs → CirAt K H' a2 d → CrtAt K H' c2 (certD c d imgs) → Q (.ref q) H'
theorem ok_balance {TT : List (Addr × Str)} (F : FunD K "balance" "balance" (defArgs s_balance) (defBody s_balance) (defScope s_balance) [] [] f fd) (hm : mg "balance" = some (.ref f)) (T : Txt K mg) (D_balanced : DefOk P w K mg base 7 "balanced" ["circuit"] (spBalanced K TT)) (D_image_certificate : DefOk P w K mg base 5 "image_certificate" ["before", "after", "images", "extra"] (spImageCert K)) : DefOk P w K mg base 8 "balance" ["circuit"] (spPassN K TT) := by
  refine ⟨f, fd, hm, F.kp, (FunD.bindsN (ps := ["circuit"]) F fun _ _ _ _ _ _ us hl => match us, hl with | [_], _ => rfl), fn_ok F sc_balance ?len (fun cdv A outer s H vs Q E hr h => ⟨_, (pss_cons (ps_asg (pe_callD D_balanced (hr.mono (by decide)) (by rfl) (pa_cons (pv 0) pa_nil)) (pg_tupK (K := K) (n := 2) (by rfl) (by rfl) (pgs_cons (pg_name (i := 1) sc_balance.nd rfl (Or.inl rfl)) (pgs_cons (pg_name (i := 2) sc_balance.nd rfl (Or.inl rfl)) pgs_nil))))
  (pss_one (ps_ret (pe_tup (pa_cons (pv 1) (pa_cons (pe_callD D_image_certificate (hr.mono (by decide)) (by rfl) (pa_cons (pv 0) (pa_cons (pv 1) (pa_cons (pv 2) (pa_cons pe_dnewK pa_nil))))) pa_nil)))))), ?_⟩)⟩
  case len => walk_at "ln"
  
  obtain ⟨a, c, rfl, hc, hk, hs, hT, q⟩ := h
  walk_at "st"
  walk_at "go"
  refine ⟨a, c, rfl, hc, hk, by have := hs.a; omega, hT, fun H1 q1 a2 im inn TB imgs b hx hT1 hq1 hin hTB hB hd hC hL => ?_⟩
  have hp := bal_pass hk hin hTB hB hd
  walk_at "go"
  rename_i ed hed
  have sE : Same H1 (upd H1 ed (.dK [])) := Same.new hed
  refine ⟨a, a2, im, ed, c, rebC c b imgs, imgs, rfl, (hc.extN hx).mono sE, hC.mono sE, hL.mono mono_ON sE, upd_same, pass_join hk hp, hp.len, fun H3 c2 hS3 hc2 hC3 => ?_⟩
  walk_at "go"
  rename_i q4 hq4
  have s3 : Same H1 (upd H3 q4 (.tup [.ref a2, .ref c2])) := L2.Same.trans (L2.Same.trans sE hS3) (Same.new hq4)
  exact q _ q4 a2 c2 _ imgs (LamX.ExtN.trans hx (LamX.ExtN.of s3)) (tabs_keep hT1 (KeepO.same s3)) upd_same hp (hC.mono s3) (hC3.mono (Same.new hq4))
def spLawPass (K : PySem.W.Frag) (TT : List (Addr × Str)) : Sp := fun vs H Q _ => ∃ (a : Addr) (c : Cir Str) (k : Nat), vs = [.int (k : Int), .ref a] ∧ CirAt K H a c ∧ CirOk c ∧ Small c ∧ LamX.Tabs TT H ∧
  ∀ H' q a2 c2 d imgs, LamX.ExtN H H' → LamX.Tabs TT H' → H' q = some (.tup [.ref a2, .ref c2]) → PassOk c d imgs → CirAt K H' a2 d → CrtAt K H' c2 (certD c d imgs) → Q (.ref q) H'
theorem ok_law_pass {TT : List (Addr × Str)} (F : FunD K "_law_pass" "_law_pass" (defArgs s_law_pass) (defBody s_law_pass) (defScope s_law_pass) [] [] f fd) (hm : mg "_law_pass" = some (.ref f)) (T : Txt K mg) (D_hash_circuit : DefOk P w K mg base 7 "hash_circuit" ["circuit"] (spPass K)) (D_apply_rules : DefOk P w K mg base 7 "apply_rules" ["circuit"] (spPass K)) (D_balance : DefOk P w K mg base 8 "balance" ["circuit"] (spPassN K TT)) (D_trim : DefOk P w K mg base 6 "trim" ["circuit"] (spPass K)) : DefOk P w K mg base 9 "_law_pass" ["_law_kind", "_law_circuit"] (spLawPass K TT) := by
  refine ⟨f, fd, hm, F.kp, (FunD.bindsN (ps := ["_law_kind", "_law_circuit"]) F fun _ _ _ _ _ _ us hl => match us, hl with | [_, _], _ => rfl), fn_ok F sc_law_pass ?len (fun cdv A outer s H vs Q E hr h => ⟨_, (pss_cons (ps_if (pt_cmpR op_eq (pv 0) (pe_int (i := ((0 : Nat) : Int))) (nomark _)) (pss_one (ps_ret (pe_callD D_hash_circuit (hr.mono (by decide)) (by rfl) (pa_cons (pv 1) pa_nil)))) pss_nil)
  (pss_cons (ps_if (pt_cmpR op_eq (pv 0) (pe_int (i := ((1 : Nat) : Int))) (nomark _)) (pss_one (ps_ret (pe_callD D_apply_rules (hr.mono (by decide)) (by rfl) (pa_cons (pv 1) pa_nil)))) pss_nil)
  (pss_cons (ps_if (pt_cmpR op_eq (pv 0) (pe_int (i := ((2 : Nat) : Int))) (nomark _)) (pss_one (ps_ret (pe_callD D_balance (hr.mono (by decide)) (by rfl) (pa_cons (pv 1) pa_nil)))) pss_nil)
  (pss_one (ps_ret (pe_callD D_trim (hr.mono (by decide)) (by rfl) (pa_cons (pv 1) pa_nil))))))), ?_⟩)⟩
  case len => walk_at "ln"
  
  obtain ⟨a, c, k, rfl, hc, hk, hs, hT, q⟩ := h
  have one : ∀ {Q2 : VK}, (∀ v H', Q v H' → Q2 v H') → spPass K [.ref a] H Q2 E0 := fun hQ => ⟨a, c, rfl, hc, hk, fun H' r a2 c2 d imgs hS hr hp hA hB => hQ _ _ (q H' r a2 c2 d imgs (LamX.ExtN.of hS) (tabs_keep hT (KeepO.same hS)) hr hp hA hB)⟩
  walk_at "st"
  walk_at "go"
  refine br (fun c1 => ?_) (fun c1 => ?_)
  · walk_at "go"
    exact one fun v H' h => h
  walk_at "go"
  refine br (fun c1 => ?_) (fun c1 => ?_)
  · walk_at "go"
    exact one fun v H' h => h
  walk_at "go"
  refine br (fun c1 => ?_) (fun c1 => ?_)
  · walk_at "go"
    exact ⟨a, c, rfl, hc, hk, hs, hT, q⟩
  walk_at "go"
  exact one fun v H' h => h
end
end
section
/-! part SgFrm -/
set_option Elab.async false
set_option maxRecDepth 100000
set_option linter.unusedVariables false
set_option maxHeartbeats 1000000
open PySem PySem.Spec PyProof.Rows L2
/-! ### a call that does not see a list: it stays as it is, and nothing new lies where it lies -/
section
variable {H H' : Hp} {l a : Addr} {o : HO}
theorem delH_ne (h : a ≠ l) : delH H l a = H a := by
  unfold delH
  rw [if_neg h]
theorem delH_some (h : delH H l a = some o) : a ≠ l ∧ H a = some o := by
  by_cases e : a = l
  · rw [e, delH_same] at h; cases h
  · rw [delH_ne e] at h; exact ⟨e, h⟩
theorem delH_upd (h : H l = none) : delH (upd H l o) l = H := by
  funext b
  by_cases e : b = l
  · rw [e, delH_same, h]
  · rw [delH_ne e, upd_ne e]
theorem delH_upd2 : delH (upd H l o) l = delH H l := by
  funext b
  by_cases e : b = l
  · rw [e, delH_same, delH_same]
  · rw [delH_ne e, upd_ne e, delH_ne e]
theorem upd_delH (h : H l = some o) : upd (delH H l) l o = H := by
  funext b
  by_cases e : b = l
  · rw [e, upd_same, h]
  · rw [upd_ne e, delH_ne e]
theorem delH_comm {l2 : Addr} : delH (delH H l) l2 = delH (delH H l2) l := by
  funext b
  unfold delH
  split <;> split <;> rfl
end
def spFrame (sp : Sp) : Sp := fun vs H Q E => ∃ l xs, H l = some (.lst xs) ∧ sp vs (delH H l) (fun v H1 => H1 l = none → Q v (upd H1 l (.lst xs))) E
theorem FnOk.frame {P : Program} {w : World} {K : PySem.W.Frag} {mg : Str → Option Value} {base : Heap} {k : Nat} {f : Addr} {fd : FuncData} {ps : List Str} {sp : Sp} (F : FnOk P w K mg base CX0 k f fd ps sp) : FnOk P w K mg base CX0 k f fd ps (spFrame sp) := by
  refine ⟨fun vs H Q E ⟨l, xs, _, h⟩ => F.len _ _ _ _ h, fun A outer s H args us vs Q E hr e0 hb r ⟨l, xs, hl, hsp⟩ => ?_⟩
  have nl : ∀ b, H b = none → b ≠ l := fun b e z => by rw [z, hl] at e; cases e
  have dn : ∀ b, H b = none → delH H l b = none := fun b e => by rw [delH_ne (nl b e)]; exact e
  have down : ∀ b v, delH H l b = some v → H b = some v := fun b v e => (delH_some e).2
  have hok : HOk P w (delH H l) s.heap := fun b o e => by
    refine (e0.hok b o (down b o e)).stay (fun _ _ _ q => q) (fun c q => ?_) fun c ys q => ?_
    · rw [delH_ne (fun z => by rw [z, hl] at q; cases q)]; exact q
    · rw [delH_ne (fun z => by rw [z, hl] at q; cases q)]; exact q
  obtain ⟨z, its, n, ri, eo⟩ := e0.hok l _ hl
  have lfs : l ∉ frs outer := fun hm => by
    have := e0.frf l hm
    rw [hl] at this; cases this
  have env : Env0 P w K mg base A outer s (delH H l) := ⟨e0.frames, e0.mod, fun b o e => ⟨(e0.bs b o e).1, dn b (e0.bs b o e).2⟩, e0.bsz, e0.funs, fun b hb => dn b (e0.frf b hb), hok, e0.bare⟩
  refine codeAny_mono (F.run A outer s (delH H l) args us vs _ E hr env hb r hsp) fun rr s' hq => ?_
  cases rr with
  | error e => exact False.elim hq
  | ok fl =>
    cases fl with
    | next => exact False.elim hq
    | brk => exact False.elim hq
    | cont => exact False.elim hq
    | ret u =>
      obtain ⟨v, H1, q1, q2, un, hok1, q5, q6⟩ := hq
      have n1 : H1 l = none := un.free l _ eo delH_same (by simp)
      have e1 := un.keep l _ eo delH_same lfs (by simp)
      have up : ∀ b v, H1 b = some v → b ≠ l := fun b v e z => by rw [z, n1] at e; cases e
      refine ⟨v, _, q1, q2, ⟨fun b o g n hx hy => un.keep b o g (dn b n) hx hy, fun b o g n hx hy => un.slot b o g (dn b n) hx hy, fun b o g n hx => ?_, un.there, fun b ys e => ?_, fun b o y e => ?_, fun b qs e => ?_⟩, fun b o e => ?_, q5, q6 n1⟩
      · rw [upd_ne (nl b n)]
        exact un.free b o g (dn b n) hx
      · have nb : b ≠ l := fun z => by rw [z, hl] at e; cases e
        rw [upd_ne nb]
        exact un.tups b ys (by rw [delH_ne nb]; exact e)
      · have nb : b ≠ l := fun z => by rw [z, hl] at e; cases e
        rw [upd_ne nb]
        exact un.frzs b o y (by rw [delH_ne nb]; exact e)
      · have nb : b ≠ l := fun z => by rw [z, hl] at e; cases e
        obtain ⟨more, e2⟩ := un.tbls b qs (by rw [delH_ne nb]; exact e)
        exact ⟨more, by rw [upd_ne nb]; exact e2⟩
      · by_cases hb : b = l
        · subst hb
          rw [upd_same] at e
          cases e
          exact ⟨z, its, n, ri, e1⟩
        · rw [upd_ne hb] at e
          exact (hok1 b o e).stay (fun _ _ _ q => q) (fun c q => by rw [upd_ne (up c _ q)]; exact q) fun c ys q => by rw [upd_ne (up c _ q)]; exact q
theorem DefOk.frame {P : Program} {w : World} {K : PySem.W.Frag} {mg : Str → Option Value} {base : Heap} {k : Nat} {x : Str} {ps : List Str} {sp : Sp} (D : DefOk P w K mg base k x ps sp) : DefOk P w K mg base k x ps (spFrame sp) := by
  obtain ⟨f, fd, h1, h2, h3, F⟩ := D
  exact ⟨f, fd, h1, h2, h3, FnOk.frame F⟩
end
section
/-! part SgLaw -/
set_option Elab.async false
set_option maxRecDepth 100000
set_option linter.unusedVariables false
set_option maxHeartbeats 1000000
open PySem PySem.Spec PyProof.Rows L2


/-- the heap without the two lists that grow -/
def Wh (l t : Addr) (H : Hp) : Hp := delH (delH H t) l
theorem wh_some {l t : Addr} {H : Hp} {b : Addr} {o : HO} (h : Wh l t H b = some o) : b ≠ l ∧ b ≠ t ∧ H b = some o := by
  obtain ⟨h1, h2⟩ := delH_some h
  obtain ⟨h3, h4⟩ := delH_some h2
  exact ⟨h1, h3, h4⟩
theorem wh_at {l t : Addr} {H : Hp} {b : Addr} (h1 : b ≠ l) (h2 : b ≠ t) : Wh l t H b = H b := by
  unfold Wh
  rw [delH_ne h1, delH_ne h2]
theorem wh_up {l t : Addr} {H : Hp} : Same (Wh l t H) H := fun b o h => (wh_some h).2.2
theorem wh_same {l t : Addr} {H H' : Hp} (s : Same H H') : Same (Wh l t H) (Wh l t H') := fun b o h => by
  obtain ⟨h1, h2, h3⟩ := wh_some h
  rw [wh_at h1 h2]
  exact s b o h3
theorem wh_l {l t : Addr} {H : Hp} : Wh l t H l = none := delH_same
theorem wh_t {l t : Addr} {H : Hp} : Wh l t H t = none := by
  unfold Wh delH
  split
  · rfl
  · rw [if_pos rfl]
theorem wh_put {l t : Addr} {H : Hp} {o p : HO} (hl : H l = none) (ht : H t = none) (n : l ≠ t) : Wh l t (upd (upd H l o) t p) = H := by
  unfold Wh
  rw [delH_upd (by rw [upd_ne (Ne.symm n)]; exact ht), delH_upd hl]
theorem wh_updl {l t : Addr} {H : Hp} {o : HO} : Wh l t (upd H l o) = Wh l t H := by
  unfold Wh
  rw [delH_comm, delH_upd2, delH_comm]
theorem wh_updt {l t : Addr} {H : Hp} {o : HO} : Wh l t (upd H t o) = Wh l t H := by
  unfold Wh
  rw [delH_upd2]
/-- before a pass and behind it -/
structure LawI (K : PySem.W.Frag) (TT : List (Addr × Str)) (c0 : Cir Str) (rows : List (List Nat)) (li ll la lo p0 crs due l t : Addr) (cs : List (Cir Str)) (cts : List Crt) (vcs vct : List V) (H : Hp) : Prop where
  hl : H l = some (.lst vcs)
  ht : H t = some (.lst vct)
  ne : l ≠ t
  vc : All2 (IsCir K (Wh l t H)) vcs cs
  vt : All2 (IsCrt K (Wh l t H)) vct cts
  n : cs.length = cts.length + 1
  tabs : LamX.Tabs TT (Wh l t H)
  ins : LstAt (Wh l t H) li IsS c0.ins
  lat : LstAt (Wh l t H) ll IsL c0.lat
  ands : LstAt (Wh l t H) la IsP c0.ands
  outs : LstAt (Wh l t H) lo IsO c0.outs
  cir : CirAt K (Wh l t H) p0 c0
  crs : LstAt (Wh l t H) crs IsN rows
  due : LstAt (Wh l t H) due IsN (runF c0 (startS c0) rows)
  good : ∀ c ∈ cs, CirOk c ∧ Small c ∧ c.ins = c0.ins ∧ c.outs.map (·.1) = c0.outs.map (·.1) ∧ RunEq c0 c
  alike : ∀ (i : Nat) (c d : Cir Str) (ct : Crt), cs[i]? = some c → cs[i + 1]? = some d → cts[i]? = some ct → AlikeOk c d ct
theorem isCir_mono {K : PySem.W.Frag} : Mono (IsCir K) := fun _ _ _ _ s ⟨p, e, h⟩ => ⟨p, e, h.mono s⟩
theorem isCrt_mono {K : PySem.W.Frag} : Mono (IsCrt K) := fun _ _ _ _ s ⟨p, e, h⟩ => ⟨p, e, h.mono s⟩
theorem isN_ext {H H' : Hp} {v : V} {x : List Nat} (s : LamX.ExtN H H') (h : IsN H v x) : IsN H' v x := by
  obtain ⟨a, e, h⟩ := h
  exact ⟨a, e, s _ _ h fun ps q => nomatch q⟩
theorem lstN_ext {H H' : Hp} {a : Addr} {xs : List (List Nat)} (s : LamX.ExtN H H') (h : LstAt H a IsN xs) : LstAt H' a IsN xs := by
  obtain ⟨vs, e, r⟩ := h
  exact ⟨vs, s _ _ e (fun ps q => nomatch q), r.imp fun v x q => isN_ext s q⟩
section
variable {K : PySem.W.Frag} {TT : List (Addr × Str)} {c0 : Cir Str} {rows : List (List Nat)} {li ll la lo p0 crs due l t : Addr} {cs : List (Cir Str)} {cts : List Crt} {vcs vct : List V} {H H' G : Hp}
theorem LawI.same (h : LawI K TT c0 rows li ll la lo p0 crs due l t cs cts vcs vct H) (s : Same H H') : LawI K TT c0 rows li ll la lo p0 crs due l t cs cts vcs vct H' := by
  have w : Same (Wh l t H) (Wh l t H') := wh_same s
  obtain ⟨a1, a2, a3, a4, a5, a6, a7, a8, a9, a10, a11, a12, a13, a14, a15, a16⟩ := h
  exact ⟨s _ _ a1, s _ _ a2, a3, a4.imp fun v x r => isCir_mono _ _ _ _ w r, a5.imp fun v x r => isCrt_mono _ _ _ _ w r, a6, tabs_keep a7 (KeepO.same w), a8.mono mono_S w, a9.mono mono_L w, a10.mono mono_P w, a11.mono mono_O w, a12.mono w, a13.mono mono_N w, a14.mono mono_N w, a15, a16⟩
/-- a pass was made: both lists grow -/
theorem LawI.push {c d : Cir Str} {imgs : List (Option Nat)} {a2 c2 : Addr} (h : LawI K TT c0 rows li ll la lo p0 crs due l t cs cts vcs vct H) (w : LamX.ExtN (Wh l t H) G) (hl : G l = none) (ht : G t = none) (hT : LamX.Tabs TT G) (hc : cs[cts.length]? = some c) (hp : PassOk c d imgs) (hA : CirAt K G a2 d) (hC : CrtAt K G c2 (certD c d imgs)) :
    LawI K TT c0 rows li ll la lo p0 crs due l t (cs ++ [d]) (cts ++ [certD c d imgs]) (vcs ++ [.ref a2]) (vct ++ [.ref c2]) (upd (upd G l (.lst (vcs ++ [.ref a2]))) t (.lst (vct ++ [.ref c2]))) := by
  obtain ⟨b1, b2, b3, a4, a5, a6, a7, a8, a9, a10, a11, a12, a13, a14, a15, a16⟩ := h
  obtain ⟨g1, g2, g3, g4, g5⟩ := a15 c (List.mem_of_getElem? hc)
  have eW : Wh l t (upd (upd G l (.lst (vcs ++ [.ref a2]))) t (.lst (vct ++ [.ref c2]))) = G := wh_put hl ht b3
  have lc := lt_of_get hc
  refine ⟨by rw [upd_ne b3, upd_same], upd_same, b3, ?_, ?_, by rw [List.length_append, List.length_append, a6]; rfl, ?_, ?_, ?_, ?_, ?_, ?_, ?_, ?_, fun e he => ?_, fun i e f ct h1 h2 h3 => ?_⟩ <;> (try rw [eW])
  · exact (a4.imp fun v x ⟨p, e, r⟩ => ⟨p, e, r.extN w⟩).snoc ⟨a2, rfl, hA⟩
  · exact (a5.imp fun v x ⟨p, e, r⟩ => ⟨p, e, r.extN w⟩).snoc ⟨c2, rfl, hC⟩
  · exact hT
  · exact a8.extN to_S w
  · exact a9.extN to_L w
  · exact a10.extN to_P w
  · exact a11.extN to_O w
  · exact a12.extN w
  · exact lstN_ext w a13
  · exact lstN_ext w a14
  · rcases List.mem_append.mp he with he | he
    · exact a15 e he
    · rw [List.mem_singleton.mp he]
      refine ⟨hp.ok, g2.pass hp, hp.ins.trans g3, ?_, RunEq.trans g3 g5 (run_pass g1 hp)⟩
      rw [← g4, hp.out, List.map_map]
      rfl
  · rcases Nat.lt_or_ge i cts.length with hi | hi
    · rw [List.getElem?_append_left (by omega)] at h1 h2
      rw [List.getElem?_append_left hi] at h3
      exact a16 i e f ct h1 h2 h3
    · have hi2 := lt_of_get h3
      rw [List.length_append] at hi2
      have ei : i = cts.length := by
        have : i < cts.length + 1 := hi2
        omega
      subst ei
      rw [List.getElem?_append_left lc] at h1
      rw [List.getElem?_append_right (by omega), show cts.length + 1 - cs.length = 0 by omega] at h2
      rw [List.getElem?_append_right (Nat.le_refl _), Nat.sub_self] at h3
      rw [hc] at h1
      cases h1
      cases h2
      cases h3
      exact pass_alike g1 g2 hp
end
end
section
/-! part SgLaw2 -/
set_option Elab.async false
set_option maxRecDepth 100000
set_option linter.unusedVariables false
set_option maxHeartbeats 2000000
open PySem PySem.Spec PyProof.Rows L2


theorem upd_two {G : Hp} {l t : Addr} {A B A' B' : HO} : upd (upd (upd (upd G l A) t B) l A') t B' = upd (upd G l A') t B' := by
  funext b
  unfold upd
  split
  · rfl
  · split <;> rfl
theorem dp_N {K : PySem.W.Frag} {H : Hp} {v : V} {x : List Nat} (h : IsN H v x) : Dp K H v (.list (x.map dI)) := by
  obtain ⟨a, rfl, e⟩ := h
  exact dp_nums e
/-- the course that is drawn -/
def courseL (rows : List Nat) (n k : Nat) : List (List Nat) := (List.range k).map fun i => bitsL (rows.getD (34 + i) 0) n
theorem courseL_ok (rows : List Nat) {n k : Nat} (hk : k ≤ 20) : CourseOk n (courseL rows n k) ∧ RowsOk n (courseL rows n k) := by
  refine ⟨⟨by unfold courseL; rw [List.length_map, List.length_range]; omega, fun r hr => ?_⟩, fun r hr => ?_⟩
  · obtain ⟨i, _, rfl⟩ := List.mem_map.mp hr
    exact ⟨bitsL_len _ _, fun b hb => bitsL_bits _ _ b hb⟩
  · obtain ⟨i, _, rfl⟩ := List.mem_map.mp hr
    exact ⟨bitsL_bits _ _, bitsL_len _ _⟩
section
variable {P : Program} {w : World} {K : PySem.W.Frag} {mg : Str → Option Value} {base : Heap} {f pr : Addr} {fd : FuncData}
def spLaw (K : PySem.W.Frag) (TT : List (Addr × Str)) : Sp := fun vs H Q _ => ∃ (a : Addr) (ns : List Int), vs = [.ref a] ∧ SqL K H a (ns.map V.int) ∧ ns.length ≤ 1000 ∧ LamX.Tabs TT H ∧ ∀ H', Q (.bl true) H'
theorem ok_law {TT : List (Addr × Str)} (F : FunD K "law" "law" (defArgs s_law) (defBody s_law) (defScope s_law) [] [] f fd) (T : Txt K mg) (D_law_rows : DefOk P w K mg base 1 "_law_rows" ["_law_script", "_law_count"] (spLawRows K)) (D_law_parts : DefOk P w K mg base 3 "_law_parts" ["_law_rows_here", "_law_most_inputs", "_law_most_latches", "_law_most_ands"] (spLawParts K)) (I_Circuit : InitOk P w K mg base 3 "Circuit" (He.ga K "Circuit") ["self", "inputs", "latches", "ands", "outputs"] (spCirInit K)) (D_law_bits : DefOk P w K mg base 1 "_law_bits" ["_law_number", "_law_count"] spLawBits) (D_run : DefOk P w K mg base 7 "run" ["circuit", "course"] (spRun K))
    (D0 : DefOk P w K mg base 9 "_law_pass" ["_law_kind", "_law_circuit"] (spLawPass K TT)) (D_fault_of_chain : DefOk P w K mg base 7 "fault_of_chain" ["circuits", "certificates"] (spChain K)) (D_law_apart : DefOk P w K mg base 4 "_law_apart" ["_law_left", "_law_right"] spLawApart) (Q_Circuit : EqOk P w K mg base 1 (He.ga K "Circuit") (TwoCir K)) :
    FnOk P w K mg base CX0 10 f fd ["_law_script"] (spLaw K TT) := by
  have D_law_pass : DefOk P w K mg base 9 "_law_pass" ["_law_kind", "_law_circuit"] (spFrame (spFrame (spLawPass K TT))) := DefOk.frame (DefOk.frame D0)
  refine fn_ok F sc_law ?len (fun cdv A outer s H vs Q E hr h => ⟨_, (pss_cons (ps_set (i := 1) sc_law.nd rfl (Or.inr rfl) (pe_callD D_law_rows (hr.mono (by decide)) (by rfl) (pa_cons (pv 0) (pa_cons (pe_int (i := ((60 : Nat) : Int))) pa_nil))))
  (pss_cons (ps_asg (pe_callD D_law_parts (hr.mono (by decide)) (by rfl) (pa_cons (pv 1) (pa_cons (pe_int (i := ((3 : Nat) : Int))) (pa_cons (pe_int (i := ((3 : Nat) : Int))) (pa_cons (pe_int (i := ((10 : Nat) : Int))) pa_nil))))) (pg_tupK (K := K) (n := 4) (by rfl) (by rfl) (pgs_cons (pg_name (i := 2) sc_law.nd rfl (Or.inr rfl)) (pgs_cons (pg_name (i := 3) sc_law.nd rfl (Or.inl rfl)) (pgs_cons (pg_name (i := 4) sc_law.nd rfl (Or.inl rfl)) (pgs_cons (pg_name (i := 5) sc_law.nd rfl (Or.inl rfl)) pgs_nil))))))
  (pss_cons (ps_set (i := 6) sc_law.nd rfl (Or.inl rfl) (pe_makeD I_Circuit (hr.mono (by decide)) (by rfl) (pa_cons (pv 2) (pa_cons (pv 3) (pa_cons (pv 4) (pa_cons (pv 5) pa_nil))))))
  (pss_cons (ps_setLc (i := 8) (own := [("_law_k", 7)]) (by rfl) sc_law.nd rfl rfl (sw_true rfl rfl rfl (by decide +kernel)) (pi_range1 (by rfl) T.m_range (pa_cons (pe_op op_mod (pe_callTy call_int' (by rfl) T.m_int (by decide +kernel) (pa_cons (pe_ix (ix_listK (K := K) (by rfl)) (pv 1) (pe_int (i := ((32 : Nat) : Int))) (fun _ _ => rfl)) pa_nil)) (pe_int (i := ((21 : Nat) : Int)))) pa_nil)) (blkOk_by (own := [("_law_k", 7)]) (N := ["_law_script", "_law_rows_here", "_law_inputs", "_law_latches", "_law_ands_here", "_law_outputs", "_law_circuit", "_law_k", "_law_course", "_law_due", "_law_circuits", "_law_certificates", "_law_draw", "_law_after", "_law_certificate", "_law_last", "_law_left", "_law_right", "_law_pair"]) (sc := defScope s_law) (by decide +kernel)) (fun _ _ _ _ _ => by exact (pg_name (i := 7) sc_law.nd rfl (Or.inl rfl))) (fun _ _ _ _ _ => by exact pts_nil) (fun _ _ _ _ _ => by exact (pe_callD D_law_bits (hr.mono (by decide)) (by rfl) (pa_cons (pe_ix (ix_listK (K := K) (by rfl)) (pv 1) (pe_op op_add (pe_int (i := ((34 : Nat) : Int))) (pv 7)) (fun _ _ => rfl)) (pa_cons (pe_callB (call_lenK (K := K) (by rfl)) (by rfl) T.m_len (by decide +kernel) (pa_cons (pv 2) pa_nil)) pa_nil)))))
  (pss_cons (ps_set (i := 9) sc_law.nd rfl (Or.inl rfl) (pe_callD D_run (hr.mono (by decide)) (by rfl) (pa_cons (pv 6) (pa_cons (pv 8) pa_nil))))
  (pss_cons (ps_set (i := 10) sc_law.nd rfl (Or.inl rfl) (pe_lst (pa_cons (pv 6) pa_nil)))
  (pss_cons (ps_set (i := 11) sc_law.nd rfl (Or.inl rfl) (pe_lst pa_nil))
  (pss_cons (ps_set (i := 12) sc_law.nd rfl (Or.inl rfl) (pe_op op_fdivW (pe_callTy call_int' (by rfl) T.m_int (by decide +kernel) (pa_cons (pe_ix (ix_listK (K := K) (by rfl)) (pv 1) (pe_int (i := ((31 : Nat) : Int))) (fun _ _ => rfl)) pa_nil)) (pe_int (i := ((6 : Nat) : Int)))))
  (pss_cons (ps_for PassesOwn.never rfl (pi_range1 (by rfl) T.m_range (pa_cons (pe_op op_mod (pe_callTy call_int' (by rfl) T.m_int (by decide +kernel) (pa_cons (pe_ix (ix_listK (K := K) (by rfl)) (pv 1) (pe_int (i := ((31 : Nat) : Int))) (fun _ _ => rfl)) pa_nil)) (pe_int (i := ((6 : Nat) : Int)))) pa_nil)) (pg_name (i := 7) sc_law.nd rfl (Or.inl rfl))
  (pss_cons (ps_asg (pe_callD D_law_pass (hr.mono (by decide)) (by rfl) (pa_cons (pe_op op_mod (pv 12) (pe_int (i := ((4 : Nat) : Int)))) (pa_cons (pe_ix (ix_listK (K := K) (by rfl)) (pv 10) (pv 7) (fun _ _ => rfl)) pa_nil))) (pg_tupK (K := K) (n := 2) (by rfl) (by rfl) (pgs_cons (pg_name (i := 13) sc_law.nd rfl (Or.inl rfl)) (pgs_cons (pg_name (i := 14) sc_law.nd rfl (Or.inl rfl)) pgs_nil))))
  (pss_cons (ps_set (i := 12) sc_law.nd rfl (Or.inl rfl) (pe_op op_fdivW (pv 12) (pe_int (i := ((4 : Nat) : Int)))))
  (pss_cons (ps_expr (pe_bm PySem.F.plainAttrs_list PySem.F.slot_list_append PySem.F.type_list_append mt_append (pv 10) (pa_cons (pv 13) pa_nil)))
  (pss_cons (ps_expr (pe_bm PySem.F.plainAttrs_list PySem.F.slot_list_append PySem.F.type_list_append mt_append (pv 11) (pa_cons (pv 14) pa_nil)))
  (pss_cons (ps_if (PW.pt (pw_or (pt_cmpR (op_neD hr.units) (pe_f T.c_Circuit T.n_Circuit_inputs (pv 13)) (pv 2) (nomark _)) (pw_or1 (pt_cmpR (op_neD hr.units) (by exact (pe_lc (own := [("_law_pair", 18)]) (by rfl) sc_law.nd (pi_list (pe_f T.c_Circuit T.n_Circuit_outputs (pv 13))) (blkOk_by (own := [("_law_pair", 18)]) (N := ["_law_script", "_law_rows_here", "_law_inputs", "_law_latches", "_law_ands_here", "_law_outputs", "_law_circuit", "_law_k", "_law_course", "_law_due", "_law_circuits", "_law_certificates", "_law_draw", "_law_after", "_law_certificate", "_law_last", "_law_left", "_law_right", "_law_pair"]) (sc := defScope s_law) (by decide +kernel)) (fun _ _ _ _ _ => by exact (pg_name (i := 18) sc_law.nd rfl (Or.inl rfl))) (fun _ _ _ _ _ => by exact pts_nil) (fun _ _ _ _ _ => by exact (pe_ix (ix_tupK (K := K) (by rfl)) (pv 18) (pe_int (i := ((0 : Nat) : Int))) (fun _ _ => rfl))))) (by exact (pe_lc (own := [("_law_pair", 18)]) (by rfl) sc_law.nd (pi_list (pv 5)) (blkOk_by (own := [("_law_pair", 18)]) (N := ["_law_script", "_law_rows_here", "_law_inputs", "_law_latches", "_law_ands_here", "_law_outputs", "_law_circuit", "_law_k", "_law_course", "_law_due", "_law_circuits", "_law_certificates", "_law_draw", "_law_after", "_law_certificate", "_law_last", "_law_left", "_law_right", "_law_pair"]) (sc := defScope s_law) (by decide +kernel)) (fun _ _ _ _ _ => by exact (pg_name (i := 18) sc_law.nd rfl (Or.inl rfl))) (fun _ _ _ _ _ => by exact pts_nil) (fun _ _ _ _ _ => by exact (pe_ix (ix_tupK (K := K) (by rfl)) (pv 18) (pe_int (i := ((0 : Nat) : Int))) (fun _ _ => rfl))))) (nomark _))))) (pss_one (ps_ret pe_bl)) pss_nil)
  (pss_one (ps_if (pt_cmpR (op_neD hr.units) (pe_callD D_run (hr.mono (by decide)) (by rfl) (pa_cons (pv 13) (pa_cons (pv 8) pa_nil))) (pv 9) (nomark _)) (pss_one (ps_ret pe_bl)) pss_nil))))))))
  (pss_cons (ps_if (pt_cmpR op_notN' (pe_callD D_fault_of_chain (hr.mono (by decide)) (by rfl) (pa_cons (pv 10) (pa_cons (pv 11) pa_nil))) pe_non (nomark _)) (pss_one (ps_ret pe_bl)) pss_nil)
  (pss_cons (ps_set (i := 15) sc_law.nd rfl (Or.inl rfl) (pe_ix (ix_listK (K := K) (by rfl)) (pv 10) (pe_op op_sub (pe_callB (call_lenK (K := K) (by rfl)) (by rfl) T.m_len (by decide +kernel) (pa_cons (pv 10) pa_nil)) (pe_int (i := ((1 : Nat) : Int)))) (fun _ _ => rfl)))
  (pss_cons (ps_set (i := 16) sc_law.nd rfl (Or.inl rfl) (pe_lst (pa_cons (pv 2) (pa_cons (pv 3) (pa_cons (pv 4) (pa_cons (pv 5) pa_nil))))))
  (pss_cons (ps_set (i := 17) sc_law.nd rfl (Or.inl rfl) (pe_lst (pa_cons (pe_f T.c_Circuit T.n_Circuit_inputs (pv 15)) (pa_cons (pe_f T.c_Circuit T.n_Circuit_latches (pv 15)) (pa_cons (pe_f T.c_Circuit T.n_Circuit_ands (pv 15)) (pa_cons (pe_f T.c_Circuit T.n_Circuit_outputs (pv 15)) pa_nil))))))
  (pss_one (ps_ret (pe_and (pe_not (pe_callD D_law_apart (hr.mono (by decide)) (by rfl) (pa_cons (pv 16) (pa_cons (pv 17) pa_nil)))) (pe_one (pe_cmpR (op_eqOwn Q_Circuit (hr.mono (by decide))) (pv 6) (pe_makeD I_Circuit (hr.mono (by decide)) (by rfl) (pa_cons (pv 2) (pa_cons (pv 3) (pa_cons (pv 4) (pa_cons (pv 5) pa_nil))))) (nomark _))))))))))))))))))), ?_⟩)
  case len => walk_at "ln"
  obtain ⟨a, ns, rfl, ha, hz, hT, q⟩ := h
  walk_at "st"
  walk_at "go"
  refine ⟨a, ns, 60, rfl, ha, hz, by decide, fun H1 rw rows hS1 hrw0 hrw hrl => ?_⟩
  have getR : ∀ i : Nat, i < 60 → ∃ v, rows[i]? = some v := fun i hi => ⟨_, List.getElem?_eq_getElem (by omega)⟩
  walk_at "go"
  refine ⟨rw, rows, rfl, hrw, hrl, fun H2 q2 li ll la lo c0 hS2 hq2 hi2 hl2 ha2 ho2 hk hs => ?_⟩
  walk_at "go"
  intro p0 dx hp0 hdx0 hne
  have sN : Same H2 (upd (upd H2 dx (.own p0)) p0 (.ins (He.ga K "Circuit") dx [])) := L2.Same.trans (Same.new hdx0) (Same.new (by rw [upd_ne (Ne.symm hne)]; exact hp0))
  refine ⟨p0, dx, li, ll, la, lo, c0, H2, rfl, upd_same, hp0, sN, hi2, hl2, ha2, ho2, hk, fun H3 hS3 hC3 => ⟨rfl, ?_⟩⟩
  have s13 := L2.Same.trans hS2 hS3
  obtain ⟨r32, e32⟩ := getR 32 (by decide)
  obtain ⟨r31, e31⟩ := getR 31 (by decide)
  walk_at "go"
  refine g_ixL (j := 32) (s13 _ _ hrw) (nums_get e32) ?_
  walk_at "go"
  refine g_rLcR (R := fun D i y H => ∃ b, y = .ref b ∧ b ≠ D ∧ H b = some (.lst (nums (bitsL (rows.getD (34 + i) 0) c0.ins.length)))) (by omega) (fun D i y H H' s ⟨b, e, n, g⟩ => ⟨b, e, n, s _ _ g⟩) (fun D i y H acc acc' e ⟨b, e1, n, g⟩ => ⟨b, e1, n, lk_ne n g⟩) (fun D i H' hD hi hS ⟨acc, hacc⟩ Qy hQ => ?_) fun crs ys H4 hD hS4 hys hyl hY => ?_
  · obtain ⟨v, hv⟩ := getR (34 + i) (by omega)
    walk_at "go"
    refine g_ixL (hS _ _ (s13 _ _ hrw)) (nums_get hv) ?_
    walk_at "go"
    refine g_lenR (R := IsS) ((hi2.mono mono_S hS3).mono mono_S hS) ?_
    refine ⟨_, _, rfl, by have := hs.i; omega, fun H5 q5 hS5 hq5 hb5 => ?_⟩
    refine hQ _ _ hS5 ⟨q5, rfl, fun z => ?_, ?_⟩
    · rw [z, hacc] at hq5; cases hq5
    · rw [getD_of hv]; exact hb5
  obtain ⟨cok, rok⟩ := courseL_ok rows (n := c0.ins.length) (k := r32 % 21) (by omega)
  have hcrs : LstAt H4 crs IsN (courseL rows c0.ins.length (r32 % 21)) := ⟨ys, hys, by unfold courseL; rw [List.length_map, List.length_range]; exact hyl, fun i v e => by
    have hi := lt_of_get e
    obtain ⟨b, e1, _, g⟩ := hY i v e
    exact ⟨_, by unfold courseL; rw [List.getElem?_map, List.getElem?_range (by omega)]; rfl, b, e1, g⟩⟩
  generalize courseL rows c0.ins.length (r32 % 21) = crows at *
  have s14 := L2.Same.trans s13 hS4
  walk_at "go"
  refine ⟨p0, crs, c0, crows, rfl, hC3.mono hS4, hcrs, hk, cok, fun H5 due hS5 hdue0 hdue => ?_⟩
  have s15 := L2.Same.trans s14 hS5
  walk_at "go"
  rename_i l hl0 t ht0
  refine g_ixL (j := 31) (lk_new ht0 (lk_new hl0 (s15 _ _ hrw))) (nums_get e31) ?_
  walk_at "go"
  have hlt : l ≠ t := fun z => by rw [← z, upd_same] at ht0; cases ht0
  have ht5 : H5 t = none := by rw [upd_ne (Ne.symm hlt)] at ht0; exact ht0
  have eW : Wh l t (upd (upd H5 l (.lst [.ref p0])) t (.lst [])) = H5 := wh_put hl0 ht5 hlt
  have s35 : Same H3 H5 := L2.Same.trans hS4 hS5
  have s25 : Same H2 H5 := L2.Same.trans hS3 s35
  have L0 : LawI K TT c0 crows li ll la lo p0 crs due l t [c0] [] [.ref p0] [] (upd (upd H5 l (.lst [.ref p0])) t (.lst [])) := by
    refine ⟨by rw [upd_ne hlt, upd_same], upd_same, hlt, ?_, All2.nil, rfl, ?_, ?_, ?_, ?_, ?_, ?_, ?_, ?_, fun c hc => ?_, fun i c d ct h1 h2 h3 => by simp at h3⟩ <;> (try rw [eW])
    · exact All2.nil.snoc ⟨p0, rfl, hC3.mono s35⟩
    · exact tabs_keep hT (KeepO.same (L2.Same.trans hS1 s15))
    · exact hi2.mono mono_S s25
    · exact hl2.mono mono_L s25
    · exact ha2.mono mono_P s25
    · exact ho2.mono mono_O s25
    · exact hC3.mono s35
    · exact hcrs.mono mono_N hS5
    · exact hdue
    · rw [List.mem_singleton.mp hc]
      exact ⟨hk, hs, rfl, rfl, RunEq.refl _⟩
  have s6 : Same H1 (upd (upd H5 l (.lst [.ref p0])) t (.lst [])) := L2.Same.trans s15 (L2.Same.trans (Same.new hl0) (Same.new ht0))
  generalize upd (upd H5 l (.lst [.ref p0])) t (.lst []) = H6 at *
  refine g_ixL (j := 31) (s6 _ _ hrw) (nums_get e31) ?_
  walk_at "go"
  refine g_rForR (by omega) (fun i σ H' => ∃ o7 o13 o14 cs cts vcs vct dr, σ = [some (.ref a), some (.ref rw), some (.ref li), some (.ref ll), some (.ref la), some (.ref lo), some (.ref p0), o7, some (.ref crs), some (.ref due), some (.ref l), some (.ref t), some (.int ((dr : Nat) : Int)), o13, o14, none, none, none, none] ∧ LawI K TT c0 crows li ll la lo p0 crs due l t cs cts vcs vct H' ∧ cts.length = i) ⟨_, _, _, _, _, _, _, _, rfl, L0, rfl⟩ ?_ ?_
  · rintro i σ H' hi ⟨_, _, _, cs, cts, vcs, vct, dr, rfl, I, rfl⟩
    obtain ⟨c, hc⟩ : ∃ c, cs[cts.length]? = some c := ⟨_, List.getElem?_eq_getElem (by have := I.n; omega)⟩
    obtain ⟨vc, hvc, pc, rfl, hcir⟩ := I.vc.get hc
    obtain ⟨g1, g2, g3, g4, g5⟩ := I.good c (List.mem_of_getElem? hc)
    walk_at "go"
    refine g_ixL I.hl hvc ?_
    walk_at "go"
    refine ⟨t, vct, I.ht, l, vcs, by rw [delH_ne I.ne]; exact I.hl, pc, c, dr % 4, rfl, hcir, g1, g2, I.tabs, fun G q3 a2 c2 d imgs hE hT3 hq3 hp hA hC hl1 ht1 => ?_⟩
    have nqt : q3 ≠ t := fun z => by rw [z] at hq3; rw [upd_ne (Ne.symm I.ne)] at ht1; rw [ht1] at hq3; cases hq3
    have nql : q3 ≠ l := fun z => by rw [z, hl1] at hq3; cases hq3
    have ht2 : G t = none := by rw [upd_ne (Ne.symm I.ne)] at ht1; exact ht1
    have I2 := I.push hE hl1 ht2 hT3 hc hp hA hC
    have hq4 : (upd (upd G l (.lst vcs)) t (.lst vct)) q3 = some (.tup [.ref a2, .ref c2]) := by rw [upd_ne nqt, upd_ne nql]; exact hq3
    walk_at "go"
    have lvc : vcs.length ≤ 6 := by rw [I.vc.1, I.n]; omega
    have lvt : vct.length ≤ 6 := by rw [I.vt.1]; omega
    have big : (100 : Nat) ≤ sizeLine := by decide
    have f1 : (upd (upd G l (.lst vcs)) t (.lst vct)) l = some (.lst vcs) := by rw [upd_ne I.ne, upd_same]
    have f2 : (upd (upd (upd G l (.lst vcs)) t (.lst vct)) l (.lst (vcs ++ [V.ref a2]))) t = some (.lst vct) := by rw [upd_ne (Ne.symm I.ne), upd_same]
    refine g_append f1 (by omega) ?_
    walk_at "go"
    refine g_append f2 (by omega) ?_
    rw [upd_two]
    have sG : Same G (upd (upd G l (.lst (vcs ++ [V.ref a2]))) t (.lst (vct ++ [V.ref c2]))) := L2.Same.trans (Same.new hl1) (Same.new (by rw [upd_ne (Ne.symm I.ne)]; exact ht2))
    have hA7 := hA.mono sG
    generalize upd (upd G l (.lst (vcs ++ [V.ref a2]))) t (.lst (vct ++ [V.ref c2])) = H7 at *
    obtain ⟨dx7, xi, xl, xa, xo, y1, y2, y3, y4, ⟨vo, y5, ry5⟩⟩ := id hA7
    obtain ⟨k1, k2, k3, k4, k5⟩ := I2.good d (List.mem_append_right _ List.mem_cons_self)
    have nI : ∀ x ∈ c0.ins, DatOk 0 (dS x) := fun x hx => ok_dS (hk.leaf.2.2.1 x (List.mem_append_left _ hx)).str
    have nO : ∀ x ∈ c0.outs.map (·.1), DatOk 0 (dS x) := fun x hx => ok_dS (hk.outs.2.1 x hx).str
    walk_at "go"
    refine g_neD (K := K) (dp_lst (fun _ _ => dp_S) y2) (dp_lst (fun _ _ => dp_S) (k3 ▸ (I2.ins.mono mono_S wh_up))) ((ok_lst (k3 ▸ nI)).mono (by decide)) ?_
    walk_at "go"
    refine g_rLcLT (xs := vo) (rep := IsS) (bs := d.outs.map (·.1)) y5 (by rw [ry5.1]; have := hp.ok.outs.1; omega) (by rw [ry5.1]; exact List.length_map ..) mono_S stab_S (fun D i x y H8 hD hx hb hS8 Qy hQ => ?_) (fun u8 H8 hu8 hS8 hL8 => ?_)
    · obtain ⟨⟨s, z⟩, hs, tt, rfl, htt⟩ := ry5.2 i x hx
      rw [map_get hs] at hb
      cases hb
      have ht' := hS8 _ _ htt
      walk_at "go"
      exact hQ _ _ (L2.Same.refl _) rfl
    obtain ⟨vz, z5, rz5⟩ := (I2.outs.mono mono_O wh_up).mono mono_O hS8
    walk_at "go"
    refine g_rLcLT (xs := vz) (rep := IsS) (bs := c0.outs.map (·.1)) z5 (by rw [rz5.1]; have := hk.outs.1; omega) (by rw [rz5.1]; exact List.length_map ..) mono_S stab_S (fun D i x y H9 hD hx hb hS9 Qy hQ => ?_) (fun u9 H9 hu9 hS9 hL9 => ?_)
    · obtain ⟨⟨s, z⟩, hs, tt, rfl, htt⟩ := rz5.2 i x hx
      rw [map_get hs] at hb
      cases hb
      have ht' := hS9 _ _ htt
      walk_at "go"
      exact hQ _ _ (L2.Same.refl _) rfl
    refine g_neD (K := K) (dp_lst (fun _ _ => dp_S) (hL8.mono mono_S hS9)) (dp_lst (fun _ _ => dp_S) (k4 ▸ hL9)) ((ok_lst (k4 ▸ nO)).mono (by decide)) ?_
    have s79 := L2.Same.trans hS8 hS9
    have I9 := I2.same s79
    walk_at "go"
    refine ⟨a2, crs, d, crows, rfl, hA7.mono s79, I9.crs.mono mono_N wh_up, hp.ok, by rw [k3]; exact cok, fun H10 q10 hS10 hq10 hL10 => ?_⟩
    have I10 := I9.same hS10
    have er : runF d (startS d) crows = runF c0 (startS c0) crows := k5 crows rok
    rw [er] at hL10
    walk_at "go"
    refine g_neD (K := K) (dp_lst (fun _ _ => dp_N) hL10) (dp_lst (fun _ _ => dp_N) (I10.due.mono mono_N wh_up)) ((ok_lst fun x _ => ok_nums x).mono (by decide)) ?_
    walk_at "go"
    exact ⟨_, _, _, _, _, _, _, _, rfl, I10, by rw [List.length_append]; rfl⟩
  · rintro σ H' ⟨_, _, _, cs, cts, vcs, vct, dr, rfl, I, hn⟩
    walk_at "go"
    refine ⟨l, t, cs, cts, rfl, ⟨vcs, I.hl, I.vc.imp fun v x r => isCir_mono _ _ _ _ wh_up r⟩, ⟨vct, I.ht, I.vt.imp fun v x r => isCrt_mono _ _ _ _ wh_up r⟩, I.n, I.alike, fun H8 hS8 => ?_⟩
    have I8 := I.same hS8
    obtain ⟨d, hd⟩ : ∃ d, cs[cts.length]? = some d := ⟨_, List.getElem?_eq_getElem (by have := I.n; omega)⟩
    obtain ⟨vd, hvd, pd, rfl, hcir⟩ := I8.vc.get hd
    obtain ⟨k1, k2, k3, k4, k5⟩ := I8.good d (List.mem_of_getElem? hd)
    have lv : vcs.length = cts.length + 1 := by rw [I.vc.1, I.n]
    have hcirH := hcir.mono (wh_up (H := H8))
    obtain ⟨dx7, xi, xl, xa, xo, y1, y2, y3, y4, y5⟩ := id hcirH
    walk_at "go"
    refine g_len I8.hl ?_
    rw [lv]
    walk_at "go"
    rw [show cts.length + 1 - 1 = cts.length from rfl]
    refine g_ixL I8.hl hvd ?_
    walk_at "go"
    rename_i m1 hm1 m2 hm2
    have s8 : Same H8 (upd (upd H8 m1 (.lst [.ref li, .ref ll, .ref la, .ref lo])) m2 (.lst [.ref xi, .ref xl, .ref xa, .ref xo])) := L2.Same.trans (Same.new hm1) (Same.new hm2)
    have e1 : (upd (upd H8 m1 (.lst [.ref li, .ref ll, .ref la, .ref lo])) m2 (.lst [.ref xi, .ref xl, .ref xa, .ref xo])) m1 = some (.lst [.ref li, .ref ll, .ref la, .ref lo]) := lk_new hm2 upd_same
    have e2 : (upd (upd H8 m1 (.lst [.ref li, .ref ll, .ref la, .ref lo])) m2 (.lst [.ref xi, .ref xl, .ref xa, .ref xo])) m2 = some (.lst [.ref xi, .ref xl, .ref xa, .ref xo]) := upd_same
    generalize upd (upd H8 m1 (.lst [.ref li, .ref ll, .ref la, .ref lo])) m2 (.lst [.ref xi, .ref xl, .ref xa, .ref xo]) = H9 at *
    have I9 := I8.same s8
    refine ⟨m1, m2, c0, d, rfl, ⟨li, ll, la, lo, e1, I9.ins.mono mono_S wh_up, I9.lat.mono mono_L wh_up, I9.ands.mono mono_P wh_up, I9.outs.mono mono_O wh_up⟩, ⟨xi, xl, xa, xo, e2, y2.mono mono_S s8, y3.mono mono_L s8, y4.mono mono_P s8, y5.mono mono_O s8⟩, hk, k1, k3, hs.i, k5, fun H10 hS10 => ?_⟩
    have I10 := I9.same hS10
    walk_at "go"
    intro p1 dx1 hp1 hdx1 hne1
    have sN1 : Same H10 (upd (upd H10 dx1 (.own p1)) p1 (.ins (He.ga K "Circuit") dx1 [])) := L2.Same.trans (Same.new hdx1) (Same.new (by rw [upd_ne (Ne.symm hne1)]; exact hp1))
    refine ⟨p1, dx1, li, ll, la, lo, c0, H10, rfl, upd_same, hp1, sN1, I10.ins.mono mono_S wh_up, I10.lat.mono mono_L wh_up, I10.ands.mono mono_P wh_up, I10.outs.mono mono_O wh_up, hk, fun H11 hS11 hC11 => ⟨rfl, ?_⟩⟩
    have hC0 := (I10.same hS11).cir.mono wh_up
    obtain ⟨da, _, _, _, _, ea, _⟩ := id hC0
    obtain ⟨db, _, _, _, _, eb, _⟩ := id hC11
    exact ⟨⟨p0, p1, da, db, _, _, rfl, rfl, ea, eb, c0, hC0, hC11, hk⟩, fun H' e => q H'⟩
end
end
section
/-! part SgRu -/
set_option Elab.async false
set_option maxRecDepth 100000
set_option linter.unusedVariables false
set_option maxHeartbeats 1000000
open PySem PySem.Spec PyProof.Rows L2


section
variable {P : Program} {w : World} {K : PySem.W.Frag} {mg : Str → Option Value} {base : Heap} {f pr : Addr} {fd : FuncData}
/-- None or a pair -/
def RetP (H : Hp) (v : V) : Option (Nat × Nat) → Prop
  | none => v = .non
  | some p => ∃ t, v = .ref t ∧ H t = some (.tup [.int (p.1 : Int), .int (p.2 : Int)])
def PrAt (H : Hp) (t : Addr) (p : Nat × Nat) : Prop := H t = some (.tup [.int (p.1 : Int), .int (p.2 : Int)])
def spByOne : Sp := fun vs H Q _ => ∃ (w : Nat) (t : Addr) (p : Nat × Nat) (o : Nat), vs = [.int (w : Int), .ref t, .int (o : Int)] ∧ PrAt H t p ∧ ∀ v H', Same H H' → RetP H' v (byOne w p.1 p.2 o) → Q v H'
local macro_rules | `(tactic| walk_at "rt") => `(tactic| (walk_at "go"; (try (refine' br (fun _ => ?_) (fun _ => ?_) <;> walk_at "rt"))))
section
variable {H : Hp} {v : V} {c : Prop} [Decidable c] {x y : Option (Nat × Nat)}
theorem retP_t (h : c) (q : RetP H v x) : RetP H v (if c then x else y) := by rw [if_pos h]; exact q
theorem retP_f (h : ¬ c) (q : RetP H v y) : RetP H v (if c then x else y) := by rw [if_neg h]; exact q
end
local macro_rules | `(tactic| walk_at "rp") => `(tactic| (repeat (first | ((with_reducible refine' retP_t ?rp_h ?_); (case rp_h => omega)) | ((with_reducible refine' retP_f ?rp_h ?_); (case rp_h => omega)))))
local macro_rules | `(tactic| walk_at "re") => `(tactic| (walk_at "rp"; first | exact rfl | exact ⟨_, rfl, upd_same⟩))
theorem ok_by_one_pair (F : FunD K "by_one_pair" "by_one_pair" (defArgs s_by_one_pair) (defBody s_by_one_pair) (defScope s_by_one_pair) [] [] f fd) (hm : mg "by_one_pair" = some (.ref f)) : DefOk P w K mg base 1 "by_one_pair" ["whole", "pair", "other"] spByOne := by
  refine ⟨f, fd, hm, F.kp, (FunD.bindsN (ps := ["whole", "pair", "other"]) F fun _ _ _ _ _ _ us hl => match us, hl with | [_, _, _], _ => rfl), fn_ok F sc_by_one_pair ?len (fun cdv A outer s H vs Q E hr h => ⟨_, (pss_cons (ps_asg (pv 1) (pg_tupK (K := K) (n := 2) (by rfl) (by rfl) (pgs_cons (pg_name (i := 3) sc_by_one_pair.nd rfl (Or.inl rfl)) (pgs_cons (pg_name (i := 4) sc_by_one_pair.nd rfl (Or.inl rfl)) pgs_nil))))
  (pss_cons (ps_if (pt_cmpR op_eq (pe_op op_and (pv 0) (pe_int (i := ((1 : Nat) : Int)))) (pe_int (i := ((0 : Nat) : Int))) (nomark _)) (pss_cons (ps_if (PW.pt (pw_or (pt_cmpR op_eq (pv 2) (pv 3) (nomark _)) (pw_or1 (pt_cmpR op_eq (pv 2) (pv 4) (nomark _))))) (pss_one (ps_ret (pe_tup (pa_cons (pv 0) (pa_cons (pe_int (i := ((1 : Nat) : Int))) pa_nil))))) pss_nil)
  (pss_cons (ps_if (PW.pt (pw_or (pt_cmpR op_eq (pv 2) (pe_op op_xor (pv 3) (pe_int (i := ((1 : Nat) : Int)))) (nomark _)) (pw_or1 (pt_cmpR op_eq (pv 2) (pe_op op_xor (pv 4) (pe_int (i := ((1 : Nat) : Int)))) (nomark _))))) (pss_one (ps_ret (pe_tup (pa_cons (pe_int (i := ((0 : Nat) : Int))) (pa_cons (pe_int (i := ((1 : Nat) : Int))) pa_nil))))) pss_nil)
  (pss_one (ps_ret pe_non)))) pss_nil)
  (pss_cons (ps_if (PW.pt (pw_or (pt_cmpR op_eq (pv 2) (pe_op op_xor (pv 3) (pe_int (i := ((1 : Nat) : Int)))) (nomark _)) (pw_or1 (pt_cmpR op_eq (pv 2) (pe_op op_xor (pv 4) (pe_int (i := ((1 : Nat) : Int)))) (nomark _))))) (pss_one (ps_ret (pe_tup (pa_cons (pv 2) (pa_cons (pe_int (i := ((1 : Nat) : Int))) pa_nil))))) pss_nil)
  (pss_cons (ps_if (pt_cmpR op_eq (pv 2) (pv 3) (nomark _)) (pss_one (ps_ret (pe_tup (pa_cons (pv 2) (pa_cons (pe_op op_xor (pv 4) (pe_int (i := ((1 : Nat) : Int)))) pa_nil))))) pss_nil)
  (pss_cons (ps_if (pt_cmpR op_eq (pv 2) (pv 4) (nomark _)) (pss_one (ps_ret (pe_tup (pa_cons (pv 2) (pa_cons (pe_op op_xor (pv 3) (pe_int (i := ((1 : Nat) : Int)))) pa_nil))))) pss_nil)
  (pss_one (ps_ret pe_non))))))), ?_⟩)⟩
  case len => walk_at "ln"
  
  obtain ⟨w, t, ⟨a, b⟩, o, rfl, ht, q⟩ := h
  unfold PrAt at ht
  unfold byOne at q
  dsimp only at ht q
  walk_at "st"
  walk_at "rt"
  all_goals (refine q _ _ (by walk_at "ex") ?_; walk_at "re")
def spByTwo : Sp := fun vs H Q _ => ∃ (w : Nat) (t : Addr) (p : Nat × Nat) (o : Nat) (u : Addr) (r : Nat × Nat), vs = [.int (w : Int), .ref t, .int (o : Int), .ref u] ∧ PrAt H t p ∧ PrAt H u r ∧ ∀ v H', Same H H' → RetP H' v (byTwo w p.1 p.2 r.1 r.2) → Q v H'
theorem ok_by_two_ands (F : FunD K "by_two_ands" "by_two_ands" (defArgs s_by_two_ands) (defBody s_by_two_ands) (defScope s_by_two_ands) [] [] f fd) (hm : mg "by_two_ands" = some (.ref f)) : DefOk P w K mg base 1 "by_two_ands" ["whole", "pair", "other", "others"] spByTwo := by
  refine ⟨f, fd, hm, F.kp, (FunD.bindsN (ps := ["whole", "pair", "other", "others"]) F fun _ _ _ _ _ _ us hl => match us, hl with | [_, _, _, _], _ => rfl), fn_ok F sc_by_two_ands ?len (fun cdv A outer s H vs Q E hr h => ⟨_, (pss_cons (ps_asg (pv 1) (pg_tupK (K := K) (n := 2) (by rfl) (by rfl) (pgs_cons (pg_name (i := 4) sc_by_two_ands.nd rfl (Or.inl rfl)) (pgs_cons (pg_name (i := 5) sc_by_two_ands.nd rfl (Or.inl rfl)) pgs_nil))))
  (pss_cons (ps_if (PW.pt (pw_or (pt_cmpR op_in_seq (pe_op op_xor (pv 4) (pe_int (i := ((1 : Nat) : Int)))) (pv 3) (by rfl)) (pw_or1 (pt_cmpR op_in_seq (pe_op op_xor (pv 5) (pe_int (i := ((1 : Nat) : Int)))) (pv 3) (by rfl))))) (pss_one (ps_ret (pe_tup (pa_cons (pe_int (i := ((0 : Nat) : Int))) (pa_cons (pe_int (i := ((1 : Nat) : Int))) pa_nil))))) pss_nil)
  (pss_cons (ps_if (pt_cmpR op_in_seq (pe_ix (ix_tupK (K := K) (by rfl)) (pv 3) (pe_int (i := ((0 : Nat) : Int))) (fun _ _ => rfl)) (pv 1) (by rfl)) (pss_one (ps_ret (pe_tup (pa_cons (pv 0) (pa_cons (pe_ix (ix_tupK (K := K) (by rfl)) (pv 3) (pe_int (i := ((1 : Nat) : Int))) (fun _ _ => rfl)) pa_nil))))) pss_nil)
  (pss_cons (ps_if (pt_cmpR op_in_seq (pe_ix (ix_tupK (K := K) (by rfl)) (pv 3) (pe_int (i := ((1 : Nat) : Int))) (fun _ _ => rfl)) (pv 1) (by rfl)) (pss_one (ps_ret (pe_tup (pa_cons (pv 0) (pa_cons (pe_ix (ix_tupK (K := K) (by rfl)) (pv 3) (pe_int (i := ((0 : Nat) : Int))) (fun _ _ => rfl)) pa_nil))))) pss_nil)
  (pss_one (ps_ret pe_non)))))), ?_⟩)⟩
  case len => walk_at "ln"
  
  obtain ⟨w, t, ⟨a, b⟩, o, u, ⟨c, d⟩, rfl, ht, hu, q⟩ := h
  unfold PrAt at ht hu
  unfold byTwo at q
  dsimp only at ht hu q
  walk_at "st"
  walk_at "rt"
  all_goals (refine q _ _ (by walk_at "ex") ?_; walk_at "re")
def spByCompl : Sp := fun vs H Q _ => ∃ (t : Addr) (p : Nat × Nat) (o : Nat) (u : Addr) (r : Nat × Nat), vs = [.ref t, .int (o : Int), .ref u] ∧ PrAt H t p ∧ PrAt H u r ∧ ∀ v H', Same H H' → RetP H' v (byCompl p.1 p.2 o r.1 r.2) → Q v H'
theorem ok_by_complement (F : FunD K "by_complement" "by_complement" (defArgs s_by_complement) (defBody s_by_complement) (defScope s_by_complement) [] [] f fd) (hm : mg "by_complement" = some (.ref f)) : DefOk P w K mg base 1 "by_complement" ["pair", "other", "others"] spByCompl := by
  refine ⟨f, fd, hm, F.kp, (FunD.bindsN (ps := ["pair", "other", "others"]) F fun _ _ _ _ _ _ us hl => match us, hl with | [_, _, _], _ => rfl), fn_ok F sc_by_complement ?len (fun cdv A outer s H vs Q E hr h => ⟨_, (pss_cons (ps_asg (pv 0) (pg_tupK (K := K) (n := 2) (by rfl) (by rfl) (pgs_cons (pg_name (i := 3) sc_by_complement.nd rfl (Or.inl rfl)) (pgs_cons (pg_name (i := 4) sc_by_complement.nd rfl (Or.inl rfl)) pgs_nil))))
  (pss_cons (ps_if (PW.pt (pw_or (pt_cmpR op_in_seq (pe_op op_xor (pv 3) (pe_int (i := ((1 : Nat) : Int)))) (pv 2) (by rfl)) (pw_or1 (pt_cmpR op_in_seq (pe_op op_xor (pv 4) (pe_int (i := ((1 : Nat) : Int)))) (pv 2) (by rfl))))) (pss_one (ps_ret (pe_tup (pa_cons (pv 1) (pa_cons (pe_int (i := ((1 : Nat) : Int))) pa_nil))))) pss_nil)
  (pss_cons (ps_if (pt_cmpR op_in_seq (pv 3) (pv 2) (by rfl)) (pss_one (ps_ret (pe_tup (pa_cons (pv 1) (pa_cons (pe_op op_xor (pv 4) (pe_int (i := ((1 : Nat) : Int)))) pa_nil))))) pss_nil)
  (pss_cons (ps_if (pt_cmpR op_in_seq (pv 4) (pv 2) (by rfl)) (pss_one (ps_ret (pe_tup (pa_cons (pv 1) (pa_cons (pe_op op_xor (pv 3) (pe_int (i := ((1 : Nat) : Int)))) pa_nil))))) pss_nil)
  (pss_one (ps_ret pe_non)))))), ?_⟩)⟩
  case len => walk_at "ln"
  
  obtain ⟨t, ⟨a, b⟩, o, u, ⟨c, d⟩, rfl, ht, hu, q⟩ := h
  unfold PrAt at ht hu
  unfold byCompl at q
  dsimp only at ht hu q
  walk_at "st"
  walk_at "rt"
  all_goals (refine q _ _ (by walk_at "ex") ?_; walk_at "re")
def spByTwoC : Sp := fun vs H Q _ => ∃ (t : Addr) (p : Nat × Nat) (u : Addr) (r : Nat × Nat), vs = [.ref t, .ref u] ∧ PrAt H t p ∧ PrAt H u r ∧ ∀ v H', Same H H' → RetP H' v (byTwoC p.1 p.2 r.1 r.2) → Q v H'
theorem ok_by_two_complements (F : FunD K "by_two_complements" "by_two_complements" (defArgs s_by_two_complements) (defBody s_by_two_complements) (defScope s_by_two_complements) [] [] f fd) (hm : mg "by_two_complements" = some (.ref f)) : DefOk P w K mg base 1 "by_two_complements" ["pair", "others"] spByTwoC := by
  refine ⟨f, fd, hm, F.kp, (FunD.bindsN (ps := ["pair", "others"]) F fun _ _ _ _ _ _ us hl => match us, hl with | [_, _], _ => rfl), fn_ok F sc_by_two_complements ?len (fun cdv A outer s H vs Q E hr h => ⟨_, (pss_cons (ps_asg (pv 0) (pg_tupK (K := K) (n := 2) (by rfl) (by rfl) (pgs_cons (pg_name (i := 2) sc_by_two_complements.nd rfl (Or.inl rfl)) (pgs_cons (pg_name (i := 3) sc_by_two_complements.nd rfl (Or.inl rfl)) pgs_nil))))
  (pss_cons (ps_if (PW.pt (pw_and (pt_cmpR op_in_seq (pv 2) (pv 1) (by rfl)) (pw_and1 (pt_cmpR op_in_seq (pe_op op_xor (pv 3) (pe_int (i := ((1 : Nat) : Int)))) (pv 1) (by rfl))))) (pss_one (ps_ret (pe_tup (pa_cons (pe_op op_xor (pv 2) (pe_int (i := ((1 : Nat) : Int)))) (pa_cons (pe_int (i := ((1 : Nat) : Int))) pa_nil))))) pss_nil)
  (pss_cons (ps_if (PW.pt (pw_and (pt_cmpR op_in_seq (pv 3) (pv 1) (by rfl)) (pw_and1 (pt_cmpR op_in_seq (pe_op op_xor (pv 2) (pe_int (i := ((1 : Nat) : Int)))) (pv 1) (by rfl))))) (pss_one (ps_ret (pe_tup (pa_cons (pe_op op_xor (pv 3) (pe_int (i := ((1 : Nat) : Int)))) (pa_cons (pe_int (i := ((1 : Nat) : Int))) pa_nil))))) pss_nil)
  (pss_one (ps_ret pe_non))))), ?_⟩)⟩
  case len => walk_at "ln"
  
  obtain ⟨t, ⟨a, b⟩, u, ⟨c, d⟩, rfl, ht, hu, q⟩ := h
  unfold PrAt at ht hu
  unfold byTwoC at q
  dsimp only at ht hu q
  walk_at "st"
  walk_at "rt"
  all_goals (refine q _ _ (by walk_at "ex") ?_; walk_at "re")
end
end
section
/-! part SgRu2 -/
set_option Elab.async false
set_option maxRecDepth 100000
set_option linter.unusedVariables false
set_option maxHeartbeats 1000000
open PySem PySem.Spec PyProof.Rows L2


section
variable {P : Program} {w : World} {K : PySem.W.Frag} {mg : Str → Option Value} {base : Heap} {f pr : Addr} {fd : FuncData}
theorem g_pairOf {C p dx lp ln ll : Addr} {b : Bld} {l : Nat} {H : Hp} {Q : VK} {E : XK} (h : BldAt K C H p dx lp ln ll b) (hl : l / 2 < b.nn) (q : ∀ v, RetP H v (pairOf b l) → Q v H) : spPairOf K C [.ref p, .int (l : Int)] H Q E := by
  refine ⟨p, dx, lp, ln, ll, b, l, rfl, h, hl, fun hle => q _ ?_, fun pr t hlt hpr ht => q _ ?_⟩
  · unfold pairOf; rw [if_pos hle]; rfl
  · unfold pairOf; rw [if_neg (by omega), hpr]; exact ⟨t, rfl, ht⟩
theorem RetP.mono {H H' : Hp} {v : V} : ∀ {o : Option (Nat × Nat)}, Same H H' → RetP H v o → RetP H' v o
  | none, _, h => h
  | some p, s, ⟨t, e, h⟩ => ⟨t, e, s _ _ h⟩
def spSimpler (K : PySem.W.Frag) : Sp := fun vs H Q _ => ∃ (p dx lp ln ll : Addr) (b : Bld) (lo hi : Nat), vs = [.ref p, .int (lo : Int), .int (hi : Int)] ∧ BldAt K (He.ga K "RuleBuilder") H p dx lp ln ll b ∧ lo / 2 < b.nn ∧ hi / 2 < b.nn ∧ ∀ v H', Same H H' → RetP H' v (simplerF b lo hi) → Q v H'
theorem ok_simpler (F : FunD K "simpler" "RuleBuilder.simpler" (defArgs s_RuleBuilder_simpler) (defBody s_RuleBuilder_simpler) (defScope s_RuleBuilder_simpler) [] [] f fd) (hm : Meth K (He.ga K "RuleBuilder") "simpler" f) (T : Txt K mg) (M_RuleBuilder_pair_of : MethOk P w K mg base 1 (He.ga K "RuleBuilder") "pair_of" ["self", "literal"] (spPairOf K (He.ga K "RuleBuilder"))) (D_by_one_pair : DefOk P w K mg base 1 "by_one_pair" ["whole", "pair", "other"] spByOne) (D_by_two_ands : DefOk P w K mg base 1 "by_two_ands" ["whole", "pair", "other", "others"] spByTwo) (D_by_complement : DefOk P w K mg base 1 "by_complement" ["pair", "other", "others"] spByCompl) (D_by_two_complements : DefOk P w K mg base 1 "by_two_complements" ["pair", "others"] spByTwoC) : MethOk P w K mg base 2 (He.ga K "RuleBuilder") "simpler" ["self", "low", "high"] (spSimpler K) := by
  refine ⟨f, fd, hm, (FunD.bindsN (ps := ["self", "low", "high"]) F fun _ _ _ _ _ _ us hl => match us, hl with | [_, _, _], _ => rfl), fn_ok F sc_RuleBuilder_simpler ?len (fun cdv A outer s H vs Q E hr h => ⟨_, (pss_cons (ps_if (PW.pt (pw_or (pt_cmpR op_le (pv 1) (pe_int (i := ((1 : Nat) : Int))) (nomark _)) (pw_or1 (pt_cmpR op_eq (pe_op op_shr (pv 1) (pe_int (i := ((1 : Nat) : Int)))) (pe_op op_shr (pv 2) (pe_int (i := ((1 : Nat) : Int)))) (nomark _))))) (pss_one (ps_ret pe_non)) pss_nil)
  (pss_cons (ps_par (i := 3) (j := 4) (by rfl) sc_RuleBuilder_simpler.nd rfl rfl (by decide) rfl rfl (pa_cons (pe_methD M_RuleBuilder_pair_of T.c_RuleBuilder (hr.mono (by decide)) (pv 0) (pa_cons (pv 1) pa_nil)) (pa_cons (pe_methD M_RuleBuilder_pair_of T.c_RuleBuilder (hr.mono (by decide)) (pv 0) (pa_cons (pv 2) pa_nil)) pa_nil)) (by rfl))
  (pss_cons (ps_set (i := 5) sc_RuleBuilder_simpler.nd rfl (Or.inl rfl) pe_non)
  (pss_cons (ps_if (pt_cmpR op_notN' (pv 3) pe_non (nomark _)) (pss_one (ps_set (i := 5) sc_RuleBuilder_simpler.nd rfl (Or.inl rfl) (pe_callD D_by_one_pair (hr.mono (by decide)) (by rfl) (pa_cons (pv 1) (pa_cons (pv 3) (pa_cons (pv 2) pa_nil)))))) pss_nil)
  (pss_cons (ps_if (PW.pt (pw_and (pt_cmpR op_isN' (pv 5) pe_non (nomark _)) (pw_and1 (pt_cmpR op_notN' (pv 4) pe_non (nomark _))))) (pss_one (ps_set (i := 5) sc_RuleBuilder_simpler.nd rfl (Or.inl rfl) (pe_callD D_by_one_pair (hr.mono (by decide)) (by rfl) (pa_cons (pv 2) (pa_cons (pv 4) (pa_cons (pv 1) pa_nil)))))) pss_nil)
  (pss_cons (ps_if (PW.pt (pw_or (pt_cmpR op_notN' (pv 5) pe_non (nomark _)) (pw_or (pt_cmpR op_isN' (pv 3) pe_non (nomark _)) (pw_or1 (pt_cmpR op_isN' (pv 4) pe_non (nomark _)))))) (pss_one (ps_ret (pv 5))) pss_nil)
  (pss_cons (ps_if (PW.pt (pw_and (pt_cmpR op_eq (pe_op op_and (pv 1) (pe_int (i := ((1 : Nat) : Int)))) (pe_int (i := ((0 : Nat) : Int))) (nomark _)) (pw_and1 (pt_cmpR op_eq (pe_op op_and (pv 2) (pe_int (i := ((1 : Nat) : Int)))) (pe_int (i := ((0 : Nat) : Int))) (nomark _))))) (pss_one (ps_ret (pe_callD D_by_two_ands (hr.mono (by decide)) (by rfl) (pa_cons (pv 1) (pa_cons (pv 3) (pa_cons (pv 2) (pa_cons (pv 4) pa_nil))))))) pss_nil)
  (pss_cons (ps_if (pt_cmpR op_eq (pe_op op_and (pv 1) (pe_int (i := ((1 : Nat) : Int)))) (pe_int (i := ((0 : Nat) : Int))) (nomark _)) (pss_one (ps_ret (pe_callD D_by_complement (hr.mono (by decide)) (by rfl) (pa_cons (pv 4) (pa_cons (pv 1) (pa_cons (pv 3) pa_nil)))))) pss_nil)
  (pss_cons (ps_if (pt_cmpR op_eq (pe_op op_and (pv 2) (pe_int (i := ((1 : Nat) : Int)))) (pe_int (i := ((0 : Nat) : Int))) (nomark _)) (pss_one (ps_ret (pe_callD D_by_complement (hr.mono (by decide)) (by rfl) (pa_cons (pv 3) (pa_cons (pv 2) (pa_cons (pv 4) pa_nil)))))) pss_nil)
  (pss_one (ps_ret (pe_callD D_by_two_complements (hr.mono (by decide)) (by rfl) (pa_cons (pv 3) (pa_cons (pv 4) pa_nil)))))))))))))), ?_⟩)⟩
  case len => walk_at "ln"
  
  obtain ⟨p, dx, lp, ln, ll, b, lo, hi, rfl, hb, hlo, hhi, q⟩ := h
  have h1 := hb.1
  unfold simplerF at q
  walk_at "st"
  walk_at "go"
  refine br (fun c1 => ?_) (fun c1 => ?_)
  · walk_at "go"
    exact q _ _ (L2.Same.refl _) (by rw [if_pos (.inl c1)]; rfl)
  walk_at "go"
  refine br (fun c2 => ?_) (fun c2 => ?_)
  · walk_at "go"
    exact q _ _ (L2.Same.refl _) (by rw [if_pos (.inr c2)]; rfl)
  rw [if_neg (by omega)] at q
  walk_at "go"
  refine g_pairOf hb hlo (fun v1 r1 => ?_)
  walk_at "go"
  refine g_pairOf hb hhi (fun v2 r2 => ?_)
  walk_at "go"
  unfold simp2 simp1 at q
  cases e1 : pairOf b lo with
  | none =>
    rw [e1] at q r1
    cases r1
    dsimp only at q
    cases e2 : pairOf b hi with
    | none =>
      rw [e2] at q r2
      cases r2
      dsimp only at q
      walk_at "go"
      exact q _ _ (L2.Same.refl _) rfl
    | some p2 =>
      rw [e2] at q r2
      obtain ⟨t2, rfl, ht2⟩ := r2
      dsimp only at q
      walk_at "go"
      refine ⟨hi, t2, p2, lo, rfl, ht2, fun v H' hS r => ?_⟩
      cases e3 : byOne hi p2.1 p2.2 lo with
      | none =>
        rw [e3] at q r
        cases r
        dsimp only at q
        walk_at "go"
        exact q _ _ hS rfl
      | some x =>
        rw [e3] at q r
        obtain ⟨t, rfl, ht⟩ := r
        dsimp only at q
        walk_at "go"
        exact q _ _ hS ⟨t, rfl, ht⟩
  | some p1 =>
    rw [e1] at q r1
    obtain ⟨t1, rfl, ht1⟩ := r1
    dsimp only at q
    walk_at "go"
    refine ⟨lo, t1, p1, hi, rfl, ht1, fun v H1 hS1 r => ?_⟩
    cases e3 : byOne lo p1.1 p1.2 hi with
    | some x =>
      rw [e3] at q r
      obtain ⟨t, rfl, ht⟩ := r
      dsimp only at q
      walk_at "go"
      exact q _ _ hS1 ⟨t, rfl, ht⟩
    | none =>
      rw [e3] at q r
      cases r
      dsimp only at q
      cases e2 : pairOf b hi with
      | none =>
        rw [e2] at q r2
        cases r2
        dsimp only at q
        walk_at "go"
        exact q _ _ hS1 rfl
      | some p2 =>
        rw [e2] at q r2
        obtain ⟨t2, rfl, ht2⟩ := r2
        dsimp only at q
        walk_at "go"
        refine ⟨hi, t2, p2, lo, rfl, hS1 _ _ ht2, fun v H2 hS2 r => ?_⟩
        have s2 := L2.Same.trans hS1 hS2
        cases e4 : byOne hi p2.1 p2.2 lo with
        | some x =>
          rw [e4] at q r
          obtain ⟨t, rfl, ht⟩ := r
          dsimp only at q
          walk_at "go"
          exact q _ _ s2 ⟨t, rfl, ht⟩
        | none =>
          rw [e4] at q r
          cases r
          dsimp only at q
          have f1 := s2 _ _ ht1
          have f2 := s2 _ _ ht2
          unfold simp3 at q
          walk_at "go"
          refine br (fun c3 => ?_) (fun c3 => ?_)
          · walk_at "go"
            refine br (fun c4 => ?_) (fun c4 => ?_)
            · rw [if_pos c3, if_pos c4] at q
              walk_at "go"
              exact ⟨lo, t1, p1, hi, t2, p2, rfl, f1, f2, fun v H3 hS3 r => q _ _ (L2.Same.trans s2 hS3) r⟩
            · rw [if_pos c3, if_neg c4] at q
              walk_at "go"
              exact ⟨t2, p2, lo, t1, p1, rfl, f2, f1, fun v H3 hS3 r => q _ _ (L2.Same.trans s2 hS3) r⟩
          · rw [if_neg c3] at q
            walk_at "go"
            refine br (fun c4 => ?_) (fun c4 => ?_)
            · rw [if_pos c4] at q
              walk_at "go"
              exact ⟨t1, p1, hi, t2, p2, rfl, f1, f2, fun v H3 hS3 r => q _ _ (L2.Same.trans s2 hS3) r⟩
            · rw [if_neg c4] at q
              walk_at "go"
              exact ⟨t1, p1, t2, p2, rfl, f1, f2, fun v H3 hS3 r => q _ _ (L2.Same.trans s2 hS3) r⟩
end
end
section
/-! part SgRB -/
set_option Elab.async false
set_option maxRecDepth 100000
set_option linter.unusedVariables false
set_option maxHeartbeats 1000000
open PySem PySem.Spec PyProof.Rows L2


section
variable {P : Program} {w : World} {K : PySem.W.Frag} {mg : Str → Option Value} {base : Heap} {f pr : Addr} {fd : FuncData}
theorem sc_RuleBuilder_both : NdefX.NScope ["self", "left", "right", "__class__", "low", "high", "pair"] ["self", "left", "right"] ["__class__"] (defScope s_RuleBuilder_both) := NdefX.nscope_by (by decide +kernel)
theorem ok_both_super (F : FunD K "both" "Builder.both" (defArgs s_Builder_both) (defBody s_Builder_both) (defScope s_Builder_both) [] [] f fd) (hs : PySem.W.ks_superIn K (He.ga K "RuleBuilder") (He.ga K "RuleBuilder") "both" = some (some (.ref f))) (ht : PySem.W.typeIn K (.ref f) = some (.type "function")) (hn : PySem.W.fnIn K f = true) (T : Txt K mg) (M_RuleBuilder_level_of : MethOk P w K mg base 1 (He.ga K "RuleBuilder") "level_of" ["self", "literal"] (spLevelOf K (He.ga K "RuleBuilder"))) : SupOk P w K mg base 2 (He.ga K "RuleBuilder") (He.ga K "RuleBuilder") "both" ["self", "left", "right"] (spBoth K (He.ga K "RuleBuilder") BothR) := by
  refine ⟨f, fd, hs, ht, hn, (FunD.bindsN (ps := ["self", "left", "right"]) F fun _ _ _ _ _ _ us hl => match us, hl with | [_, _, _], _ => rfl), fn_ok F sc_Builder_both ?len (fun cdv A outer s H vs Q E hr h => ⟨_, (pss_cons (ps_par (i := 3) (j := 4) (by rfl) sc_Builder_both.nd rfl rfl (by decide) rfl rfl (pa_cons (pe_callB (call_min' rfl) (by rfl) T.m_min (by decide +kernel) (pa_cons (pv 1) (pa_cons (pv 2) pa_nil))) (pa_cons (pe_callB (call_max' rfl) (by rfl) T.m_max (by decide +kernel) (pa_cons (pv 1) (pa_cons (pv 2) pa_nil))) pa_nil)) (by rfl))
  (pss_cons (ps_if (PW.pt (pw_or (pt_cmpR op_eq (pv 3) (pe_int (i := ((0 : Nat) : Int))) (nomark _)) (pw_or1 (pt_cmpR op_eq (pv 4) (pe_op op_xor (pv 3) (pe_int (i := ((1 : Nat) : Int)))) (nomark _))))) (pss_one (ps_ret (pe_int (i := ((0 : Nat) : Int))))) pss_nil)
  (pss_cons (ps_if (PW.pt (pw_or (pt_cmpR op_eq (pv 3) (pe_int (i := ((1 : Nat) : Int))) (nomark _)) (pw_or1 (pt_cmpR op_eq (pv 3) (pv 4) (nomark _))))) (pss_one (ps_ret (pv 4))) pss_nil)
  (pss_cons (ps_if (pt_cmp (pc_dnotin (hu_of hr) (pe_tup (pa_cons (pv 3) (pa_cons (pv 4) pa_nil))) (pe_f T.c_RuleBuilder T.n_RuleBuilder__nodes (pv 0))) (by rfl)) (pss_cons (ps_expr (pe_bm PySem.F.plainAttrs_list PySem.F.slot_list_append PySem.F.type_list_append mt_append (pe_f T.c_RuleBuilder T.n_RuleBuilder_pairs (pv 0)) (pa_cons (pe_tup (pa_cons (pv 3) (pa_cons (pv 4) pa_nil))) pa_nil)))
  (pss_cons (ps_expr (pe_bm PySem.F.plainAttrs_list PySem.F.slot_list_append PySem.F.type_list_append mt_append (pe_f T.c_RuleBuilder T.n_RuleBuilder__levels (pv 0)) (pa_cons (pe_op op_add (pe_int (i := ((1 : Nat) : Int))) (pe_callB (call_max' rfl) (by rfl) T.m_max (by decide +kernel) (pa_cons (pe_methD M_RuleBuilder_level_of T.c_RuleBuilder (hr.mono (by decide)) (pv 0) (pa_cons (pv 3) pa_nil)) (pa_cons (pe_methD M_RuleBuilder_level_of T.c_RuleBuilder (hr.mono (by decide)) (pv 0) (pa_cons (pv 4) pa_nil)) pa_nil)))) pa_nil)))
  (pss_one (ps_dput (hu_of hr) (pe_f T.c_RuleBuilder T.n_RuleBuilder__nodes (pv 0)) (pe_tup (pa_cons (pv 3) (pa_cons (pv 4) pa_nil))) (pe_op op_add (pe_f T.c_RuleBuilder T.n_RuleBuilder_leaf_count (pv 0)) (pe_callB (call_lenK (K := K) (by rfl)) (by rfl) T.m_len (by decide +kernel) (pa_cons (pe_f T.c_RuleBuilder T.n_RuleBuilder_pairs (pv 0)) pa_nil))) (by rfl))))) pss_nil)
  (pss_one (ps_ret (pe_op op_mul (pe_int (i := ((2 : Nat) : Int))) (pe_dget (hu_of hr) (pe_f T.c_RuleBuilder T.n_RuleBuilder__nodes (pv 0)) (pe_tup (pa_cons (pv 3) (pa_cons (pv 4) pa_nil))) (fun _ _ => rfl))))))))), ?_⟩)⟩
  case len => walk_at "ln"
  
  obtain ⟨p, dx, lp, ln, ll, b, l, r, rfl, hb, hok, hl, hr, hz, q⟩ := h
  obtain ⟨h1, h2, h3, h4, h5⟩ := id hb
  have kr : Keep3 lp ln ll H H := fun _ _ _ _ _ e => e
  walk_at "st"
  walk_at "go"
  refine br (fun c1 => ?_) (fun c1 => ?_)
  · walk_at "go"
    exact q 0 b H (.inl ⟨.inl c1, rfl, rfl⟩) kr hb
  walk_at "go"
  refine br (fun c2 => ?_) (fun c2 => ?_)
  · walk_at "go"
    exact q 0 b H (.inl ⟨.inr c2, rfl, rfl⟩) kr hb
  have c12 : ¬ (min l r = 0 ∨ max l r = neg (min l r)) := fun h => h.elim c1 c2
  walk_at "go"
  refine br (fun c3 => ?_) (fun c3 => ?_)
  · walk_at "go"
    exact q _ b H (.inr (.inl ⟨c12, .inl c3, rfl, rfl⟩)) kr hb
  walk_at "go"
  refine br (fun c4 => ?_) (fun c4 => ?_)
  · walk_at "go"
    exact q _ b H (.inr (.inl ⟨c12, .inr c4, rfl, rfl⟩)) kr hb
  have c34 : ¬ (min l r = 1 ∨ min l r = max l r) := fun h => h.elim c3 c4
  have lmin : (min l r) / 2 < b.levels.length := by rw [hok.lv]; unfold Bld.nn at hl hr; omega
  have lmax : (max l r) / 2 < b.levels.length := by rw [hok.lv]; unfold Bld.nn at hl hr; omega
  have qF : ∀ i H', b.pairs[i]? = some (min l r, max l r) → Keep3 lp ln ll H H' → BldAt K (He.ga K "RuleBuilder") H' p dx lp ln ll b → Q (.int ((2 * (b.lc + 1 + i) : Nat) : Int)) H' := fun i H' e => q _ b H' (.inr (.inr (.inl ⟨c12, c34, i, e, rfl, rfl⟩)))
  have qN : ¬ (min l r, max l r) ∈ b.pairs → ∀ lv H', Keep3 lp ln ll H H' → BldAt K (He.ga K "RuleBuilder") H' p dx lp ln ll ⟨b.lc, b.pairs ++ [(min l r, max l r)], b.levels ++ [lv]⟩ → Q (.int ((2 * (b.lc + 1 + b.pairs.length) : Nat) : Int)) H' := fun h lv H' => q _ _ H' (.inr (.inr (.inr ⟨c12, c34, h, rfl, lv, rfl⟩)))
  clear q c12 c34 c1 c2 c3 c4 hl hr
  generalize min l r = lo at *
  generalize max l r = hi at *
  walk_at "go"
  rename_i t1 ht1
  by_cases hm : (lo, hi) ∈ b.pairs
  · obtain ⟨i, hi1, hi2⟩ := nodesT_in (n := b.lc + 1) hm
    refine g_rDNotInT (k := key2 (lo, hi)) (lk_new ht1 h3) upd_same (b := true) (by rw [hi2]; rfl) ?_
    walk_at "go"
    rename_i t2 ht2
    refine g_rDGetT (k := key2 (lo, hi)) (lk_new ht2 (lk_new ht1 h3)) upd_same hi2 ?_
    walk_at "go"
    have s2 : Same H (upd (upd H t1 (.tup [.int (lo : Int), .int (hi : Int)])) t2 (.tup [.int (lo : Int), .int (hi : Int)])) := L2.Same.trans (Same.new ht1) (Same.new ht2)
    exact qF i _ hi1 (fun a u _ _ _ e => s2 a u e) (hb.mono s2)
  · have hout := nodesT_out (n := b.lc + 1) hm
    refine g_rDNotInT (k := key2 (lo, hi)) (lk_new ht1 h3) upd_same (b := false) (by rw [hout]; rfl) ?_
    have n1 : lp ≠ t1 := by obtain ⟨_, e, _⟩ := h2; exact ne_of_none e ht1
    walk_at "go"
    case z => unfold Bld.nn at hz; omega
    rename_i t2 ht2 H1 k1 hL1
    have sA : Same H (upd (upd H t1 (.tup [.int (lo : Int), .int (hi : Int)])) t2 (.tup [.int (lo : Int), .int (hi : Int)])) := L2.Same.trans (Same.new ht1) (Same.new ht2)
    obtain ⟨vp, ep, _⟩ := h2
    have m1 : p ≠ lp := ne_of h1 ep (fun q => nomatch q)
    have m2 : ln ≠ lp := ne_of h3 ep (fun q => nomatch q)
    have m3 : p ≠ ll := ne_of h1 h4 (fun q => nomatch q)
    have m4 : ln ≠ ll := ne_of h3 h4 (fun q => nomatch q)
    have m5 : p ≠ ln := ne_of h1 h3 (fun q => nomatch q)
    have f1 := k1 _ _ m1 (sA _ _ h1)
    have f3 := k1 _ _ m2 (sA _ _ h3)
    have f4 := k1 _ _ h5.symm (sA _ _ h4)
    have K1 : Keep3 lp ln ll H H1 := fun a u n _ _ e => k1 a u n (sA a u e)
    have hlv := hok.lv
    clear k1 sA ht2 n1
    walk_at "go"
    refine g_levelOf f1 f4 lmin ?_
    walk_at "go"
    refine g_levelOf f1 f4 lmax ?_
    walk_at "go"
    case z => unfold Bld.nn at hz; omega
    refine g_lenR (LstAt.stab stab_P h5 f4 hL1) ?_
    walk_at "go"
    rename_i t3 ht3
    have sB : ∀ lv, Keep3 lp ln ll H (upd H1 ll (.lst (nums (b.levels ++ [lv])))) := fun lv a u n1 n2 n3 e => lk_ne n3 (K1 a u n1 n2 n3 e)
    refine g_rDPutT (k := key2 (lo, hi)) (lk_new ht3 (lk_ne m4 f3)) upd_same (by rw [nodesT_len]; unfold Bld.nn at hz; omega) ?_
    have mt3 : t3 ≠ ln := ne_new (lk_ne m4 f3) ht3
    walk_at "go"
    rename_i t4 ht4
    have mt4 : t4 ≠ ln := ne_new upd_same ht4
    refine g_rDGetT (k := key2 (lo, hi)) (lk_new ht4 upd_same) upd_same (by rw [valV_put, if_pos rfl]) ?_
    rw [putK_new _ hout, List.length_append] at *
    have e6 : nodesT (b.lc + 1) b.pairs ++ [(key2 (lo, hi), V.int ((b.lc + (b.pairs.length + [(lo, hi)].length) : Nat) : Int))] = nodesT (b.lc + 1) (b.pairs ++ [(lo, hi)]) := by
      rw [nodesT_snoc]
      show _ ++ [(key2 (lo, hi), V.int ((b.lc + (b.pairs.length + 1) : Nat) : Int))] = _
      rw [show b.lc + (b.pairs.length + 1) = b.lc + 1 + b.pairs.length by omega]
    walk_at "go"
    rw [e6]
    have L2' := LstAt.stab stab_P h5 f4 hL1 (acc' := nums (b.levels ++ [1 + max (b.levels.getD (lo / 2) 0) (b.levels.getD (hi / 2) 0)]))
    have L3 := L2'.mono mono_P (Same.new (o := .tup [.int (lo : Int), .int (hi : Int)]) ht3)
    have L4 := L3.keepT to_P (Keep.upd (o := .dT (nodesT (b.lc + 1) (b.pairs ++ [(lo, hi)])))) (lk_new ht3 (lk_ne m4 f3)) (fun _ q => nomatch q) m2.symm
    rw [e6] at ht4
    have L5 := L4.mono mono_P (Same.new (o := .tup [.int (lo : Int), .int (hi : Int)]) ht4)
    have e7 : 2 * (b.lc + (b.pairs.length + [(lo, hi)].length)) = 2 * (b.lc + 1 + b.pairs.length) := by show 2 * (b.lc + (b.pairs.length + 1)) = _; omega
    rw [e7]
    refine qN hm _ _ (fun a u n1 n2 n3 e => lk_new ht4 (lk_ne n2 (lk_new ht3 (sB _ a u n1 n2 n3 e)))) ⟨lk_new ht4 (lk_ne m5 (lk_new ht3 (lk_ne m3 f1))), L5, lk_new ht4 upd_same, lk_new ht4 (lk_ne m4.symm (lk_new ht3 upd_same)), h5⟩
theorem ok_RuleBuilder_both {cc c : Addr} (F : FunS P K (He.ga K "RuleBuilder") "both" "RuleBuilder.both" (defArgs s_RuleBuilder_both) (defBody s_RuleBuilder_both) (defScope s_RuleBuilder_both) f cc c fd) (hm : Meth K (He.ga K "RuleBuilder") "both" f) (hsub : PySem.W.mroIn K (He.ga K "RuleBuilder") (.ref (He.ga K "RuleBuilder")) = some true) (T : Txt K mg) (M_RuleBuilder_simpler : MethOk P w K mg base 2 (He.ga K "RuleBuilder") "simpler" ["self", "low", "high"] (spSimpler K)) (S_RuleBuilder_both : SupOk P w K mg base 2 (He.ga K "RuleBuilder") (He.ga K "RuleBuilder") "both" ["self", "left", "right"] (spBoth K (He.ga K "RuleBuilder") BothR)) : MethOk P w K mg base 3 (He.ga K "RuleBuilder") "both" ["self", "left", "right"] (spBoth K (He.ga K "RuleBuilder") RuleR) := by
  refine ⟨f, fd, hm, F.binds (fun _ _ _ _ _ _ us hl => match us, hl with | [_, _, _], _ => rfl), sup_ok F sc_RuleBuilder_both ?len S_RuleBuilder_both (k := 2) (by decide) T.m_super rfl rfl rfl (by decide +kernel) (by decide +kernel) (by decide +kernel) (by decide) hsub (fun _ => rfl) (fun _ => rfl) (fun _ => rfl) (fun A outer s H vs Q E hr h => ⟨_, _, PSs.nox ((pss_cons (ps_par (i := 4) (j := 5) (by rfl) sc_RuleBuilder_both.nd rfl rfl (by decide) rfl rfl (pa_cons (pe_callB (call_min' rfl) (by rfl) T.m_min (by decide +kernel) (pa_cons (pv 1) (pa_cons (pv 2) pa_nil))) (pa_cons (pe_callB (call_max' rfl) (by rfl) T.m_max (by decide +kernel) (pa_cons (pv 1) (pa_cons (pv 2) pa_nil))) pa_nil)) (by rfl))
  (pss_cons (ps_set (i := 6) sc_RuleBuilder_both.nd rfl (Or.inl rfl) (pe_methD M_RuleBuilder_simpler T.c_RuleBuilder (hr.mono (by decide)) (pv 0) (pa_cons (pv 4) (pa_cons (pv 5) pa_nil))))
  (pss_one (ps_while PassesOwn.never (pt_cmpR op_notN' (pv 6) pe_non (nomark _)) (pss_cons (ps_par (i := 4) (j := 5) (by rfl) sc_RuleBuilder_both.nd rfl rfl (by decide) rfl rfl (pa_cons (pe_callB (call_min' rfl) (by rfl) T.m_min (by decide +kernel) (pa_cons (pe_ix (ix_tupK (K := K) (by rfl)) (pv 6) (pe_int (i := ((0 : Nat) : Int))) (fun _ _ => rfl)) (pa_cons (pe_ix (ix_tupK (K := K) (by rfl)) (pv 6) (pe_int (i := ((1 : Nat) : Int))) (fun _ _ => rfl)) pa_nil))) (pa_cons (pe_callB (call_max' rfl) (by rfl) T.m_max (by decide +kernel) (pa_cons (pe_ix (ix_tupK (K := K) (by rfl)) (pv 6) (pe_int (i := ((0 : Nat) : Int))) (fun _ _ => rfl)) (pa_cons (pe_ix (ix_tupK (K := K) (by rfl)) (pv 6) (pe_int (i := ((1 : Nat) : Int))) (fun _ _ => rfl)) pa_nil))) pa_nil)) (by rfl))
  (pss_one (ps_set (i := 6) sc_RuleBuilder_both.nd rfl (Or.inl rfl) (pe_methD M_RuleBuilder_simpler T.c_RuleBuilder (hr.mono (by decide)) (pv 0) (pa_cons (pv 4) (pa_cons (pv 5) pa_nil))))))))))), (pa_cons (pv 4) (pa_cons (pv 5) pa_nil)), ?_⟩)⟩
  case len => walk_at "ln"
  obtain ⟨p, dx, lp, ln, ll, b, l, r, rfl, hb, hok, hl, hrr, hz, q⟩ := h
  refine st_eq (show NdefX.startF _ _ _ = [some (.ref p), some (.int (l : Int)), some (.int (r : Int)), some (.ref (He.ga K "RuleBuilder")), none, none, none] from rfl) ?_
  have h1 := hb.1
  have l1 : min l r / 2 < b.nn := by omega
  have l2 : max l r / 2 < b.nn := by omega
  walk_at "go"
  refine ⟨p, dx, lp, ln, ll, b, min l r, max l r, rfl, hb, l1, l2, fun v H1 hS1 hv => ?_⟩
  walk_at "go"
  refine ⟨fun m σ H' => ∃ lo hi v, σ = [some (.ref p), some (.int (l : Int)), some (.int (r : Int)), some (.ref (He.ga K "RuleBuilder")), some (.int ((lo : Nat) : Int)), some (.int ((hi : Nat) : Int)), some v] ∧ m = lo + hi ∧ Steps b (min l r) (max l r) lo hi ∧ RetP H' v (simplerF b lo hi) ∧ Same H H', ⟨_, _, _, v, rfl, rfl, .refl _ _, hv, hS1⟩, ?_⟩
  rintro m σ H2 ⟨lo, hi, v2, rfl, rfl, st, hr2, hS2⟩
  have hlt := st.lt hok (by omega) l1 l2
  cases e : simplerF b lo hi with
  | none =>
    rw [e] at hr2
    cases hr2
    walk_at "go"
    exact ⟨p, dx, _, rfl, hS2 _ _ h1, by
      walk_at "go"
      refine ⟨p, dx, lp, ln, ll, b, lo, hi, rfl, hb.mono hS2, hok, hlt.2.1, hlt.2.2, hz, fun y b' H3 hR k3 hb3 => ?_⟩
      exact q y b' H3 ⟨lo, hi, st, e, hR⟩ (fun a u n1 n2 n3 z => k3 a u n1 n2 n3 (hS2 a u z)) hb3⟩
  | some x =>
    rw [e] at hr2
    obtain ⟨t, rfl, ht⟩ := hr2
    have hle := simpler_less hok hlt.1 e
    have st2 := st.snoc e
    have hlt2 := st2.lt hok (by omega) l1 l2
    have hm2 : min x.1 x.2 + max x.1 x.2 = x.1 + x.2 := by omega
    have hbx := hb.mono hS2
    have hx1 := hbx.1
    walk_at "go"
    refine ⟨fun σ' H' => ∃ lo' hi' v, σ' = [some (.ref p), some (.int (l : Int)), some (.int (r : Int)), some (.ref (He.ga K "RuleBuilder")), some (.int ((lo' : Nat) : Int)), some (.int ((hi' : Nat) : Int)), some v] ∧ lo' + hi' < lo + hi ∧ Steps b (min l r) (max l r) lo' hi' ∧ RetP H' v (simplerF b lo' hi') ∧ Same H H', ?_, ?_⟩
    · rintro σ' H' ⟨lo', hi', v', rfl, g1, g2, g3, g4⟩
      exact ⟨_, g1, lo', hi', v', rfl, rfl, g2, g3, g4⟩
    walk_at "go"
    refine ⟨p, dx, lp, ln, ll, b, min x.1 x.2, max x.1 x.2, rfl, hbx, hlt2.2.1, hlt2.2.2, fun v3 H3 hS3 hv3 => ?_⟩
    refine ⟨_, _, v3, rfl, by unfold Less at hle; omega, st2, hv3, L2.Same.trans hS2 hS3⟩
end
end
end Sg
/-! part SgEnd -/
set_option Elab.async false
set_option maxRecDepth 100000
set_option linter.unusedVariables false
set_option maxHeartbeats 0
namespace Sg
open PySem PySem.Spec PyProof.Rows L2
theorem code_of {K : PySem.W.Frag} {p : Str × Option Str} {x q : Str} {params : Arguments} {body : List Stmt} {scope : Scope} {dvs : List V} {kws : List (Str × V)} {fd : FuncData} (F : FunD K x q params body scope dvs kws (He.fAd K p) fd) : fd.code = .ref (He.codeOf K p) := by
  obtain ⟨oc, od, dV, kV, doc, pm, an, cdv, ct, osl, rfl, lk, hcd, _, _⟩ := F.ex
  obtain ⟨c, rfl⟩ := He.codeIn_ref hcd
  rw [He.codeOf_eq lk rfl]
abbrev hTab (K : PySem.W.Frag) : Addr := He.tabOf K (He.codeOf K ("combined", none))
theorem all_ok {w : World} {K : PySem.W.Frag} {mg : Str → Option Value} {h base : Heap} {fdL : FuncData} (X : K.In h) (G : h.Ns mainGlobals mg) (c : SaysZ hFa hFn hTf hEx hFx h K) (FL : FunD K "law" "law" (defArgs s_law) (defBody s_law) (defScope s_law) [] [] (He.ga K "law") fdL)
    (TBh : LamX.TabB base mg (He.codeOf K ("combined", none)) (hTab K)) : FnOk PySem.Challenge.pw_suregate_k24_whole_passes_in_any_order w K mg base CX0 10 (He.ga K "law") fdL ["_law_script"] (spLaw K [(hTab K, "combined.<locals>.<lambda>")]) := by
  have T : Txt K mg := by
    exact ⟨He.cls_ok (c.d.fact 55 (f := .cls "Units") rfl), He.noat_ok (c.d.fact 75 (f := .noat "Units" "clauses") rfl), He.noat_ok (c.d.fact 76 (f := .noat "Units" "holders") rfl), He.noat_ok (c.d.fact 77 (f := .noat "Units" "shorts") rfl), He.cls_ok (c.d.fact 58 (f := .cls "Net") rfl), He.noat_ok (c.d.fact 78 (f := .noat "Net" "input_count") rfl), He.noat_ok (c.d.fact 79 (f := .noat "Net" "latches") rfl), He.noat_ok (c.d.fact 80 (f := .noat "Net" "ands") rfl), He.cls_ok (c.d.fact 61 (f := .cls "Joined") rfl), He.noat_ok (c.d.fact 81 (f := .noat "Joined" "_last_input") rfl), He.noat_ok (c.d.fact 82 (f := .noat "Joined" "_left_limit") rfl), He.noat_ok (c.d.fact 83 (f := .noat "Joined" "_right_limit") rfl), He.noat_ok (c.d.fact 84 (f := .noat "Joined" "_left_latches") rfl), He.noat_ok (c.d.fact 85 (f := .noat "Joined" "_right_latches") rfl), He.noat_ok (c.d.fact 86 (f := .noat "Joined" "_left_ands") rfl), He.noat_ok (c.d.fact 87 (f := .noat "Joined" "joint") rfl), He.noat_ok (c.d.fact 88 (f := .noat "Joined" "goals") rfl), He.cls_ok (c.d.fact 64 (f := .cls "Circuit") rfl), He.noat_ok (c.d.fact 89 (f := .noat "Circuit" "inputs") rfl), He.noat_ok (c.d.fact 90 (f := .noat "Circuit" "latches") rfl), He.noat_ok (c.d.fact 91 (f := .noat "Circuit" "ands") rfl), He.noat_ok (c.d.fact 92 (f := .noat "Circuit" "outputs") rfl), He.cls_ok (c.d.fact 67 (f := .cls "Builder") rfl), He.noat_ok (c.d.fact 93 (f := .noat "Builder" "leaf_count") rfl), He.noat_ok (c.d.fact 94 (f := .noat "Builder" "pairs") rfl), He.noat_ok (c.d.fact 95 (f := .noat "Builder" "_nodes") rfl), He.noat_ok (c.d.fact 96 (f := .noat "Builder" "_levels") rfl), He.cls_ok (c.d.fact 70 (f := .cls "RuleBuilder") rfl), He.noat_ok (c.d.fact 97 (f := .noat "RuleBuilder" "leaf_count") rfl), He.noat_ok (c.d.fact 98 (f := .noat "RuleBuilder" "pairs") rfl), He.noat_ok (c.d.fact 99 (f := .noat "RuleBuilder" "_nodes") rfl), He.noat_ok (c.d.fact 100 (f := .noat "RuleBuilder" "_levels") rfl), He.cls_ok (c.d.fact 73 (f := .cls "AlikeCertificate") rfl), He.noat_ok (c.d.fact 101 (f := .noat "AlikeCertificate" "facts") rfl), He.noat_ok (c.d.fact 102 (f := .noat "AlikeCertificate" "start_lines") rfl), He.noat_ok (c.d.fact 103 (f := .noat "AlikeCertificate" "lines") rfl), He.noat_ok (c.d.fact 104 (f := .noat "AlikeCertificate" "next_lines") rfl), He.free_ok X G (c.d.fact 120 (f := .free "len") rfl), He.free_ok X G (c.d.fact 121 (f := .free "sorted") rfl), He.free_ok X G (c.d.fact 122 (f := .free "set") rfl), He.free_ok X G (c.d.fact 123 (f := .free "tuple") rfl), He.free_ok X G (c.d.fact 124 (f := .free "list") rfl), He.free_ok X G (c.d.fact 125 (f := .free "range") rfl), He.free_ok X G (c.d.fact 126 (f := .free "enumerate") rfl), He.free_ok X G (c.d.fact 127 (f := .free "min") rfl), He.free_ok X G (c.d.fact 128 (f := .free "max") rfl), He.free_ok X G (c.d.fact 129 (f := .free "int") rfl), He.free_ok X G (c.d.fact 130 (f := .free "str") rfl), He.free_ok X G (c.d.fact 131 (f := .free "isinstance") rfl), He.free_ok X G (c.d.fact 132 (f := .free "super") rfl), He.int_ok X G (c.d.fact 133 (f := .int "MOST_INPUTS" 16) rfl), He.int_ok X G (c.d.fact 134 (f := .int "MOST_LATCHES" 40) rfl), He.int_ok X G (c.d.fact 135 (f := .int "MOST_ANDS" 2000) rfl), He.int_ok X G (c.d.fact 136 (f := .int "MOST_OUTPUTS" 32) rfl), He.int_ok X G (c.d.fact 137 (f := .int "MOST_SIGNS" 12) rfl), He.str_ok X G (c.d.fact 138 (f := .str "FIRST_SIGNS" "abcdefghijklmnopqrstuvwxyz") rfl), He.str_ok X G (c.d.fact 139 (f := .str "SIGNS" "abcdefghijklmnopqrstuvwxyz0123456789_") rfl), He.int_ok X G (c.d.fact 140 (f := .int "MOST_ROWS" 1000) rfl)⟩
  obtain ⟨e0, e1⟩ := He.ba c.more
  obtain ⟨e2, e3⟩ := He.ba e1
  obtain ⟨e4, e5⟩ := He.ba e3
  obtain ⟨e6, e7⟩ := He.ba e5
  obtain ⟨e8, e9⟩ := He.ba e7
  obtain ⟨fdF60, F60⟩ := c.d.def_ 60 (d := d_law_rows) rfl
  have h__law_rows := ok_law_rows (P := PySem.Challenge.pw_suregate_k24_whole_passes_in_any_order) (w := w) (base := base) F60 (He.glo_ok X G (c.d.fact 42 (f := .glo "_law_rows") rfl)) T
  obtain ⟨fdF64, F64⟩ := c.d.def_ 64 (d := d_law_parts) rfl
  obtain ⟨fdF61, F61⟩ := c.d.def_ 61 (d := d_law_name) rfl
  have h__law_name := ok_law_name (P := PySem.Challenge.pw_suregate_k24_whole_passes_in_any_order) (w := w) (base := base) F61 (He.glo_ok X G (c.d.fact 43 (f := .glo "_law_name") rfl)) T
  obtain ⟨fdF62, F62⟩ := c.d.def_ 62 (d := d_law_literal) rfl
  have h__law_literal := ok_law_literal (P := PySem.Challenge.pw_suregate_k24_whole_passes_in_any_order) (w := w) (base := base) F62 (He.glo_ok X G (c.d.fact 44 (f := .glo "_law_literal") rfl)) T
  obtain ⟨fdF63, F63⟩ := c.d.def_ 63 (d := d_law_ands) rfl
  have h__law_ands := ok_law_ands (P := PySem.Challenge.pw_suregate_k24_whole_passes_in_any_order) (w := w) (base := base) F63 (He.glo_ok X G (c.d.fact 45 (f := .glo "_law_ands") rfl)) T h__law_literal
  have h__law_parts := ok_law_parts (P := PySem.Challenge.pw_suregate_k24_whole_passes_in_any_order) (w := w) (base := base) F64 (He.glo_ok X G (c.d.fact 46 (f := .glo "_law_parts") rfl)) T h__law_name h__law_literal h__law_ands
  obtain ⟨fdF25, F25⟩ := c.d.def_ 25 (d := d_Circuit_init) rfl
  obtain ⟨fdF22, F22⟩ := c.d.def_ 22 (d := d_fault_of_leaves) rfl
  obtain ⟨fdF21, F21⟩ := c.d.def_ 21 (d := d_is_name) rfl
  have h_is_name := ok_is_name (P := PySem.Challenge.pw_suregate_k24_whole_passes_in_any_order) (w := w) (base := base) F21 (He.glo_ok X G (c.d.fact 12 (f := .glo "is_name") rfl)) T
  have h_fault_of_leaves := ok_fault_of_leaves (P := PySem.Challenge.pw_suregate_k24_whole_passes_in_any_order) (w := w) (base := base) F22 (He.glo_ok X G (c.d.fact 13 (f := .glo "fault_of_leaves") rfl)) T h_is_name
  obtain ⟨fdF23, F23⟩ := c.d.def_ 23 (d := d_fault_of_ands) rfl
  have h_fault_of_ands := ok_fault_of_ands (P := PySem.Challenge.pw_suregate_k24_whole_passes_in_any_order) (w := w) (base := base) F23 (He.glo_ok X G (c.d.fact 14 (f := .glo "fault_of_ands") rfl)) T
  obtain ⟨fdF24, F24⟩ := c.d.def_ 24 (d := d_fault_of_outputs) rfl
  have h_fault_of_outputs := ok_fault_of_outputs (P := PySem.Challenge.pw_suregate_k24_whole_passes_in_any_order) (w := w) (base := base) F24 (He.glo_ok X G (c.d.fact 15 (f := .glo "fault_of_outputs") rfl)) T h_is_name
  have h_Circuit___init__ := ok_Circuit_init (P := PySem.Challenge.pw_suregate_k24_whole_passes_in_any_order) (w := w) (base := base) F25 (He.glo_ok X G (c.d.fact 63 (f := .glo "Circuit") rfl)) (He.mkr_ok (c.d.fact 65 (f := .mkr "Circuit") rfl)) T h_fault_of_leaves h_fault_of_ands h_fault_of_outputs
  obtain ⟨fdF65, F65⟩ := c.d.def_ 65 (d := d_law_bits) rfl
  have h__law_bits := ok_law_bits (P := PySem.Challenge.pw_suregate_k24_whole_passes_in_any_order) (w := w) (base := base) F65 (He.glo_ok X G (c.d.fact 47 (f := .glo "_law_bits") rfl)) T
  obtain ⟨fdF58, F58⟩ := c.d.def_ 58 (d := d_run) rfl
  obtain ⟨fdF57, F57⟩ := c.d.def_ 57 (d := d_check_course) rfl
  have h_check_course := ok_check_course (P := PySem.Challenge.pw_suregate_k24_whole_passes_in_any_order) (w := w) (base := base) F57 (He.glo_ok X G (c.d.fact 39 (f := .glo "check_course") rfl)) T
  obtain ⟨fdF59, F59⟩ := c.d.def_ 59 (d := d_cycles) rfl
  obtain ⟨fdF55, F55⟩ := c.d.def_ 55 (d := d_start_state) rfl
  have h_start_state := ok_start_state (P := PySem.Challenge.pw_suregate_k24_whole_passes_in_any_order) (w := w) (base := base) F55 (He.glo_ok X G (c.d.fact 37 (f := .glo "start_state") rfl)) T
  obtain ⟨fdF56, F56⟩ := c.d.def_ 56 (d := d_step) rfl
  obtain ⟨fdF27, F27⟩ := c.d.def_ 27 (d := d_Circuit_as_net) rfl
  obtain ⟨fdF10, F10⟩ := c.d.def_ 10 (d := d_Net_init) rfl
  have h_Net___init__ := ok_Net_init (P := PySem.Challenge.pw_suregate_k24_whole_passes_in_any_order) (w := w) (base := base) F10 (He.glo_ok X G (c.d.fact 57 (f := .glo "Net") rfl)) (He.mkr_ok (c.d.fact 59 (f := .mkr "Net") rfl)) T
  have h_Circuit_as_net := ok_as_net (P := PySem.Challenge.pw_suregate_k24_whole_passes_in_any_order) (w := w) (base := base) F27 (He.meth_ok (c.d.fact 112 (f := .meth "Circuit" "as_net") rfl)) T h_Net___init__
  obtain ⟨fdF54, F54⟩ := c.d.def_ 54 (d := d_node_values) rfl
  obtain ⟨fdF53, F53⟩ := c.d.def_ 53 (d := d_value_of) rfl
  have h_value_of := ok_value_of (P := PySem.Challenge.pw_suregate_k24_whole_passes_in_any_order) (w := w) (base := base) F53 (He.glo_ok X G (c.d.fact 35 (f := .glo "value_of") rfl))
  have h_node_values := ok_node_values (P := PySem.Challenge.pw_suregate_k24_whole_passes_in_any_order) (w := w) (base := base) F54 (He.glo_ok X G (c.d.fact 36 (f := .glo "node_values") rfl)) T h_value_of
  have h_step := ok_step (P := PySem.Challenge.pw_suregate_k24_whole_passes_in_any_order) (w := w) (base := base) F56 (He.glo_ok X G (c.d.fact 38 (f := .glo "step") rfl)) T h_Circuit_as_net h_node_values h_value_of
  have h_cycles := ok_cycles (P := PySem.Challenge.pw_suregate_k24_whole_passes_in_any_order) (w := w) (base := base) F59 (He.glo_ok X G (c.d.fact 41 (f := .glo "cycles") rfl)) T h_start_state h_step
  have h_run := ok_run (P := PySem.Challenge.pw_suregate_k24_whole_passes_in_any_order) (w := w) (base := base) F58 (He.glo_ok X G (c.d.fact 40 (f := .glo "run") rfl)) T h_check_course h_cycles
  obtain ⟨fdF70, F70⟩ := c.d.def_ 70 (d := d_law_pass) rfl
  obtain ⟨fdF48, F48⟩ := c.d.def_ 48 (d := d_hash_circuit) rfl
  obtain ⟨fdF29, F29⟩ := c.d.def_ 29 (d := d_Builder_init) rfl
  have h_Builder___init__ := ok_Builder_init (P := PySem.Challenge.pw_suregate_k24_whole_passes_in_any_order) (w := w) (base := base) F29 (He.glo_ok X G (c.d.fact 66 (f := .glo "Builder") rfl)) (He.mkr_ok (c.d.fact 68 (f := .mkr "Builder") rfl)) T
  obtain ⟨fdF47, F47⟩ := c.d.def_ 47 (d := d_carried_over) rfl
  obtain ⟨fdF34, F34⟩ := c.d.def_ 34 (d := d_leaf_images) rfl
  have h_leaf_images := ok_leaf_images (P := PySem.Challenge.pw_suregate_k24_whole_passes_in_any_order) (w := w) (base := base) F34 (He.glo_ok X G (c.d.fact 18 (f := .glo "leaf_images") rfl)) T
  obtain ⟨fdF32, F32⟩ := c.d.def_ 32 (d := d_Builder_both) rfl
  obtain ⟨fdF31, F31⟩ := c.d.def_ 31 (d := d_Builder_level_of) rfl
  have h_Builder_level_of := ok_level_of_Builder (P := PySem.Challenge.pw_suregate_k24_whole_passes_in_any_order) (w := w) (base := base) F31 (He.meth_ok (c.d.fact 114 (f := .meth "Builder" "level_of") rfl)) T
  have h_Builder_both := ok_both_Builder (P := PySem.Challenge.pw_suregate_k24_whole_passes_in_any_order) (w := w) (base := base) F32 (He.meth_ok (c.d.fact 115 (f := .meth "Builder" "both") rfl)) T h_Builder_level_of
  obtain ⟨fdF28, F28⟩ := c.d.def_ 28 (d := d_image_of) rfl
  have h_image_of := ok_image_of (P := PySem.Challenge.pw_suregate_k24_whole_passes_in_any_order) (w := w) (base := base) F28 (He.glo_ok X G (c.d.fact 16 (f := .glo "image_of") rfl))
  obtain ⟨fdF33, F33⟩ := c.d.def_ 33 (d := d_rebuilt) rfl
  have h_rebuilt_Builder := ok_rebuilt_Builder (P := PySem.Challenge.pw_suregate_k24_whole_passes_in_any_order) (w := w) (base := base) F33 (He.glo_ok X G (c.d.fact 17 (f := .glo "rebuilt") rfl)) T h_image_of h_Circuit___init__
  obtain ⟨fdF36, F36⟩ := c.d.def_ 36 (d := d_image_certificate) rfl
  obtain ⟨fdF11, F11⟩ := c.d.def_ 11 (d := d_Joined_init) rfl
  obtain ⟨fdF12, F12⟩ := c.d.def_ 12 (d := d_Joined_from_left) rfl
  have h_Joined_from_left := ok_from_left (P := PySem.Challenge.pw_suregate_k24_whole_passes_in_any_order) (w := w) (base := base) F12 (He.meth_ok (c.d.fact 109 (f := .meth "Joined" "from_left") rfl)) T
  obtain ⟨fdF13, F13⟩ := c.d.def_ 13 (d := d_Joined_from_right) rfl
  have h_Joined_from_right := ok_from_right (P := PySem.Challenge.pw_suregate_k24_whole_passes_in_any_order) (w := w) (base := base) F13 (He.meth_ok (c.d.fact 110 (f := .meth "Joined" "from_right") rfl)) T
  have h_Joined___init__ := ok_Joined_init (P := PySem.Challenge.pw_suregate_k24_whole_passes_in_any_order) (w := w) (base := base) F11 (He.glo_ok X G (c.d.fact 60 (f := .glo "Joined") rfl)) (He.mkr_ok (c.d.fact 62 (f := .mkr "Joined") rfl)) T h_Joined_from_left h_Joined_from_right h_Net___init__
  obtain ⟨fdP0, FP0⟩ := funD_at (c.fnAt 0 rfl) (propB_ok e0).2.2 (propB_ok e0).2.1
  have h_Net_first_latch := ok_first_latch (P := PySem.Challenge.pw_suregate_k24_whole_passes_in_any_order) (w := w) (base := base) FP0 (propB_ok e0).1 T
  obtain ⟨fdP1, FP1⟩ := funD_at (c.fnAt 1 rfl) (propB_ok e2).2.2 (propB_ok e2).2.1
  have h_Net_first_and := ok_first_and (P := PySem.Challenge.pw_suregate_k24_whole_passes_in_any_order) (w := w) (base := base) FP1 (propB_ok e2).1 T
  obtain ⟨fdP2, FP2⟩ := funD_at (c.fnAt 2 rfl) (propB_ok e4).2.2 (propB_ok e4).2.1
  have h_Net_node_count := ok_node_count (P := PySem.Challenge.pw_suregate_k24_whole_passes_in_any_order) (w := w) (base := base) FP2 (propB_ok e4).1 T
  obtain ⟨fdF8, F8⟩ := c.d.def_ 8 (d := d_same_clauses) rfl
  have h_same_clauses := ok_same_clauses (P := PySem.Challenge.pw_suregate_k24_whole_passes_in_any_order) (w := w) (base := base) F8 (He.glo_ok X G (c.d.fact 3 (f := .glo "same_clauses") rfl))
  obtain ⟨fdF35, F35⟩ := c.d.def_ 35 (d := d_AlikeCertificate_init) rfl
  have h_AlikeCertificate___init__ := ok_Crt_init (P := PySem.Challenge.pw_suregate_k24_whole_passes_in_any_order) (w := w) (base := base) F35 (He.glo_ok X G (c.d.fact 72 (f := .glo "AlikeCertificate") rfl)) (He.mkr_ok (c.d.fact 74 (f := .mkr "AlikeCertificate") rfl)) T
  have h_image_certificate := ok_image_certificate (P := PySem.Challenge.pw_suregate_k24_whole_passes_in_any_order) (w := w) (base := base) F36 (He.glo_ok X G (c.d.fact 19 (f := .glo "image_certificate") rfl)) T h_Joined___init__ h_Circuit_as_net h_Net_first_latch h_Net_first_and h_Net_node_count h_Joined_from_left h_Joined_from_right h_same_clauses h_AlikeCertificate___init__
  have h_carried_over_Builder := ok_carried_over_Builder (P := PySem.Challenge.pw_suregate_k24_whole_passes_in_any_order) (w := w) (base := base) both_step F47 (He.glo_ok X G (c.d.fact 29 (f := .glo "carried_over") rfl)) T h_leaf_images h_Builder_both h_image_of h_rebuilt_Builder h_image_certificate
  have h_hash_circuit := ok_hash_circuit (P := PySem.Challenge.pw_suregate_k24_whole_passes_in_any_order) (w := w) (base := base) F48 (He.glo_ok X G (c.d.fact 30 (f := .glo "hash_circuit") rfl)) T h_Builder___init__ h_carried_over_Builder
  obtain ⟨fdF49, F49⟩ := c.d.def_ 49 (d := d_apply_rules) rfl
  obtain ⟨fdF72, F72⟩ := c.d.def_ 72 (d := dI_RuleBuilder_init) rfl
  have h_Builder___init___RuleBuilder := ok_RuleBuilder_init (P := PySem.Challenge.pw_suregate_k24_whole_passes_in_any_order) (w := w) (base := base) F72 (He.glo_ok X G (c.d.fact 69 (f := .glo "RuleBuilder") rfl)) (He.mkr_ok (c.d.fact 71 (f := .mkr "RuleBuilder") rfl)) T
  obtain ⟨fdF46, F46⟩ := c.d.def_ 46 (d := d_RuleBuilder_simpler) rfl
  obtain ⟨fdF73, F73⟩ := c.d.def_ 73 (d := dI_RuleBuilder_pair_of) rfl
  have h_Builder_pair_of_RuleBuilder := ok_pair_of_RuleBuilder (P := PySem.Challenge.pw_suregate_k24_whole_passes_in_any_order) (w := w) (base := base) F73 (He.meth_ok (c.d.fact 118 (f := .meth "RuleBuilder" "pair_of") rfl)) T
  obtain ⟨fdF42, F42⟩ := c.d.def_ 42 (d := d_by_one_pair) rfl
  have h_by_one_pair := ok_by_one_pair (P := PySem.Challenge.pw_suregate_k24_whole_passes_in_any_order) (w := w) (base := base) F42 (He.glo_ok X G (c.d.fact 25 (f := .glo "by_one_pair") rfl))
  obtain ⟨fdF43, F43⟩ := c.d.def_ 43 (d := d_by_two_ands) rfl
  have h_by_two_ands := ok_by_two_ands (P := PySem.Challenge.pw_suregate_k24_whole_passes_in_any_order) (w := w) (base := base) F43 (He.glo_ok X G (c.d.fact 26 (f := .glo "by_two_ands") rfl))
  obtain ⟨fdF44, F44⟩ := c.d.def_ 44 (d := d_by_complement) rfl
  have h_by_complement := ok_by_complement (P := PySem.Challenge.pw_suregate_k24_whole_passes_in_any_order) (w := w) (base := base) F44 (He.glo_ok X G (c.d.fact 27 (f := .glo "by_complement") rfl))
  obtain ⟨fdF45, F45⟩ := c.d.def_ 45 (d := d_by_two_complements) rfl
  have h_by_two_complements := ok_by_two_complements (P := PySem.Challenge.pw_suregate_k24_whole_passes_in_any_order) (w := w) (base := base) F45 (He.glo_ok X G (c.d.fact 28 (f := .glo "by_two_complements") rfl))
  have h_RuleBuilder_simpler := ok_simpler (P := PySem.Challenge.pw_suregate_k24_whole_passes_in_any_order) (w := w) (base := base) F46 (He.meth_ok (c.d.fact 116 (f := .meth "RuleBuilder" "simpler") rfl)) T h_Builder_pair_of_RuleBuilder h_by_one_pair h_by_two_ands h_by_complement h_by_two_complements
  obtain ⟨fdF74, F74⟩ := c.d.def_ 74 (d := dI_RuleBuilder_level_of) rfl
  have h_Builder_level_of_RuleBuilder := ok_level_of_RuleBuilder (P := PySem.Challenge.pw_suregate_k24_whole_passes_in_any_order) (w := w) (base := base) F74 (He.meth_ok (c.d.fact 119 (f := .meth "RuleBuilder" "level_of") rfl)) T
  have h_S_Builder_both_RuleBuilder := ok_both_super (P := PySem.Challenge.pw_suregate_k24_whole_passes_in_any_order) (w := w) (base := base) F32 (subB_ok e9).1 (subB_ok e9).2.1 (subB_ok e9).2.2.1 T h_Builder_level_of_RuleBuilder
  obtain ⟨fdS, FS⟩ := supB_ok (P := PySem.Challenge.pw_suregate_k24_whole_passes_in_any_order) e8 (c.fnAt 3 rfl) (by kernel_rfl)
  have h_RuleBuilder_both := ok_RuleBuilder_both (w := w) (base := base) FS (He.meth_ok (c.d.fact 117 (f := .meth "RuleBuilder" "both") rfl)) (subB_ok e9).2.2.2 T h_RuleBuilder_simpler h_S_Builder_both_RuleBuilder
  have h_rebuilt_RuleBuilder := ok_rebuilt_RuleBuilder (P := PySem.Challenge.pw_suregate_k24_whole_passes_in_any_order) (w := w) (base := base) F33 (He.glo_ok X G (c.d.fact 17 (f := .glo "rebuilt") rfl)) T h_image_of h_Circuit___init__
  have h_carried_over_RuleBuilder := ok_carried_over_RuleBuilder (P := PySem.Challenge.pw_suregate_k24_whole_passes_in_any_order) (w := w) (base := base) rule_step F47 (He.glo_ok X G (c.d.fact 29 (f := .glo "carried_over") rfl)) T h_leaf_images h_RuleBuilder_both h_image_of h_rebuilt_RuleBuilder h_image_certificate
  have h_apply_rules := ok_apply_rules (P := PySem.Challenge.pw_suregate_k24_whole_passes_in_any_order) (w := w) (base := base) F49 (He.glo_ok X G (c.d.fact 31 (f := .glo "apply_rules") rfl)) T h_Builder___init___RuleBuilder h_carried_over_RuleBuilder
  obtain ⟨fdF41, F41⟩ := c.d.def_ 41 (d := d_balance) rfl
  obtain ⟨fdF40, F40⟩ := c.d.def_ 40 (d := d_balanced) rfl
  obtain ⟨fdF37, F37⟩ := c.d.def_ 37 (d := d_inner_nodes) rfl
  have h_inner_nodes := ok_inner_nodes (P := PySem.Challenge.pw_suregate_k24_whole_passes_in_any_order) (w := w) (base := base) F37 (He.glo_ok X G (c.d.fact 20 (f := .glo "inner_nodes") rfl)) T h_Circuit_as_net h_Net_node_count h_Net_first_and
  obtain ⟨fdF38, F38⟩ := c.d.def_ 38 (d := d_operands_of) rfl
  have h_operands_of := ok_operands_of (P := PySem.Challenge.pw_suregate_k24_whole_passes_in_any_order) (w := w) (base := base) F38 (He.glo_ok X G (c.d.fact 21 (f := .glo "operands_of") rfl)) T h_Net_first_and
  obtain ⟨fdF39, F39⟩ := c.d.def_ 39 (d := d_combined) rfl
  have hcode : fdF39.code = .ref (He.codeOf K ("combined", none)) := code_of F39
  have h_combined := ok_combined (P := PySem.Challenge.pw_suregate_k24_whole_passes_in_any_order) (w := w) (base := base) F39 (He.glo_ok X G (c.d.fact 22 (f := .glo "combined") rfl)) hcode TBh T h_Builder_level_of h_Builder_both
  have h_balanced := ok_balanced (P := PySem.Challenge.pw_suregate_k24_whole_passes_in_any_order) (w := w) (base := base) F40 (He.glo_ok X G (c.d.fact 23 (f := .glo "balanced") rfl)) T h_Circuit_as_net h_inner_nodes h_Net_first_and h_Net_node_count h_Builder___init__ h_leaf_images h_operands_of h_image_of h_combined h_rebuilt_Builder
  have h_balance := ok_balance (P := PySem.Challenge.pw_suregate_k24_whole_passes_in_any_order) (w := w) (base := base) F41 (He.glo_ok X G (c.d.fact 24 (f := .glo "balance") rfl)) T h_balanced h_image_certificate
  obtain ⟨fdF52, F52⟩ := c.d.def_ 52 (d := d_trim) rfl
  obtain ⟨fdF50, F50⟩ := c.d.def_ 50 (d := d_needed_nodes) rfl
  have h_needed_nodes := ok_needed_nodes (P := PySem.Challenge.pw_suregate_k24_whole_passes_in_any_order) (w := w) (base := base) F50 (He.glo_ok X G (c.d.fact 32 (f := .glo "needed_nodes") rfl)) T h_Circuit_as_net h_Net_node_count h_Net_first_and h_Net_first_latch
  obtain ⟨fdF51, F51⟩ := c.d.def_ 51 (d := d_trim_images) rfl
  have h_trim_images := ok_trim_images (P := PySem.Challenge.pw_suregate_k24_whole_passes_in_any_order) (w := w) (base := base) F51 (He.glo_ok X G (c.d.fact 33 (f := .glo "trim_images") rfl)) T
  have h_trim := ok_trim (P := PySem.Challenge.pw_suregate_k24_whole_passes_in_any_order) (w := w) (base := base) F52 (He.glo_ok X G (c.d.fact 34 (f := .glo "trim") rfl)) T h_needed_nodes h_trim_images h_image_of h_Circuit___init__ h_image_certificate
  have h__law_pass := ok_law_pass (P := PySem.Challenge.pw_suregate_k24_whole_passes_in_any_order) (w := w) (base := base) F70 (He.glo_ok X G (c.d.fact 52 (f := .glo "_law_pass") rfl)) T h_hash_circuit h_apply_rules h_balance h_trim
  obtain ⟨fdF20, F20⟩ := c.d.def_ 20 (d := d_fault_of_chain) rfl
  obtain ⟨fdF19, F19⟩ := c.d.def_ 19 (d := d_fault_of_alike) rfl
  obtain ⟨fdF16, F16⟩ := c.d.def_ 16 (d := d_fault_at_start) rfl
  obtain ⟨fdF6, F6⟩ := c.d.def_ 6 (d := d_frame_clauses) rfl
  obtain ⟨fdF5, F5⟩ := c.d.def_ 5 (d := d_in_frame) rfl
  have h_in_frame := ok_in_frame (P := PySem.Challenge.pw_suregate_k24_whole_passes_in_any_order) (w := w) (base := base) F5 (He.glo_ok X G (c.d.fact 0 (f := .glo "in_frame") rfl)) T h_Net_node_count
  have h_frame_clauses := ok_frame_clauses (P := PySem.Challenge.pw_suregate_k24_whole_passes_in_any_order) (w := w) (base := base) F6 (He.glo_ok X G (c.d.fact 1 (f := .glo "frame_clauses") rfl)) T h_Net_first_and h_in_frame
  obtain ⟨fdF0, F0⟩ := c.d.def_ 0 (d := d_Units_init) rfl
  obtain ⟨fdF1, F1⟩ := c.d.def_ 1 (d := d_Units_add_clause) rfl
  have h_Units_add_clause := ok_add_clause (P := PySem.Challenge.pw_suregate_k24_whole_passes_in_any_order) (w := w) (base := base) F1 (He.meth_ok (c.d.fact 105 (f := .meth "Units" "add_clause") rfl)) T
  have h_Units___init__ := ok_Units_init (P := PySem.Challenge.pw_suregate_k24_whole_passes_in_any_order) (w := w) (base := base) F0 (He.glo_ok X G (c.d.fact 54 (f := .glo "Units") rfl)) (He.mkr_ok (c.d.fact 56 (f := .mkr "Units") rfl)) T h_Units_add_clause
  obtain ⟨fdF7, F7⟩ := c.d.def_ 7 (d := d_start_clauses) rfl
  have h_start_clauses := ok_start_clauses (P := PySem.Challenge.pw_suregate_k24_whole_passes_in_any_order) (w := w) (base := base) F7 (He.glo_ok X G (c.d.fact 2 (f := .glo "start_clauses") rfl)) T h_Net_first_latch
  obtain ⟨fdF15, F15⟩ := c.d.def_ 15 (d := d_fault_of_lines) rfl
  obtain ⟨fdF14, F14⟩ := c.d.def_ 14 (d := d_in_range) rfl
  have h_in_range := ok_in_range (P := PySem.Challenge.pw_suregate_k24_whole_passes_in_any_order) (w := w) (base := base) F14 (He.glo_ok X G (c.d.fact 5 (f := .glo "in_range") rfl))
  obtain ⟨fdF4, F4⟩ := c.d.def_ 4 (d := d_Units_follows) rfl
  obtain ⟨fdF3, F3⟩ := c.d.def_ 3 (d := d_Units_spread) rfl
  obtain ⟨fdF2, F2⟩ := c.d.def_ 2 (d := d_Units_settle) rfl
  have h_Units_settle := ok_settle (P := PySem.Challenge.pw_suregate_k24_whole_passes_in_any_order) (w := w) (base := base) F2 (He.meth_ok (c.d.fact 106 (f := .meth "Units" "settle") rfl)) T
  have h_Units_spread := ok_spread (P := PySem.Challenge.pw_suregate_k24_whole_passes_in_any_order) (w := w) (base := base) F3 (He.meth_ok (c.d.fact 107 (f := .meth "Units" "spread") rfl)) T h_Units_settle
  have h_Units_follows := ok_follows (P := PySem.Challenge.pw_suregate_k24_whole_passes_in_any_order) (w := w) (base := base) F4 (He.meth_ok (c.d.fact 108 (f := .meth "Units" "follows") rfl)) T h_Units_spread
  have h_fault_of_lines := ok_fault_of_lines (P := PySem.Challenge.pw_suregate_k24_whole_passes_in_any_order) (w := w) (base := base) F15 (He.glo_ok X G (c.d.fact 6 (f := .glo "fault_of_lines") rfl)) T h_in_range h_Units_follows h_Units_add_clause
  have h_fault_at_start := ok_fault_at_start (P := PySem.Challenge.pw_suregate_k24_whole_passes_in_any_order) (w := w) (base := base) F16 (He.glo_ok X G (c.d.fact 7 (f := .glo "fault_at_start") rfl)) T h_Net_node_count h_frame_clauses h_Units___init__ h_start_clauses h_Units_add_clause h_fault_of_lines
  obtain ⟨fdF17, F17⟩ := c.d.def_ 17 (d := d_fault_in_cycle) rfl
  have h_fault_in_cycle := ok_fault_in_cycle (P := PySem.Challenge.pw_suregate_k24_whole_passes_in_any_order) (w := w) (base := base) F17 (He.glo_ok X G (c.d.fact 8 (f := .glo "fault_in_cycle") rfl)) T h_Net_node_count h_same_clauses h_Units_follows h_Units_add_clause h_fault_of_lines
  obtain ⟨fdF18, F18⟩ := c.d.def_ 18 (d := d_fault_in_next) rfl
  obtain ⟨fdF9, F9⟩ := c.d.def_ 9 (d := d_link_clauses) rfl
  have h_link_clauses := ok_link_clauses (P := PySem.Challenge.pw_suregate_k24_whole_passes_in_any_order) (w := w) (base := base) F9 (He.glo_ok X G (c.d.fact 4 (f := .glo "link_clauses") rfl)) T h_Net_first_latch h_Net_node_count h_same_clauses
  have h_fault_in_next := ok_fault_in_next (P := PySem.Challenge.pw_suregate_k24_whole_passes_in_any_order) (w := w) (base := base) F18 (He.glo_ok X G (c.d.fact 9 (f := .glo "fault_in_next") rfl)) T h_Net_node_count h_frame_clauses h_link_clauses h_in_frame h_Units_follows h_Units_add_clause h_fault_of_lines
  have h_fault_of_alike := ok_fault_of_alike (P := PySem.Challenge.pw_suregate_k24_whole_passes_in_any_order) (w := w) (base := base) F19 (He.glo_ok X G (c.d.fact 10 (f := .glo "fault_of_alike") rfl)) T h_Joined___init__ h_fault_at_start h_frame_clauses h_Units___init__ h_fault_in_cycle h_fault_in_next
  have h_fault_of_chain := ok_fault_of_chain (P := PySem.Challenge.pw_suregate_k24_whole_passes_in_any_order) (w := w) (base := base) F20 (He.glo_ok X G (c.d.fact 11 (f := .glo "fault_of_chain") rfl)) T h_fault_of_alike
  obtain ⟨fdF69, F69⟩ := c.d.def_ 69 (d := d_law_apart) rfl
  obtain ⟨fdF68, F68⟩ := c.d.def_ 68 (d := d_law_next) rfl
  obtain ⟨fdF67, F67⟩ := c.d.def_ 67 (d := d_law_values) rfl
  obtain ⟨fdF66, F66⟩ := c.d.def_ 66 (d := d_law_bit) rfl
  have h__law_bit := ok_law_bit (P := PySem.Challenge.pw_suregate_k24_whole_passes_in_any_order) (w := w) (base := base) F66 (He.glo_ok X G (c.d.fact 48 (f := .glo "_law_bit") rfl)) T
  have h__law_values := ok_law_values (P := PySem.Challenge.pw_suregate_k24_whole_passes_in_any_order) (w := w) (base := base) F67 (He.glo_ok X G (c.d.fact 49 (f := .glo "_law_values") rfl)) T h__law_bit
  have h__law_next := ok_law_next (P := PySem.Challenge.pw_suregate_k24_whole_passes_in_any_order) (w := w) (base := base) F68 (He.glo_ok X G (c.d.fact 50 (f := .glo "_law_next") rfl)) T h__law_values h__law_bit
  have h__law_apart := ok_law_apart (P := PySem.Challenge.pw_suregate_k24_whole_passes_in_any_order) (w := w) (base := base) F69 (He.glo_ok X G (c.d.fact 51 (f := .glo "_law_apart") rfl)) T h__law_bits h__law_next
  obtain ⟨fdF26, F26⟩ := c.d.def_ 26 (d := d_Circuit_eq) rfl
  have hM := He.meth_ok (c.d.fact 111 (f := .meth "Circuit" "__eq__") rfl)
  have h_eq := ok_Circuit_eq (P := PySem.Challenge.pw_suregate_k24_whole_passes_in_any_order) (w := w) (base := base) F26 hM.at_ hM.fn T (insB_ok e6 (He.cls_ok (c.d.fact 64 (f := .cls "Circuit") rfl))) (He.glo_ok X G (c.d.fact 63 (f := .glo "Circuit") rfl))
  exact ok_law FL T h__law_rows h__law_parts h_Circuit___init__ h__law_bits h_run h__law_pass h_fault_of_chain h__law_apart h_eq
theorem law_at {w : World} {K : PySem.W.Frag} {mg : Str → Option Value} {h : Heap} {fa : Addr} (X : K.In h) (G : h.Ns mainGlobals mg) (c : SaysZ hFa hFn hTf hEx hFx h K) (hmg : mg ("law" : Str) = some (.ref fa)) :
    LamX.LawAtS PySem.Challenge.rw_suregate_k24_whole_passes_in_any_order w K CX0 10 63 "_law_script" mg fa h := by
  obtain ⟨fd, FL⟩ := c.d.def_ 71 (d := d_law) rfl
  have e := hmg.symm.trans (He.glo_ok X G (c.d.fact 53 (f := .glo "law") rfl))
  cases e
  have b := FunD.bindsA (ps := ["_law_script"]) FL fun _ _ _ _ _ _ us hl => match us, hl with | [_], _ => rfl
  have hin : (("combined", none) : He.Defn) ∈ hTf := List.mem_singleton.mpr rfl
  refine ⟨fd, [(He.codeOf K ("combined", none), hTab K)], spLaw K [(hTab K, "combined.<locals>.<lambda>")], fun p hp => ?_, fun p hp => ?_, fun p hp => ?_, fun s v => b s [v] rfl, fun H a ns hl _ hT hS => ⟨a, ns, rfl, hS, by omega, fun p hp => ?_, fun _ => rfl⟩, fun base _ _ hTB => all_ok X G c FL (hTB _ (List.mem_singleton.mpr rfl))⟩
  · rw [List.mem_singleton.mp hp]
    exact c.empty _ hin
  · rw [List.mem_singleton.mp hp]
    exact c.out _ hin
  · rw [List.mem_singleton.mp hp]
    exact PySem.W.codeHd_of_K X (c.hd _ hin)
  · rw [List.mem_singleton.mp hp]
    exact LamX.TabS.nil (hT _ (List.mem_singleton.mpr rfl))
end Sg
theorem PySem.Challenge.cw_suregate_k24_whole_passes_in_any_order_holds : PySem.Challenge.rw_suregate_k24_whole_passes_in_any_order.Holds :=
  Sg.head_holds fun w mg fa h Y G hmg => match Y with
    | ⟨K, KX, c⟩ => ⟨K, KX, Sg.law_at KX G c hmg⟩
