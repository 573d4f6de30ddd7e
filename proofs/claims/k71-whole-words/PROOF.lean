import PyProof.Rows.All
import Wide.All
import OpenK.AllK
import Wide.FinOn
import KE.KIntText
import KE.IntTextLaws
import PyProof.CallFns
import PyProof.StrOps2
import HandS.ForMost
import HandS.More
import HandS.IntHex
import HandS.SetFor
import HandS.WideBits
import HandS.Style
import HandS.Deep
import KE.KDictItemsList
import KE.KDictPairs
import KE.KEqDict
import HandS.ListItems
import HandS.DictTup
import HandS.DictEq
import HandS.DictComp
import PyProof.AssignAttr
import HandS.Slots
import HandS.SlotsOwn
import HandS.Star
import HandS.ClsMeth
import HandS.HeadNt
import KE.KStateDown
import KE.KSortTup
import Lean
import HandS.Defaults
import HandS.Property
import HandS.Head0
import HandS.Head1
import HandS.Head2
import HandS.HeadEnd
import HandS.HeadHook1
import HandS.HeadHook2
import HandS.IsInst
import HandS.TupSets
import HandS.Zip
import HandS.TupLen
import HandS.Flow
import HandS.TupLe
import HandS.TupAny
import HandS.Sort
import HandS.StrSplit
import HandS.RaiseMore
import HandS.Walk
import PyProof.DictFindH
import PyProof.DictCompW
import KE.KDictCopyH
import HandS.Codes
import PySem.Challenge.RW_poleribbons_k71_whole_words_or_a_refusal
set_option Elab.async false
set_option linter.all false
set_option maxRecDepth 100000
/-! text K7R1 -/
set_option maxHeartbeats 4000000
/-! own rules 1: small ones -/
namespace K7
open PySem PySem.Spec PyProof.Rows L2
section
variable {X : Cx}
/-- xs[i], by values (for xs[i] op= e) -/
theorem pget_list : PGet X (rIxL X.K) := by
  intro pins s σ H o i ov iv Q I ro ri h
  obtain ⟨p, xs, i, z, rfl, rfl, hq, he, q⟩ := h
  cases ro
  obtain ⟨t, rfl⟩ := ri
  obtain ⟨its, r, pl, hz⟩ := I.list hq
  obtain ⟨j, h1, h2, h3, h4, h5⟩ := atI_get he
  obtain ⟨w, ew, rw'⟩ := r.get h2
  have hl := r.length
  have hn := line63
  have fin : EP X pins σ Q w s := ⟨z, H, I, rw', q⟩
  by_cases h0 : 0 ≤ i
  · have hj : i.toNat = j := by
      rw [seqIndex_of h0 h5] at h1
      exact Option.some.inj h1
    exact wpAny_getItem_list pl.isList h0 (by omega) (by rw [hj]; simpa using ew) fin
  · have hj : (i + (its.toArray.size : Int)).toNat = j := by
      rw [seqIndex_neg (by omega) h4] at h1
      rw [List.size_toArray, ← hl]
      exact Option.some.inj h1
    exact wpAny_getItem_list_neg pl.isList (by omega) (by rw [List.size_toArray] <;> omega) (by omega) (by rw [hj]; simpa using ew) fin
/-- repr(True) -/
theorem call_repr_bl : CallR X (.builtin "repr") (fun xs H Q => ∃ b, xs = [.bl b] ∧ Q (.str (if b then "True" else "False")) H) := by
  intro pins s σ H xs us Q I r h
  obtain ⟨b, rfl, q⟩ := h
  obtain ⟨u, rfl, ru⟩ := vals1 r
  cases ru
  exact PySem.P.repr_of_bool ⟨.str _, H, I.tok _, ⟨_, rfl⟩, q⟩
/-- xs.count(text) -/
def eqs (k : Str) (v : Value) : Bool := match v with
  | .str y _ => y == k
  | _ => false
theorem eqs_at {k : Str} {t : Tok} {A : Around} {s : Shared} : ∀ {us : List Value} {ns : List Str}, StrsAre us ns → ∀ y ∈ us, SeqAt.EqAt A s y (.str k t) (eqs k y)
  | _, _, .nil, y, hy => by cases hy
  | _, _, .cons z t' h, y, hy => by
    rcases List.mem_cons.mp hy with e | e
    · rw [e]
      exact eqAt_V (y := .str z) (x := .str k) ⟨_, rfl⟩ ⟨_, rfl⟩ rfl rfl
    · exact eqs_at h y e
theorem eqs_count {k : Str} : ∀ {us : List Value} {ns : List Str}, StrsAre us ns → us.countP (eqs k) = ns.count k
  | _, _, .nil => rfl
  | _, _, .cons n t h => by
    have ih := eqs_count (k := k) h
    rw [List.countP_cons, List.count_cons, ih] <;> rfl
def rCntS (K : PySem.W.Frag) : V → List V → Hp → VK → Prop := fun x xs H Q => ∃ (p : Addr) (ns : List Str) (k : Str), x = .ref p ∧ xs = [.str k] ∧ SqL K H p (ns.map V.str) ∧ Q (.int (ns.count k : Nat)) H
theorem mt_lcountS : MtR X "list.count" (rCntS X.K) := by
  intro pins s σ H x xs v us Q I rx rxs h
  obtain ⟨p, ns, k, rfl, rfl, hs, q⟩ := h
  cases rx
  obtain ⟨u, rfl, ru⟩ := rxs.one
  obtain ⟨t, rfl⟩ := ru
  obtain ⟨its, rv, ⟨⟨cls, dd, data, sl⟩, n, ho, hc, hdn, hd⟩, hlen⟩ := I.list hs
  simp only at hc hd
  subst hc hd
  have hi := strs_of_vals rv
  refine call_meets PySem.F.slot_list_count ⟨_, ho, rfl⟩ PySem.F.entry_list_count (PySem.F.args_list_count_2 _ _)
    (SeqAt.list_countAt p its.toArray n dd sl (.str k t) (eqs k)) ⟨ho, fun y hy => eqs_at hi y (by simpa using hy), ?_⟩
  have ec : its.toArray.toList.countP (eqs k) = ns.count k := eqs_count hi
  refine ⟨.int (ns.count k : Nat), H, I.tok _, ⟨s.toks, ?_⟩, q⟩
  show Value.int ((its.toArray.toList.countP (eqs k) : Nat) : Int) s.toks = Value.int ((ns.count k : Nat) : Int) s.toks
  rw [ec]
/-- two lists of unlike lengths are not equal -/
theorem op_eqLen (hu : X.A.units < cLine) : OpR X (compareOp .Eq) (fun x y H Q => ∃ a b xs ys, x = .ref a ∧ y = .ref b ∧ SqL X.K H a xs ∧ SqL X.K H b ys ∧ xs.length ≠ ys.length ∧ Q (.bl false) H) := by
  intro pins s σ H x y v u Q I rx ry h
  obtain ⟨a, b, xs, ys, rfl, rfl, ha, hb, ne, q⟩ := h
  cases rx
  cases ry
  obtain ⟨i1, r1, p1, _⟩ := I.list ha
  obtain ⟨i2, r2, p2, _⟩ := I.list hb
  have l1 := r1.length
  have l2 := r2.length
  exact SeqAt.eq_list_lengthsAt p1.isList p2.isList (by simp; omega) hu ⟨.bl false, H, I, rfl, q⟩
/-- text * n -/
theorem op_mulS : OpR X (binaryOp .Mult) (fun x y H Q => ∃ (z : Str) (n : Nat), x = .str z ∧ y = .int (n : Int) ∧ z.length * n ≤ 1000000 ∧ n ≤ 1000000 ∧ z.length ≤ 1000000 ∧ Q (.str ⟨(List.replicate n z.cps.toList).flatten.toArray⟩) H) := by
  intro pins s σ H x y v u Q I rx ry h
  obtain ⟨z, n, rfl, rfl, hz, hn, hl, q⟩ := h
  obtain ⟨t, rfl⟩ := rx
  obtain ⟨t', rfl⟩ := ry
  have hsl : sizeLine = 16777216 := sizeLine_eq
  have fl : ∀ (k : Nat) (acc : Array Nat), (List.replicate k z.cps).foldl (· ++ ·) acc = (acc.toList ++ (List.replicate k z.cps.toList).flatten).toArray := by
    intro k
    induction k with
    | zero => intro acc; simp
    | succ k ih =>
      intro acc
      rw [List.replicate_succ, List.foldl_cons, ih, List.replicate_succ, List.flatten_cons]
      simp
  refine PySem.P.mul_str ?_ (fun h1 _ => ?_) (fun h1 _ => ?_) ?_
  · have h1 : ¬ ((n : Int) < -(2 ^ 63 : Int)) := by omega
    have h2 : ¬ ((n : Int) ≥ 2 ^ 63) := by omega
    rw [decide_eq_false h1, decide_eq_false h2]; rfl
  · have h3 : (0 : Int) < (n : Int) := by omega
    have : (z.length : Int) ≤ (2 ^ 63 - 1) / (n : Int) := by
      rw [Int.le_ediv_iff_mul_le h3]
      have : (z.length : Int) * (n : Int) = ((z.length * n : Nat) : Int) := by rw [Int.natCast_mul]
      omega
    omega
  · rw [Int.toNat_natCast]
    show Builtin.Str.tooLong _ = false
    unfold Builtin.Str.tooLong
    exact decide_eq_false (by omega)
  · by_cases h0 : (n : Int) < 1
    · rw [if_pos h0]
      have e : n = 0 := by omega
      subst e
      refine ⟨by decide, .str Str.empty, H, I.tok _, ⟨_, rfl⟩, ?_⟩
      have : (⟨(List.replicate 0 z.cps.toList).flatten.toArray⟩ : Str) = Str.empty := rfl
      rw [← this]
      exact q
    · rw [if_neg h0]
      by_cases h1 : ((n : Int) == 1 || z.length == 0) = true
      · rw [if_pos h1]
        have e : (⟨(List.replicate n z.cps.toList).flatten.toArray⟩ : Str) = z := by
          apply TL.ext_tl
          rw [TL.tl_mk]
          rcases Bool.or_eq_true_iff.mp h1 with e | e
          · have e : n = 1 := by have := eq_of_beq e; omega
            subst e
            simp
          · have e : z.length = 0 := eq_of_beq e
            have e2 : TL.tl z = [] := by rw [TL.len_tl] at e; exact List.length_eq_zero_iff.mp e
            have e3 : z.cps.toList = [] := e2
            rw [e3, e2]
            simp
        rw [e] at q
        exact ⟨.str z, H, I, ⟨t, rfl⟩, q⟩
      · rw [if_neg h1, Int.toNat_natCast]
        have e : (List.replicate n z.cps).foldl (· ++ ·) #[] = (List.replicate n z.cps.toList).flatten.toArray := by rw [fl]; simp
        rw [e]
        have hlen : (⟨(List.replicate n z.cps.toList).flatten.toArray⟩ : Str).length ≤ sizeLine := by
          show (List.replicate n z.cps.toList).flatten.toArray.size ≤ sizeLine
          rw [List.size_toArray, List.length_flatten, List.map_replicate, List.sum_replicate_nat]
          have : z.cps.toList.length = z.length := by simp [Str.length]
          rw [this, Nat.mul_comm]
          omega
        exact ⟨hlen, .str _, H, I.tok _, ⟨_, rfl⟩, q⟩
end
end K7
/-! text K7R1b -/
set_option maxHeartbeats 4000000
/-! own rules 1b: int(s, 2); text[a::c]; the text of bits -/
namespace K7
open PySem PySem.Spec PyProof.Rows L2
namespace Bn
open PySem.NumText PySem.Calls
def IsBin (c : Nat) : Prop := c = 48 ∨ c = 49
def binNum (l : List Nat) : Nat := l.foldl (fun a c => a * 2 + (c - 48)) 0
theorem digit_bin {c : Nat} (h : IsBin c) : digit? c = some (c - 48) := by
  rcases h with rfl | rfl <;> rfl
theorem step_bin {ds : Array Nat} {b : Bool} {c : Nat} (h : IsBin c) : PySem.NumText.step 2 (ds, b) c = some (ds.push (c - 48), true) := by
  have h' := h
  unfold IsBin at h'
  unfold PySem.NumText.step
  rw [if_neg (by rw [beq_iff_eq]; omega), digit_bin h]
  exact if_pos (show c - 48 < 2 by omega)
theorem foldl_bin : ∀ (cs : List Nat) (ds : Array Nat), (∀ c ∈ cs, IsBin c) → cs.foldlM (PySem.NumText.step 2) (ds, true) = some (cs.foldl (fun acc c => acc.push (c - 48)) ds, true)
  | [], _, _ => rfl
  | c :: cs, ds, h => by
    rw [List.foldlM_cons, step_bin (h c (List.mem_cons_self ..))]
    show cs.foldlM (PySem.NumText.step 2) (ds.push (c - 48), true) = _
    exact foldl_bin cs (ds.push (c - 48)) fun d hd => h d (List.mem_cons_of_mem _ hd)
theorem digits_bin {cs : List Nat} (h : ∀ c ∈ cs, IsBin c) (hne : cs ≠ []) : digits? 2 cs = some (cs.foldl (fun acc c => acc.push (c - 48)) #[]) := by
  cases cs with
  | nil => exact absurd rfl hne
  | cons c cs =>
    unfold digits?
    rw [List.foldlM_cons, step_bin (h c (List.mem_cons_self ..))]
    show (cs.foldlM (PySem.NumText.step 2) ((#[] : Array Nat).push (c - 48), true)).bind _ = _
    rw [foldl_bin cs _ fun d hd => h d (List.mem_cons_of_mem _ hd)]
    rfl
theorem push_bin : ∀ (cs : List Nat) (ds : Array Nat), (cs.foldl (fun acc c => acc.push (c - 48)) ds).foldl (fun acc d => acc * 2 + d) 0 = cs.foldl (fun a c => a * 2 + (c - 48)) (ds.foldl (fun acc d => acc * 2 + d) 0)
  | [], _ => rfl
  | c :: cs, ds => by
    rw [List.foldl_cons, push_bin cs (ds.push (c - 48)), List.foldl_cons]
    congr 1
    simp
theorem dropB : ∀ {cs : List Nat}, (∀ c ∈ cs, IsBin c) → cs.dropWhile blank = cs
  | [], _ => rfl
  | c :: r, h => dropWhile_of (by rcases h c List.mem_cons_self with rfl | rfl <;> decide)
theorem signH : ∀ {cs : List Nat}, (∀ c ∈ cs, IsBin c) → sign cs = (false, cs)
  | [], _ => rfl
  | c :: r, h => by rcases h c List.mem_cons_self with rfl | rfl <;> rfl
theorem basedH : ∀ {cs : List Nat}, (∀ c ∈ cs, IsBin c) → based 2 cs = (2, false, cs)
  | [], _ => rfl
  | [a], h => by
    rcases h a (by simp) with e | e <;> subst e <;> rfl
  | a :: c :: r, h => by
    rcases h a (by simp) with e | e <;> subst e <;> rcases h c (by simp) with e2 | e2 <;> subst e2 <;> rfl
theorem read_bin {cs : List Nat} (h : ∀ c ∈ cs, IsBin c) (hne : cs ≠ []) : (int_private% "readNumeral") 0 2 cs = (int_private% "Numeral.value") ((binNum cs : Nat) : Int) := by
  have hr : ∀ c ∈ cs.reverse, IsBin c := fun c hc => h c (List.mem_reverse.mp hc)
  refine (readNumeral_eq 0 2 cs).trans ?_
  rw [dropB h, signH h]
  show judge 0 false (based 2 cs).1 (based 2 cs).2.1 (digits? (based 2 cs).1 (((based 2 cs).2.2.reverse.dropWhile blank).reverse)) = _
  rw [basedH h]
  show judge 0 false 2 false (digits? 2 ((cs.reverse.dropWhile blank).reverse)) = _
  rw [dropB hr, List.reverse_reverse, digits_bin h hne]
  show (int_private% "Numeral.value") (((cs.foldl (fun acc c => acc.push (c - 48)) (#[] : Array Nat)).foldl (fun acc d => acc * 2 + d) 0 : Nat) : Int) = _
  have z : (#[] : Array Nat).foldl (fun acc d => acc * 2 + d) 0 = 0 := by first | rfl | simp
  rw [push_bin, z] <;> rfl
theorem seen_bin {x : Str} (h : ∀ c ∈ x.cps.toList, IsBin c) : numTextOf x = x.cps.toList ∧ numSeenOf x = x.cps.toList := by
  have plain : numTextOf x = x.cps.toList := if_pos (by
    rw [← Array.all_toList]
    exact List.all_eq_true.mpr fun c hc => by rcases h c hc with rfl | rfl <;> rfl)
  refine ⟨plain, Eq.trans (congrArg (List.takeWhile _) plain) (takeWhile_all fun c hc => ?_)⟩
  rcases h c hc with rfl | rfl <;> rfl
theorem gives_bin {x : PySem.Str} {u t : Tok} (hl : x.length ≤ 640) (h : ∀ c ∈ x.cps.toList, IsBin c) (hne : x.cps.toList ≠ []) :
    Gives (Builtin.«int.__new__» ⟨[.type "int", .str x u, .int 2 t], []⟩) (.int ((binNum x.cps.toList : Nat) : Int)) := by
  have known : Hx.Hid ((numSeenOf x).length ≤ 640 ∧ (int_private% "readNumeral") 0 2 (numSeenOf x) = (int_private% "Numeral.value") ((binNum x.cps.toList : Nat) : Int) ∧ ((numSeenOf x).length == (numTextOf x).length) = true) := by
    obtain ⟨p, q⟩ := seen_bin h
    rw [p, q]
    exact ⟨hl, read_bin h hne, BEq.rfl⟩
  refine .of_wp fun M A E s Q hQ => ?_
  have f1 := F.conv_sub_int
  have f2 := F.madeHere_int
  have f3 : typeOf (.str x u) = pure (.type "str") := rfl
  clear hl h hne
  cases s
  repeat (any_goals (first
    | assumption
    | ((with_reducible show wpAny _ _ ((int_private% "intFromText") _ _ _) _ _ _); refine Hx.wp_textB known.out.1 known.out.2.1 known.out.2.2 ?_)
    | wp_step))
  all_goals try exact ⟨_, rfl, hQ⟩
theorem call_bin {prog : Program} {w : World} {A : Around} {E : Value → Shared → Prop} {s : Shared} {Q : Value → Shared → Prop} {x : PySem.Str} {u t : Tok} (hl : x.length ≤ 640) (h : ∀ c ∈ x.cps.toList, IsBin c) (hne : x.cps.toList ≠ [])
    (hQ : Q (.int ((binNum x.cps.toList : Nat) : Int) s.toks) { s with toks := s.toks + 1 }) : wpAny (model prog w) A (call (.type "int") [.str x u, .int 2 t]) Q E s :=
  callType_new F.called_int F.newNe_int (Hx.typeCall_int_2 _ _) (Hx.newCall_int_2 _ _) (fun obj => F.initArgs_range_2 obj _ _) F.entry_int_new (gives_bin hl h hne).meets (show (Made.int ((binNum x.cps.toList : Nat) : Int)).post _ s from ⟨rfl, hQ⟩)
end Bn
section
variable {X : Cx}
/-- int(t, 2) -/
theorem call_int_bin : CallR X (.type "int") (fun xs H Q => ∃ z : Str, xs = [.str z, .int 2] ∧ TL.tl z ≠ [] ∧ z.length ≤ 640 ∧ (∀ c ∈ TL.tl z, Bn.IsBin c) ∧ Q (.int ((Bn.binNum (TL.tl z) : Nat) : Int)) H) := by
  intro pins s σ H xs us Q I r h
  obtain ⟨z, rfl, hne, hl, hx, q⟩ := h
  obtain ⟨u, w', rfl, r1, r2⟩ := vals2 r
  obtain ⟨t1, rfl⟩ := r1
  obtain ⟨t2, rfl⟩ := r2
  exact Bn.call_bin hl hx hne ⟨.int ((Bn.binNum (TL.tl z) : Nat) : Int), H, I.tok _, ⟨_, rfl⟩, q⟩
/-! ### text[a::c] -/
/-- the signs a, a + c, .. -/
def stepS (z : Str) (a c : Nat) : Str := ⟨((List.range ((z.length - a + c - 1) / c)).filterMap fun k => z.cps[a + c * k]?).toArray⟩
theorem strIx_step (z : Str) (a c : Nat) (ha : a ≤ z.length) (hc : 0 < c) : Builtin.Str.strSliceIndices (some (a : Int)) none (c : Int) z.length = (List.range ((z.length - a + c - 1) / c)).map fun k => a + c * k := by
  unfold Builtin.Str.strSliceIndices
  have hc0 : (c : Int) > 0 := by omega
  simp only [if_pos hc0]
  rw [if_neg (show ¬ ((a : Int) < 0) by omega)]
  have e1 : max 0 (min (a : Int) (z.length : Int)) = (a : Int) := by omega
  rw [e1]
  unfold sliceRange
  rw [if_pos hc0]
  have e2 : (if (a : Int) < (z.length : Int) then ((z.length : Int) - (a : Int) + (c : Int) - 1) / (c : Int) else 0).toNat = (z.length - a + c - 1) / c := by
    by_cases h : (a : Int) < (z.length : Int)
    · rw [if_pos h]
      have : ((z.length : Int) - (a : Int) + (c : Int) - 1) = ((z.length - a + c - 1 : Nat) : Int) := by omega
      rw [this, ← Int.natCast_ediv, Int.toNat_natCast]
    · rw [if_neg h]
      have e : z.length - a = 0 := by omega
      rw [e]
      have : (0 + c - 1) / c = 0 := Nat.div_eq_of_lt (by omega)
      rw [this]; rfl
  show List.map (fun (k : Nat) => ((a : Int) + (c : Int) * (k : Int)).toNat) (List.range (if (a : Int) < (z.length : Int) then ((z.length : Int) - (a : Int) + (c : Int) - 1) / (c : Int) else 0).toNat) = _
  rw [e2]
  apply List.map_congr_left
  intro k _
  have : ((a : Int) + (c : Int) * (k : Int)) = ((a + c * k : Nat) : Int) := by rw [Int.natCast_add, Int.natCast_mul]
  rw [this, Int.toNat_natCast]
def tStepS (te tl tk : TE) : TE := fun σ H Q => te σ H fun x H1 => tl σ H1 fun i H2 => tk σ H2 fun j H3 => ∃ (z : Str) (a c : Nat), x = .str z ∧ i = .int (a : Int) ∧ j = .int (c : Int) ∧ a ≤ z.length ∧ 0 < c ∧ z.length ≤ 1000000 ∧ Q (.str (stepS z a c)) H3
theorem pe_stepS {e lo st : Expr} {te tl tk : TE} {p2 pos : Pos} (he : PE X e te) (hl : PE X lo tl) (hk : PE X st tk) : PE X (.Subscript e (.Slice (some lo) none (some st) p2) pos) (tStepS te tl tk) := by
  refine ⟨fun pins s σ H Q I h => ?_⟩
  refine Subscript_ (thn (he.run pins s σ H _ I h) fun v s1 ⟨x, H1, I1, r1, q1⟩ => ?_)
  refine wpAny_Slice ?_
  rw [evalPart_some]
  refine thn (hl.run pins s1 σ H1 _ I1 q1) fun vl s2 ⟨yl, H2, I2, rl, q2⟩ => ?_
  rw [evalPart_none]
  refine wpAny_pure ?_
  rw [evalPart_some]
  refine thn (hk.run pins s2 σ H2 _ I2 q2) fun vs s3 ⟨yk, H3, I3, rk, q3⟩ => ?_
  obtain ⟨z, a, c, rfl, rfl, rfl, ha, hc, hz, q⟩ := q3
  obtain ⟨t, rfl⟩ := r1
  obtain ⟨t2, rfl⟩ := rl
  obtain ⟨t3, rfl⟩ := rk
  have I4 : Inv X pins σ H3 { s3 with heap := s3.heap.push { cls := .type "slice", data := .fields #[.int (a : Int) t2, .none, .int (c : Int) t3] } } := I3.kept (t' := s3.toks) fun b ob q => Heap.get?_push_of_some _ q
  show wpAny (model X.prog X.w) X.A (subscriptTail e (.Slice (some lo) none (some st) p2) (.str z t) (.ref s3.heap.objs.size)) (EP X pins σ Q) X.xe { s3 with heap := s3.heap.push { cls := .type "slice", data := .fields #[.int (a : Int) t2, .none, .int (c : Int) t3] } }
  refine tail_any (ops := [.ref s3.heap.objs.size, .str z t]) (typeIs_str _ z t) PySem.F.slot_str_getitem.lookup ?_ (by with_unfolding_all rfl)
  refine wpAny_getItem_str_slice (l := some ((a : Int), t2)) (u := none) (st := some ((c : Int), t3)) (Heap.IsSliceOf.new ..) (beq_eq_false_iff_ne.mpr (by show (c : Int) ≠ 0; omega)) ?_
  show Made.post (if ((c : Int) == 1 && (Builtin.Str.strSliceIndices (some (a : Int)) none (c : Int) z.length).length == z.length) = true then Made.val (.str z t)
    else Made.str ⟨((Builtin.Str.strSliceIndices (some (a : Int)) none (c : Int) z.length).filterMap (z.cps[·]?)).toArray⟩) (EP X pins σ Q) _
  have e3 : (⟨((Builtin.Str.strSliceIndices (some (a : Int)) none (c : Int) z.length).filterMap (z.cps[·]?)).toArray⟩ : Str) = stepS z a c := by
    unfold stepS
    rw [strIx_step z a c ha hc, List.filterMap_map]
    rfl
  rw [e3]
  by_cases d : ((c : Int) == 1 && (Builtin.Str.strSliceIndices (some (a : Int)) none (c : Int) z.length).length == z.length) = true
  · rw [if_pos d]
    obtain ⟨d1, d2⟩ := Bool.and_eq_true_iff.mp d
    have c1 : c = 1 := by have := eq_of_beq d1; omega
    subst c1
    have d3 := eq_of_beq d2
    rw [strIx_step z a 1 ha hc, List.length_map, List.length_range] at d3
    have a0 : a = 0 ∨ z.length = 0 := by
      rw [Nat.div_one] at d3
      omega
    have e4 : stepS z a 1 = z := by
      apply TL.ext_tl
      show (List.range ((z.length - a + 1 - 1) / 1)).filterMap (fun k => z.cps[a + 1 * k]?) = z.cps.toList
      rw [d3]
      apply List.ext_getElem?
      intro i
      have e5 : (List.range z.length).filterMap (fun k => z.cps[a + 1 * k]?) = z.cps.toList := by
        rcases a0 with a0 | a0
        · subst a0
          have : ∀ (l : List Nat), (List.range l.length).filterMap (fun k => l[k]?) = l := by
            intro l
            induction l with
            | nil => rfl
            | cons b l ih =>
              rw [List.length_cons, List.range_succ_eq_map, List.filterMap_cons]
              simp only [List.getElem?_cons_zero]
              rw [List.filterMap_map]
              have : ((fun k => (b :: l)[k]?) ∘ Nat.succ) = fun k => l[k]? := by funext k; simp
              rw [this, ih]
          have e6 := this z.cps.toList
          have e7 : z.cps.toList.length = z.length := by simp [Str.length]
          rw [e7] at e6
          have e9 : (fun k => z.cps[0 + 1 * k]?) = fun k => z.cps.toList[k]? := by
            funext k
            have e8 : 0 + 1 * k = k := by omega
            rw [e8]
            simp
          rw [e9]
          exact e6
        · have e2 : z.cps.toList = [] := List.length_eq_zero_iff.mp (by have : z.cps.toList.length = z.length := by simp [Str.length]
                                                                        rw [this, a0])
          rw [a0, e2]; rfl
      rw [e5]
    rw [e4] at q
    exact ⟨.str z, H3, I4, ⟨t, rfl⟩, q⟩
  · rw [if_neg d]
    have hlen : (stepS z a c).length ≤ sizeLine := by
      have hs : sizeLine = 16777216 := sizeLine_eq
      show ((List.range ((z.length - a + c - 1) / c)).filterMap fun k => z.cps[a + c * k]?).toArray.size ≤ sizeLine
      rw [List.size_toArray]
      have h1 := List.length_filterMap_le (fun k => z.cps[a + c * k]?) (List.range ((z.length - a + c - 1) / c))
      rw [List.length_range] at h1
      have h2 : (z.length - a + c - 1) / c ≤ z.length - a + 1 := by
        rw [Nat.div_le_iff_le_mul_add_pred hc]
        have : z.length - a ≤ c * (z.length - a) := Nat.le_mul_of_pos_left _ hc
        rw [Nat.mul_add]
        omega
      omega
    exact ⟨hlen, .str _, H3, I4.tok _, ⟨_, rfl⟩, q⟩
end
end K7
/-! text K7R2 -/
set_option maxHeartbeats 4000000
/-! own rules 2: dicts with tuple keys: list(d.items()), dict(pairs), == -/
namespace K7
open PySem PySem.Spec PyProof.Rows L2
theorem paired_of {α β : Type} {F : α → β → Prop} : ∀ {l : List α} {m : List β}, l.length = m.length → (∀ (j : Nat) a b, l[j]? = some a → m[j]? = some b → F a b) → Paired F l m
  | [], [], _, _ => .nil
  | [], _ :: _, e, _ => nomatch e
  | _ :: _, [], e, _ => nomatch e
  | a :: l, b :: m, e, h => .cons (h 0 a b rfl rfl) (paired_of (Nat.succ.inj e) fun j x y p q => h (j + 1) x y p q)
theorem look_some {β : Type} {b : Addr} {r : β} : ∀ {l : List (Addr × β)}, l.lookup b = some r → ∃ j : Nat, l[j]? = some (b, r)
  | [], e => nomatch e
  | (a, x) :: l, e => by
    rw [List.lookup_cons] at e
    cases q : b == a with
    | true =>
      rw [q] at e
      cases Option.some.inj e
      cases eq_of_beq q
      exact ⟨0, rfl⟩
    | false =>
      rw [q] at e
      exact (look_some e).elim fun j q => ⟨j + 1, q⟩
theorem look_none {β : Type} {b : Addr} {l : List (Addr × β)} (e : l.lookup b = none) : ∀ r, (b, r) ∉ l := fun r m => by
  rw [List.lookup_eq_none_iff] at e
  simpa using e (b, r) m
/-- a new list p of new pairs: the pairs stand at as -/
def laid (H : Hp) (p : Addr) (as : List Addr) (rows : List (V × V)) : Hp := fun b =>
  if b = p then some (.lst (as.map V.ref)) else ((as.zip rows).lookup b).elim (H b) fun r => some (.tup [r.1, r.2])
section
variable {H : Hp} {p b : Addr} {as : List Addr} {rows : List (V × V)}
theorem laid_cases (b : Addr) : (b = p ∧ laid H p as rows b = some (.lst (as.map V.ref))) ∨ (∃ (j : Nat) (r : V × V), as[j]? = some b ∧ rows[j]? = some r ∧ laid H p as rows b = some (.tup [r.1, r.2])) ∨ laid H p as rows b = H b := by
  unfold laid
  by_cases e : b = p
  · exact .inl ⟨e, if_pos e⟩
  · rw [if_neg e]
    cases q : (as.zip rows).lookup b with
    | none => exact .inr (.inr rfl)
    | some r =>
      obtain ⟨j, k⟩ := look_some q
      rw [List.getElem?_zip_eq_some] at k
      exact .inr (.inl ⟨j, r, k.1, k.2, rfl⟩)
theorem laid_old (hb : b ≠ p) (ha : b ∉ as) : laid H p as rows b = H b := by
  rcases laid_cases (H := H) (p := p) (as := as) (rows := rows) b with q | ⟨j, r, q, _⟩ | q
  · exact absurd q.1 hb
  · exact absurd (List.mem_of_getElem? q) ha
  · exact q
theorem laid_row {j : Nat} {t : Addr} {r : V × V} (nd : as.Nodup) (hp : p ∉ as) (ha : as[j]? = some t) (hr : rows[j]? = some r) : laid H p as rows t = some (.tup [r.1, r.2]) := by
  have m := List.mem_of_getElem? ha
  unfold laid
  rw [if_neg (fun e : t = p => hp (e ▸ m))]
  cases q : (as.zip rows).lookup t with
  | none => exact absurd (List.mem_of_getElem? (List.getElem?_zip_eq_some.mpr ⟨ha, hr⟩)) (look_none q r)
  | some r' =>
    obtain ⟨i, k⟩ := look_some q
    rw [List.getElem?_zip_eq_some] at k
    have li := (List.getElem?_eq_some_iff.mp k.1).1
    cases (List.getElem?_inj li nd).mp (k.1.trans ha.symm)
    cases k.2.symm.trans hr
    rfl
end
section
variable {X : Cx}
theorem rows_laid {pins : List (Addr × Obj)} {σ : L2.St} {H : Hp} {s : Shared} {h' : Heap} {tk : Nat} {rows : List (V × V)} {es : Array DictEntry} {acc : Array Value} {c : Nat} {as : List Addr} (I : Inv X pins σ H s) (hz : rows.length ≤ sizeLine)
    (kv : Paired (fun (r : V × V) (e : DictEntry) => RelV r.1 e.key ∧ RelV r.2 e.val) rows es.toList)
    (hk : ∀ b o, s.heap.get? b = some o → h'.get? b = some o) (hS : h'.get? s.heap.objs.size = some { cls := .type "list", dict := none, data := .seq acc c, slots := #[] }) (hl : as.length = es.size) (hG : PySem.W.DilG es s.heap.objs.size h' as) (hacc : acc.toList = as.map Value.ref) :
    ∃ H' : Hp, Same H H' ∧ H s.heap.objs.size = none ∧ H' s.heap.objs.size = some (.lst (as.map V.ref)) ∧ Paired (fun (t : Addr) (q : V × V) => H' t = some (.tup [q.1, q.2])) as rows ∧ Inv X pins σ H' { s with heap := h', toks := tk } := by
  have len : as.length = rows.length := by rw [hl, Paired.length kv, Array.length_toList]
  have above : ∀ t ∈ as, s.heap.objs.size < t := hG.above
  have nd : as.Nodup := hG.rise.imp fun q => Nat.ne_of_lt q
  have young : s.heap.objs.size ∉ as := fun m => Nat.lt_irrefl _ (above _ m)
  have old : ∀ b, b < s.heap.objs.size → laid H s.heap.objs.size as rows b = H b := fun b q => laid_old (Nat.ne_of_lt q) fun m => Nat.lt_asymm q (above b m)
  have same : Same H (laid H s.heap.objs.size as rows) := fun b u q => by
    refine (old b (Nat.lt_of_not_le fun z => ?_)).trans q
    rw [I.hok.fresh z] at q
    cases q
  refine ⟨laid H s.heap.objs.size as rows, same, I.hok.fresh (Nat.le_refl _), if_pos rfl, paired_of len fun j t r => laid_row nd young, ?_⟩
  refine I.call' (ch := []) rfl ⟨fun b o q _ _ _ => hk b o q, fun b o q _ _ _ => ⟨o.slots, hk b o q⟩, fun b o q n _ => (old b (Heap.lt_size q)).trans n, fun b o q _ => ⟨o, hk b o q⟩, fun b xs q => same b _ q, fun b o u q => same b _ q, fun b ps q => ⟨#[], by rw [same b _ q]; simp⟩⟩ (fun b u q => ?_) I.bare nofun
  rcases laid_cases (H := H) (p := s.heap.objs.size) (as := as) (rows := rows) b with ⟨rfl, e⟩ | ⟨j, r, ea, er, e⟩ | e
  · cases q.symm.trans e
    exact ⟨by rw [List.length_map, len]; exact hz, acc.toList, c, by rw [hacc]; exact LiI.vals_refs as, hS⟩
  · cases q.symm.trans e
    obtain ⟨lj, at'⟩ := hG.pairs j b ea
    obtain ⟨y, ey, rk, rv⟩ := LiI.paired_get kv er
    rw [Array.getElem?_toList, Array.getElem?_eq_getElem lj] at ey
    cases ey
    exact ⟨by show 2 ≤ sizeLine; decide, [es[j].key, es[j].val], .cons rk (.cons rv .nil), ⟨_, at', rfl, _, rfl⟩⟩
  · exact (I.hok b u (e.symm.trans q)).stay (fun d v _ y => hk d v y) (fun d y => same d _ y) fun d xs y => same d _ y
/-- the entries of a dict with tuple keys, as rows -/
theorem rows_of {P : Program} {w : World} {H : Hp} : ∀ {kvs : List (List Key × V)} {xs : List (List Key × Addr × Value)} {es : List DictEntry}, KT H kvs xs → es = xs.map (entryOfKey (tupleKind (mixKind P w))) →
    ∃ rows : List (V × V), Paired (fun (r : V × V) (e : DictEntry) => RelV r.1 e.key ∧ RelV r.2 e.val) rows es ∧ Paired (fun (r : V × V) (q : List Key × V) => (∃ b, r.1 = .ref b ∧ H b = some (.tup (q.1.map kV))) ∧ r.2 = q.2) rows kvs
  | _, _, _, .nil, e => ⟨[], by rw [e]; exact .nil, .nil⟩
  | _, _, _, .cons (a := p) (b := q) (l₁ := kvs) (l₂ := xs) h t, e => by
    obtain ⟨rows, r1, r2⟩ := rows_of (P := P) (w := w) (es := xs.map (entryOfKey (tupleKind (mixKind P w)))) t rfl
    refine ⟨(.ref q.2.1, p.2) :: rows, ?_, .cons ⟨⟨_, rfl, h.2.1⟩, rfl⟩ r2⟩
    rw [e]
    exact .cons ⟨rfl, h.2.2⟩ r1
def tListItemsT (te : TE) : TE := fun σ H Q => te σ H fun x H1 => ∃ (d : Addr) (kvs : List (List Key × V)), x = .ref d ∧ H1 d = some (.dT kvs) ∧
  ∀ (H' : Hp) (p : Addr) (ts : List Addr), Same H1 H' → H1 p = none → H' p = some (.lst (ts.map V.ref)) → Paired (fun (t : Addr) (q : List Key × V) => ∃ b, H' b = some (.tup (q.1.map kV)) ∧ H' t = some (.tup [.ref b, q.2])) ts kvs → Q (.ref p) H'
theorem paired_mid {α β γ : Type} {F : α → β → Prop} {G : β → γ → Prop} {R : α → γ → Prop} (h : ∀ a b c, F a b → G b c → R a c) : ∀ {l : List α} {m : List β} {n : List γ}, Paired F l m → Paired G m n → Paired R l n
  | _, _, _, .nil, .nil => .nil
  | _, _, _, .cons f t, .cons g u => .cons (h _ _ _ f g) (paired_mid h t u)
theorem pe_listItemsT {e : Expr} {te : TE} {p apos cpos pos : Pos} (hc : X.calm = true) (he : PE X e te) (hg : Gl X "list") (hm : X.mg "list" = none) (hv : bootBuiltins "list" = some (.type "list")) (hbase : attributeBase e "items" X.env (eval e X.env) = eval e X.env := by rfl) (hline : (apos.endLine == cpos.line) = true := by rfl)
    (hs : starEach [.Call (.Attribute e "items" apos) [] [] cpos] X.env = (false, eval (.Call (.Attribute e "items" apos) [] [] cpos) X.env) :: starEach [] X.env := by rfl) :
    PE X (.Call (.Name "list" p) [.Call (.Attribute e "items" apos) [] [] cpos] [] pos) (tListItemsT te) := by
  refine ⟨fun pins s σ H Q I hq => ?_⟩
  refine wpAny_Call_Name_kw (ld_blt I hg hm hv ?_)
  refine PyProof.Rows.callWith_type1 ?_ hs rfl
  rw [hs]
  show wpAny _ _ (spliced ((false, eval (.Call (.Attribute e "items" apos) [] [] cpos) X.env) :: backTo pos (starEach [] X.env))) _ _ s
  refine Calls.spliced_cons ?_
  refine wpAny_Call_method (T := "dict") (id := "dict.items") hbase rfl hline F.plainAttrs_dict F.slot_dict_items F.type_dict_items (thn (he.run pins s σ H _ I hq) fun u s1 ⟨x, H1, I1, rx, d, kvs, ex, hd, q⟩ => ?_)
  subst ex
  obtain rfl : u = Value.ref d := rx
  obtain ⟨hz, hs0, xs, kt, o, es, ep, ho, hx, hdat, hes, _⟩ := dt_of I1.hok hd
  obtain ⟨rows, r1, r2⟩ := rows_of (P := X.prog) (w := X.w) kt hes
  have raw : DT.Raw s1.heap d es ep := ⟨o, ho, hx, hdat⟩
  have lk : rows.length = kvs.length := Paired.length r2
  have le : rows.length = es.size := by rw [Paired.length r1, Array.length_toList]
  have I2 : Inv X pins σ H1 { s1 with heap := s1.heap.push { cls := .type "dict_items", data := .fields #[.ref d] } } := I1.kept (t' := s1.toks) fun b ob q => Heap.get?_push_of_some _ q
  refine ⟨raw.typeIs, (fun b q => by cases q; exact ⟨o, ho, hx.2.1⟩), ?_⟩
  show wpAny _ _ (callWith cpos (.builtin "dict.items") [.ref d] [] []) _ X.xe s1
  refine method_meetsIn F.slot_dict_items F.entry_dict_items rfl (PySem.evalArgs_none ⟨rfl, raw.typeIs, F.args_dict_items_1 _, _, DT.meetsItems (es := es) (ep := ep) hs0, raw, ?_⟩)
  refine Calls.spliced_nil ?_
  refine PySem.W.dil_call (es := es) (ep := ep) (d := d) (I1.ok.hd hc) ⟨_, Heap.get?_push_size _ rfl, rfl, rfl⟩ (raw.push _) (by omega) fun h' tk acc c as hk hS hl hG hacc => ?_
  obtain ⟨H', k1, k2, k3, k4, J⟩ := rows_laid (tk := tk) I2 (by omega) r1 hk hS hl hG hacc
  refine ⟨.ref _, H', J, rfl, q H' _ as k1 k2 k3 (paired_mid (fun t r q f g => ?_) k4 r2)⟩
  obtain ⟨⟨b, e1, e2⟩, e3⟩ := g
  exact ⟨b, k1 _ _ e2, by rw [f, e1, e3]⟩
end
end K7
/-! text K7R4 -/
set_option maxHeartbeats 4000000
/-! own rules: static methods, an own ^, a slot's value called, slots as targets of a tuple -/
namespace K7
open PySem PySem.Spec PySem.Calls PyProof.Rows L2
structure SMet (K : PySem.W.Frag) (C : Addr) (m : Str) (p g : Addr) : Prop where
  rd : PySem.W.readsIn K C (.type "type") = true
  ga : PySem.W.specialIn K (.ref C) "__getattribute__" = some (some (.builtin "type.__getattribute__"))
  at_ : PySem.W.findCls K (.ref C) (.type "type") m = some (.get (.builtin "staticmethod.__get__") (.ref p) .none (.ref C))
  rc : ∃ rest, PySem.W.recIn K p "staticmethod" = some (.ref g :: rest)
  kp : PySem.W.keepIn K (.ref g) = true
/-- e.m(..), e the class at C, m a staticmethod -/
def tSMeth (C : Addr) (sp : Sp) (E : XK) (ta : TE) (t : TA) : TE := fun σ H Q => ta σ H fun x H1 => x = .ref C ∧ t σ H1 fun vs H2 => sp vs H2 Q E
/-- o.f(e, ..): what the slot f holds is an instance of C2, called -/
def tSlO (X : Cx) (f : Str) (C2 : Addr) (sp : Sp) (E : XK) (ta : TE) (t : TA) : TE := fun σ H Q => ta σ H fun x H1 => ∃ a C dx p vs i b, x = .ref a ∧ SlX.Slt H1 a C dx vs ∧ SlX.SCls X.K C ∧ SlX.Slot1 X.K C f p i ∧ vs[i]? = some (some (V.ref b)) ∧
  t σ H1 fun ws H2 => StX.InsC X H2 b C2 ∧ sp (V.ref b :: ws) H2 Q E
def gSlt (K : PySem.W.Frag) (ta : TE) (f : Str) : TG := fun y σ H Q => ta σ H fun x H2 => ∃ a C dx p vs i, x = .ref a ∧ SlX.Slt H2 a C dx vs ∧ SlX.SCls K C ∧ SlX.Slot1 K C f p i ∧ Q σ (SlX.slH H2 a C dx (SlX.putS i y vs))
def rOwnOp (C : Addr) (sp : Sp) (E : XK) : R2 := fun x y H Q => ∃ a dx vs b dy ws, x = .ref a ∧ y = .ref b ∧ SlX.Slt H a C dx vs ∧ SlX.Slt H b C dy ws ∧ sp [x, y] H Q E
section
variable {X : Cx} {CX : CXT} {k : Nat} {C C2 p g : Addr} {sp : Sp} {E : XK} {o e : Expr} {es : List Expr} {f m : Str} {pos apos : Pos} {ta : TE} {t : TA}
theorem pe_smeth {pl : Sem Bool} (he : PE X o ta) (c : SMet X.K C m p g) (F : FnR X.prog X.w X.K X.mg X.base CX k g sp) (hr : Room k X.A) (hx : Passes CX X E) (ha : PA X (e :: es) t)
    (hst : starEach (e :: es) X.env = (false, eval e X.env) :: starEach es X.env := by rfl) (hpl : (backTo pos (starEach es X.env)).any (·.1) = false := by rfl)
    (ht : eval (.Call (.Attribute o m apos) (e :: es) [] pos) X.env = (do
      let ov ← eval o X.env
      standAt apos.atName
      let (f, first) ← holding [ov] (getMethod ov m pl)
      callWith pos f first (backTo pos (starEach (e :: es) X.env)) (backToKw pos (keywordEach [] X.env))) := by rfl) :
    PE X (.Call (.Attribute o m apos) (e :: es) [] pos) (tSMeth C sp E ta t) := by
  refine ⟨fun pins s σ H Q I h => ?_⟩
  refine PySem.W.methodCall_KW (pl := pl) (thn (he.run pins s σ H _ I h) fun u s1 ⟨x, H1, I1, rx, ex, q⟩ => ?_) ht
  subst ex
  obtain rfl : u = Value.ref C := rx
  obtain ⟨rest, hp⟩ := c.rc
  refine PySem.W.method_cls I1.kIn c.ga (PySem.W.cls_bind I1.kIn c.rd c.at_ (wpAny_call (PySem.W.sm_get (s := { s1 with toks := s1.toks + 1 }) I1.kIn hp (PySem.W.handed_on rfl ?_))))
  have I2 : Inv X pins σ H1 { s1 with toks := s1.toks + 1 } := I1.tok _
  refine PySem.W.callWith_K (first := []) (h₀ := X.base) I2.ok.mod.kin c.kp (thn (ha.run pos pins _ σ H1 _ I2 q) fun us s2 ⟨ws, H2, I3, r, q2⟩ => ⟨I3.kIn, ?_⟩) hst hpl
  exact wpAny_call (run_fnR (us := us) (vs := ws) F hr hx I3 r q2)
theorem pe_slO {pl : Sem Bool} (he : PE X o ta) (c : StX.CallO X.K C2 g) (F : FnR X.prog X.w X.K X.mg X.base CX k g sp) (hr : Room k X.A) (hx : Passes CX X E) (ha : PA X (e :: es) t)
    (hst : starEach (e :: es) X.env = (false, eval e X.env) :: starEach es X.env := by rfl) (hpl : (backTo pos (starEach es X.env)).any (·.1) = false := by rfl)
    (ht : eval (.Call (.Attribute o f apos) (e :: es) [] pos) X.env = (do
      let ov ← eval o X.env
      standAt apos.atName
      let (f, first) ← holding [ov] (getMethod ov f pl)
      callWith pos f first (backTo pos (starEach (e :: es) X.env)) (backToKw pos (keywordEach [] X.env))) := by rfl) :
    PE X (.Call (.Attribute o f apos) (e :: es) [] pos) (tSlO X f C2 sp E ta t) := by
  refine ⟨fun pins s σ H Q I h => ?_⟩
  refine PySem.W.methodCall_KW (pl := pl) (thn (he.run pins s σ H _ I h) fun u s1 ⟨x, H1, I1, rx, a, C, dx, p, vs, i, b, ex, hs, hc, ht1, l, q⟩ => ?_) ht
  subst ex
  obtain rfl : u = Value.ref a := rx
  refine SlX.getslotm_ok I1 hs hc ht1 l fun u' s2 I2 ru => ?_
  obtain rfl : u' = Value.ref b := ru
  refine StX.callO_with (thn (ha.run pos pins s2 σ H1 _ I2 q) fun us s3 ⟨ws, H2, I3, r, hi, q2⟩ => ?_) hst hpl
  obtain ⟨ox, od, J, hd⟩ := StX.insC_at I3 hi
  exact ⟨⟨C2, ox, od, J, hd⟩, StX.run_callO c F hr hx I3 hi r q2⟩
theorem pg_slt (ha : PE X o ta) : PG X (.Attribute o f pos) (gSlt X.K ta f) := by
  refine ⟨fun pins s σ H v u Q I r h => ?_⟩
  rw [assign_Attribute]
  refine wpAny_bind (wpAny_holding (thn (ha.run pins s σ H _ I h) fun ov s2 ⟨x, H2, I2, rx, a, C, dx, p, vs, i, ex, hsl, c, t, q2⟩ => ?_))
  subst ex
  obtain rfl : ov = Value.ref a := rx
  refine wpAny_bind (wpAny_standAt (wpAny_bind (wpAny_holding (SlX.setslot_ok I2 hsl c t r fun s3 I3 => wpAny_release ⟨σ, _, I3, q2⟩))))
theorem op_own {op : Operator} (hsf : PySem.W.selfFirst X.K C = true) (hs : PySem.W.findIn X.K (.ref C) (PySem.dunder op.info.2) = some (some (.ref g))) (hf : PySem.W.isFn X.K (.ref g) = true) (F : FnR X.prog X.w X.K X.mg X.base CX k g sp)
    (hr : Room k X.A) (hx : Passes CX X E) : OpR X (binaryOp op) (rOwnOp C sp E) := by
  intro pins s σ H x y v u Q I rx ry h
  obtain ⟨a, dx, vs, b, dy, ws, rfl, rfl, ha, hb, q⟩ := h
  cases (show v = Value.ref a from rx)
  cases (show u = Value.ref b from ry)
  obtain ⟨sl, od, _, J, _⟩ := SlX.slt_inst I ha
  obtain ⟨sl', od', _, J', _⟩ := SlX.slt_inst I hb
  obtain ⟨m, hF⟩ := I.fr
  refine PySem.W.binop_K (op := op) hF I.ok.mod.kin J J'.type hsf hs hf ?_
  refine wpAny_mono (wpAny_call (run_fnR (us := [.ref a, .ref b]) (vs := [.ref a, .ref b]) F hr hx I (.cons rfl (.cons rfl .nil)) q)) (fun w s' z => ?_) fun _ _ x => x
  obtain ⟨z', H', I', rz, qz⟩ := z
  exact SlX.cmpback rz ⟨z', H', I', rz, qz⟩
end
end K7
/-! text K7Text -/
set_option maxHeartbeats 4000000
namespace K7
open PySem L2
def top (i : Nat) : Stmt := PySem.Challenge.pw_poleribbons_k71_whole_words_or_a_refusal.main.body.getD i (.Pass ⟨0, 0, 0, 0⟩)
abbrev s_is_integer : Stmt := top 3
abbrev s_is_count : Stmt := top 4
abbrev s_is_number : Stmt := top 5
abbrev s_are_bits : Stmt := top 6
abbrev s_is_reader : Stmt := top 7
abbrev s_bit_at : Stmt := top 15
abbrev s_text_of : Stmt := top 16
abbrev s_truth_of : Stmt := top 23
abbrev s_joined_rule : Stmt := top 28
abbrev s_numbers_of : Stmt := top 29
abbrev s_every_meeting : Stmt := top 30
abbrev s_mask_at : Stmt := top 31
abbrev s_many_characters : Stmt := top 32
abbrev s_sums_of : Stmt := top 34
abbrev s_refusal : Stmt := top 35
abbrev s_is_refusal : Stmt := top 36
abbrev s_is_meeting_of : Stmt := top 37
abbrev s_many_told : Stmt := top 38
abbrev s_told_back : Stmt := top 39
abbrev s_crossings : Stmt := top 43
abbrev s_law_bag : Stmt := top 45
abbrev s_law_take : Stmt := top 46
abbrev s_law_alike : Stmt := top 47
abbrev s_law_mixed : Stmt := top 48
abbrev s_law_pick : Stmt := top 49
abbrev s_law_my_forms : Stmt := top 50
abbrev s_law_my_places : Stmt := top 51
abbrev s_law_my_size : Stmt := top 52
abbrev s_law_my_meetings : Stmt := top 53
abbrev s_law_my_woven : Stmt := top 54
abbrev s_law_my_crossings : Stmt := top 55
abbrev s_law_my_refuses : Stmt := top 56
abbrev s_law_my_two : Stmt := top 57
abbrev s_law_my_shuffled : Stmt := top 58
abbrev s_law_refusal_right : Stmt := top 59
abbrev s_law_words_right : Stmt := top 60
abbrev s_law_right : Stmt := top 61
abbrev s_law : Stmt := top 62
abbrev s_Word_init : Stmt := inClass (top 19) 1
abbrev s_Word_early : Stmt := inClass (top 19) 2
abbrev s_Word_again : Stmt := inClass (top 19) 3
abbrev s_Word_lead : Stmt := inClass (top 19) 4
abbrev s_Word_period : Stmt := inClass (top 19) 5
abbrev s_Rule_init : Stmt := inClass (top 26) 1
abbrev s_Rule_by : Stmt := inClass (top 26) 2
abbrev s_Rule_always : Stmt := inClass (top 26) 3
abbrev s_Rule_call : Stmt := inClass (top 26) 5
abbrev s_Rule_xor : Stmt := inClass (top 26) 15
abbrev s_Sums_init : Stmt := inClass (top 33) 1
abbrev s_Sums_reduced : Stmt := inClass (top 33) 2
abbrev s_Sums_put : Stmt := inClass (top 33) 3
abbrev s_Sums_rank : Stmt := inClass (top 33) 4
abbrev s_Dance_init : Stmt := inClass (top 41) 1
abbrev s_Dance_suns : Stmt := inClass (top 41) 2
abbrev s_Dance_moons : Stmt := inClass (top 41) 3
abbrev s_Dance_rounds : Stmt := inClass (top 41) 4
abbrev s_Dance_is_meeting : Stmt := inClass (top 41) 6
abbrev s_Dance_need_meeting : Stmt := inClass (top 41) 7
abbrev s_Dance_above : Stmt := inClass (top 41) 10
end K7
/-! text K7Hook -/
set_option maxHeartbeats 0
/-! the head: one run of the top, and what is told of K behind it -/
namespace K7
open PySem PySem.W PySem.Calls PyProof.Rows L2
/-! ### facts as Bools -/
def gloB (x : PySem.Str) (K : Frag) : Bool := He.eqO (nsIn K mainGlobals x) (some (some (.ref (He.ga K x))))
def freeB (x : PySem.Str) (K : Frag) : Bool := He.eqO (nsIn K mainGlobals x) (some none)
def sclsB (x : PySem.Str) (K : Frag) : Bool := plainGet K (He.ga K x) PySem.Str.empty && (isClsIn K (He.ga K x) && (plainOver K (He.ga K x) && He.eqO (findIn K (.ref (He.ga K x)) "__setattr__") (some (some (.builtin "object.__setattr__")))))
def isiB (x : PySem.Str) (K : Frag) : Bool := He.eqO (findIn K (.ref (He.ga K x)) "__class__") (some (some (.builtin "object.__class__"))) && (He.eqO (specialIn K (.builtin "object.__class__") "__get__") (some (some (.builtin "getset_descriptor.__get__"))) &&
  (decide (takesIn K (.builtin "object.__class__") = some true) && decide (mroIn K (He.ga K x) (.type "object") = some true)))
def slotB (x f : PySem.Str) (i : Nat) (K : Frag) : Bool := He.eqO (findIn K (.ref (He.ga K x)) f) (some (some (.ref (He.ma K (He.ga K x) f)))) && (He.eqO (specialIn K (.ref (He.ma K (He.ga K x) f)) "__get__") (some (some (.builtin "member_descriptor.__get__"))) &&
  (decide (takesIn K (.ref (He.ma K (He.ga K x) f)) = some true) && (decide (typeIn K (.ref (He.ma K (He.ga K x) f)) = some (.type "member_descriptor")) && decide (slotIn K (He.ma K (He.ga K x) f) (He.ga K x) = some i))))
def mkB (x : PySem.Str) (K : Frag) : Bool := makesIn K (He.ga K x) && (He.eqO (findIn K (.ref (He.ga K x)) "__init__") (some (some (.ref (He.ma K (He.ga K x) "__init__")))) && (isFn K (.ref (He.ma K (He.ga K x) "__init__")) && keepIn K (.ref (He.ga K x))))
def methB (x m : PySem.Str) (K : Frag) : Bool := He.eqO (findIn K (.ref (He.ga K x)) m) (some (some (.ref (He.ma K (He.ga K x) m)))) && (isFn K (.ref (He.ma K (He.ga K x) m)) && (keepIn K (.ref (He.ma K (He.ga K x) m)) && fnIn K (He.ma K (He.ga K x) m)))
def propB (x f : PySem.Str) (K : Frag) : Bool := He.eqO (findIn K (.ref (He.ga K x)) f) (some (some (.ref (He.ma K (He.ga K x) f)))) && (He.eqO (specialIn K (.ref (He.ma K (He.ga K x) f)) "__get__") (some (some (.builtin "property.__get__"))) &&
  (decide (takesIn K (.ref (He.ma K (He.ga K x) f)) = some true) && (match recIn K (He.ma K (He.ga K x) f) "property" with
    | some (.ref _ :: _) => true
    | _ => false)))
def statB (x m : PySem.Str) (K : Frag) : Bool := readsIn K (He.ga K x) (.type "type") && (He.eqO (specialIn K (.ref (He.ga K x)) "__getattribute__") (some (some (.builtin "type.__getattribute__"))) && He5.wrapB K (He.ga K x) "staticmethod" "staticmethod.__get__" m)
def selfB (x : PySem.Str) (K : Frag) : Bool := selfFirst K (He.ga K x)
def kitB (x : PySem.Str) (K : Frag) : Bool := decide (kitOne K (.ref (He.ga K x)) (.ref (He.ga K x)) = some true)
/-! ### the Hook -/
def refsK (o : Obj) : List Addr := match o.data with
  | .func fd => He.refV fd.code
  | .cls cd => [cd.ns]
  | .dict es _ => es.toList.flatMap fun e => He.refV e.val
  | .fields vs => (match o.cls with
    | .type c => (match c == "property" || c == "staticmethod" with
      | true => vs.toList.flatMap He.refV
      | false => [])
    | _ => [])
  | _ => []
def nextK (g : Addr → Option Obj) (as : List Addr) : List Addr := as.flatMap fun a => match g a with
  | some o => refsK o
  | none => []
/-- what the names reach in n steps -/
def levK (g : Addr → Option Obj) : Nat → List Addr → List Addr
  | 0, as => as
  | n + 1, as => as ++ levK g n (nextK g as)
def asK (g : Addr → Option Obj) (n : Nat) : List Addr := cStatics :: levK g n [mainGlobals]
def obsK (ex : List (Frag → Bool)) (fn : List He5.DefA) (K : Frag) : He.AlD := ((ex.all fun f => f K) && fn.all fun d => d.ok K, fn.map fun d => He5.fnA K (d.at_ K))
def valK (fn : List He5.DefA) : He.AlD := (true, fn.map He5.DefA.val)
def SaysK (ex : List (Frag → Bool)) (fn : List He5.DefA) (K : Frag) : Prop := obsK ex fn K = valK fn
def obsKG (n : Nat) (ex : List (Frag → Bool)) (fn : List He5.DefA) (g : Addr → Option Obj) : He.AlD := obsK ex fn (He.frG g (asK g n))
def hookK (n : Nat) (ex : List (Frag → Bool)) (fn : List He5.DefA) : PySem.W.Hook where
  α := He.AlD
  obs := fun s => obsKG n ex fn s.heap.get?
  val := fun _ => valK fn
  says := fun _ h => ∃ K : Frag, K.In h ∧ SaysK ex fn K
  of := fun _ _ e => ⟨_, He.frG_in, e⟩
  keeps := fun _ _ _ ⟨K, hK, c⟩ k => ⟨K, Frag.In.keeps hK k, c⟩
theorem obsKG_eq {n : Nat} {ex : List (Frag → Bool)} {fn : List He5.DefA} {g : Addr → Option Obj} {s : Shared} (h : ∀ a, g a = s.heap.get? a) : obsKG n ex fn g = (hookK n ex fn).obs s := by
  have e : g = s.heap.get? := funext h
  rw [e] <;> rfl
section
variable {ex : List (Frag → Bool)} {fn : List He5.DefA} {K : Frag}
theorem SaysK.fact (c : SaysK ex fn K) (i : Nat) {f : Frag → Bool} (h : ex[i]? = some f := by rfl) : f K = true := by
  have c1 := (He.ba (show ((ex.all fun f => f K) && fn.all fun d => d.ok K) = true from congrArg (fun z : He.AlD => z.1) c)).1
  exact List.all_eq_true.mp c1 f (List.mem_of_getElem? h)
theorem SaysK.def_ (c : SaysK ex fn K) (i : Nat) {d : He5.DefA} (h : fn[i]? = some d := by rfl) : ∃ fd, L2.FunD K d.name d.qual d.params d.body d.scope (d.dvs K) (d.kws K) (d.at_ K) fd := by
  have c2 := (He.ba (show ((ex.all fun f => f K) && fn.all fun d => d.ok K) = true from congrArg (fun z : He.AlD => z.1) c)).2
  have e : fn.map (fun d => He5.fnA K (d.at_ K)) = fn.map He5.DefA.val := congrArg (fun z : He.AlD => z.2) c
  have e2 : (fn.map fun d => He5.fnA K (d.at_ K))[i]? = (fn.map He5.DefA.val)[i]? := by rw [e]
  rw [List.getElem?_map, List.getElem?_map, h] at e2
  exact He5.DefA.funD (Option.some.inj e2) (List.all_eq_true.mp c2 d (List.mem_of_getElem? h))
end
/-! ### what is told -/
def glos1 : List PySem.Str := ["is_integer", "is_count", "is_number", "are_bits", "is_reader", "bit_at", "text_of", "truth_of", "joined_rule", "numbers_of", "every_meeting", "mask_at", "many_characters", "sums_of", "refusal", "is_refusal", "is_meeting_of", "many_told", "told_back", "crossings", "_law_bag", "_law_take"]
def glos2 : List PySem.Str := ["_law_alike", "_law_mixed", "_law_pick", "_law_my_forms", "_law_my_places", "_law_my_size", "_law_my_meetings", "_law_my_woven", "_law_my_crossings", "_law_my_refuses", "_law_my_two", "_law_my_shuffled", "_law_refusal_right", "_law_words_right", "_law_right", "law", "Word", "Rule", "Sums", "Dance", "READERS", "PAIRS"]
def frees : List PySem.Str := ["isinstance", "int", "bool", "str", "tuple", "list", "dict", "set", "all", "len", "max", "range", "sum", "enumerate", "zip", "sorted", "repr", "abs"]
def facts1 : List (Frag → Bool) := [
  fun K => glos1.all fun x => gloB x K,
  fun K => glos2.all fun x => gloB x K,
  fun K => frees.all fun x => freeB x K,
  fun K => He.tupB K "READERS" [.str "turns", .str "others", .str "rounds", .str "suns", .str "moons"],
  fun K => He.tupB K "PAIRS" [.str "and", .str "or", .str "unlike"],
  sclsB "Word", sclsB "Rule", sclsB "Sums", sclsB "Dance",
  isiB "Word", isiB "Rule", kitB "Word", kitB "Rule",
  slotB "Word" "its_early" 1, slotB "Word" "its_again" 0, slotB "Rule" "its_parts" 0, slotB "Sums" "its_rows" 0,
  slotB "Dance" "its_suns" 3, slotB "Dance" "its_moons" 0, slotB "Dance" "its_rounds" 1, slotB "Dance" "its_rule" 2]
def facts2 : List (Frag → Bool) := [
  mkB "Word", mkB "Rule", mkB "Sums", mkB "Dance",
  methB "Rule" "__call__", methB "Rule" "__xor__", methB "Sums" "reduced", methB "Sums" "put", methB "Sums" "rank", methB "Dance" "is_meeting", methB "Dance" "need_meeting", methB "Dance" "above",
  propB "Word" "early", propB "Word" "again", propB "Word" "lead", propB "Word" "period", propB "Dance" "suns", propB "Dance" "moons", propB "Dance" "rounds",
  statB "Rule" "by", statB "Rule" "always", selfB "Rule"]
def facts : List (Frag → Bool) := facts1 ++ facts2
def defs1 : List He5.DefA := [
  ⟨fun K => He.ga K "is_integer", "is_integer", "is_integer", defArgs s_is_integer, defBody s_is_integer, defScope s_is_integer, [], []⟩,
  ⟨fun K => He.ga K "is_count", "is_count", "is_count", defArgs s_is_count, defBody s_is_count, defScope s_is_count, [], []⟩,
  ⟨fun K => He.ga K "is_number", "is_number", "is_number", defArgs s_is_number, defBody s_is_number, defScope s_is_number, [], []⟩,
  ⟨fun K => He.ga K "are_bits", "are_bits", "are_bits", defArgs s_are_bits, defBody s_are_bits, defScope s_are_bits, [], []⟩,
  ⟨fun K => He.ga K "is_reader", "is_reader", "is_reader", defArgs s_is_reader, defBody s_is_reader, defScope s_is_reader, [], []⟩,
  ⟨fun K => He.ga K "bit_at", "bit_at", "bit_at", defArgs s_bit_at, defBody s_bit_at, defScope s_bit_at, [], []⟩,
  ⟨fun K => He.ga K "text_of", "text_of", "text_of", defArgs s_text_of, defBody s_text_of, defScope s_text_of, [], []⟩,
  ⟨fun K => He.ga K "truth_of", "truth_of", "truth_of", defArgs s_truth_of, defBody s_truth_of, defScope s_truth_of, [], []⟩,
  ⟨fun K => He.ga K "joined_rule", "joined_rule", "joined_rule", defArgs s_joined_rule, defBody s_joined_rule, defScope s_joined_rule, [], []⟩,
  ⟨fun K => He.ga K "numbers_of", "numbers_of", "numbers_of", defArgs s_numbers_of, defBody s_numbers_of, defScope s_numbers_of, [], []⟩,
  ⟨fun K => He.ga K "every_meeting", "every_meeting", "every_meeting", defArgs s_every_meeting, defBody s_every_meeting, defScope s_every_meeting, [], []⟩,
  ⟨fun K => He.ga K "mask_at", "mask_at", "mask_at", defArgs s_mask_at, defBody s_mask_at, defScope s_mask_at, [], []⟩,
  ⟨fun K => He.ga K "many_characters", "many_characters", "many_characters", defArgs s_many_characters, defBody s_many_characters, defScope s_many_characters, [], []⟩,
  ⟨fun K => He.ga K "sums_of", "sums_of", "sums_of", defArgs s_sums_of, defBody s_sums_of, defScope s_sums_of, [], []⟩,
  ⟨fun K => He.ga K "refusal", "refusal", "refusal", defArgs s_refusal, defBody s_refusal, defScope s_refusal, [], []⟩,
  ⟨fun K => He.ga K "is_refusal", "is_refusal", "is_refusal", defArgs s_is_refusal, defBody s_is_refusal, defScope s_is_refusal, [], []⟩,
  ⟨fun K => He.ga K "is_meeting_of", "is_meeting_of", "is_meeting_of", defArgs s_is_meeting_of, defBody s_is_meeting_of, defScope s_is_meeting_of, [], []⟩,
  ⟨fun K => He.ga K "many_told", "many_told", "many_told", defArgs s_many_told, defBody s_many_told, defScope s_many_told, [], []⟩,
  ⟨fun K => He.ga K "told_back", "told_back", "told_back", defArgs s_told_back, defBody s_told_back, defScope s_told_back, [], []⟩,
  ⟨fun K => He.ga K "crossings", "crossings", "crossings", defArgs s_crossings, defBody s_crossings, defScope s_crossings, [], []⟩,
  ⟨fun K => He.ga K "_law_bag", "_law_bag", "_law_bag", defArgs s_law_bag, defBody s_law_bag, defScope s_law_bag, [], []⟩,
  ⟨fun K => He.ga K "_law_take", "_law_take", "_law_take", defArgs s_law_take, defBody s_law_take, defScope s_law_take, [], []⟩,
  ⟨fun K => He.ga K "_law_alike", "_law_alike", "_law_alike", defArgs s_law_alike, defBody s_law_alike, defScope s_law_alike, [], []⟩,
  ⟨fun K => He.ga K "_law_mixed", "_law_mixed", "_law_mixed", defArgs s_law_mixed, defBody s_law_mixed, defScope s_law_mixed, [], []⟩,
  ⟨fun K => He.ga K "_law_pick", "_law_pick", "_law_pick", defArgs s_law_pick, defBody s_law_pick, defScope s_law_pick, [], []⟩,
  ⟨fun K => He.ga K "_law_my_forms", "_law_my_forms", "_law_my_forms", defArgs s_law_my_forms, defBody s_law_my_forms, defScope s_law_my_forms, [], []⟩,
  ⟨fun K => He.ga K "_law_my_places", "_law_my_places", "_law_my_places", defArgs s_law_my_places, defBody s_law_my_places, defScope s_law_my_places, [], []⟩,
  ⟨fun K => He.ga K "_law_my_size", "_law_my_size", "_law_my_size", defArgs s_law_my_size, defBody s_law_my_size, defScope s_law_my_size, [], []⟩,
  ⟨fun K => He.ga K "_law_my_meetings", "_law_my_meetings", "_law_my_meetings", defArgs s_law_my_meetings, defBody s_law_my_meetings, defScope s_law_my_meetings, [], []⟩,
  ⟨fun K => He.ga K "_law_my_woven", "_law_my_woven", "_law_my_woven", defArgs s_law_my_woven, defBody s_law_my_woven, defScope s_law_my_woven, [], []⟩]
def defs2 : List He5.DefA := [
  ⟨fun K => He.ga K "_law_my_crossings", "_law_my_crossings", "_law_my_crossings", defArgs s_law_my_crossings, defBody s_law_my_crossings, defScope s_law_my_crossings, [], []⟩,
  ⟨fun K => He.ga K "_law_my_refuses", "_law_my_refuses", "_law_my_refuses", defArgs s_law_my_refuses, defBody s_law_my_refuses, defScope s_law_my_refuses, [], []⟩,
  ⟨fun K => He.ga K "_law_my_two", "_law_my_two", "_law_my_two", defArgs s_law_my_two, defBody s_law_my_two, defScope s_law_my_two, [], []⟩,
  ⟨fun K => He.ga K "_law_my_shuffled", "_law_my_shuffled", "_law_my_shuffled", defArgs s_law_my_shuffled, defBody s_law_my_shuffled, defScope s_law_my_shuffled, [], []⟩,
  ⟨fun K => He.ga K "_law_refusal_right", "_law_refusal_right", "_law_refusal_right", defArgs s_law_refusal_right, defBody s_law_refusal_right, defScope s_law_refusal_right, [], []⟩,
  ⟨fun K => He.ga K "_law_words_right", "_law_words_right", "_law_words_right", defArgs s_law_words_right, defBody s_law_words_right, defScope s_law_words_right, [], []⟩,
  ⟨fun K => He.ga K "_law_right", "_law_right", "_law_right", defArgs s_law_right, defBody s_law_right, defScope s_law_right, [], []⟩,
  ⟨fun K => He.ga K "law", "law", "law", defArgs s_law, defBody s_law, defScope s_law, [], []⟩,
  ⟨fun K => He.ma K (He.ga K "Word") "__init__", "__init__", "Word.__init__", defArgs s_Word_init, defBody s_Word_init, defScope s_Word_init, [], []⟩,
  ⟨fun K => He5.wf K (He.ga K "Word") "property" "early", "early", "Word.early", defArgs s_Word_early, defBody s_Word_early, defScope s_Word_early, [], []⟩,
  ⟨fun K => He5.wf K (He.ga K "Word") "property" "again", "again", "Word.again", defArgs s_Word_again, defBody s_Word_again, defScope s_Word_again, [], []⟩,
  ⟨fun K => He5.wf K (He.ga K "Word") "property" "lead", "lead", "Word.lead", defArgs s_Word_lead, defBody s_Word_lead, defScope s_Word_lead, [], []⟩,
  ⟨fun K => He5.wf K (He.ga K "Word") "property" "period", "period", "Word.period", defArgs s_Word_period, defBody s_Word_period, defScope s_Word_period, [], []⟩,
  ⟨fun K => He.ma K (He.ga K "Rule") "__init__", "__init__", "Rule.__init__", defArgs s_Rule_init, defBody s_Rule_init, defScope s_Rule_init, [], []⟩,
  ⟨fun K => He5.wf K (He.ga K "Rule") "staticmethod" "by", "by", "Rule.by", defArgs s_Rule_by, defBody s_Rule_by, defScope s_Rule_by, [], []⟩,
  ⟨fun K => He5.wf K (He.ga K "Rule") "staticmethod" "always", "always", "Rule.always", defArgs s_Rule_always, defBody s_Rule_always, defScope s_Rule_always, [], []⟩,
  ⟨fun K => He.ma K (He.ga K "Rule") "__call__", "__call__", "Rule.__call__", defArgs s_Rule_call, defBody s_Rule_call, defScope s_Rule_call, [], []⟩,
  ⟨fun K => He.ma K (He.ga K "Rule") "__xor__", "__xor__", "Rule.__xor__", defArgs s_Rule_xor, defBody s_Rule_xor, defScope s_Rule_xor, [], []⟩,
  ⟨fun K => He.ma K (He.ga K "Sums") "__init__", "__init__", "Sums.__init__", defArgs s_Sums_init, defBody s_Sums_init, defScope s_Sums_init, [], []⟩,
  ⟨fun K => He.ma K (He.ga K "Sums") "reduced", "reduced", "Sums.reduced", defArgs s_Sums_reduced, defBody s_Sums_reduced, defScope s_Sums_reduced, [], []⟩,
  ⟨fun K => He.ma K (He.ga K "Sums") "put", "put", "Sums.put", defArgs s_Sums_put, defBody s_Sums_put, defScope s_Sums_put, [], []⟩,
  ⟨fun K => He.ma K (He.ga K "Sums") "rank", "rank", "Sums.rank", defArgs s_Sums_rank, defBody s_Sums_rank, defScope s_Sums_rank, [], []⟩,
  ⟨fun K => He.ma K (He.ga K "Dance") "__init__", "__init__", "Dance.__init__", defArgs s_Dance_init, defBody s_Dance_init, defScope s_Dance_init, [], []⟩,
  ⟨fun K => He5.wf K (He.ga K "Dance") "property" "suns", "suns", "Dance.suns", defArgs s_Dance_suns, defBody s_Dance_suns, defScope s_Dance_suns, [], []⟩,
  ⟨fun K => He5.wf K (He.ga K "Dance") "property" "moons", "moons", "Dance.moons", defArgs s_Dance_moons, defBody s_Dance_moons, defScope s_Dance_moons, [], []⟩,
  ⟨fun K => He5.wf K (He.ga K "Dance") "property" "rounds", "rounds", "Dance.rounds", defArgs s_Dance_rounds, defBody s_Dance_rounds, defScope s_Dance_rounds, [], []⟩,
  ⟨fun K => He.ma K (He.ga K "Dance") "is_meeting", "is_meeting", "Dance.is_meeting", defArgs s_Dance_is_meeting, defBody s_Dance_is_meeting, defScope s_Dance_is_meeting, [], []⟩,
  ⟨fun K => He.ma K (He.ga K "Dance") "need_meeting", "need_meeting", "Dance.need_meeting", defArgs s_Dance_need_meeting, defBody s_Dance_need_meeting, defScope s_Dance_need_meeting, [], []⟩,
  ⟨fun K => He.ma K (He.ga K "Dance") "above", "above", "Dance.above", defArgs s_Dance_above, defBody s_Dance_above, defScope s_Dance_above, [], []⟩]
def defs : List He5.DefA := defs1 ++ defs2
end K7
/-! text K7Math -/
set_option maxHeartbeats 4000000
namespace K7
/-! ### parity of the common bits -/
def dot : Nat → Nat → (Nat → Bool) → Bool
  | 0, _, _ => false
  | n + 1, m, x => Bool.xor (dot n m x) (m.testBit n && x n)
theorem dot_xor (x : Nat → Bool) (a b : Nat) : ∀ n, dot n (a ^^^ b) x = Bool.xor (dot n a x) (dot n b x)
  | 0 => rfl
  | n + 1 => by
    simp only [dot]
    rw [dot_xor x a b n, Nat.testBit_xor]
    cases dot n a x <;> cases dot n b x <;> cases a.testBit n <;> cases b.testBit n <;> cases x n <;> rfl
theorem dot_zero (x : Nat → Bool) : ∀ n, dot n 0 x = false
  | 0 => rfl
  | n + 1 => by simp [dot, dot_zero x n]
theorem dot_pow_out (x : Nat → Bool) (p : Nat) : ∀ n, n ≤ p → dot n (2 ^ p) x = false
  | 0, _ => rfl
  | n + 1, h => by
    have e : (2 ^ p).testBit n = false := by
      rw [Nat.testBit_two_pow]
      exact decide_eq_false (by omega)
    simp [dot, dot_pow_out x p n (by omega), e]
theorem dot_pow (x : Nat → Bool) (p : Nat) : ∀ n, p < n → dot n (2 ^ p) x = x p
  | 0, h => absurd h (Nat.not_lt_zero _)
  | n + 1, h => by
    by_cases e : p = n
    · subst e
      have e1 : (2 ^ p).testBit p = true := by rw [Nat.testBit_two_pow]; exact decide_eq_true rfl
      simp [dot, dot_pow_out x p p (Nat.le_refl _), e1]
    · have e1 : (2 ^ p).testBit n = false := by rw [Nat.testBit_two_pow]; exact decide_eq_false e
      simp [dot, dot_pow x p n (by omega), e1]
/-- the bits from n on play no part -/
theorem dot_small (x : Nat → Bool) (m n : Nat) (h : m < 2 ^ n) : ∀ k, dot (n + k) m x = dot n m x
  | 0 => rfl
  | k + 1 => by
    have e : m.testBit (n + k) = false := Nat.testBit_lt_two_pow (Nat.lt_of_lt_of_le h (Nat.pow_le_pow_right (by decide) (by omega)))
    show Bool.xor (dot (n + k) m x) (m.testBit (n + k) && x (n + k)) = _
    rw [dot_small x m n h k, e]
    simp
theorem dot_congr {x y : Nat → Bool} (m : Nat) : ∀ n, (∀ i, i < n → x i = y i) → dot n m x = dot n m y
  | 0, _ => rfl
  | n + 1, h => by
    simp only [dot]
    rw [dot_congr m n (fun i hi => h i (by omega)), h n (by omega)]
/-! ### masks of places -/
def maskOf (ps : List Nat) : Nat := ps.foldl (fun m p => m ^^^ 2 ^ p) 0
theorem maskOf_snoc (ps : List Nat) (p : Nat) : maskOf (ps ++ [p]) = maskOf ps ^^^ 2 ^ p := by
  unfold maskOf
  rw [List.foldl_append]
  rfl
theorem snocInd {α : Type} {P : List α → Prop} (h0 : P []) (h1 : ∀ l a, P l → P (l ++ [a])) (l : List α) : P l := by
  have key : ∀ r : List α, P r.reverse := by
    intro r
    induction r with
    | nil => exact h0
    | cons a r ih => rw [List.reverse_cons]; exact h1 _ _ ih
  have := key l.reverse
  rwa [List.reverse_reverse] at this
/-- parity of how many are true -/
def par (l : List Bool) : Bool := l.foldl Bool.xor false
theorem par_snoc (l : List Bool) (b : Bool) : par (l ++ [b]) = Bool.xor (par l) b := by
  unfold par
  rw [List.foldl_append]
  rfl
theorem par_count (l : List Bool) : par l = decide (l.count true % 2 = 1) := by
  induction l using snocInd with
  | h0 => rfl
  | h1 l b ih =>
    rw [par_snoc, ih, List.count_append]
    cases b with
    | false => simp
    | true =>
      have : List.count true [true] = 1 := rfl
      rw [this]
      by_cases h : l.count true % 2 = 1
      · have h2 : ¬ (l.count true + 1) % 2 = 1 := by omega
        rw [decide_eq_true h, decide_eq_false h2]; rfl
      · have h2 : (l.count true + 1) % 2 = 1 := by omega
        rw [decide_eq_false h, decide_eq_true h2]; rfl
theorem dot_mask (n : Nat) (x : Nat → Bool) (ps : List Nat) (h : ∀ p ∈ ps, p < n) : dot n (maskOf ps) x = par (ps.map x) := by
  induction ps using snocInd with
  | h0 => exact dot_zero x n
  | h1 l p ih =>
    rw [maskOf_snoc, dot_xor, ih (fun q hq => h q (List.mem_append_left _ hq)), List.map_append, dot_pow x p n (h p (by simp))]
    exact (par_snoc _ _).symm
theorem maskOf_append (ps qs : List Nat) : maskOf (ps ++ qs) = maskOf ps ^^^ maskOf qs := by
  induction qs using snocInd with
  | h0 => simp [maskOf]
  | h1 l p ih => rw [← List.append_assoc, maskOf_snoc, ih, maskOf_snoc, Nat.xor_assoc]
theorem maskOf_lt {n : Nat} (ps : List Nat) (h : ∀ p ∈ ps, p < n) : maskOf ps < 2 ^ n := by
  induction ps using snocInd with
  | h0 => exact Nat.two_pow_pos n
  | h1 l p ih =>
    rw [maskOf_snoc]
    exact Nat.xor_lt_two_pow (ih fun q hq => h q (List.mem_append_left _ hq)) (Nat.pow_lt_pow_right (by decide) (h p (by simp)))
/-- bit q of the mask: whether q stands an odd number of times -/
theorem maskOf_bit (ps : List Nat) (q : Nat) : (maskOf ps).testBit q = decide (ps.count q % 2 = 1) := by
  induction ps using snocInd with
  | h0 => simp [maskOf]
  | h1 l p ih =>
    rw [maskOf_snoc, Nat.testBit_xor, ih, Nat.testBit_two_pow, List.count_append]
    by_cases e : p = q
    · subst e
      have : List.count p [p] = 1 := by simp
      rw [this]
      by_cases h : l.count p % 2 = 1
      · have h2 : ¬ (l.count p + 1) % 2 = 1 := by omega
        rw [decide_eq_true h, decide_eq_false h2]; simp
      · have h2 : (l.count p + 1) % 2 = 1 := by omega
        rw [decide_eq_false h, decide_eq_true h2]; simp
    · have : List.count q [p] = 0 := List.count_eq_zero.mpr (by simpa using Ne.symm e)
      rw [this, decide_eq_false e]
      simp
theorem mask_zero_iff (ps : List Nat) : maskOf ps = 0 ↔ ∀ p ∈ ps, ¬ ps.count p % 2 = 1 := by
  constructor
  · intro h p _ hc
    have := maskOf_bit ps p
    rw [h, decide_eq_true hc] at this
    simp at this
  · intro h
    apply Nat.eq_of_testBit_eq
    intro i
    rw [maskOf_bit, Nat.zero_testBit]
    by_cases hi : i ∈ ps
    · exact decide_eq_false (h i hi)
    · rw [List.count_eq_zero.mpr hi]; rfl
/-! ### rows -/
structure Row where
  mask : Nat
  bit : Bool
  took : Nat
inductive Span (rs : List Row) : Nat → Bool → Nat → Prop
  | zero : Span rs 0 false 0
  | add {r : Row} {m : Nat} {b : Bool} {t : Nat} : r ∈ rs → Span rs m b t → Span rs (m ^^^ r.mask) (Bool.xor b r.bit) (t ^^^ r.took)
theorem Span.mono {rs qs : List Row} (h : ∀ r ∈ rs, r ∈ qs) {m : Nat} {b : Bool} {t : Nat} (s : Span rs m b t) : Span qs m b t := by
  induction s with
  | zero => exact .zero
  | add hr _ ih => exact .add (h _ hr) ih
/-- x keeps the rows -/
def Sat (n : Nat) (x : Nat → Bool) (rs : List Row) : Prop := ∀ r ∈ rs, dot n r.mask x = r.bit
theorem Span.sat {n : Nat} {x : Nat → Bool} {rs : List Row} (hx : Sat n x rs) {m : Nat} {b : Bool} {t : Nat} (s : Span rs m b t) : dot n m x = b := by
  induction s with
  | zero => exact dot_zero x n
  | add hr _ ih => rw [dot_xor, ih, hx _ hr]
/-- number of binary digits -/
def blen (m : Nat) : Nat := if m = 0 then 0 else m.log2 + 1
theorem blen_lt {m : Nat} : m < 2 ^ blen m := by
  unfold blen
  split
  · subst_vars; decide
  · exact Nat.lt_log2_self
theorem blen_top {m : Nat} (h : m ≠ 0) : m.testBit (blen m - 1) = true := by
  unfold blen
  rw [if_neg h]
  show m.testBit (m.log2 + 1 - 1) = true
  rw [Nat.add_sub_cancel]
  exact Nat.testBit_log2 h
theorem blen_pos {m : Nat} (h : m ≠ 0) : 0 < blen m := by unfold blen; rw [if_neg h]; omega
theorem blen_le {m n : Nat} (h : m < 2 ^ n) : blen m ≤ n := by
  unfold blen
  split
  · omega
  · rename_i h0
    have := (Nat.log2_lt h0).mpr h
    omega
/-- two numbers of one length: the top digit goes -/
theorem xor_less {a b : Nat} (ha : a ≠ 0) (h : blen a = blen b) : a ^^^ b < a := by
  have hb : b ≠ 0 := fun e => by
    subst e
    have := blen_pos ha
    rw [h] at this
    simp [blen] at this
  have ka := blen_pos ha
  have h1 : a ^^^ b < 2 ^ (blen a - 1) := by
    apply Nat.lt_pow_two_of_testBit
    intro i hi
    rw [Nat.testBit_xor]
    by_cases e : i = blen a - 1
    · subst e
      rw [blen_top ha]
      have := blen_top hb
      rw [← h] at this
      rw [this]; rfl
    · have hi2 : blen a ≤ i := by omega
      rw [Nat.testBit_lt_two_pow (Nat.lt_of_lt_of_le blen_lt (Nat.pow_le_pow_right (by decide) hi2)),
        Nat.testBit_lt_two_pow (Nat.lt_of_lt_of_le blen_lt (Nat.pow_le_pow_right (by decide) (by rw [← h]; exact hi2)))]
      rfl
  have h2 : 2 ^ (blen a - 1) ≤ a := Nat.ge_two_pow_of_testBit (blen_top ha)
  omega
/-- the rows as they stand: none 0, no two of one length -/
structure RowsOk (rs : List Row) : Prop where
  nz : ∀ r ∈ rs, r.mask ≠ 0
  nd : (rs.map fun r => blen r.mask).Nodup
theorem RowsOk.nil : RowsOk [] := ⟨fun _ h => by simp at h, by simp⟩
theorem RowsOk.snoc {rs : List Row} (h : RowsOk rs) {r : Row} (h0 : r.mask ≠ 0) (h1 : blen r.mask ∉ rs.map fun r => blen r.mask) : RowsOk (rs ++ [r]) := by
  refine ⟨fun q hq => ?_, ?_⟩
  · rcases List.mem_append.mp hq with hq | hq
    · exact h.nz q hq
    · rw [List.mem_singleton.mp hq]; exact h0
  · rw [List.map_append, List.nodup_append]
    refine ⟨h.nd, by simp, fun a ha b hb e => ?_⟩
    simp at hb
    subst hb
    subst e
    exact h1 ha
/-- such rows are kept by some x -/
theorem rows_sat (n : Nat) (rs : List Row) (h : RowsOk rs) (hn : ∀ r ∈ rs, r.mask < 2 ^ n) : ∃ x, Sat n x rs := by
  have key : ∀ k, k ≤ n → ∃ x : Nat → Bool, ∀ r ∈ rs, blen r.mask ≤ k → dot n r.mask x = r.bit := by
    intro k
    induction k with
    | zero =>
      intro _
      refine ⟨fun _ => false, fun r hr hb => ?_⟩
      have := blen_pos (h.nz r hr)
      omega
    | succ k ih =>
      intro hk
      obtain ⟨x, hx⟩ := ih (by omega)
      by_cases he : ∃ r ∈ rs, blen r.mask = k + 1
      · obtain ⟨r, hr, hrk⟩ := he
        -- the value at k that makes r's sum right
        let v : Bool := Bool.xor (dot k r.mask x) r.bit
        let y : Nat → Bool := fun i => if i = k then v else x i
        have low : ∀ m, dot k m y = dot k m x := fun m => dot_congr m k fun i hi => by
          show (if i = k then v else x i) = x i
          rw [if_neg (by omega)]
        have ev : ∀ m, blen m ≤ k + 1 → dot n m y = Bool.xor (dot k m y) (m.testBit k && y k) := fun m hm => by
          have hm2 : m < 2 ^ (k + 1) := Nat.lt_of_lt_of_le blen_lt (Nat.pow_le_pow_right (by decide) hm)
          have := dot_small y m (k + 1) hm2 (n - (k + 1))
          rw [show k + 1 + (n - (k + 1)) = n by omega] at this
          rw [this]; rfl
        refine ⟨y, fun q hq hqk => ?_⟩
        by_cases e : blen q.mask = k + 1
        · have eq : q = r := by
            have nd := h.nd
            have aux : ∀ (l : List Row), (l.map fun r => blen r.mask).Nodup → q ∈ l → r ∈ l → blen q.mask = blen r.mask → q = r := by
              intro l
              induction l with
              | nil => intro _ h; simp at h
              | cons a l ih =>
                intro nd h1 h2 e
                rw [List.map_cons, List.nodup_cons] at nd
                rcases List.mem_cons.mp h1 with h1 | h1
                · rcases List.mem_cons.mp h2 with h2 | h2
                  · rw [h1, h2]
                  · exact absurd (List.mem_map.mpr ⟨r, h2, by rw [← e, h1]⟩) nd.1
                · rcases List.mem_cons.mp h2 with h2 | h2
                  · exact absurd (List.mem_map.mpr ⟨q, h1, by rw [e, h2]⟩) nd.1
                  · exact ih nd.2 h1 h2 e
            exact aux rs nd hq hr (by rw [e, hrk])
          subst eq
          rw [ev q.mask hqk, low]
          have top : q.mask.testBit k = true := by
            have := blen_top (h.nz q hr)
            rw [hrk] at this
            exact this
          have yk : y k = v := by show (if k = k then v else x k) = v; rw [if_pos rfl]
          rw [top, yk]
          show Bool.xor (dot k q.mask x) (true && Bool.xor (dot k q.mask x) q.bit) = q.bit
          cases dot k q.mask x <;> cases q.bit <;> rfl
        · have hq2 : blen q.mask ≤ k := by omega
          have z : q.mask.testBit k = false := Nat.testBit_lt_two_pow (Nat.lt_of_lt_of_le blen_lt (Nat.pow_le_pow_right (by decide) hq2))
          rw [ev q.mask hqk, low, z, ← hx q hq hq2]
          have hm2 : q.mask < 2 ^ k := Nat.lt_of_lt_of_le blen_lt (Nat.pow_le_pow_right (by decide) hq2)
          have := dot_small x q.mask k hm2 (n - k)
          rw [show k + (n - k) = n by omega] at this
          rw [this]
          simp
      · refine ⟨x, fun q hq hqk => hx q hq ?_⟩
        have : blen q.mask ≠ k + 1 := fun e => he ⟨q, hq, e⟩
        omega
  obtain ⟨x, hx⟩ := key n (Nat.le_refl _)
  exact ⟨x, fun r hr => hx r hr (blen_le (hn r hr))⟩
/-- as many different numbers from 1 to n -/
theorem nodup_le : ∀ (n : Nat) (l : List Nat), l.Nodup → (∀ k ∈ l, 0 < k ∧ k ≤ n) → l.length ≤ n
  | 0, l, _, h => by
    cases l with
    | nil => exact Nat.le_refl _
    | cons a l => exact absurd (h a (by simp)) (by omega)
  | n + 1, l, nd, h => by
    by_cases hm : n + 1 ∈ l
    · have h1 := nodup_le n (l.erase (n + 1)) (nd.erase _) fun k hk => by
        have hk2 := List.mem_of_mem_erase hk
        have ne : k ≠ n + 1 := fun e => by
          subst e
          exact (List.Nodup.not_mem_erase nd) hk
        have := h k hk2
        omega
      rw [List.length_erase_of_mem hm] at h1
      omega
    · have h1 := nodup_le n l nd fun k hk => by
        have ne : k ≠ n + 1 := fun e => hm (e ▸ hk)
        have := h k hk
        omega
      omega
theorem rank_le {n : Nat} {rs : List Row} (h : RowsOk rs) (hn : ∀ r ∈ rs, r.mask < 2 ^ n) : rs.length ≤ n := by
  have := nodup_le n (rs.map fun r => blen r.mask) h.nd fun k hk => by
    obtain ⟨r, hr, e⟩ := List.mem_map.mp hk
    subst e
    exact ⟨blen_pos (h.nz r hr), blen_le (hn r hr)⟩
  rwa [List.length_map] at this
end K7
/-! text K7Math2 -/
set_option maxHeartbeats 4000000
namespace K7
/-! ### sums of meetings -/
def SelOk (msk : Nat → Nat) (tru : Nat → Bool) (k m : Nat) (b : Bool) (t : Nat) : Prop := (∀ q, m.testBit q = dot k t (fun i => (msk i).testBit q)) ∧ b = dot k t tru
theorem SelOk.xor {msk : Nat → Nat} {tru : Nat → Bool} {k m m' : Nat} {b b' : Bool} {t t' : Nat} (h : SelOk msk tru k m b t) (h' : SelOk msk tru k m' b' t') : SelOk msk tru k (m ^^^ m') (Bool.xor b b') (t ^^^ t') :=
  ⟨fun q => by rw [Nat.testBit_xor, h.1 q, h'.1 q, dot_xor], by rw [h.2, h'.2, dot_xor]⟩
theorem SelOk.zero {msk : Nat → Nat} {tru : Nat → Bool} {k : Nat} : SelOk msk tru k 0 false 0 := ⟨fun q => by rw [dot_zero]; simp, by rw [dot_zero]⟩
theorem SelOk.more {msk : Nat → Nat} {tru : Nat → Bool} {k m : Nat} {b : Bool} {t : Nat} (h : SelOk msk tru k m b t) (ht : t < 2 ^ k) (j : Nat) : SelOk msk tru (k + j) m b t :=
  ⟨fun q => by rw [h.1 q, dot_small _ _ _ ht], by rw [h.2, dot_small _ _ _ ht]⟩
theorem SelOk.one {msk : Nat → Nat} {tru : Nat → Bool} (k : Nat) : SelOk msk tru (k + 1) (msk k) (tru k) (2 ^ k) :=
  ⟨fun q => by rw [dot_pow _ k (k + 1) (by omega)], by rw [dot_pow _ k (k + 1) (by omega)]⟩
structure SumsInv (N : Nat) (msk : Nat → Nat) (tru : Nat → Bool) (k : Nat) (rs : List Row) : Prop where
  ok : RowsOk rs
  lt : ∀ r ∈ rs, r.mask < 2 ^ N ∧ r.took < 2 ^ k
  sel : ∀ r ∈ rs, SelOk msk tru k r.mask r.bit r.took
  pv : ∃ pv : List Nat, pv.length = rs.length ∧ ∀ r ∈ rs, ∀ q, r.took.testBit q = true → q ∈ pv
  imp : ∀ x, Sat N x rs → ∀ i, i < k → dot N (msk i) x = tru i
theorem SumsInv.nil (N : Nat) (msk : Nat → Nat) (tru : Nat → Bool) : SumsInv N msk tru 0 [] :=
  ⟨.nil, fun _ h => by simp at h, fun _ h => by simp at h, ⟨[], rfl, fun _ h => by simp at h⟩, fun _ _ _ h => absurd h (Nat.not_lt_zero _)⟩
section
variable {N : Nat} {msk : Nat → Nat} {tru : Nat → Bool} {k : Nat} {rs : List Row} {m t : Nat} {b : Bool}
theorem Span.sel (h : SumsInv N msk tru k rs) (s : Span rs m b t) : SelOk msk tru k m b t ∧ t < 2 ^ k ∧ m < 2 ^ N := by
  induction s with
  | zero => exact ⟨.zero, Nat.two_pow_pos _, Nat.two_pow_pos _⟩
  | add hr _ ih => exact ⟨ih.1.xor (h.sel _ hr), Nat.xor_lt_two_pow ih.2.1 (h.lt _ hr).2, Nat.xor_lt_two_pow ih.2.2 (h.lt _ hr).1⟩
theorem Span.pv {pv : List Nat} (h : ∀ r ∈ rs, ∀ q, r.took.testBit q = true → q ∈ pv) (s : Span rs m b t) : ∀ q, t.testBit q = true → q ∈ pv := by
  induction s with
  | zero => intro q hq; simp at hq
  | add hr _ ih =>
    intro q hq
    rw [Nat.testBit_xor] at hq
    rename_i r m b t _
    cases h1 : t.testBit q with
    | true => exact ih q h1
    | false =>
      rw [h1, Bool.false_xor] at hq
      exact h _ hr q hq
theorem xor_back (a b : Nat) : a ^^^ (a ^^^ b) = b := by rw [← Nat.xor_assoc, Nat.xor_self, Nat.zero_xor]
theorem bxor_back (a b : Bool) : Bool.xor a (Bool.xor a b) = b := by cases a <;> cases b <;> rfl
/-- what is left of the k-th sum -/
theorem left_sel (h : SumsInv N msk tru k rs) (hk : msk k < 2 ^ N) (s : Span rs (msk k ^^^ m) (Bool.xor (tru k) b) (2 ^ k ^^^ t)) :
    SelOk msk tru (k + 1) m b t ∧ t < 2 ^ (k + 1) ∧ m < 2 ^ N ∧ t.testBit k = true ∧ (∃ pv : List Nat, pv.length = rs.length + 1 ∧ (∀ r ∈ rs, ∀ q, r.took.testBit q = true → q ∈ pv) ∧ ∀ q, t.testBit q = true → q ∈ pv) := by
  obtain ⟨h1, h2, h3⟩ := s.sel h
  have e1 := (SelOk.one (msk := msk) (tru := tru) k).xor (h1.more h2 1)
  rw [xor_back, xor_back, bxor_back] at e1
  have kt : 2 ^ k < 2 ^ (k + 1) := Nat.pow_lt_pow_right (by decide) (by omega)
  have e2 : t < 2 ^ (k + 1) := by
    have := Nat.xor_lt_two_pow kt (Nat.lt_trans h2 kt)
    rwa [xor_back] at this
  have e3 : m < 2 ^ N := by
    have := Nat.xor_lt_two_pow hk h3
    rwa [xor_back] at this
  have e4 : t.testBit k = true := by
    have z : (2 ^ k ^^^ t).testBit k = false := Nat.testBit_lt_two_pow h2
    rw [Nat.testBit_xor, Nat.testBit_two_pow, decide_eq_true rfl] at z
    cases q : t.testBit k with
    | true => rfl
    | false => rw [q] at z; exact absurd z (by decide)
  refine ⟨e1, e2, e3, e4, ?_⟩
  obtain ⟨pv, hl, hp⟩ := h.pv
  refine ⟨k :: pv, by rw [List.length_cons, hl], fun r hr q hq => List.mem_cons_of_mem _ (hp r hr q hq), fun q hq => ?_⟩
  by_cases e : q = k
  · exact List.mem_cons.mpr (.inl e)
  · refine List.mem_cons_of_mem _ (s.pv hp q ?_)
    rw [Nat.testBit_xor, hq, Nat.testBit_two_pow, decide_eq_false (Ne.symm e)]
    rfl
theorem SumsInv.fresh (h : SumsInv N msk tru k rs) (hk : msk k < 2 ^ N) (s : Span rs (msk k ^^^ m) (Bool.xor (tru k) b) (2 ^ k ^^^ t)) (h0 : m ≠ 0) (hm : blen m ∉ rs.map fun r => blen r.mask) : SumsInv N msk tru (k + 1) (rs ++ [⟨m, b, t⟩]) := by
  obtain ⟨e1, e2, e3, e4, pv, hl, hp, hq⟩ := left_sel h hk s
  have kt : 2 ^ k < 2 ^ (k + 1) := Nat.pow_lt_pow_right (by decide) (by omega)
  refine ⟨h.ok.snoc h0 hm, fun r hr => ?_, fun r hr => ?_, ⟨pv, by rw [hl, List.length_append]; rfl, fun r hr => ?_⟩, fun x hx i hi => ?_⟩
  · rcases List.mem_append.mp hr with hr | hr
    · exact ⟨(h.lt r hr).1, Nat.lt_trans (h.lt r hr).2 kt⟩
    · rw [List.mem_singleton.mp hr]; exact ⟨e3, e2⟩
  · rcases List.mem_append.mp hr with hr | hr
    · exact (h.sel r hr).more (h.lt r hr).2 1
    · rw [List.mem_singleton.mp hr]; exact e1
  · rcases List.mem_append.mp hr with hr | hr
    · exact hp r hr
    · rw [List.mem_singleton.mp hr]; exact hq
  · have hx1 : Sat N x rs := fun r hr => hx r (List.mem_append_left _ hr)
    by_cases e : i = k
    · subst e
      have h1 := s.sat hx1
      have h2 := hx ⟨m, b, t⟩ (by simp)
      rw [dot_xor] at h1
      have h2 : dot N m x = b := h2
      rw [h2] at h1
      revert h1
      cases dot N (msk i) x <;> cases tru i <;> cases b <;> simp
    · exact h.imp x hx1 i (by omega)
theorem SumsInv.same (h : SumsInv N msk tru k rs) (s : Span rs (msk k ^^^ 0) (Bool.xor (tru k) false) (2 ^ k ^^^ t)) : SumsInv N msk tru (k + 1) rs := by
  have kt : 2 ^ k < 2 ^ (k + 1) := Nat.pow_lt_pow_right (by decide) (by omega)
  refine ⟨h.ok, fun r hr => ⟨(h.lt r hr).1, Nat.lt_trans (h.lt r hr).2 kt⟩, fun r hr => (h.sel r hr).more (h.lt r hr).2 1, h.pv, fun x hx i hi => ?_⟩
  by_cases e : i = k
  · subst e
    have h1 := s.sat hx
    rw [Nat.xor_zero, Bool.xor_false] at h1
    exact h1
  · exact h.imp x hx i (by omega)
end
/-- t chooses among the first n meetings some that refuse -/
structure Refuses (msk : Nat → Nat) (tru : Nat → Bool) (n N t : Nat) : Prop where
  even : ∀ q, dot n t (fun i => (msk i).testBit q) = false
  odd : dot n t tru = true
  lt : t < 2 ^ n
  pv : ∃ pv : List Nat, pv.length ≤ N + 1 ∧ ∀ q, t.testBit q = true → q ∈ pv
theorem SumsInv.refuses {N : Nat} {msk : Nat → Nat} {tru : Nat → Bool} {k : Nat} {rs : List Row} {t : Nat} (h : SumsInv N msk tru k rs) (hk : msk k < 2 ^ N) (s : Span rs (msk k ^^^ 0) (Bool.xor (tru k) true) (2 ^ k ^^^ t)) {n : Nat} (hn : k < n) :
    Refuses msk tru n N t ∧ t ≠ 0 := by
  obtain ⟨e1, e2, _, e4, pv, hl, _, hq⟩ := left_sel h hk s
  have e5 := e1.more e2 (n - (k + 1))
  rw [show k + 1 + (n - (k + 1)) = n by omega] at e5
  refine ⟨⟨fun q => by rw [← e5.1 q]; simp, e5.2.symm, Nat.lt_of_lt_of_le e2 (Nat.pow_le_pow_right (by decide) hn), pv, ?_, hq⟩, fun z => ?_⟩
  · rw [hl]
    have := rank_le h.ok fun r hr => (h.lt r hr).1
    omega
  · rw [z] at e4; simp at e4
/-! ### words told back -/
structure TbInv (N M : Nat) (rs0 : List Row) (bs : List Bool) (rs : List Row) : Prop where
  ok : RowsOk rs
  lt : ∀ r ∈ rs, r.mask < 2 ^ N ∧ r.took < 2 ^ (M + bs.length)
  sub : ∀ r ∈ rs0, r ∈ rs
  imp : ∀ x, Sat N x rs → ∀ i, i < bs.length → x i = bs.getD i false
theorem TbInv.start {N M : Nat} {msk : Nat → Nat} {tru : Nat → Bool} {rs : List Row} (h : SumsInv N msk tru M rs) : TbInv N M rs [] rs := ⟨h.ok, fun r hr => h.lt r hr, fun _ h => h, fun _ _ _ h => absurd h (Nat.not_lt_zero _)⟩
section
variable {N M : Nat} {rs0 rs : List Row} {bs : List Bool} {m t : Nat} {b : Bool}
theorem getD_snoc_old {bs : List Bool} {c : Bool} {i : Nat} (h : i < bs.length) : (bs ++ [c]).getD i false = bs.getD i false := by
  rw [List.getD_eq_getElem?_getD, List.getD_eq_getElem?_getD, List.getElem?_append_left h]
theorem getD_snoc_new {bs : List Bool} {c : Bool} : (bs ++ [c]).getD bs.length false = c := by
  rw [List.getD_eq_getElem?_getD, List.getElem?_append_right (Nat.le_refl _)]; simp
theorem TbInv.span (h : TbInv N M rs0 bs rs) (s : Span rs m b t) : t < 2 ^ (M + bs.length) ∧ m < 2 ^ N := by
  induction s with
  | zero => exact ⟨Nat.two_pow_pos _, Nat.two_pow_pos _⟩
  | add hr _ ih => exact ⟨Nat.xor_lt_two_pow ih.1 (h.lt _ hr).2, Nat.xor_lt_two_pow ih.2 (h.lt _ hr).1⟩
theorem TbInv.fresh (h : TbInv N M rs0 bs rs) (hp : bs.length < N) (s : Span rs (2 ^ bs.length ^^^ m) (Bool.xor false b) (2 ^ (M + bs.length) ^^^ t)) (h0 : m ≠ 0) (hm : blen m ∉ rs.map fun r => blen r.mask) :
    TbInv N M rs0 (bs ++ [false]) (rs ++ [⟨m, b, t⟩]) := by
  obtain ⟨h1, h2⟩ := h.span s
  have pk : 2 ^ bs.length < 2 ^ N := Nat.pow_lt_pow_right (by decide) hp
  have tk : 2 ^ (M + bs.length) < 2 ^ (M + (bs.length + 1)) := Nat.pow_lt_pow_right (by decide) (by omega)
  have e2 : t < 2 ^ (M + (bs.length + 1)) := by
    have := Nat.xor_lt_two_pow tk (Nat.lt_trans h1 tk)
    rwa [xor_back] at this
  have e3 : m < 2 ^ N := by
    have := Nat.xor_lt_two_pow pk h2
    rwa [xor_back] at this
  refine ⟨h.ok.snoc h0 hm, fun r hr => ?_, fun r hr => List.mem_append_left _ (h.sub r hr), fun x hx i hi => ?_⟩
  · rw [List.length_append]
    rcases List.mem_append.mp hr with hr | hr
    · exact ⟨(h.lt r hr).1, Nat.lt_trans (h.lt r hr).2 tk⟩
    · rw [List.mem_singleton.mp hr]; exact ⟨e3, e2⟩
  · have hx1 : Sat N x rs := fun r hr => hx r (List.mem_append_left _ hr)
    rw [List.length_append] at hi
    have hi : i < bs.length + 1 := hi
    by_cases e : i = bs.length
    · subst e
      rw [getD_snoc_new]
      have q1 := s.sat hx1
      have q2 : dot N m x = b := hx ⟨m, b, t⟩ (by simp)
      rw [dot_xor, q2, dot_pow x _ N hp] at q1
      revert q1
      cases x bs.length <;> cases b <;> simp
    · rw [getD_snoc_old (by omega)]
      exact h.imp x hx1 i (by omega)
theorem TbInv.same (h : TbInv N M rs0 bs rs) (hp : bs.length < N) (s : Span rs (2 ^ bs.length ^^^ 0) (Bool.xor false b) (2 ^ (M + bs.length) ^^^ t)) : TbInv N M rs0 (bs ++ [b]) rs ∧ t ≠ 0 := by
  obtain ⟨h1, h2⟩ := h.span s
  have tk : 2 ^ (M + bs.length) < 2 ^ (M + (bs.length + 1)) := Nat.pow_lt_pow_right (by decide) (by omega)
  refine ⟨⟨h.ok, fun r hr => ?_, h.sub, fun x hx i hi => ?_⟩, fun z => ?_⟩
  · rw [List.length_append]
    exact ⟨(h.lt r hr).1, Nat.lt_trans (h.lt r hr).2 tk⟩
  · rw [List.length_append] at hi
    have hi : i < bs.length + 1 := hi
    by_cases e : i = bs.length
    · subst e
      rw [getD_snoc_new]
      have q1 := s.sat hx
      rw [Nat.xor_zero, dot_pow x _ N hp, Bool.false_xor] at q1
      exact q1
    · rw [getD_snoc_old (by omega)]
      exact h.imp x hx i (by omega)
  · subst z
    rw [Nat.xor_zero] at h1
    exact absurd h1 (Nat.lt_irrefl _)
/-- the words that are told make each meeting -/
theorem TbInv.told {msk : Nat → Nat} {tru : Nat → Bool} (h : TbInv N M rs0 bs rs) (hl : bs.length = N) (h0 : SumsInv N msk tru M rs0) : ∀ i, i < M → dot N (msk i) (fun p => bs.getD p false) = tru i := by
  obtain ⟨x, hx⟩ := rows_sat N rs h.ok fun r hr => (h.lt r hr).1
  intro i hi
  rw [← h0.imp x (fun r hr => hx r (h.sub r hr)) i hi]
  exact dot_congr _ N fun p hp => (h.imp x hx p (by omega)).symm
end
/-! ### what t picks -/
def picked {α : Type} : Nat → List α → Nat → List α
  | _, [], _ => []
  | k, a :: l, t => if t.testBit k then a :: picked (k + 1) l t else picked (k + 1) l t
theorem picked_snoc {α : Type} (t : Nat) (a : α) : ∀ (k : Nat) (l : List α), picked k (l ++ [a]) t = picked k l t ++ if t.testBit (k + l.length) then [a] else []
  | k, [] => by
    show (if t.testBit k then a :: [] else []) = [] ++ _
    rw [List.nil_append]
    rfl
  | k, c :: l => by
    have ih := picked_snoc t a (k + 1) l
    have e : k + 1 + l.length = k + (c :: l).length := by rw [List.length_cons]; omega
    show (if t.testBit k then c :: picked (k + 1) (l ++ [a]) t else picked (k + 1) (l ++ [a]) t) = (if t.testBit k then c :: picked (k + 1) l t else picked (k + 1) l t) ++ _
    rw [ih, e]
    split <;> simp
theorem picked_sub {α : Type} (t : Nat) : ∀ (k : Nat) (l : List α), (picked k l t).Sublist l
  | _, [] => .slnil
  | k, a :: l => by
    unfold picked
    split
    · exact (picked_sub t (k + 1) l).cons_cons a
    · exact (picked_sub t (k + 1) l).cons a
theorem picked_par {α : Type} (t : Nat) (g : α → Bool) (l : List α) : par ((picked 0 l t).map g) = dot l.length t (fun i => (l[i]?.map g).getD false) := by
  induction l using snocInd with
  | h0 => rfl
  | h1 l a ih =>
    rw [picked_snoc, List.map_append, List.length_append]
    show _ = Bool.xor (dot l.length t (fun i => ((l ++ [a])[i]?.map g).getD false)) (t.testBit l.length && (((l ++ [a])[l.length]?).map g).getD false)
    have e1 : dot l.length t (fun i => ((l ++ [a])[i]?.map g).getD false) = dot l.length t (fun i => (l[i]?.map g).getD false) := dot_congr _ _ fun i hi => by
      show ((l ++ [a])[i]?.map g).getD false = _
      rw [List.getElem?_append_left hi]
    rw [e1, ← ih]
    have e2 : (((l ++ [a])[l.length]?).map g).getD false = g a := by simp
    rw [e2, Nat.zero_add]
    cases t.testBit l.length with
    | true =>
      show par (_ ++ [g a]) = _
      rw [par_snoc, Bool.true_and]
    | false =>
      show par (_ ++ []) = _
      rw [List.append_nil, Bool.false_and, Bool.xor_false]
theorem nodup_sub : ∀ (l k : List Nat), l.Nodup → (∀ a ∈ l, a ∈ k) → l.length ≤ k.length
  | [], k, _, _ => Nat.zero_le _
  | a :: l, k, nd, h => by
    rw [List.nodup_cons] at nd
    have h1 := nodup_sub l (k.erase a) nd.2 fun c hc => (List.mem_erase_of_ne (show c ≠ a from fun e => nd.1 (by rw [← e]; exact hc))).mpr (h c (List.mem_cons_of_mem _ hc))
    have h2 := List.length_erase_of_mem (h a (by simp))
    have h3 : 0 < k.length := List.length_pos_of_mem (h a (by simp))
    rw [List.length_cons]
    omega
/-- the places that t picks -/
theorem picked_len {α : Type} (t : Nat) : ∀ (k : Nat) (l : List α), (picked k l t).length = ((List.range' k l.length).filter t.testBit).length
  | _, [] => rfl
  | k, a :: l => by
    rw [List.length_cons, List.range'_succ, List.filter_cons]
    unfold picked
    cases t.testBit k with
    | true =>
      show (a :: picked (k + 1) l t).length = (k :: _).length
      rw [List.length_cons, List.length_cons, picked_len t (k + 1) l]
    | false => exact picked_len t (k + 1) l
theorem picked_few {α : Type} {t N : Nat} {l : List α} (h : ∃ pv : List Nat, pv.length ≤ N ∧ ∀ q, t.testBit q = true → q ∈ pv) : (picked 0 l t).length ≤ N := by
  obtain ⟨pv, h1, h2⟩ := h
  rw [picked_len]
  refine Nat.le_trans (nodup_sub _ pv ?_ fun a ha => h2 a (List.mem_filter.mp ha).2) h1
  exact List.Nodup.sublist List.filter_sublist (List.nodup_range' (step := 1))
/-- the masks of many lists of places, put together -/
theorem mask_flat {α : Type} (f : α → List Nat) (q : Nat) (l : List α) : (maskOf (l.flatMap f)).testBit q = par (l.map fun a => (maskOf (f a)).testBit q) := by
  induction l using snocInd with
  | h0 => simp [maskOf, par]
  | h1 l a ih =>
    rw [List.flatMap_append, List.map_append]
    show _ = par (_ ++ [_])
    rw [par_snoc, ← ih]
    show (maskOf (l.flatMap f ++ [a].flatMap f)).testBit q = _
    rw [maskOf_append, Nat.testBit_xor]
    simp
/-- the sum of masks -/
def sumMask {α : Type} (f : α → List Nat) (l : List α) : Nat := l.foldl (fun m a => m ^^^ maskOf (f a)) 0
theorem sumMask_snoc {α : Type} (f : α → List Nat) (l : List α) (a : α) : sumMask f (l ++ [a]) = sumMask f l ^^^ maskOf (f a) := by
  unfold sumMask
  rw [List.foldl_append]
  rfl
theorem sumMask_flat {α : Type} (f : α → List Nat) (l : List α) : sumMask f l = maskOf (l.flatMap f) := by
  induction l using snocInd with
  | h0 => rfl
  | h1 l a ih =>
    rw [sumMask_snoc, ih, List.flatMap_append, maskOf_append]
    simp
theorem par_perm {l l' : List Bool} (h : l.Perm l') : par l = par l' := by rw [par_count, par_count, h.count_eq]
theorem sumMask_perm {α : Type} (f : α → List Nat) {l l' : List α} (h : l.Perm l') : sumMask f l = sumMask f l' := by
  rw [sumMask_flat, sumMask_flat]
  apply Nat.eq_of_testBit_eq
  intro q
  rw [mask_flat, mask_flat]
  exact par_perm (h.map _)
end K7
/-! text K7Math3 -/
set_option maxHeartbeats 4000000
namespace K7
/-! ### meetings by number -/
def dec (n m k : Nat) : Nat × Nat × Nat := (k / (n * m), k / m % n, k % m)
def enc (n m : Nat) (t : Nat × Nat × Nat) : Nat := (t.1 * n + t.2.1) * m + t.2.2
theorem enc_div {n m r i j : Nat} (hi : i < n) (hj : j < m) : ((r * n + i) * m + j) / m = r * n + i := by
  rw [Nat.mul_comm, Nat.mul_add_div (by omega), Nat.div_eq_of_lt hj, Nat.add_zero]
theorem dec_enc {n m r i j : Nat} (hi : i < n) (hj : j < m) : dec n m ((r * n + i) * m + j) = (r, i, j) := by
  have h1 : ((r * n + i) * m + j) / (n * m) = r := by
    rw [Nat.mul_comm n m, ← Nat.div_div_eq_div_mul, enc_div hi hj, Nat.mul_comm r n, Nat.mul_add_div (by omega), Nat.div_eq_of_lt hi, Nat.add_zero]
  have h2 : ((r * n + i) * m + j) / m % n = i := by
    rw [enc_div hi hj, Nat.mul_comm r n, Nat.mul_add_mod, Nat.mod_eq_of_lt hi]
  have h3 : ((r * n + i) * m + j) % m = j := by
    rw [Nat.mul_comm, Nat.mul_add_mod, Nat.mod_eq_of_lt hj]
  unfold dec
  rw [h1, h2, h3]
theorem dec_lt {n m R k : Nat} (h : k < R * n * m) : (dec n m k).1 < R ∧ (dec n m k).2.1 < n ∧ (dec n m k).2.2 < m := by
  have hm : 0 < m := by
    rcases Nat.eq_zero_or_pos m with e | e
    · rw [e, Nat.mul_zero] at h; omega
    · exact e
  have hn : 0 < n := by
    rcases Nat.eq_zero_or_pos n with e | e
    · rw [e, Nat.mul_zero, Nat.zero_mul] at h; omega
    · exact e
  refine ⟨?_, Nat.mod_lt _ hn, Nat.mod_lt _ hm⟩
  show k / (n * m) < R
  rw [Nat.div_lt_iff_lt_mul (Nat.mul_pos hn hm), ← Nat.mul_assoc]
  exact h
theorem enc_dec {n m k : Nat} (hn : 0 < n) (hm : 0 < m) : enc n m (dec n m k) = k := by
  unfold enc dec
  show (k / (n * m) * n + k / m % n) * m + k % m = k
  have h1 : k / (n * m) = k / m / n := by rw [Nat.mul_comm n m, Nat.div_div_eq_div_mul]
  have h2 : k / m / n * n + k / m % n = k / m := by rw [Nat.mul_comm, Nat.div_add_mod]
  rw [h1, h2, Nat.mul_comm, Nat.div_add_mod]
/-- where the meeting stands in the text of the cloth -/
theorem enc_at {n m r i j : Nat} : (r * n + i) * m + j = i * m + j + r * (n * m) := by
  rw [Nat.add_mul, Nat.mul_assoc]; omega
theorem enc_lt {n m R r i j : Nat} (hr : r < R) (hi : i < n) (hj : j < m) : (r * n + i) * m + j < R * n * m := by
  have h1 : r * n + i + 1 ≤ R * n := by
    have : (r + 1) * n ≤ R * n := Nat.mul_le_mul_right n hr
    rw [Nat.add_mul] at this
    omega
  have h2 : (r * n + i + 1) * m ≤ R * n * m := Nat.mul_le_mul_right m h1
  rw [Nat.add_mul] at h2
  omega
/-- the first k meetings -/
def meets (n m k : Nat) : List (Nat × Nat × Nat) := (List.range k).map (dec n m)
theorem meets_zero (n m : Nat) : meets n m 0 = [] := rfl
theorem meets_succ (n m k : Nat) : meets n m (k + 1) = meets n m k ++ [dec n m k] := by
  unfold meets
  rw [List.range_succ, List.map_append]
  rfl
theorem meets_len (n m k : Nat) : (meets n m k).length = k := by unfold meets; simp
theorem meets_get {n m k c : Nat} (h : c < k) : (meets n m k)[c]? = some (dec n m c) := by
  unfold meets
  rw [List.getElem?_map, List.getElem?_range h]
  rfl
theorem meets_row {n m r i j : Nat} (hi : i < n) (hj : j < m) : meets n m ((r * n + i) * m + j + 1) = meets n m ((r * n + i) * m + j) ++ [(r, i, j)] := by
  rw [meets_succ, dec_enc hi hj]
theorem meets_nodup {n m k : Nat} (hn : 0 < n) (hm : 0 < m) : (meets n m k).Nodup := by
  unfold meets
  refine List.pairwise_map.mpr (List.Pairwise.imp (fun {a b} ne e => ne ?_) (List.nodup_range (n := k)))
  rw [← enc_dec (k := a) hn hm, ← enc_dec (k := b) hn hm, e]
theorem meets_mem {n m R : Nat} {t : Nat × Nat × Nat} (h : t ∈ meets n m (R * n * m)) : t.1 < R ∧ t.2.1 < n ∧ t.2.2 < m := by
  obtain ⟨k, hk, e⟩ := List.mem_map.mp h
  rw [← e]
  exact dec_lt (List.mem_range.mp hk)
/-! ### forms -/
inductive Rd where | turns | others | rounds | suns | moons
  deriving DecidableEq
structure Fm where
  rd : Rd
  lead : Nat
  per : Nat
def Rd.num (f : Rd) (n m : Nat) (t : Nat × Nat × Nat) : Nat := match f with
  | .turns => t.1 * m + t.2.2
  | .others => t.1 * n + t.2.1
  | .rounds => t.1
  | .suns => t.2.1
  | .moons => t.2.2
def idx (lead per x : Nat) : Nat := if x < lead then x else lead + (x - lead) % per
theorem idx_lt {lead per : Nat} (h : 0 < per) (x : Nat) : idx lead per x < lead + per := by
  unfold idx
  split
  · omega
  · have := Nat.mod_lt (x - lead) h
    omega
def Fm.len (f : Fm) : Nat := f.lead + f.per
def Fm.at_ (f : Fm) (n m : Nat) (t : Nat × Nat × Nat) : Nat := idx f.lead f.per (f.rd.num n m t)
def fsize (fs : List Fm) : Nat := fs.foldl (fun a f => a + f.len) 0
theorem fsize_snoc (fs : List Fm) (f : Fm) : fsize (fs ++ [f]) = fsize fs + f.len := by
  unfold fsize
  rw [List.foldl_append]
  rfl
def places (n m : Nat) (t : Nat × Nat × Nat) (fs : List Fm) : List Nat := (fs.foldl (fun (a : List Nat × Nat) f => (a.1 ++ [a.2 + f.at_ n m t], a.2 + f.len)) ([], 0)).1
theorem places_pair (n m : Nat) (t : Nat × Nat × Nat) (fs : List Fm) : fs.foldl (fun (a : List Nat × Nat) f => (a.1 ++ [a.2 + f.at_ n m t], a.2 + f.len)) ([], 0) = (places n m t fs, fsize fs) := by
  induction fs using snocInd with
  | h0 => rfl
  | h1 l f ih =>
    have e : (l ++ [f]).foldl (fun (a : List Nat × Nat) f => (a.1 ++ [a.2 + f.at_ n m t], a.2 + f.len)) ([], 0) = (places n m t l ++ [fsize l + f.at_ n m t], fsize l + f.len) := by
      rw [List.foldl_append, ih]
      rfl
    unfold places
    rw [e, fsize_snoc]
theorem places_snoc (n m : Nat) (t : Nat × Nat × Nat) (fs : List Fm) (f : Fm) : places n m t (fs ++ [f]) = places n m t fs ++ [fsize fs + f.at_ n m t] := by
  have := places_pair n m t fs
  unfold places
  rw [List.foldl_append, this]
  rfl
def FmOk (fs : List Fm) : Prop := ∀ f ∈ fs, 0 < f.per
theorem places_lt {n m : Nat} {t : Nat × Nat × Nat} {fs : List Fm} (h : FmOk fs) : ∀ p ∈ places n m t fs, p < fsize fs := by
  induction fs using snocInd with
  | h0 => intro p hp; cases hp
  | h1 l f ih =>
    intro p hp
    rw [places_snoc] at hp
    rw [fsize_snoc]
    rcases List.mem_append.mp hp with hp | hp
    · have := ih (fun g hg => h g (List.mem_append_left _ hg)) p hp
      omega
    · have e := List.mem_singleton.mp hp
      have := idx_lt (h f (by simp)) (lead := f.lead) (f.rd.num n m t)
      have e2 : f.at_ n m t = idx f.lead f.per (f.rd.num n m t) := rfl
      have e3 : f.len = f.lead + f.per := rfl
      omega
theorem places_len {n m : Nat} {t : Nat × Nat × Nat} {fs : List Fm} : (places n m t fs).length = fs.length := by
  induction fs using snocInd with
  | h0 => rfl
  | h1 l f ih => rw [places_snoc, List.length_append, List.length_append, ih]; rfl
theorem fsize_take_le {fs : List Fm} : ∀ i, fsize (fs.take i) ≤ fsize fs := by
  induction fs using snocInd with
  | h0 => intro i; simp
  | h1 l f ih =>
    intro i
    rw [fsize_snoc]
    by_cases h : i ≤ l.length
    · rw [List.take_append_of_le_length h]
      have := ih i
      omega
    · rw [List.take_of_length_le (by rw [List.length_append]; simp; omega), fsize_snoc]
      omega
/-- the mask of a meeting, its truth by given characters -/
def mskOf (n m : Nat) (fs : List Fm) (t : Nat × Nat × Nat) : Nat := maskOf (places n m t fs)
def truBy (n m : Nat) (fs : List Fm) (bs : List Bool) (t : Nat × Nat × Nat) : Bool := par ((places n m t fs).map fun p => bs.getD p false)
theorem truBy_dot {n m : Nat} {fs : List Fm} (h : FmOk fs) (bs : List Bool) (t : Nat × Nat × Nat) : dot (fsize fs) (mskOf n m fs t) (fun p => bs.getD p false) = truBy n m fs bs t := dot_mask _ _ _ (places_lt h)
theorem mskOf_lt {n m : Nat} {fs : List Fm} (h : FmOk fs) (t : Nat × Nat × Nat) : mskOf n m fs t < 2 ^ fsize fs := maskOf_lt _ (places_lt h)
theorem truBy_snoc (n m : Nat) (fs : List Fm) (f : Fm) (bs : List Bool) (t : Nat × Nat × Nat) : truBy n m (fs ++ [f]) bs t = Bool.xor (truBy n m fs bs t) (bs.getD (fsize fs + f.at_ n m t) false) := by
  unfold truBy
  rw [places_snoc, List.map_append]
  show par (_ ++ [_]) = _
  rw [par_snoc]
end K7
/-! text K7T -/
set_option maxHeartbeats 4000000
/-! what the top leaves, by names (printed by gen_T.py) -/
namespace K7
open PySem PySem.Spec PySem.Calls PyProof.Rows L2
structure Txt (K : PySem.W.Frag) (mg : PySem.Str → Option Value) : Prop where
  says : SaysK facts defs K
  glo : ∀ x, gloB x K = true → mg x = some (.ref (He.ga K x))
  fre : ∀ x, freeB x K = true → mg x = none
theorem Txt.mk' {K : PySem.W.Frag} {h : Heap} {mg : PySem.Str → Option Value} (c : SaysK facts defs K) (X : K.In h) (G : h.Ns mainGlobals mg) : Txt K mg :=
  ⟨c, fun x b => PySem.W.mg_of X G (He.eqO_ok b), fun x b => PySem.W.mg_none_of X G (He.eqO_ok b)⟩
/-- the promise of a def of the top, with all that a caller asks -/
def OkF (P : Program) (w : World) (K : PySem.W.Frag) (mg : PySem.Str → Option Value) (base : Heap) (k : Nat) (f : Addr) (ps : List PySem.Str) (sp : Sp) : Prop :=
  ∃ fd, FnOk P w K mg base CX0 k f fd ps sp ∧ Binds K fd ps [] ∧ PySem.W.keepIn K (.ref f) = true
theorem OkF.raw {P : Program} {w : World} {K : PySem.W.Frag} {mg : PySem.Str → Option Value} {base : Heap} {k : Nat} {f : Addr} {ps : List PySem.Str} {sp : Sp} (h : OkF P w K mg base k f ps sp) :
    FnR P w K mg base CX0 k f sp := by
  obtain ⟨fd, G, b, _⟩ := h
  exact (G.raw b .nil).imp fun vs H Q E z => by rw [List.append_nil]; exact z
theorem OkF.kp {P : Program} {w : World} {K : PySem.W.Frag} {mg : PySem.Str → Option Value} {base : Heap} {k : Nat} {f : Addr} {ps : List PySem.Str} {sp : Sp} (h : OkF P w K mg base k f ps sp) : PySem.W.keepIn K (.ref f) = true := by
  obtain ⟨fd, G, b, k⟩ := h
  exact k
section
variable {K : PySem.W.Frag} {mg : PySem.Str → Option Value} (T : Txt K mg)
theorem Txt.g1 (T : Txt K mg) (i : Nat) {x : PySem.Str} (h : glos1[i]? = some x := by rfl) : mg x = some (.ref (He.ga K x)) := T.glo x (List.all_eq_true.mp (T.says.fact 0) x (List.mem_of_getElem? h))
theorem Txt.g2 (T : Txt K mg) (i : Nat) {x : PySem.Str} (h : glos2[i]? = some x := by rfl) : mg x = some (.ref (He.ga K x)) := T.glo x (List.all_eq_true.mp (T.says.fact 1) x (List.mem_of_getElem? h))
theorem Txt.fr (T : Txt K mg) (i : Nat) {x : PySem.Str} (h : frees[i]? = some x := by rfl) : mg x = none := T.fre x (List.all_eq_true.mp (T.says.fact 2) x (List.mem_of_getElem? h))
theorem Txt.fn (T : Txt K mg) (i : Nat) {d : He5.DefA} {st : Stmt} (h : defs[i]? = some d := by rfl) (hp : d.params = defArgs st := by rfl) (hb : d.body = defBody st := by rfl) (hs : d.scope = defScope st := by rfl) (hd : d.dvs K = [] := by rfl) :
    ∃ fd, Fun K d.name d.qual st (d.at_ K) fd := by
  obtain ⟨fd, F⟩ := T.says.def_ i h
  rw [hp, hb, hs, hd] at F
  exact ⟨fd, He5.fun_of F⟩
theorem Txt.g_is_integer (T : Txt K mg) : mg "is_integer" = some (.ref (He.ga K "is_integer")) := T.g1 0
theorem Txt.g_is_count (T : Txt K mg) : mg "is_count" = some (.ref (He.ga K "is_count")) := T.g1 1
theorem Txt.g_is_number (T : Txt K mg) : mg "is_number" = some (.ref (He.ga K "is_number")) := T.g1 2
theorem Txt.g_are_bits (T : Txt K mg) : mg "are_bits" = some (.ref (He.ga K "are_bits")) := T.g1 3
theorem Txt.g_is_reader (T : Txt K mg) : mg "is_reader" = some (.ref (He.ga K "is_reader")) := T.g1 4
theorem Txt.g_bit_at (T : Txt K mg) : mg "bit_at" = some (.ref (He.ga K "bit_at")) := T.g1 5
theorem Txt.g_text_of (T : Txt K mg) : mg "text_of" = some (.ref (He.ga K "text_of")) := T.g1 6
theorem Txt.g_truth_of (T : Txt K mg) : mg "truth_of" = some (.ref (He.ga K "truth_of")) := T.g1 7
theorem Txt.g_joined_rule (T : Txt K mg) : mg "joined_rule" = some (.ref (He.ga K "joined_rule")) := T.g1 8
theorem Txt.g_numbers_of (T : Txt K mg) : mg "numbers_of" = some (.ref (He.ga K "numbers_of")) := T.g1 9
theorem Txt.g_every_meeting (T : Txt K mg) : mg "every_meeting" = some (.ref (He.ga K "every_meeting")) := T.g1 10
theorem Txt.g_mask_at (T : Txt K mg) : mg "mask_at" = some (.ref (He.ga K "mask_at")) := T.g1 11
theorem Txt.g_many_characters (T : Txt K mg) : mg "many_characters" = some (.ref (He.ga K "many_characters")) := T.g1 12
theorem Txt.g_sums_of (T : Txt K mg) : mg "sums_of" = some (.ref (He.ga K "sums_of")) := T.g1 13
theorem Txt.g_refusal (T : Txt K mg) : mg "refusal" = some (.ref (He.ga K "refusal")) := T.g1 14
theorem Txt.g_is_refusal (T : Txt K mg) : mg "is_refusal" = some (.ref (He.ga K "is_refusal")) := T.g1 15
theorem Txt.g_is_meeting_of (T : Txt K mg) : mg "is_meeting_of" = some (.ref (He.ga K "is_meeting_of")) := T.g1 16
theorem Txt.g_many_told (T : Txt K mg) : mg "many_told" = some (.ref (He.ga K "many_told")) := T.g1 17
theorem Txt.g_told_back (T : Txt K mg) : mg "told_back" = some (.ref (He.ga K "told_back")) := T.g1 18
theorem Txt.g_crossings (T : Txt K mg) : mg "crossings" = some (.ref (He.ga K "crossings")) := T.g1 19
theorem Txt.g__law_bag (T : Txt K mg) : mg "_law_bag" = some (.ref (He.ga K "_law_bag")) := T.g1 20
theorem Txt.g__law_take (T : Txt K mg) : mg "_law_take" = some (.ref (He.ga K "_law_take")) := T.g1 21
theorem Txt.g__law_alike (T : Txt K mg) : mg "_law_alike" = some (.ref (He.ga K "_law_alike")) := T.g2 0
theorem Txt.g__law_mixed (T : Txt K mg) : mg "_law_mixed" = some (.ref (He.ga K "_law_mixed")) := T.g2 1
theorem Txt.g__law_pick (T : Txt K mg) : mg "_law_pick" = some (.ref (He.ga K "_law_pick")) := T.g2 2
theorem Txt.g__law_my_forms (T : Txt K mg) : mg "_law_my_forms" = some (.ref (He.ga K "_law_my_forms")) := T.g2 3
theorem Txt.g__law_my_places (T : Txt K mg) : mg "_law_my_places" = some (.ref (He.ga K "_law_my_places")) := T.g2 4
theorem Txt.g__law_my_size (T : Txt K mg) : mg "_law_my_size" = some (.ref (He.ga K "_law_my_size")) := T.g2 5
theorem Txt.g__law_my_meetings (T : Txt K mg) : mg "_law_my_meetings" = some (.ref (He.ga K "_law_my_meetings")) := T.g2 6
theorem Txt.g__law_my_woven (T : Txt K mg) : mg "_law_my_woven" = some (.ref (He.ga K "_law_my_woven")) := T.g2 7
theorem Txt.g__law_my_crossings (T : Txt K mg) : mg "_law_my_crossings" = some (.ref (He.ga K "_law_my_crossings")) := T.g2 8
theorem Txt.g__law_my_refuses (T : Txt K mg) : mg "_law_my_refuses" = some (.ref (He.ga K "_law_my_refuses")) := T.g2 9
theorem Txt.g__law_my_two (T : Txt K mg) : mg "_law_my_two" = some (.ref (He.ga K "_law_my_two")) := T.g2 10
theorem Txt.g__law_my_shuffled (T : Txt K mg) : mg "_law_my_shuffled" = some (.ref (He.ga K "_law_my_shuffled")) := T.g2 11
theorem Txt.g__law_refusal_right (T : Txt K mg) : mg "_law_refusal_right" = some (.ref (He.ga K "_law_refusal_right")) := T.g2 12
theorem Txt.g__law_words_right (T : Txt K mg) : mg "_law_words_right" = some (.ref (He.ga K "_law_words_right")) := T.g2 13
theorem Txt.g__law_right (T : Txt K mg) : mg "_law_right" = some (.ref (He.ga K "_law_right")) := T.g2 14
theorem Txt.g_law (T : Txt K mg) : mg "law" = some (.ref (He.ga K "law")) := T.g2 15
theorem Txt.g_Word (T : Txt K mg) : mg "Word" = some (.ref (He.ga K "Word")) := T.g2 16
theorem Txt.g_Rule (T : Txt K mg) : mg "Rule" = some (.ref (He.ga K "Rule")) := T.g2 17
theorem Txt.g_Sums (T : Txt K mg) : mg "Sums" = some (.ref (He.ga K "Sums")) := T.g2 18
theorem Txt.g_Dance (T : Txt K mg) : mg "Dance" = some (.ref (He.ga K "Dance")) := T.g2 19
theorem Txt.g_READERS (T : Txt K mg) : mg "READERS" = some (.ref (He.ga K "READERS")) := T.g2 20
theorem Txt.g_PAIRS (T : Txt K mg) : mg "PAIRS" = some (.ref (He.ga K "PAIRS")) := T.g2 21
theorem Txt.m_isinstance (T : Txt K mg) : mg "isinstance" = none := T.fr 0
theorem Txt.m_int (T : Txt K mg) : mg "int" = none := T.fr 1
theorem Txt.m_bool (T : Txt K mg) : mg "bool" = none := T.fr 2
theorem Txt.m_str (T : Txt K mg) : mg "str" = none := T.fr 3
theorem Txt.m_tuple (T : Txt K mg) : mg "tuple" = none := T.fr 4
theorem Txt.m_list (T : Txt K mg) : mg "list" = none := T.fr 5
theorem Txt.m_dict (T : Txt K mg) : mg "dict" = none := T.fr 6
theorem Txt.m_set (T : Txt K mg) : mg "set" = none := T.fr 7
theorem Txt.m_all (T : Txt K mg) : mg "all" = none := T.fr 8
theorem Txt.m_len (T : Txt K mg) : mg "len" = none := T.fr 9
theorem Txt.m_max (T : Txt K mg) : mg "max" = none := T.fr 10
theorem Txt.m_range (T : Txt K mg) : mg "range" = none := T.fr 11
theorem Txt.m_sum (T : Txt K mg) : mg "sum" = none := T.fr 12
theorem Txt.m_enumerate (T : Txt K mg) : mg "enumerate" = none := T.fr 13
theorem Txt.m_zip (T : Txt K mg) : mg "zip" = none := T.fr 14
theorem Txt.m_sorted (T : Txt K mg) : mg "sorted" = none := T.fr 15
theorem Txt.m_repr (T : Txt K mg) : mg "repr" = none := T.fr 16
theorem Txt.m_abs (T : Txt K mg) : mg "abs" = none := T.fr 17
theorem Txt.s_Word (T : Txt K mg) : SlX.SCls K (He.ga K "Word") := by
  have h := T.says.fact 5
  obtain ⟨h1, h⟩ := He.ba h
  obtain ⟨h2, h⟩ := He.ba h
  obtain ⟨h3, h4⟩ := He.ba h
  exact ⟨h1, h2, h3, He.eqO_ok h4⟩
theorem Txt.s_Rule (T : Txt K mg) : SlX.SCls K (He.ga K "Rule") := by
  have h := T.says.fact 6
  obtain ⟨h1, h⟩ := He.ba h
  obtain ⟨h2, h⟩ := He.ba h
  obtain ⟨h3, h4⟩ := He.ba h
  exact ⟨h1, h2, h3, He.eqO_ok h4⟩
theorem Txt.s_Sums (T : Txt K mg) : SlX.SCls K (He.ga K "Sums") := by
  have h := T.says.fact 7
  obtain ⟨h1, h⟩ := He.ba h
  obtain ⟨h2, h⟩ := He.ba h
  obtain ⟨h3, h4⟩ := He.ba h
  exact ⟨h1, h2, h3, He.eqO_ok h4⟩
theorem Txt.s_Dance (T : Txt K mg) : SlX.SCls K (He.ga K "Dance") := by
  have h := T.says.fact 8
  obtain ⟨h1, h⟩ := He.ba h
  obtain ⟨h2, h⟩ := He.ba h
  obtain ⟨h3, h4⟩ := He.ba h
  exact ⟨h1, h2, h3, He.eqO_ok h4⟩
theorem Txt.i_Word (T : Txt K mg) : SlX.SIsi K (He.ga K "Word") := by
  have h := T.says.fact 9
  obtain ⟨h1, h⟩ := He.ba h
  obtain ⟨h2, h⟩ := He.ba h
  obtain ⟨h3, h4⟩ := He.ba h
  exact ⟨He.eqO_ok h1, He.eqO_ok h2, of_decide_eq_true h3, of_decide_eq_true h4⟩
theorem Txt.k_Word (T : Txt K mg) : PySem.W.kitOne K (.ref (He.ga K "Word")) (.ref (He.ga K "Word")) = some true := of_decide_eq_true (T.says.fact 11)
theorem Txt.i_Rule (T : Txt K mg) : SlX.SIsi K (He.ga K "Rule") := by
  have h := T.says.fact 10
  obtain ⟨h1, h⟩ := He.ba h
  obtain ⟨h2, h⟩ := He.ba h
  obtain ⟨h3, h4⟩ := He.ba h
  exact ⟨He.eqO_ok h1, He.eqO_ok h2, of_decide_eq_true h3, of_decide_eq_true h4⟩
theorem Txt.k_Rule (T : Txt K mg) : PySem.W.kitOne K (.ref (He.ga K "Rule")) (.ref (He.ga K "Rule")) = some true := of_decide_eq_true (T.says.fact 12)
theorem Txt.l_its_early (T : Txt K mg) : SlX.Slot1 K (He.ga K "Word") "its_early" (He.ma K (He.ga K "Word") "its_early") 1 := by
  have h := T.says.fact 13
  obtain ⟨h1, h⟩ := He.ba h
  obtain ⟨h2, h⟩ := He.ba h
  obtain ⟨h3, h⟩ := He.ba h
  obtain ⟨h4, h5⟩ := He.ba h
  exact ⟨He.eqO_ok h1, He.eqO_ok h2, of_decide_eq_true h3, of_decide_eq_true h4, of_decide_eq_true h5, by decide⟩
theorem Txt.l_its_again (T : Txt K mg) : SlX.Slot1 K (He.ga K "Word") "its_again" (He.ma K (He.ga K "Word") "its_again") 0 := by
  have h := T.says.fact 14
  obtain ⟨h1, h⟩ := He.ba h
  obtain ⟨h2, h⟩ := He.ba h
  obtain ⟨h3, h⟩ := He.ba h
  obtain ⟨h4, h5⟩ := He.ba h
  exact ⟨He.eqO_ok h1, He.eqO_ok h2, of_decide_eq_true h3, of_decide_eq_true h4, of_decide_eq_true h5, by decide⟩
theorem Txt.l_its_parts (T : Txt K mg) : SlX.Slot1 K (He.ga K "Rule") "its_parts" (He.ma K (He.ga K "Rule") "its_parts") 0 := by
  have h := T.says.fact 15
  obtain ⟨h1, h⟩ := He.ba h
  obtain ⟨h2, h⟩ := He.ba h
  obtain ⟨h3, h⟩ := He.ba h
  obtain ⟨h4, h5⟩ := He.ba h
  exact ⟨He.eqO_ok h1, He.eqO_ok h2, of_decide_eq_true h3, of_decide_eq_true h4, of_decide_eq_true h5, by decide⟩
theorem Txt.l_its_rows (T : Txt K mg) : SlX.Slot1 K (He.ga K "Sums") "its_rows" (He.ma K (He.ga K "Sums") "its_rows") 0 := by
  have h := T.says.fact 16
  obtain ⟨h1, h⟩ := He.ba h
  obtain ⟨h2, h⟩ := He.ba h
  obtain ⟨h3, h⟩ := He.ba h
  obtain ⟨h4, h5⟩ := He.ba h
  exact ⟨He.eqO_ok h1, He.eqO_ok h2, of_decide_eq_true h3, of_decide_eq_true h4, of_decide_eq_true h5, by decide⟩
theorem Txt.l_its_suns (T : Txt K mg) : SlX.Slot1 K (He.ga K "Dance") "its_suns" (He.ma K (He.ga K "Dance") "its_suns") 3 := by
  have h := T.says.fact 17
  obtain ⟨h1, h⟩ := He.ba h
  obtain ⟨h2, h⟩ := He.ba h
  obtain ⟨h3, h⟩ := He.ba h
  obtain ⟨h4, h5⟩ := He.ba h
  exact ⟨He.eqO_ok h1, He.eqO_ok h2, of_decide_eq_true h3, of_decide_eq_true h4, of_decide_eq_true h5, by decide⟩
theorem Txt.l_its_moons (T : Txt K mg) : SlX.Slot1 K (He.ga K "Dance") "its_moons" (He.ma K (He.ga K "Dance") "its_moons") 0 := by
  have h := T.says.fact 18
  obtain ⟨h1, h⟩ := He.ba h
  obtain ⟨h2, h⟩ := He.ba h
  obtain ⟨h3, h⟩ := He.ba h
  obtain ⟨h4, h5⟩ := He.ba h
  exact ⟨He.eqO_ok h1, He.eqO_ok h2, of_decide_eq_true h3, of_decide_eq_true h4, of_decide_eq_true h5, by decide⟩
theorem Txt.l_its_rounds (T : Txt K mg) : SlX.Slot1 K (He.ga K "Dance") "its_rounds" (He.ma K (He.ga K "Dance") "its_rounds") 1 := by
  have h := T.says.fact 19
  obtain ⟨h1, h⟩ := He.ba h
  obtain ⟨h2, h⟩ := He.ba h
  obtain ⟨h3, h⟩ := He.ba h
  obtain ⟨h4, h5⟩ := He.ba h
  exact ⟨He.eqO_ok h1, He.eqO_ok h2, of_decide_eq_true h3, of_decide_eq_true h4, of_decide_eq_true h5, by decide⟩
theorem Txt.l_its_rule (T : Txt K mg) : SlX.Slot1 K (He.ga K "Dance") "its_rule" (He.ma K (He.ga K "Dance") "its_rule") 2 := by
  have h := T.says.fact 20
  obtain ⟨h1, h⟩ := He.ba h
  obtain ⟨h2, h⟩ := He.ba h
  obtain ⟨h3, h⟩ := He.ba h
  obtain ⟨h4, h5⟩ := He.ba h
  exact ⟨He.eqO_ok h1, He.eqO_ok h2, of_decide_eq_true h3, of_decide_eq_true h4, of_decide_eq_true h5, by decide⟩
theorem Txt.kWord (T : Txt K mg) : Mk K (He.ga K "Word") (He.ma K (He.ga K "Word") "__init__") := by
  have h := T.says.fact 21
  obtain ⟨h1, h⟩ := He.ba h
  obtain ⟨h2, h⟩ := He.ba h
  obtain ⟨h3, h4⟩ := He.ba h
  exact ⟨h1, He.eqO_ok h2, h3, h4⟩
theorem Txt.kRule (T : Txt K mg) : Mk K (He.ga K "Rule") (He.ma K (He.ga K "Rule") "__init__") := by
  have h := T.says.fact 22
  obtain ⟨h1, h⟩ := He.ba h
  obtain ⟨h2, h⟩ := He.ba h
  obtain ⟨h3, h4⟩ := He.ba h
  exact ⟨h1, He.eqO_ok h2, h3, h4⟩
theorem Txt.kSums (T : Txt K mg) : Mk K (He.ga K "Sums") (He.ma K (He.ga K "Sums") "__init__") := by
  have h := T.says.fact 23
  obtain ⟨h1, h⟩ := He.ba h
  obtain ⟨h2, h⟩ := He.ba h
  obtain ⟨h3, h4⟩ := He.ba h
  exact ⟨h1, He.eqO_ok h2, h3, h4⟩
theorem Txt.kDance (T : Txt K mg) : Mk K (He.ga K "Dance") (He.ma K (He.ga K "Dance") "__init__") := by
  have h := T.says.fact 24
  obtain ⟨h1, h⟩ := He.ba h
  obtain ⟨h2, h⟩ := He.ba h
  obtain ⟨h3, h4⟩ := He.ba h
  exact ⟨h1, He.eqO_ok h2, h3, h4⟩
theorem Txt.me_call (T : Txt K mg) : Meth K (He.ga K "Rule") "__call__" (He.ma K (He.ga K "Rule") "__call__") ∧ PySem.W.fnIn K (He.ma K (He.ga K "Rule") "__call__") = true := by
  have h := T.says.fact 25
  obtain ⟨h1, h⟩ := He.ba h
  obtain ⟨h2, h⟩ := He.ba h
  obtain ⟨h3, h4⟩ := He.ba h
  exact ⟨⟨He.eqO_ok h1, h2, h3⟩, h4⟩
theorem Txt.me_xor (T : Txt K mg) : Meth K (He.ga K "Rule") "__xor__" (He.ma K (He.ga K "Rule") "__xor__") ∧ PySem.W.fnIn K (He.ma K (He.ga K "Rule") "__xor__") = true := by
  have h := T.says.fact 26
  obtain ⟨h1, h⟩ := He.ba h
  obtain ⟨h2, h⟩ := He.ba h
  obtain ⟨h3, h4⟩ := He.ba h
  exact ⟨⟨He.eqO_ok h1, h2, h3⟩, h4⟩
theorem Txt.me_reduced (T : Txt K mg) : Meth K (He.ga K "Sums") "reduced" (He.ma K (He.ga K "Sums") "reduced") ∧ PySem.W.fnIn K (He.ma K (He.ga K "Sums") "reduced") = true := by
  have h := T.says.fact 27
  obtain ⟨h1, h⟩ := He.ba h
  obtain ⟨h2, h⟩ := He.ba h
  obtain ⟨h3, h4⟩ := He.ba h
  exact ⟨⟨He.eqO_ok h1, h2, h3⟩, h4⟩
theorem Txt.me_put (T : Txt K mg) : Meth K (He.ga K "Sums") "put" (He.ma K (He.ga K "Sums") "put") ∧ PySem.W.fnIn K (He.ma K (He.ga K "Sums") "put") = true := by
  have h := T.says.fact 28
  obtain ⟨h1, h⟩ := He.ba h
  obtain ⟨h2, h⟩ := He.ba h
  obtain ⟨h3, h4⟩ := He.ba h
  exact ⟨⟨He.eqO_ok h1, h2, h3⟩, h4⟩
theorem Txt.me_rank (T : Txt K mg) : Meth K (He.ga K "Sums") "rank" (He.ma K (He.ga K "Sums") "rank") ∧ PySem.W.fnIn K (He.ma K (He.ga K "Sums") "rank") = true := by
  have h := T.says.fact 29
  obtain ⟨h1, h⟩ := He.ba h
  obtain ⟨h2, h⟩ := He.ba h
  obtain ⟨h3, h4⟩ := He.ba h
  exact ⟨⟨He.eqO_ok h1, h2, h3⟩, h4⟩
theorem Txt.me_is_meeting (T : Txt K mg) : Meth K (He.ga K "Dance") "is_meeting" (He.ma K (He.ga K "Dance") "is_meeting") ∧ PySem.W.fnIn K (He.ma K (He.ga K "Dance") "is_meeting") = true := by
  have h := T.says.fact 30
  obtain ⟨h1, h⟩ := He.ba h
  obtain ⟨h2, h⟩ := He.ba h
  obtain ⟨h3, h4⟩ := He.ba h
  exact ⟨⟨He.eqO_ok h1, h2, h3⟩, h4⟩
theorem Txt.me_need_meeting (T : Txt K mg) : Meth K (He.ga K "Dance") "need_meeting" (He.ma K (He.ga K "Dance") "need_meeting") ∧ PySem.W.fnIn K (He.ma K (He.ga K "Dance") "need_meeting") = true := by
  have h := T.says.fact 31
  obtain ⟨h1, h⟩ := He.ba h
  obtain ⟨h2, h⟩ := He.ba h
  obtain ⟨h3, h4⟩ := He.ba h
  exact ⟨⟨He.eqO_ok h1, h2, h3⟩, h4⟩
theorem Txt.me_above (T : Txt K mg) : Meth K (He.ga K "Dance") "above" (He.ma K (He.ga K "Dance") "above") ∧ PySem.W.fnIn K (He.ma K (He.ga K "Dance") "above") = true := by
  have h := T.says.fact 32
  obtain ⟨h1, h⟩ := He.ba h
  obtain ⟨h2, h⟩ := He.ba h
  obtain ⟨h3, h4⟩ := He.ba h
  exact ⟨⟨He.eqO_ok h1, h2, h3⟩, h4⟩
theorem Txt.p_early (T : Txt K mg) : PySem.W.findIn K (.ref (He.ga K "Word")) "early" = some (some (.ref (He.ma K (He.ga K "Word") "early"))) ∧ PySem.W.specialIn K (.ref (He.ma K (He.ga K "Word") "early")) "__get__" = some (some (.builtin "property.__get__")) ∧
    PySem.W.takesIn K (.ref (He.ma K (He.ga K "Word") "early")) = some true ∧ ∃ rest, PySem.W.recIn K (He.ma K (He.ga K "Word") "early") "property" = some (.ref (He5.wf K (He.ga K "Word") "property" "early") :: rest) := by
  have h := T.says.fact 33
  obtain ⟨h1, h⟩ := He.ba h
  obtain ⟨h2, h⟩ := He.ba h
  obtain ⟨h3, h4⟩ := He.ba h
  refine ⟨He.eqO_ok h1, He.eqO_ok h2, of_decide_eq_true h3, ?_⟩
  unfold He5.wf
  split at h4
  · rename_i f r e
    exact ⟨r, by rw [e]⟩
  · cases h4
theorem Txt.p_again (T : Txt K mg) : PySem.W.findIn K (.ref (He.ga K "Word")) "again" = some (some (.ref (He.ma K (He.ga K "Word") "again"))) ∧ PySem.W.specialIn K (.ref (He.ma K (He.ga K "Word") "again")) "__get__" = some (some (.builtin "property.__get__")) ∧
    PySem.W.takesIn K (.ref (He.ma K (He.ga K "Word") "again")) = some true ∧ ∃ rest, PySem.W.recIn K (He.ma K (He.ga K "Word") "again") "property" = some (.ref (He5.wf K (He.ga K "Word") "property" "again") :: rest) := by
  have h := T.says.fact 34
  obtain ⟨h1, h⟩ := He.ba h
  obtain ⟨h2, h⟩ := He.ba h
  obtain ⟨h3, h4⟩ := He.ba h
  refine ⟨He.eqO_ok h1, He.eqO_ok h2, of_decide_eq_true h3, ?_⟩
  unfold He5.wf
  split at h4
  · rename_i f r e
    exact ⟨r, by rw [e]⟩
  · cases h4
theorem Txt.p_lead (T : Txt K mg) : PySem.W.findIn K (.ref (He.ga K "Word")) "lead" = some (some (.ref (He.ma K (He.ga K "Word") "lead"))) ∧ PySem.W.specialIn K (.ref (He.ma K (He.ga K "Word") "lead")) "__get__" = some (some (.builtin "property.__get__")) ∧
    PySem.W.takesIn K (.ref (He.ma K (He.ga K "Word") "lead")) = some true ∧ ∃ rest, PySem.W.recIn K (He.ma K (He.ga K "Word") "lead") "property" = some (.ref (He5.wf K (He.ga K "Word") "property" "lead") :: rest) := by
  have h := T.says.fact 35
  obtain ⟨h1, h⟩ := He.ba h
  obtain ⟨h2, h⟩ := He.ba h
  obtain ⟨h3, h4⟩ := He.ba h
  refine ⟨He.eqO_ok h1, He.eqO_ok h2, of_decide_eq_true h3, ?_⟩
  unfold He5.wf
  split at h4
  · rename_i f r e
    exact ⟨r, by rw [e]⟩
  · cases h4
theorem Txt.p_period (T : Txt K mg) : PySem.W.findIn K (.ref (He.ga K "Word")) "period" = some (some (.ref (He.ma K (He.ga K "Word") "period"))) ∧ PySem.W.specialIn K (.ref (He.ma K (He.ga K "Word") "period")) "__get__" = some (some (.builtin "property.__get__")) ∧
    PySem.W.takesIn K (.ref (He.ma K (He.ga K "Word") "period")) = some true ∧ ∃ rest, PySem.W.recIn K (He.ma K (He.ga K "Word") "period") "property" = some (.ref (He5.wf K (He.ga K "Word") "property" "period") :: rest) := by
  have h := T.says.fact 36
  obtain ⟨h1, h⟩ := He.ba h
  obtain ⟨h2, h⟩ := He.ba h
  obtain ⟨h3, h4⟩ := He.ba h
  refine ⟨He.eqO_ok h1, He.eqO_ok h2, of_decide_eq_true h3, ?_⟩
  unfold He5.wf
  split at h4
  · rename_i f r e
    exact ⟨r, by rw [e]⟩
  · cases h4
theorem Txt.p_suns (T : Txt K mg) : PySem.W.findIn K (.ref (He.ga K "Dance")) "suns" = some (some (.ref (He.ma K (He.ga K "Dance") "suns"))) ∧ PySem.W.specialIn K (.ref (He.ma K (He.ga K "Dance") "suns")) "__get__" = some (some (.builtin "property.__get__")) ∧
    PySem.W.takesIn K (.ref (He.ma K (He.ga K "Dance") "suns")) = some true ∧ ∃ rest, PySem.W.recIn K (He.ma K (He.ga K "Dance") "suns") "property" = some (.ref (He5.wf K (He.ga K "Dance") "property" "suns") :: rest) := by
  have h := T.says.fact 37
  obtain ⟨h1, h⟩ := He.ba h
  obtain ⟨h2, h⟩ := He.ba h
  obtain ⟨h3, h4⟩ := He.ba h
  refine ⟨He.eqO_ok h1, He.eqO_ok h2, of_decide_eq_true h3, ?_⟩
  unfold He5.wf
  split at h4
  · rename_i f r e
    exact ⟨r, by rw [e]⟩
  · cases h4
theorem Txt.p_moons (T : Txt K mg) : PySem.W.findIn K (.ref (He.ga K "Dance")) "moons" = some (some (.ref (He.ma K (He.ga K "Dance") "moons"))) ∧ PySem.W.specialIn K (.ref (He.ma K (He.ga K "Dance") "moons")) "__get__" = some (some (.builtin "property.__get__")) ∧
    PySem.W.takesIn K (.ref (He.ma K (He.ga K "Dance") "moons")) = some true ∧ ∃ rest, PySem.W.recIn K (He.ma K (He.ga K "Dance") "moons") "property" = some (.ref (He5.wf K (He.ga K "Dance") "property" "moons") :: rest) := by
  have h := T.says.fact 38
  obtain ⟨h1, h⟩ := He.ba h
  obtain ⟨h2, h⟩ := He.ba h
  obtain ⟨h3, h4⟩ := He.ba h
  refine ⟨He.eqO_ok h1, He.eqO_ok h2, of_decide_eq_true h3, ?_⟩
  unfold He5.wf
  split at h4
  · rename_i f r e
    exact ⟨r, by rw [e]⟩
  · cases h4
theorem Txt.p_rounds (T : Txt K mg) : PySem.W.findIn K (.ref (He.ga K "Dance")) "rounds" = some (some (.ref (He.ma K (He.ga K "Dance") "rounds"))) ∧ PySem.W.specialIn K (.ref (He.ma K (He.ga K "Dance") "rounds")) "__get__" = some (some (.builtin "property.__get__")) ∧
    PySem.W.takesIn K (.ref (He.ma K (He.ga K "Dance") "rounds")) = some true ∧ ∃ rest, PySem.W.recIn K (He.ma K (He.ga K "Dance") "rounds") "property" = some (.ref (He5.wf K (He.ga K "Dance") "property" "rounds") :: rest) := by
  have h := T.says.fact 39
  obtain ⟨h1, h⟩ := He.ba h
  obtain ⟨h2, h⟩ := He.ba h
  obtain ⟨h3, h4⟩ := He.ba h
  refine ⟨He.eqO_ok h1, He.eqO_ok h2, of_decide_eq_true h3, ?_⟩
  unfold He5.wf
  split at h4
  · rename_i f r e
    exact ⟨r, by rw [e]⟩
  · cases h4
theorem Txt.st_by (T : Txt K mg) (kp : PySem.W.keepIn K (.ref (He5.wf K (He.ga K "Rule") "staticmethod" "by")) = true) : SMet K (He.ga K "Rule") "by" (He.ma K (He.ga K "Rule") "by") (He5.wf K (He.ga K "Rule") "staticmethod" "by") := by
  have h := T.says.fact 40
  obtain ⟨h1, h⟩ := He.ba h
  obtain ⟨h2, h3⟩ := He.ba h
  obtain ⟨h4, h5⟩ := He5.wrapB_ok h3
  exact ⟨h1, He.eqO_ok h2, h4, h5, kp⟩
theorem Txt.st_always (T : Txt K mg) (kp : PySem.W.keepIn K (.ref (He5.wf K (He.ga K "Rule") "staticmethod" "always")) = true) : SMet K (He.ga K "Rule") "always" (He.ma K (He.ga K "Rule") "always") (He5.wf K (He.ga K "Rule") "staticmethod" "always") := by
  have h := T.says.fact 41
  obtain ⟨h1, h⟩ := He.ba h
  obtain ⟨h2, h3⟩ := He.ba h
  obtain ⟨h4, h5⟩ := He5.wrapB_ok h3
  exact ⟨h1, He.eqO_ok h2, h4, h5, kp⟩
theorem Txt.selfRule (T : Txt K mg) : PySem.W.selfFirst K (He.ga K "Rule") = true := T.says.fact 42
theorem Txt.readers (T : Txt K mg) (H : Hp) : SqT K H (He.ga K "READERS") [.str "turns", .str "others", .str "rounds", .str "suns", .str "moons"] := He.tupB_ok (T.says.fact 3) H
theorem Txt.pairs (T : Txt K mg) (H : Hp) : SqT K H (He.ga K "PAIRS") [.str "and", .str "or", .str "unlike"] := He.tupB_ok (T.says.fact 4) H
end
end K7
/-! text K7L -/
set_option maxHeartbeats 4000000
/-! comprehensions that map: flat items; new tuples -/
namespace K7
open PySem PySem.Spec PySem.Calls PyProof.Rows L2
theorem tYes_eq {σ2 : L2.St} {H2 : Hp} {A B : Hp → Prop} : (tYes σ2 H2 fun b H3 => if b = true then A H3 else B H3) = A H2 := by
  show (if true = true then A H2 else B H2) = A H2
  rw [if_pos rfl]
theorem same_upd {H H' : Hp} {D : Addr} {o : HO} (s : Same H H') (h : H D = none) : Same H (upd H' D o) := fun b u e => by
  rw [upd_ne (ne_of_none e h)]
  exact s b u e
theorem map_snoc {f : Nat → V} {n : Nat} : (List.range (n + 1)).map f = (List.range n).map f ++ [f n] := by
  rw [List.range_succ, List.map_append] <;> rfl
section
variable {J : It} {n : Nat} {G : Hp → Prop} {Y : Nat → Hp → V → Hp → Prop}
theorem lc_flat (w : Walk J n G Y) {g : TG} {te : TE} {vs : List Nat} {σ : L2.St} {H1 : Hp} {D : Addr} {Qd : Hp → Prop} (f : Nat → V) (hD : H1 D = none) (hn : n < sizeLine) (hG : ∀ H, Same H1 H → G H)
    (hs : ∀ i x H H' (Kt : VK), i < n → Same H1 H → Y i H x H' → (∀ H4, Same H' H4 → Kt (f i) H4) → g x (wipe σ vs) H' fun σ2 H2 => wipe σ2 vs = wipe σ vs ∧ te σ2 H2 Kt)
    (hY : ∀ i H x H', Y i H x H' → Same H H')
    (hd : ∀ H, Same H1 H → H D = some (.lst ((List.range n).map f)) → Qd H) :
    ∃ W : Nat → Nat → Hp → Prop, (∃ m, W 0 m (upd H1 D (.lst []))) ∧ ∀ i m H, W i m H →
      (J.stop i H ∧ Qd H) ∨ (J.go i H ∧ ∃ Nx : Hp → Prop, (∀ H', Nx H' → ∃ m', m' < m ∧ W (i + 1) m' H') ∧ ∀ x H', J.yld i H x H' → g x (wipe σ vs) H' fun σ2 H2 => wipe σ2 vs = wipe σ vs ∧ tYes σ2 H2 fun b H3 =>
        if b = true then te σ2 H3 fun y H4 => ∃ acc, H4 D = some (.lst acc) ∧ acc.length < sizeLine ∧ Nx (upd H4 D (.lst (acc ++ [y]))) else Nx H3) := by
  refine lc_it w (fun i H => Same H1 H ∧ H D = some (.lst ((List.range i).map f))) ⟨same_upd (Same.refl _) hD, upd_same⟩ (fun i H _ p => hG H p.1) (fun i x H H' hi p y => ?_) (fun H p => hd H p.1 p.2)
  have z := hs i x H H' (fun y H4 => ∃ acc, H4 D = some (.lst acc) ∧ acc.length < sizeLine ∧ (Same H1 (upd H4 D (.lst (acc ++ [y]))) ∧ (upd H4 D (.lst (acc ++ [y]))) D = some (.lst ((List.range (i + 1)).map f)))) hi p.1 y (fun H4 s4 => ?_)
  · have e : (fun (σ2 : L2.St) (H2 : Hp) => wipe σ2 vs = wipe σ vs ∧ tYes σ2 H2 fun b H3 => if b = true then te σ2 H3 (fun y H4 => ∃ acc, H4 D = some (.lst acc) ∧ acc.length < sizeLine ∧ (Same H1 (upd H4 D (.lst (acc ++ [y]))) ∧ (upd H4 D (.lst (acc ++ [y]))) D = some (.lst ((List.range (i + 1)).map f)))) else (Same H1 H3 ∧ H3 D = some (.lst ((List.range (i + 1)).map f))))
      = (fun (σ2 : L2.St) (H2 : Hp) => wipe σ2 vs = wipe σ vs ∧ te σ2 H2 (fun y H4 => ∃ acc, H4 D = some (.lst acc) ∧ acc.length < sizeLine ∧ (Same H1 (upd H4 D (.lst (acc ++ [y]))) ∧ (upd H4 D (.lst (acc ++ [y]))) D = some (.lst ((List.range (i + 1)).map f))))) := by
      funext σ2 H2
      rw [tYes_eq]
    rw [e]
    exact z
  · have s2 : Same H H4 := (hY i H x H' y).trans s4
    refine ⟨(List.range i).map f, s2 _ _ p.2, by rw [List.length_map, List.length_range]; omega, same_upd (p.1.trans s2) hD, ?_⟩
    rw [upd_same, map_snoc]
/-- items are new tuples g i -/
theorem lc_tups (w : Walk J n G Y) {g : TG} {te : TE} {vs : List Nat} {σ : L2.St} {H1 : Hp} {D : Addr} {Qd : Hp → Prop} (f : Nat → List V) (hD : H1 D = none) (hn : n < sizeLine) (hG : ∀ H, Same H1 H → G H)
    (hs : ∀ i x H H' (Kt : VK), i < n → Same H1 H → Y i H x H' → (∀ a H4, Same H' H4 → H4 a = some (.tup (f i)) → Kt (.ref a) H4) → g x (wipe σ vs) H' fun σ2 H2 => wipe σ2 vs = wipe σ vs ∧ te σ2 H2 Kt)
    (hY : ∀ i H x H', Y i H x H' → Same H H')
    (hd : ∀ H (as : List Addr), Same H1 H → as.length = n → (∀ i a, as[i]? = some a → H a = some (.tup (f i))) → H D = some (.lst (as.map V.ref)) → Qd H) :
    ∃ W : Nat → Nat → Hp → Prop, (∃ m, W 0 m (upd H1 D (.lst []))) ∧ ∀ i m H, W i m H →
      (J.stop i H ∧ Qd H) ∨ (J.go i H ∧ ∃ Nx : Hp → Prop, (∀ H', Nx H' → ∃ m', m' < m ∧ W (i + 1) m' H') ∧ ∀ x H', J.yld i H x H' → g x (wipe σ vs) H' fun σ2 H2 => wipe σ2 vs = wipe σ vs ∧ tYes σ2 H2 fun b H3 =>
        if b = true then te σ2 H3 fun y H4 => ∃ acc, H4 D = some (.lst acc) ∧ acc.length < sizeLine ∧ Nx (upd H4 D (.lst (acc ++ [y]))) else Nx H3) := by
  refine lc_it w (fun i H => Same H1 H ∧ ∃ as : List Addr, as.length = i ∧ (∀ j a, as[j]? = some a → H a = some (.tup (f j))) ∧ H D = some (.lst (as.map V.ref))) ⟨same_upd (Same.refl _) hD, [], rfl, fun j a e => by simp at e, upd_same⟩ (fun i H _ p => hG H p.1) (fun i x H H' hi p y => ?_) (fun H p => ?_)
  · obtain ⟨p1, as, hl, ha, hL⟩ := p
    have z := hs i x H H' (fun y H4 => ∃ acc, H4 D = some (.lst acc) ∧ acc.length < sizeLine ∧ (Same H1 (upd H4 D (.lst (acc ++ [y]))) ∧ ∃ as : List Addr, as.length = i + 1 ∧ (∀ j a, as[j]? = some a → (upd H4 D (.lst (acc ++ [y]))) a = some (.tup (f j))) ∧ (upd H4 D (.lst (acc ++ [y]))) D = some (.lst (as.map V.ref)))) hi p1 y (fun a H4 s4 ea => ?_)
    · have e : (fun (σ2 : L2.St) (H2 : Hp) => wipe σ2 vs = wipe σ vs ∧ tYes σ2 H2 fun b H3 => if b = true then te σ2 H3 (fun y H4 => ∃ acc, H4 D = some (.lst acc) ∧ acc.length < sizeLine ∧ (Same H1 (upd H4 D (.lst (acc ++ [y]))) ∧ ∃ as : List Addr, as.length = i + 1 ∧ (∀ j a, as[j]? = some a → (upd H4 D (.lst (acc ++ [y]))) a = some (.tup (f j))) ∧ (upd H4 D (.lst (acc ++ [y]))) D = some (.lst (as.map V.ref)))) else (Same H1 H3 ∧ ∃ as : List Addr, as.length = i + 1 ∧ (∀ j a, as[j]? = some a → H3 a = some (.tup (f j))) ∧ H3 D = some (.lst (as.map V.ref))))
        = (fun (σ2 : L2.St) (H2 : Hp) => wipe σ2 vs = wipe σ vs ∧ te σ2 H2 (fun y H4 => ∃ acc, H4 D = some (.lst acc) ∧ acc.length < sizeLine ∧ (Same H1 (upd H4 D (.lst (acc ++ [y]))) ∧ ∃ as : List Addr, as.length = i + 1 ∧ (∀ j a, as[j]? = some a → (upd H4 D (.lst (acc ++ [y]))) a = some (.tup (f j))) ∧ (upd H4 D (.lst (acc ++ [y]))) D = some (.lst (as.map V.ref))))) := by
        funext σ2 H2
        rw [tYes_eq]
      rw [e]
      exact z
    · have s2 : Same H H4 := (hY i H x H' y).trans s4
      have hD4 : H4 D = some (.lst (as.map V.ref)) := s2 _ _ hL
      refine ⟨as.map V.ref, hD4, by rw [List.length_map]; omega, same_upd (p1.trans s2) hD, as ++ [a], by rw [List.length_append, hl] <;> rfl, fun j b e => ?_, ?_⟩
      · have nb : ∀ {c : Addr} {t : List V}, H4 c = some (.tup t) → c ≠ D := fun e q => by
          rw [q, hD4] at e
          cases e
        by_cases hj : j < as.length
        · rw [List.getElem?_append_left hj] at e
          have e2 := s2 _ _ (ha j b e)
          rw [upd_ne (nb e2)]
          exact e2
        · have hj2 : j = as.length := by
            have q := (List.getElem?_eq_some_iff.mp e).1
            rw [List.length_append, List.length_singleton] at q
            omega
          rw [hj2, List.getElem?_append_right (Nat.le_refl _), Nat.sub_self] at e
          have e3 : a = b := Option.some.inj e
          subst e3
          rw [upd_ne (nb ea), hj2, hl]
          exact ea
      · rw [upd_same, List.map_append] <;> rfl
  · obtain ⟨p1, as, hl, ha, hL⟩ := p
    exact hd H as p1 hl ha hL
end
end K7
/-! text K7A -/
set_option maxHeartbeats 4000000
namespace K7
open PySem PySem.Spec PySem.Calls PyProof.Rows L2
section
variable {P : Program} {w : World} {K : PySem.W.Frag} {mg : PySem.Str → Option Value} {base : Heap}
/-- a text of signs 0 and 1 -/
def Bits01 (z : PySem.Str) : Prop := ∀ c ∈ z.cps.toList, c = 48 ∨ c = 49
def spIsInteger : Sp := fun vs H Q _ => ∃ n : Int, vs = [.int n] ∧ Q (.bl true) H
def spIsCount : Sp := fun vs H Q _ => ∃ n : Int, vs = [.int n] ∧ Q (.bl (decide (n ≥ 0))) H
def spIsNumber : Sp := fun vs H Q _ => ∃ n : Int, vs = [.int n] ∧ Q (.bl (decide (n ≥ 1))) H
theorem sc_is_integer : FnScope ["thing"] ["thing"] (defScope s_is_integer) := ⟨rfl, rfl, rfl, by decide +kernel, rfl, by decide +kernel, by decide +kernel⟩
theorem ok_is_integer (T : Txt K mg) : OkF P w K mg base 1 (He.ga K "is_integer") ["thing"] spIsInteger := by
  obtain ⟨fd, F⟩ := T.fn 0 (st := s_is_integer)
  refine ⟨fd, F.ok sc_is_integer (fun vs H Q E h => ?_) (fun cdv A outer s H vs Q E hr h => ?_), F.binds (fun _ _ _ _ _ _ us hl => match us, hl with | [_], _ => rfl), F.kp⟩
  · obtain ⟨n, rfl, _⟩ := h
    rfl
  · obtain ⟨n, rfl, k⟩ := h
    refine ⟨_, pss_one (ps_ret (pe_and (pe_callB call_isi (by rfl) T.m_isinstance (by decide +kernel) (pa_cons (pv 0) (pa_cons (pe_bltn (v := .ty "int") (by rfl) T.m_int (by decide +kernel) rfl) pa_nil)))
      (pe_one (pe_not (pe_callB call_isi (by rfl) T.m_isinstance (by decide +kernel) (pa_cons (pv 0) (pa_cons (pe_bltn (v := .ty "bool") (by rfl) T.m_bool (by decide +kernel) rfl) pa_nil))))))), ?_⟩
    refine ⟨_, rfl, .int n, .ty "int", .type "int", .type "int", true, rfl, .ty _, .base (.int n), kit_ty (by decide +kernel), true, rfl, iteT ?_⟩
    exact ⟨_, rfl, .int n, .ty "bool", .type "int", .type "bool", false, rfl, .ty _, .base (.int n), kit_ty (by decide +kernel), false, rfl, k⟩
theorem sc_is_count : FnScope ["thing"] ["thing"] (defScope s_is_count) := ⟨rfl, rfl, rfl, by decide +kernel, rfl, by decide +kernel, by decide +kernel⟩
theorem ok_is_count (T : Txt K mg) : OkF P w K mg base 2 (He.ga K "is_count") ["thing"] spIsCount := by
  obtain ⟨fd, F⟩ := T.fn 1 (st := s_is_count)
  obtain ⟨f1, G1, b1, k1⟩ := ok_is_integer (P := P) (w := w) (base := base) T
  refine ⟨fd, F.ok sc_is_count (fun vs H Q E h => ?_) (fun cdv A outer s H vs Q E hr h => ?_), F.binds (fun _ _ _ _ _ _ us hl => match us, hl with | [_], _ => rfl), F.kp⟩
  · obtain ⟨n, rfl, _⟩ := h
    rfl
  · obtain ⟨n, rfl, k⟩ := h
    refine ⟨_, pss_one (ps_ret (pe_and (pe_call G1 hr (by rfl) T.g_is_integer k1 b1 .nil pass0 (pa_cons (pv 0) pa_nil)) (pe_one (pe_cmpR op_ge (pv 0) pe_int (nomark _))))), ?_⟩
    exact ⟨_, rfl, n, rfl, true, rfl, iteT ⟨_, rfl, _, _, rfl, rfl, k⟩⟩
theorem sc_is_number : FnScope ["thing"] ["thing"] (defScope s_is_number) := ⟨rfl, rfl, rfl, by decide +kernel, rfl, by decide +kernel, by decide +kernel⟩
theorem ok_is_number (T : Txt K mg) : OkF P w K mg base 2 (He.ga K "is_number") ["thing"] spIsNumber := by
  obtain ⟨fd, F⟩ := T.fn 2 (st := s_is_number)
  obtain ⟨f1, G1, b1, k1⟩ := ok_is_integer (P := P) (w := w) (base := base) T
  refine ⟨fd, F.ok sc_is_number (fun vs H Q E h => ?_) (fun cdv A outer s H vs Q E hr h => ?_), F.binds (fun _ _ _ _ _ _ us hl => match us, hl with | [_], _ => rfl), F.kp⟩
  · obtain ⟨n, rfl, _⟩ := h
    rfl
  · obtain ⟨n, rfl, k⟩ := h
    refine ⟨_, pss_one (ps_ret (pe_and (pe_call G1 hr (by rfl) T.g_is_integer k1 b1 .nil pass0 (pa_cons (pv 0) pa_nil)) (pe_one (pe_cmpR op_ge (pv 0) pe_int (nomark _))))), ?_⟩
    exact ⟨_, rfl, n, rfl, true, rfl, iteT ⟨_, rfl, _, _, rfl, rfl, k⟩⟩
/-! are_bits -/
def spAreBits : Sp := fun vs H Q _ => ∃ z : PySem.Str, vs = [.str z] ∧ Bits01 z ∧ z.cps.size ≤ 100 ∧ ∀ H', Same H H' → Q (.bl true) H'
theorem sc_are_bits : FnScope ["thing", "sign"] ["thing"] (defScope s_are_bits) := ⟨rfl, rfl, rfl, by decide +kernel, rfl, by decide +kernel, by decide +kernel⟩
theorem sign_in {c : Nat} (h : c = 48 ∨ c = 49) : decide (c ∈ ("01" : PySem.Str).cps.toList) = true := by
  rcases h with rfl | rfl <;> decide +kernel
theorem ok_are_bits (T : Txt K mg) : OkF P w K mg base 1 (He.ga K "are_bits") ["thing"] spAreBits := by
  obtain ⟨fd, F⟩ := T.fn 3 (st := s_are_bits)
  refine ⟨fd, F.ok sc_are_bits (fun vs H Q E h => ?_) (fun cdv A outer s H vs Q E hr h => ?_), F.binds (fun _ _ _ _ _ _ us hl => match us, hl with | [_], _ => rfl), F.kp⟩
  · obtain ⟨n, rfl, _⟩ := h
    rfl
  · obtain ⟨z, rfl, hz, hl, k⟩ := h
    refine ⟨_, pss_one (ps_ret (pe_and (pe_callB call_isi (by rfl) T.m_isinstance (by decide +kernel) (pa_cons (pv 0) (pa_cons (pe_bltn (v := .ty "str") (by rfl) T.m_str (by decide +kernel) rfl) pa_nil)))
      (pe_one (pe_callB (cr_all rfl) (by rfl) T.m_all (by decide +kernel) (pa_cons (pe_lc (own := [("sign", 1)]) (g := gName 1) (tt := tYes) rfl sc_are_bits.nd (pi_str (pv 0)) (blkOk_by (N := ["thing", "sign"]) (sc := defScope s_are_bits) (by decide +kernel))
        (fun _ _ _ _ _ => pg_name (i := 1) sc_are_bits.nd rfl (Or.inl rfl)) (fun _ _ _ _ _ => pts_nil) (fun _ _ _ _ _ => pe_cmpR op_in_sign (pv 1) pe_str (by rfl))) pa_nil))))), ?_⟩
    refine ⟨_, rfl, .str z, .ty "str", .type "str", .type "str", true, rfl, .ty _, .base (.str z), kit_ty (by decide +kernel), true, rfl, iteT ?_⟩
    refine ⟨_, rfl, z, rfl, fun D hD => ?_⟩
    refine lc_flat walk_str (fun _ => .bl true) hD (Nat.lt_of_le_of_lt hl (by decide)) (fun _ _ => trivial) (fun i x H1 H2 Kt hi s1 y q => ?_) (fun i H1 x H2 y => by rw [y.1]; exact Same.refl _) (fun H1 s1 eD => ?_)
    · obtain ⟨rfl, c, hc, rfl⟩ := y
      refine ⟨rfl, _, rfl, c, _, rfl, rfl, ?_⟩
      show Kt (.bl (decide (c ∈ ("01" : PySem.Str).cps.toList))) _
      rw [sign_in (hz c (by rw [← Array.getElem?_toList] at hc; exact List.mem_of_getElem? hc))]
      exact q _ (Same.refl _)
    · refine ⟨D, List.replicate z.cps.size true, rfl, SqL.of ?_, ?_⟩
      · rw [eD, List.map_replicate]
        congr 2
        exact List.eq_replicate_iff.mpr ⟨by rw [List.length_map, List.length_range], fun b hb => by obtain ⟨_, _, e⟩ := List.mem_map.mp hb; exact e.symm⟩
      · rw [show (List.replicate z.cps.size true).all id = true from List.all_eq_true.mpr fun b hb => by rw [(List.mem_replicate.mp hb).2] <;> rfl]
        exact k _ s1
end
end K7
/-! text K7Bt -/
set_option maxHeartbeats 4000000
/-! texts of signs 0 and 1 as lists of Bools -/
namespace K7
open PySem PySem.Spec PySem.Calls PyProof.Rows L2
def sgn (b : Bool) : Nat := if b then 49 else 48
def bt (bs : List Bool) : PySem.Str := ⟨(bs.map sgn).toArray⟩
theorem bt_tl (bs : List Bool) : (bt bs).cps.toList = bs.map sgn := rfl
theorem bt_size (bs : List Bool) : (bt bs).cps.size = bs.length := by
  show ((bs.map sgn).toArray).size = bs.length
  simp
theorem bt_len (bs : List Bool) : (bt bs).length = bs.length := bt_size bs
theorem bt_bits (bs : List Bool) : Bits01 (bt bs) := fun c h => by
  rw [bt_tl] at h
  obtain ⟨b, _, rfl⟩ := List.mem_map.mp h
  cases b <;> simp [sgn]
theorem bt_get {bs : List Bool} {i : Nat} {b : Bool} (h : bs[i]? = some b) : (bt bs).cps[i]? = some (sgn b) := by
  show ((bs.map sgn).toArray)[i]? = some (sgn b)
  simp [h]
theorem bt_app (a b : List Bool) : bt a ++ bt b = bt (a ++ b) := TL.ext_tl (by rw [TL.tl_append]; show a.map sgn ++ b.map sgn = (a ++ b).map sgn; rw [List.map_append])
theorem bt_cut (bs : List Bool) (lo hi : Option Int) : cutS (bt bs) lo hi = bt ((bs.drop (HT.sIx bs.length 0 lo)).take (HT.sIx bs.length bs.length hi - HT.sIx bs.length 0 lo)) := by
  unfold cutS
  rw [bt_len, bt_tl]
  show (⟨_⟩ : PySem.Str) = ⟨_⟩
  rw [List.map_take, List.map_drop]
theorem bt_nil : bt [] = ("" : PySem.Str) := by decide +kernel
theorem bt_one (b : Bool) : (⟨#[sgn b]⟩ : PySem.Str) = bt [b] := rfl
theorem bt_1 : bt [true] = ("1" : PySem.Str) := by decide +kernel
theorem bt_0 : bt [false] = ("0" : PySem.Str) := by decide +kernel
theorem sgn_inj {a b : Bool} (h : sgn a = sgn b) : a = b := by cases a <;> cases b <;> first | rfl | (simp [sgn] at h)
theorem map_sgn_inj : ∀ {a b : List Bool}, a.map sgn = b.map sgn → a = b
  | [], [], _ => rfl
  | [], _ :: _, h => by cases h
  | _ :: _, [], h => by cases h
  | x :: a, y :: b, h => by
    rw [List.map_cons, List.map_cons] at h
    injection h with h1 h2
    rw [sgn_inj h1, map_sgn_inj h2]
theorem bt_inj {a b : List Bool} (h : bt a = bt b) : a = b := map_sgn_inj (by have := congrArg TL.tl h; exact this)
theorem dec_one (b : Bool) : decide (V.str ⟨#[sgn b]⟩ = V.str ("1" : PySem.Str)) = b := by cases b <;> decide +kernel
theorem joinL_nil : ∀ (l : List (List Nat)), TL.joinL [] l = l.flatten
  | [] => rfl
  | [p] => by simp [TL.joinL]
  | p :: q :: r => by
    show p ++ ([] ++ TL.joinL [] (q :: r)) = _
    rw [joinL_nil (q :: r)]
    rfl
theorem bt_join (bss : List (List Bool)) : Str.join ("" : PySem.Str) (bss.map bt) = bt bss.flatten := TL.ext_tl (by
  rw [TL.tl_join]
  have e : TL.tl ("" : PySem.Str) = [] := by decide +kernel
  rw [e, joinL_nil, List.map_map]
  show (bss.map fun bs => bs.map sgn).flatten = bss.flatten.map sgn
  rw [List.map_flatten])
theorem ones_flat : ∀ (bs : List Bool), (bs.map fun b => [b]).flatten = bs
  | [] => rfl
  | b :: bs => by rw [List.map_cons, List.flatten_cons, ones_flat bs] <;> rfl
theorem bt_join1 (bs : List Bool) : Str.join ("" : PySem.Str) (bs.map fun b => bt [b]) = bt bs := by
  have h := bt_join (bs.map fun b => [b])
  rw [ones_flat, List.map_map] at h
  exact h
theorem tjoin (bss : List (List Bool)) : Txt.join ("" : PySem.Str) (bss.map bt) = bt bss.flatten := (StrLaws.glued_eq_join _ _).trans (bt_join bss)
theorem tjoin1 (bs : List Bool) : Txt.join ("" : PySem.Str) (bs.map fun b => bt [b]) = bt bs := (StrLaws.glued_eq_join _ _).trans (bt_join1 bs)
theorem sum_ones (bs : List Bool) : ((bs.map fun b => bt [b]).map (·.length)).sum = bs.length := by
  induction bs with
  | nil => rfl
  | cons b bs ih =>
    rw [List.map_cons, List.map_cons, List.sum_cons, ih, bt_len]
    show 1 + bs.length = bs.length + 1
    omega
theorem map_range_getD {α : Type} (f : Bool → α) (bs : List Bool) : (List.range bs.length).map (fun i => f (bs.getD i false)) = bs.map f := by
  refine List.ext_getElem (by simp) fun i h1 h2 => ?_
  have h3 : i < bs.length := by simpa using h1
  rw [List.getElem_map, List.getElem_map, List.getElem_range, List.getD_eq_getElem?_getD, List.getElem?_eq_getElem h3]
  rfl
/-- the sign of a word at x -/
def getBit (es as : List Bool) (x : Nat) : Bool := if x < es.length then es.getD x false else as.getD ((x - es.length) % as.length) false
/-- the readers' names -/
def Rd.str : Rd → PySem.Str
  | .turns => "turns"
  | .others => "others"
  | .rounds => "rounds"
  | .suns => "suns"
  | .moons => "moons"
theorem Rd.is (r : Rd) : inV (.str r.str) [.str "turns", .str "others", .str "rounds", .str "suns", .str "moons"] = true := by cases r <;> decide +kernel
theorem Rd.notPair (r : Rd) : inV (.str r.str) [.str "and", .str "or", .str "unlike"] = false := by cases r <;> decide +kernel
end K7
/-! text K7B -/
set_option maxHeartbeats 4000000
namespace K7
open PySem PySem.Spec PySem.Calls PyProof.Rows L2
section
variable {P : Program} {w : World} {K : PySem.W.Frag} {mg : PySem.Str → Option Value} {base : Heap}
def spIsReader : Sp := fun vs H Q _ => ∃ r : Rd, vs = [.str r.str] ∧ Q (.bl true) H
theorem sc_is_reader : FnScope ["thing"] ["thing"] (defScope s_is_reader) := ⟨rfl, rfl, rfl, by decide +kernel, rfl, by decide +kernel, by decide +kernel⟩
theorem ok_is_reader (T : Txt K mg) : OkF P w K mg base 1 (He.ga K "is_reader") ["thing"] spIsReader := by
  obtain ⟨fd, F⟩ := T.fn 4 (st := s_is_reader)
  refine ⟨fd, F.ok sc_is_reader (fun vs H Q E h => ?_) (fun cdv A outer s H vs Q E hr h => ?_), F.binds (fun _ _ _ _ _ _ us hl => match us, hl with | [_], _ => rfl), F.kp⟩
  · obtain ⟨n, rfl, _⟩ := h
    rfl
  · obtain ⟨r, rfl, k⟩ := h
    refine ⟨_, pss_one (ps_ret (pe_and (pe_callB call_isi (by rfl) T.m_isinstance (by decide +kernel) (pa_cons (pv 0) (pa_cons (pe_bltn (v := .ty "str") (by rfl) T.m_str (by decide +kernel) rfl) pa_nil)))
      (pe_one (pe_cmpR op_in_seq (pv 0) (pe_glob (v := .ref (He.ga K "READERS")) (by rfl) T.g_READERS rfl) (by rfl))))), ?_⟩
    refine ⟨_, rfl, .str r.str, .ty "str", .type "str", .type "str", true, rfl, .ty _, .base (.str _), kit_ty (by decide +kernel), true, rfl, iteT ?_⟩
    refine ⟨_, rfl, _, _, rfl, .inr (T.readers H), rfl, by decide +kernel, ?_⟩
    show Q (.bl (inV (.str r.str) [.str "turns", .str "others", .str "rounds", .str "suns", .str "moons"])) H
    rw [r.is]
    exact k
def spBitAt : Sp := fun vs H Q _ => ∃ (es as : List Bool) (x : Nat), vs = [.str (bt es), .str (bt as), .int x] ∧ es.length ≤ 100 ∧ as.length ≤ 100 ∧ 0 < as.length ∧ Q (.bl (getBit es as x)) H
theorem sc_bit_at : FnScope ["early", "again", "x"] ["early", "again", "x"] (defScope s_bit_at) := ⟨rfl, rfl, rfl, by decide +kernel, rfl, by decide +kernel, by decide +kernel⟩
theorem ok_bit_at (T : Txt K mg) : OkF P w K mg base 1 (He.ga K "bit_at") ["early", "again", "x"] spBitAt := by
  obtain ⟨fd, F⟩ := T.fn 5 (st := s_bit_at)
  refine ⟨fd, F.ok sc_bit_at (fun vs H Q E h => ?_) (fun cdv A outer s H vs Q E hr h => ?_), F.binds (fun _ _ _ _ _ _ us hl => match us, hl with | [_, _, _], _ => rfl), F.kp⟩
  · obtain ⟨_, _, _, rfl, _⟩ := h
    rfl
  · obtain ⟨es, as, x, rfl, he, ha, h0, k⟩ := h
    refine ⟨_, pss_cons (ps_if (pt_cmpR op_lt (pv 2) (pe_callB call_len_str (by rfl) T.m_len boot_len (pa_cons (pv 0) pa_nil)) (nomark _)) (pss_one (ps_ret (pe_cmpR op_eq (pe_item_str (pv 0) (pv 2) (fun _ _ => rfl)) pe_str (nomark _)))) pss_nil)
      (pss_one (ps_ret (pe_cmpR op_eq (pe_item_str (pv 1) (pe_op op_modN (pe_op op_sub (pv 2) (pe_callB call_len_str (by rfl) T.m_len boot_len (pa_cons (pv 0) pa_nil))) (pe_callB call_len_str (by rfl) T.m_len boot_len (pa_cons (pv 1) pa_nil))) (fun _ _ => rfl)) pe_str (nomark _)))), ?_⟩
    have le : (bt es).length = es.length := bt_len es
    have la : (bt as).length = as.length := bt_len as
    refine ⟨_, rfl, _, rfl, _, rfl, by rw [le]; exact Nat.le_trans he (by decide), ?_⟩
    rw [le]
    refine ⟨_, _, rfl, rfl, _, rfl, ?_⟩
    refine ite2 (fun c => ?_) (fun c => ?_)
    · have hx : x < es.length := by have := of_decide_eq_true c; omega
      obtain ⟨b, hb⟩ : ∃ b, es[x]? = some b := ⟨es[x], by simp [hx]⟩
      refine ⟨_, rfl, _, rfl, _, _, sgn b, rfl, rfl, by omega, by omega, by rw [le]; omega, by rw [Int.toNat_natCast]; exact bt_get hb, rfl, ?_⟩
      show Q (.bl (decide (V.str ⟨#[sgn b]⟩ = V.str ("1" : PySem.Str)))) H
      rw [dec_one]
      have e : getBit es as x = b := by
        unfold getBit
        rw [if_pos hx, List.getD_eq_getElem?_getD, hb]
        rfl
      rw [← e]
      exact k
    · have hx : ¬ x < es.length := by have := of_decide_eq_false (Bool.eq_false_iff.mpr c); omega
      have hm : (x - es.length) % as.length < as.length := Nat.mod_lt _ h0
      obtain ⟨b, hb⟩ : ∃ b, as[(x - es.length) % as.length]? = some b := ⟨as[(x - es.length) % as.length], by simp [hm]⟩
      refine ⟨_, rfl, _, rfl, _, rfl, _, rfl, by rw [le]; exact Nat.le_trans he (by decide), _, _, rfl, rfl, _, rfl, _, rfl, by rw [la]; exact Nat.le_trans ha (by decide), ?_⟩
      rw [le, la]
      have ei : ((x : Int) - (es.length : Int)).fmod (as.length : Int) = (((x - es.length) % as.length : Nat) : Int) := by
        rw [show ((x : Int) - (es.length : Int)) = ((x - es.length : Nat) : Int) by omega, Int.fmod_eq_emod_of_nonneg _ (by omega)]
        rfl
      refine ⟨_, _, rfl, rfl, by omega, ?_⟩
      refine ⟨_, (((x - es.length) % as.length : Nat) : Int), sgn b, rfl, congrArg V.int ei, by omega, by omega, by rw [la]; omega, by rw [Int.toNat_natCast]; exact bt_get hb, rfl, ?_⟩
      show Q (.bl (decide (V.str ⟨#[sgn b]⟩ = V.str ("1" : PySem.Str)))) H
      rw [dec_one]
      have e : getBit es as x = b := by
        unfold getBit
        rw [if_neg hx, List.getD_eq_getElem?_getD, hb]
        rfl
      rw [← e]
      exact k
def spTextOf : Sp := fun vs H Q _ => ∃ (K' : PySem.W.Frag) (a : Addr) (bs : List Bool), vs = [.ref a] ∧ H a = some (.lst (bs.map V.bl)) ∧ bs.length ≤ 1000 ∧ ∀ H', Same H H' → Q (.str (bt bs)) H'
theorem sc_text_of : FnScope ["truths", "truth"] ["truths"] (defScope s_text_of) := ⟨rfl, rfl, rfl, by decide +kernel, rfl, by decide +kernel, by decide +kernel⟩
theorem ok_text_of (T : Txt K mg) : OkF P w K mg base 1 (He.ga K "text_of") ["truths"] spTextOf := by
  obtain ⟨fd, F⟩ := T.fn 6 (st := s_text_of)
  refine ⟨fd, F.ok sc_text_of (fun vs H Q E h => ?_) (fun cdv A outer s H vs Q E hr h => ?_), F.binds (fun _ _ _ _ _ _ us hl => match us, hl with | [_], _ => rfl), F.kp⟩
  · obtain ⟨_, _, _, rfl, _⟩ := h
    rfl
  · obtain ⟨_, a, bs, rfl, ha, hl, k⟩ := h
    refine ⟨_, pss_one (ps_ret (pe_join pe_str (pe_lc (own := [("truth", 1)]) (g := gName 1) (tt := tYes) rfl sc_text_of.nd (pi_list (pv 0)) (blkOk_by (N := ["truths", "truth"]) (sc := defScope s_text_of) (by decide +kernel))
        (fun _ _ _ _ _ => pg_name (i := 1) sc_text_of.nd rfl (Or.inl rfl)) (fun _ _ _ _ _ => pts_nil) (fun _ _ _ _ _ => pe_ifExp (pt_val (pv 1)) pe_str pe_str)))), ?_⟩
    refine ⟨⟨_, rfl⟩, _, rfl, a, rfl, ⟨_, SqL.of ha⟩, fun D hD => ?_⟩
    refine lc_flat (walk_list (K := K) (a := a) (xs := bs.map V.bl)) (fun i => .str (bt [bs.getD i false])) hD (by rw [List.length_map]; exact Nat.lt_of_le_of_lt hl (by decide)) (fun H1 s1 => s1.seq (SqL.of ha)) (fun i x H1 H2 Kt hi s1 y q => ?_) (fun i H1 x H2 y => by rw [y.1]; exact Same.refl _) (fun H1 s1 eD => ?_)
    · obtain ⟨rfl, hx⟩ := y
      rw [List.getElem?_map] at hx
      cases e : bs[i]? with
      | none => rw [e] at hx; cases hx
      | some b =>
        rw [e] at hx
        cases hx
        have ed : bs.getD i false = b := by rw [List.getD_eq_getElem?_getD, e] <;> rfl
        rw [ed] at q
        refine ⟨rfl, _, rfl, _, rfl, ?_⟩
        cases b with
        | true => exact iteT (by rw [bt_1] at q; exact q _ (Same.refl _))
        | false => exact iteF (by rw [bt_0] at q; exact q _ (Same.refl _))
    · have e : (List.range (bs.map V.bl).length).map (fun i => V.str (bt [bs.getD i false])) = (bs.map fun b => bt [b]).map V.str := by
        rw [List.length_map, List.map_map]
        exact map_range_getD (fun b => V.str (bt [b])) bs
      rw [e] at eD
      refine ⟨_, D, bs.map fun b => bt [b], rfl, rfl, .inl (SqL.of eD), ?_, ?_⟩
      · rw [sum_ones, List.length_map]
        show bs.length + bs.length * 0 ≤ 16777216
        omega
      · show Q (.str (Txt.join ("" : PySem.Str) (bs.map fun b => bt [b]))) H1
        rw [tjoin1]
        exact k _ s1
end
end K7
/-! text K7P -/
set_option maxHeartbeats 4000000
/-! what stands in memory: words, rules' parts, rules, dances, forms -/
namespace K7
open PySem PySem.Spec PySem.Calls PyProof.Rows L2
/-- all but lists stays -/
def Nl (H H' : Hp) : Prop := ∀ b o, (∀ xs, o ≠ .lst xs) → H b = some o → H' b = some o
theorem Nl.refl (H : Hp) : Nl H H := fun _ _ _ h => h
theorem Nl.trans {H H1 H2 : Hp} (a : Nl H H1) (b : Nl H1 H2) : Nl H H2 := fun c o n h => b c o n (a c o n h)
theorem Nl.of {H H' : Hp} (s : Same H H') : Nl H H' := fun b o _ h => s b o h
theorem Nl.updL {H H' : Hp} {D : Addr} {xs : List V} {o : HO} (s : Nl H H') (h : H' D = some (.lst xs)) : Nl H (upd H' D o) := fun b u n e => by
  have e' := s b u n e
  rw [upd_ne (fun q => by rw [q, h] at e'; exact n xs (Option.some.inj e').symm)]
  exact e'
theorem Nl.updN {H H' : Hp} {D : Addr} {o : HO} (s : Nl H H') (h : H D = none) : Nl H (upd H' D o) := fun b u n e => by
  rw [upd_ne (ne_of_none e h)]
  exact s b u n e
theorem Nl.tup {H H' : Hp} (s : Nl H H') {a : Addr} {xs : List V} (h : H a = some (.tup xs)) : H' a = some (.tup xs) := s a _ (fun _ z => nomatch z) h
theorem Nl.dT {H H' : Hp} (s : Nl H H') {a : Addr} {kvs : List (List Key × V)} (h : H a = some (.dT kvs)) : H' a = some (.dT kvs) := s a _ (fun _ z => nomatch z) h
theorem Nl.dK {H H' : Hp} (s : Nl H H') {a : Addr} {kvs : List (Key × V)} (h : H a = some (.dK kvs)) : H' a = some (.dK kvs) := s a _ (fun _ z => nomatch z) h
theorem Nl.slt {H H' : Hp} (s : Nl H H') {a C dx : Addr} {vs : List (Option V)} (h : SlX.Slt H a C dx vs) : SlX.Slt H' a C dx vs := by
  rcases h with ⟨h1, h2⟩ | ⟨h1, h2⟩
  · exact .inl ⟨s _ _ (fun _ z => nomatch z) h1, h2⟩
  · exact .inr ⟨s _ _ (fun _ z => by unfold SlX.SlO at z; cases z) h1, s _ _ (fun _ z => nomatch z) h2⟩
def WordAt (K : PySem.W.Frag) (H : Hp) (a : Addr) (es as : List Bool) : Prop := ∃ dx vs, SlX.Slt H a (He.ga K "Word") dx vs ∧ vs[1]? = some (some (.str (bt es))) ∧ vs[0]? = some (some (.str (bt as)))
theorem WordAt.nl {K : PySem.W.Frag} {H H' : Hp} {a : Addr} {es as : List Bool} (h : WordAt K H a es as) (s : Nl H H') : WordAt K H' a es as := by
  obtain ⟨dx, vs, h1, h2, h3⟩ := h
  exact ⟨dx, vs, s.slt h1, h2, h3⟩
inductive Rt where
  | al (b : Bool)
  | rd (r : Rd) (es as : List Bool)
  | un (x y : Rt)
def Rt.height : Rt → Nat
  | .al _ => 0
  | .rd _ _ _ => 0
  | .un x y => max x.height y.height + 1
def Rt.val (num : Rd → Nat) : Rt → Bool
  | .al b => b
  | .rd r es as => getBit es as (num r)
  | .un x y => Bool.xor (x.val num) (y.val num)
def PartsAt (H : Hp) : Addr → Rt → Prop
  | a, .al b => H a = some (.tup [.str "always", .bl b])
  | a, .rd r es as => H a = some (.tup [.str r.str, .str (bt es), .str (bt as)]) ∧ es.length ≤ 100 ∧ as.length ≤ 100 ∧ 0 < as.length
  | a, .un x y => ∃ p q, H a = some (.tup [.str "unlike", .ref p, .ref q]) ∧ PartsAt H p x ∧ PartsAt H q y
theorem PartsAt.nl {H H' : Hp} (s : Nl H H') : ∀ {t : Rt} {a : Addr}, PartsAt H a t → PartsAt H' a t
  | .al b, a, h => s.tup (xs := [.str "always", .bl b]) h
  | .rd r es as, a, h => ⟨s.tup h.1, h.2⟩
  | .un x y, a, h => by
    obtain ⟨p, q, h1, h2, h3⟩ := h
    exact ⟨p, q, s.tup h1, PartsAt.nl s h2, PartsAt.nl s h3⟩
def RuleAt (K : PySem.W.Frag) (H : Hp) (a : Addr) (t : Rt) : Prop := ∃ dx vs pa, SlX.Slt H a (He.ga K "Rule") dx vs ∧ vs[0]? = some (some (.ref pa)) ∧ PartsAt H pa t
theorem RuleAt.nl {K : PySem.W.Frag} {H H' : Hp} {a : Addr} {t : Rt} (h : RuleAt K H a t) (s : Nl H H') : RuleAt K H' a t := by
  obtain ⟨dx, vs, pa, h1, h2, h3⟩ := h
  exact ⟨dx, vs, pa, s.slt h1, h2, PartsAt.nl s h3⟩
def NumAt (H : Hp) (d : Addr) (num : Rd → Nat) : Prop := ∃ kvs : List (Key × V), H d = some (.dK kvs) ∧ ∀ r : Rd, valV kvs (Sum.inr r.str) = some (.int (num r : Nat))
/-- a dance of n, m dancers, R rounds, the rule t -/
def DanceAt (K : PySem.W.Frag) (H : Hp) (a : Addr) (n m R : Nat) (t : Rt) : Prop := ∃ dx vs ru, SlX.Slt H a (He.ga K "Dance") dx vs ∧ vs[3]? = some (some (.int (n : Nat))) ∧ vs[0]? = some (some (.int (m : Nat))) ∧ vs[1]? = some (some (.int (R : Nat))) ∧ vs[2]? = some (some (.ref ru)) ∧ RuleAt K H ru t
theorem DanceAt.nl {K : PySem.W.Frag} {H H' : Hp} {a : Addr} {n m R : Nat} {t : Rt} (h : DanceAt K H a n m R t) (s : Nl H H') : DanceAt K H' a n m R t := by
  obtain ⟨dx, vs, ru, h1, h2, h3, h4, h5, h6⟩ := h
  exact ⟨dx, vs, ru, s.slt h1, h2, h3, h4, h5, h6.nl s⟩
/-- a list of forms: tuples of a reader's name and two numbers -/
def FormsAt (H : Hp) (a : Addr) (fs : List Fm) : Prop := ∃ as : List Addr, H a = some (.lst (as.map V.ref)) ∧ as.length = fs.length ∧ ∀ (i : Nat) (p : Addr) (f : Fm), as[i]? = some p → fs[i]? = some f → H p = some (.tup [.str f.rd.str, .int (f.lead : Nat), .int (f.per : Nat)])
theorem FormsAt.same {H H' : Hp} {a : Addr} {fs : List Fm} (h : FormsAt H a fs) (s : Same H H') : FormsAt H' a fs := by
  obtain ⟨as, h1, h2, h3⟩ := h
  exact ⟨as, s _ _ h1, h2, fun i p f e1 e2 => s _ _ (h3 i p f e1 e2)⟩
/-- a list of addresses at each of which R stands -/
def RefsAt (R : Nat → Addr → Hp → Prop) (H : Hp) (a : Addr) (n : Nat) : Prop := ∃ as : List Addr, H a = some (.lst (as.map V.ref)) ∧ as.length = n ∧ ∀ (i : Nat) (p : Addr), as[i]? = some p → R i p H
section
variable {J : It} {n : Nat} {G : Hp → Prop} {Y : Nat → Hp → V → Hp → Prop}
/-- a comprehension whose items are new things told by R -/
theorem lc_rel (w : Walk J n G Y) {g : TG} {te : TE} {vs : List Nat} {σ : L2.St} {H1 : Hp} {D : Addr} {Qd : Hp → Prop} (R : Nat → Addr → Hp → Prop) (hR : ∀ i a H H', Nl H H' → R i a H → R i a H') (hD : H1 D = none) (hn : n < sizeLine) (hG : ∀ H, Same H1 H → G H)
    (hs : ∀ i x H H' (Kt : VK), i < n → Same H1 H → Y i H x H' → (∀ a H4, Same H' H4 → R i a H4 → Kt (.ref a) H4) → g x (wipe σ vs) H' fun σ2 H2 => wipe σ2 vs = wipe σ vs ∧ te σ2 H2 Kt)
    (hY : ∀ i H x H', Y i H x H' → Same H H')
    (hd : ∀ H, Same H1 H → RefsAt R H D n → Qd H) :
    ∃ W : Nat → Nat → Hp → Prop, (∃ m, W 0 m (upd H1 D (.lst []))) ∧ ∀ i m H, W i m H →
      (J.stop i H ∧ Qd H) ∨ (J.go i H ∧ ∃ Nx : Hp → Prop, (∀ H', Nx H' → ∃ m', m' < m ∧ W (i + 1) m' H') ∧ ∀ x H', J.yld i H x H' → g x (wipe σ vs) H' fun σ2 H2 => wipe σ2 vs = wipe σ vs ∧ tYes σ2 H2 fun b H3 =>
        if b = true then te σ2 H3 fun y H4 => ∃ acc, H4 D = some (.lst acc) ∧ acc.length < sizeLine ∧ Nx (upd H4 D (.lst (acc ++ [y]))) else Nx H3) := by
  refine lc_it w (fun i H => Same H1 H ∧ RefsAt R H D i) ⟨same_upd (Same.refl _) hD, [], upd_same, rfl, fun j a e => by simp at e⟩ (fun i H _ p => hG H p.1) (fun i x H H' hi p y => ?_) (fun H p => hd H p.1 p.2)
  obtain ⟨p1, as, hL, hl, ha⟩ := p
  have z := hs i x H H' (fun y H4 => ∃ acc, H4 D = some (.lst acc) ∧ acc.length < sizeLine ∧ (Same H1 (upd H4 D (.lst (acc ++ [y]))) ∧ RefsAt R (upd H4 D (.lst (acc ++ [y]))) D (i + 1))) hi p1 y (fun a H4 s4 ea => ?_)
  · have e : (fun (σ2 : L2.St) (H2 : Hp) => wipe σ2 vs = wipe σ vs ∧ tYes σ2 H2 fun b H3 => if b = true then te σ2 H3 (fun y H4 => ∃ acc, H4 D = some (.lst acc) ∧ acc.length < sizeLine ∧ (Same H1 (upd H4 D (.lst (acc ++ [y]))) ∧ RefsAt R (upd H4 D (.lst (acc ++ [y]))) D (i + 1))) else (Same H1 H3 ∧ RefsAt R H3 D (i + 1)))
      = (fun (σ2 : L2.St) (H2 : Hp) => wipe σ2 vs = wipe σ vs ∧ te σ2 H2 (fun y H4 => ∃ acc, H4 D = some (.lst acc) ∧ acc.length < sizeLine ∧ (Same H1 (upd H4 D (.lst (acc ++ [y]))) ∧ RefsAt R (upd H4 D (.lst (acc ++ [y]))) D (i + 1)))) := by
      funext σ2 H2
      rw [tYes_eq]
    rw [e]
    exact z
  · have s2 : Same H H4 := (hY i H x H' y).trans s4
    have hD4 : H4 D = some (.lst (as.map V.ref)) := s2 _ _ hL
    have up : Nl H4 (upd H4 D (.lst (as.map V.ref ++ [V.ref a]))) := (Nl.refl _).updL hD4
    refine ⟨as.map V.ref, hD4, by rw [List.length_map]; omega, same_upd (p1.trans s2) hD, as ++ [a], by rw [upd_same, List.map_append] <;> rfl, by rw [List.length_append, hl] <;> rfl, fun j b e => ?_⟩
    by_cases hj : j < as.length
    · rw [List.getElem?_append_left hj] at e
      exact hR _ _ _ _ up (hR _ _ _ _ (Nl.of s2) (ha j b e))
    · have hj2 : j = as.length := by
        have q := (List.getElem?_eq_some_iff.mp e).1
        rw [List.length_append, List.length_singleton] at q
        omega
      rw [hj2, List.getElem?_append_right (Nat.le_refl _), Nat.sub_self] at e
      have e3 : a = b := Option.some.inj e
      subst e3
      rw [hj2, hl]
      exact hR _ _ _ _ up ea
end
section
variable {X : Cx}
/-- one of two rules -/
theorem OpR.or2 {f : Value → Value → Sem Value} {r1 r2 : R2} (h1 : OpR X f r1) (h2 : OpR X f r2) : OpR X f (fun x y H Q => r1 x y H Q ∨ r2 x y H Q) := by
  intro pins s σ H x y v u Q I rx ry h
  rcases h with h | h
  · exact h1 pins s σ H x y v u Q I rx ry h
  · exact h2 pins s σ H x y v u Q I rx ry h
end
end K7
/-! text K7C -/
set_option maxHeartbeats 4000000
namespace K7
open PySem PySem.Spec PySem.Calls PyProof.Rows L2
section
variable {P : Program} {w : World} {K : PySem.W.Frag} {mg : PySem.Str → Option Value} {base : Heap}
def spTruth (n : Nat) : Sp := fun vs H Q _ => ∃ (a d : Addr) (t : Rt) (num : Rd → Nat), vs = [.ref a, .ref d] ∧ t.height < n ∧ PartsAt H a t ∧ NumAt H d num ∧ Q (.bl (t.val num)) H
theorem sc_truth_of : FnScope ["parts", "numbers", "one", "other"] ["parts", "numbers"] (defScope s_truth_of) := ⟨rfl, rfl, rfl, by decide +kernel, rfl, by decide +kernel, by decide +kernel⟩
theorem rd_always (r : Rd) : decide (V.str r.str = V.str ("always" : PySem.Str)) = false := by cases r <;> decide +kernel
theorem rd_not (r : Rd) : decide (V.str r.str = V.str ("not" : PySem.Str)) = false := by cases r <;> decide +kernel
theorem ok_truth_of (T : Txt K mg) : ∀ n, OkF P w K mg base (n + 2) (He.ga K "truth_of") ["parts", "numbers"] (spTruth n) := by
  obtain ⟨fd, F⟩ := T.fn 7 (st := s_truth_of)
  obtain ⟨f1, G1, b1, k1⟩ := ok_bit_at (P := P) (w := w) (base := base) T
  intro n
  have bF := F.binds (ps := ["parts", "numbers"]) (fun _ _ _ _ _ _ us hl => match us, hl with | [_, _], _ => rfl)
  refine ⟨fd, ?_, bF, F.kp⟩
  induction n with
  | zero => exact F.ok sc_truth_of (fun vs H Q E h => by obtain ⟨_, _, _, _, _, h, _⟩ := h; exact absurd h (Nat.not_lt_zero _)) (fun cdv A outer s H vs Q E hr h => by obtain ⟨_, _, _, _, _, h, _⟩ := h; exact absurd h (Nat.not_lt_zero _))
  | succ n ih =>
    refine F.ok sc_truth_of (fun vs H Q E h => ?_) (fun cdv A outer s H vs Q E hr h => ?_)
    · obtain ⟨_, _, _, _, rfl, _⟩ := h
      rfl
    · obtain ⟨a, d, t, num, rfl, ht, hp, hn, k⟩ := h
      have hu := hu_of hr
      refine ⟨_, pss_cons (ps_if (pt_cmpR op_eq (pe_ix ix_tup (pv 0) pe_int (fun _ _ => rfl)) pe_str (nomark _)) (pss_one (ps_ret (pe_ix ix_tup (pv 0) pe_int (fun _ _ => rfl)))) pss_nil)
        (pss_cons (ps_if (pt_cmpR op_eq (pe_ix ix_tup (pv 0) pe_int (fun _ _ => rfl)) pe_str (nomark _)) pss_never pss_nil)
        (pss_cons (ps_if (pt_cmpR op_notIn_seq (pe_ix ix_tup (pv 0) pe_int (fun _ _ => rfl)) (pe_glob (v := .ref (He.ga K "PAIRS")) (by rfl) T.g_PAIRS rfl) (by rfl))
            (pss_one (ps_ret (pe_call G1 (hr.mono (by omega)) (by rfl) T.g_bit_at k1 b1 .nil pass0 (pa_cons (pe_ix ix_tup (pv 0) pe_int (fun _ _ => rfl)) (pa_cons (pe_ix ix_tup (pv 0) pe_int (fun _ _ => rfl))
              (pa_cons (pe_dget hu (pv 1) (pe_ix ix_tup (pv 0) pe_int (fun _ _ => rfl)) (fun _ _ => rfl)) pa_nil)))))) pss_nil)
        (pss_cons (ps_par (i := 2) (j := 3) (by rfl) sc_truth_of.nd rfl rfl (by decide) rfl rfl
            (pa_cons (pe_call ih hr (by rfl) T.g_truth_of F.kp bF .nil pass0 (pa_cons (pe_ix ix_tup (pv 0) pe_int (fun _ _ => rfl)) (pa_cons (pv 1) pa_nil)))
            (pa_cons (pe_call ih hr (by rfl) T.g_truth_of F.kp bF .nil pass0 (pa_cons (pe_ix ix_tup (pv 0) pe_int (fun _ _ => rfl)) (pa_cons (pv 1) pa_nil))) pa_nil)) (by rfl))
        (pss_cons (ps_if (pt_cmpR op_eq (pe_ix ix_tup (pv 0) pe_int (fun _ _ => rfl)) pe_str (nomark _)) (pss_one (ps_ret (pe_cmpR op_ne (pv 2) (pv 3) (nomark _)))) pss_nil)
        (pss_one ps_never))))), ?_⟩
      cases t with
      | al b =>
        have hp : H a = some (.tup [.str "always", .bl b]) := hp
        refine ⟨_, rfl, _, _, _, _, rfl, rfl, SqT.of hp, rfl, rfl, _, rfl, ?_⟩
        rw [show decide (V.str ("always" : PySem.Str) = V.str ("always" : PySem.Str)) = true from decide_eq_true rfl]
        exact iteT ⟨_, rfl, _, _, _, _, rfl, rfl, SqT.of hp, rfl, k⟩
      | rd r es as =>
        obtain ⟨hp, l1, l2, l3⟩ := hp
        obtain ⟨kvs, hd, hv⟩ := hn
        refine ⟨_, rfl, _, _, _, _, rfl, rfl, SqT.of hp, rfl, rfl, _, rfl, ?_⟩
        rw [rd_always]
        refine iteF ?_
        refine ⟨_, rfl, _, _, _, _, rfl, rfl, SqT.of hp, rfl, rfl, _, rfl, ?_⟩
        rw [rd_not]
        refine iteF ?_
        refine ⟨_, rfl, _, _, _, _, rfl, rfl, SqT.of hp, rfl, _, _, rfl, .inr (T.pairs H), rfl, by decide +kernel, _, rfl, ?_⟩
        show if (!inV (.str r.str) [.str "and", .str "or", .str "unlike"]) = true then _ else _
        rw [r.notPair]
        refine iteT ?_
        refine ⟨_, rfl, _, _, _, _, rfl, rfl, SqT.of hp, rfl, _, rfl, _, _, _, _, rfl, rfl, SqT.of hp, rfl, _, rfl, _, rfl, _, _, _, _, rfl, rfl, SqT.of hp, rfl, d, _, rfl, ?_, es, as, num r, rfl, l1, l2, l3, k⟩
        rw [← hv r]
        exact DGet.k (k := Sum.inr r.str) hd
      | un x y =>
        obtain ⟨p, q, hp, h1, h2⟩ := hp
        have hx : x.height < n ∧ y.height < n := by
          have e : (Rt.un x y).height = max x.height y.height + 1 := rfl
          omega
        refine ⟨_, rfl, _, _, _, _, rfl, rfl, SqT.of hp, rfl, rfl, _, rfl, ?_⟩
        rw [show decide (V.str ("unlike" : PySem.Str) = V.str ("always" : PySem.Str)) = false by decide +kernel]
        refine iteF ?_
        refine ⟨_, rfl, _, _, _, _, rfl, rfl, SqT.of hp, rfl, rfl, _, rfl, ?_⟩
        rw [show decide (V.str ("unlike" : PySem.Str) = V.str ("not" : PySem.Str)) = false by decide +kernel]
        refine iteF ?_
        refine ⟨_, rfl, _, _, _, _, rfl, rfl, SqT.of hp, rfl, _, _, rfl, .inr (T.pairs H), rfl, by decide +kernel, _, rfl, ?_⟩
        show if (!inV (.str ("unlike" : PySem.Str)) [.str "and", .str "or", .str "unlike"]) = true then _ else _
        rw [show inV (.str ("unlike" : PySem.Str)) [.str "and", .str "or", .str "unlike"] = true by decide +kernel]
        refine iteF ?_
        refine ⟨_, rfl, _, _, _, _, rfl, rfl, SqT.of hp, rfl, _, rfl, p, d, x, num, rfl, hx.1, h1, hn, ?_⟩
        refine ⟨_, rfl, _, _, _, _, rfl, rfl, SqT.of hp, rfl, _, rfl, q, d, y, num, rfl, hx.2, h2, hn, _, _, rfl, ?_⟩
        refine ⟨_, rfl, _, _, _, _, rfl, rfl, SqT.of hp, rfl, rfl, _, rfl, ?_⟩
        rw [show decide (V.str ("unlike" : PySem.Str) = V.str ("unlike" : PySem.Str)) = true from decide_eq_true rfl]
        refine iteT ⟨_, rfl, _, rfl, rfl, ?_⟩
        have e : (!decide (V.bl (x.val num) = V.bl (y.val num))) = (Rt.un x y).val num := by
          show _ = Bool.xor (x.val num) (y.val num)
          cases x.val num <;> cases y.val num <;> decide +kernel
        show Q (.bl (!decide (V.bl (x.val num) = V.bl (y.val num)))) H
        rw [e]
        exact k
end
end K7
/-! text K7D -/
set_option maxHeartbeats 4000000
namespace K7
open PySem PySem.Spec PySem.Calls PyProof.Rows L2
section
variable {P : Program} {w : World} {K : PySem.W.Frag} {mg : PySem.Str → Option Value} {base : Heap}
/-! Word -/
def spWordInit (K : PySem.W.Frag) : Sp := fun vs H Q _ => ∃ (H0 : Hp) (p dx : Addr) (es as : List Bool), vs = [.ref p, .str (bt es), .str (bt as)] ∧ H0 p = none ∧ H0 dx = none ∧ dx ≠ p ∧ H = upd (upd H0 dx (.own p)) p (.ins (He.ga K "Word") dx []) ∧ es.length ≤ 100 ∧ as.length ≤ 100 ∧ 0 < as.length ∧
  ∀ H', Same H0 H' → WordAt K H' p es as → Q .non H'
theorem sc_Word_init : FnScope ["self", "early", "again"] ["self", "early", "again"] (defScope s_Word_init) := ⟨rfl, rfl, rfl, by decide +kernel, rfl, by decide +kernel, by decide +kernel⟩
theorem again_ne {as : List Bool} (h : 0 < as.length) : decide (V.str (bt as) = V.str ("" : PySem.Str)) = false := decide_eq_false fun e => by
  have e1 : bt as = ("" : PySem.Str) := by injection e
  rw [← bt_nil] at e1
  have e2 := bt_inj e1
  rw [e2] at h
  exact Nat.lt_irrefl _ h
theorem slt_new {H : Hp} {p C dx : Addr} (h : H p = some (.ins C dx [])) : SlX.Slt H p C dx [] := .inl ⟨h, rfl⟩
theorem same_slH {H0 H : Hp} {p C dx : Addr} {vs : List (Option V)} (s : Same H0 H) (hp : H0 p = none) (hd : H0 dx = none) : Same H0 (SlX.slH H p C dx vs) := fun b o e => by
  rw [SlX.slH_ne (ne_of_none e hp) (ne_of_none e hd)]
  exact s b o e
theorem same_made {H0 : Hp} {p C dx : Addr} (hp : H0 p = none) (hd : H0 dx = none) : Same H0 (upd (upd H0 dx (.own p)) p (.ins C dx [])) := same_upd (same_upd (Same.refl _) hd) hp
theorem ok_Word_init (T : Txt K mg) : OkF P w K mg base 2 (He.ma K (He.ga K "Word") "__init__") ["self", "early", "again"] (spWordInit K) := by
  obtain ⟨fd, F⟩ := T.fn 38 (st := s_Word_init)
  obtain ⟨f1, G1, b1, k1⟩ := ok_are_bits (P := P) (w := w) (base := base) T
  refine ⟨fd, F.ok sc_Word_init (fun vs H Q E h => ?_) (fun cdv A outer s H vs Q E hr h => ?_), F.binds (fun _ _ _ _ _ _ us hl => match us, hl with | [_, _, _], _ => rfl), F.kp⟩
  · obtain ⟨_, _, _, _, _, rfl, _⟩ := h
    rfl
  · obtain ⟨H0, p, dx, es, as, rfl, hp, hd, ne, eH, l1, l2, l3, k⟩ := h
    have hH : H p = some (.ins (He.ga K "Word") dx []) := by rw [eH, upd_same]
    have s0 : Same H0 H := by rw [eH]; exact same_made hp hd
    refine ⟨_, pss_cons (ps_if (pt_not (pt_val (pe_call G1 hr (by rfl) T.g_are_bits k1 b1 .nil pass0 (pa_cons (pv 1) pa_nil)))) pss_never pss_nil)
      (pss_cons (ps_if (PW.pt (pw_or (pt_not (pt_val (pe_call G1 hr (by rfl) T.g_are_bits k1 b1 .nil pass0 (pa_cons (pv 2) pa_nil)))) (pw_or1 (pt_cmpR op_eq (pv 2) pe_str (nomark _))))) pss_never pss_nil)
      (pss_one (ps_asg (pe_tup (pa_cons (pv 1) (pa_cons (pv 2) pa_nil))) (pg_tup (by rfl) (pgs_cons (pg_slt (pv 0)) (pgs_cons (pg_slt (pv 0)) pgs_nil)))))), ?_⟩
    refine ⟨_, rfl, bt es, rfl, bt_bits es, by rw [bt_size]; exact l1, fun H1 s1 => ⟨true, rfl, iteF ?_⟩⟩
    refine ⟨_, rfl, bt as, rfl, bt_bits as, by rw [bt_size]; exact l2, fun H2 s2 => ⟨true, rfl, iteF ?_⟩⟩
    refine ⟨_, rfl, rfl, _, rfl, ?_⟩
    rw [again_ne l3]
    refine iteF ?_
    refine ⟨_, rfl, _, rfl, (by show 2 ≤ sizeLine; decide), fun t ht => ?_⟩
    have s3 : Same H (upd H2 t (.tup [.str (bt es), .str (bt as)])) := (s1.trans s2).trans (same_upd (Same.refl _) ht)
    have h3 := s3 _ _ hH
    refine ⟨t, _, rfl, SqT.of upd_same, rfl, ?_⟩
    refine ⟨_, _, rfl, ⟨_, rfl, p, _, dx, _, _, _, rfl, slt_new h3, T.s_Word, T.l_its_early, ?_⟩⟩
    have st := SlX.slH_slt (H := upd H2 t (.tup [.str (bt es), .str (bt as)])) (a := p) (C := He.ga K "Word") (vs := SlX.putS 1 (.str (bt es)) []) ne
    refine ⟨_, _, rfl, ⟨_, rfl, p, _, dx, _, _, _, rfl, st, T.s_Word, T.l_its_again, rfl, ?_⟩⟩
    refine k _ (same_slH (same_slH (s0.trans s3) hp hd) hp hd) ⟨dx, _, SlX.slH_slt ne, ?_, ?_⟩
    · exact (SlX.putS_ne (by decide)).mpr (SlX.putS_get _ _ _)
    · exact SlX.putS_get _ _ _
def spEarly (K : PySem.W.Frag) : Sp := fun vs H Q _ => ∃ (p : Addr) (es as : List Bool), vs = [.ref p] ∧ WordAt K H p es as ∧ Q (.str (bt es)) H
def spAgain (K : PySem.W.Frag) : Sp := fun vs H Q _ => ∃ (p : Addr) (es as : List Bool), vs = [.ref p] ∧ WordAt K H p es as ∧ Q (.str (bt as)) H
def spLead (K : PySem.W.Frag) : Sp := fun vs H Q _ => ∃ (p : Addr) (es as : List Bool), vs = [.ref p] ∧ WordAt K H p es as ∧ es.length ≤ 100 ∧ Q (.int es.length) H
def spPeriod (K : PySem.W.Frag) : Sp := fun vs H Q _ => ∃ (p : Addr) (es as : List Bool), vs = [.ref p] ∧ WordAt K H p es as ∧ as.length ≤ 100 ∧ Q (.int as.length) H
theorem sc_Word_early : FnScope ["self"] ["self"] (defScope s_Word_early) := ⟨rfl, rfl, rfl, by decide +kernel, rfl, by decide +kernel, by decide +kernel⟩
theorem sc_Word_again : FnScope ["self"] ["self"] (defScope s_Word_again) := ⟨rfl, rfl, rfl, by decide +kernel, rfl, by decide +kernel, by decide +kernel⟩
theorem sc_Word_lead : FnScope ["self"] ["self"] (defScope s_Word_lead) := ⟨rfl, rfl, rfl, by decide +kernel, rfl, by decide +kernel, by decide +kernel⟩
theorem sc_Word_period : FnScope ["self"] ["self"] (defScope s_Word_period) := ⟨rfl, rfl, rfl, by decide +kernel, rfl, by decide +kernel, by decide +kernel⟩
theorem ok_Word_early (T : Txt K mg) : OkF P w K mg base 1 (He5.wf K (He.ga K "Word") "property" "early") ["self"] (spEarly K) := by
  obtain ⟨fd, F⟩ := T.fn 39 (st := s_Word_early)
  refine ⟨fd, F.ok sc_Word_early (fun vs H Q E h => ?_) (fun cdv A outer s H vs Q E hr h => ?_), F.binds (fun _ _ _ _ _ _ us hl => match us, hl with | [_], _ => rfl), F.kp⟩
  · obtain ⟨_, _, _, rfl, _⟩ := h
    rfl
  · obtain ⟨p, es, as, rfl, ⟨dx, vs, hs, h1, h0⟩, k⟩ := h
    exact ⟨_, pss_one (ps_ret (SlX.pe_sl (pv 0))), _, rfl, p, _, dx, _, vs, 1, _, rfl, hs, T.s_Word, T.l_its_early, h1, k⟩
theorem ok_Word_again (T : Txt K mg) : OkF P w K mg base 1 (He5.wf K (He.ga K "Word") "property" "again") ["self"] (spAgain K) := by
  obtain ⟨fd, F⟩ := T.fn 40 (st := s_Word_again)
  refine ⟨fd, F.ok sc_Word_again (fun vs H Q E h => ?_) (fun cdv A outer s H vs Q E hr h => ?_), F.binds (fun _ _ _ _ _ _ us hl => match us, hl with | [_], _ => rfl), F.kp⟩
  · obtain ⟨_, _, _, rfl, _⟩ := h
    rfl
  · obtain ⟨p, es, as, rfl, ⟨dx, vs, hs, h1, h0⟩, k⟩ := h
    exact ⟨_, pss_one (ps_ret (SlX.pe_sl (pv 0))), _, rfl, p, _, dx, _, vs, 0, _, rfl, hs, T.s_Word, T.l_its_again, h0, k⟩
theorem ok_Word_lead (T : Txt K mg) : OkF P w K mg base 1 (He5.wf K (He.ga K "Word") "property" "lead") ["self"] (spLead K) := by
  obtain ⟨fd, F⟩ := T.fn 41 (st := s_Word_lead)
  refine ⟨fd, F.ok sc_Word_lead (fun vs H Q E h => ?_) (fun cdv A outer s H vs Q E hr h => ?_), F.binds (fun _ _ _ _ _ _ us hl => match us, hl with | [_], _ => rfl), F.kp⟩
  · obtain ⟨_, _, _, rfl, _⟩ := h
    rfl
  · obtain ⟨p, es, as, rfl, ⟨dx, vs, hs, h1, h0⟩, hl, k⟩ := h
    refine ⟨_, pss_one (ps_ret (pe_callB call_len_str (by rfl) T.m_len boot_len (pa_cons (SlX.pe_sl (pv 0)) pa_nil))), _, rfl, p, _, dx, _, vs, 1, _, rfl, hs, T.s_Word, T.l_its_early, h1, _, rfl, by rw [bt_len]; exact Nat.le_trans hl (by decide), ?_⟩
    rw [bt_len]
    exact k
theorem ok_Word_period (T : Txt K mg) : OkF P w K mg base 1 (He5.wf K (He.ga K "Word") "property" "period") ["self"] (spPeriod K) := by
  obtain ⟨fd, F⟩ := T.fn 42 (st := s_Word_period)
  refine ⟨fd, F.ok sc_Word_period (fun vs H Q E h => ?_) (fun cdv A outer s H vs Q E hr h => ?_), F.binds (fun _ _ _ _ _ _ us hl => match us, hl with | [_], _ => rfl), F.kp⟩
  · obtain ⟨_, _, _, rfl, _⟩ := h
    rfl
  · obtain ⟨p, es, as, rfl, ⟨dx, vs, hs, h1, h0⟩, hl, k⟩ := h
    refine ⟨_, pss_one (ps_ret (pe_callB call_len_str (by rfl) T.m_len boot_len (pa_cons (SlX.pe_sl (pv 0)) pa_nil))), _, rfl, p, _, dx, _, vs, 0, _, rfl, hs, T.s_Word, T.l_its_again, h0, _, rfl, by rw [bt_len]; exact Nat.le_trans hl (by decide), ?_⟩
    rw [bt_len]
    exact k
/-! Rule -/
def spRuleInit (K : PySem.W.Frag) : Sp := fun vs H Q _ => ∃ (H0 : Hp) (p dx pa : Addr) (t : Rt), vs = [.ref p, .ref pa] ∧ H0 p = none ∧ H0 dx = none ∧ dx ≠ p ∧ H = upd (upd H0 dx (.own p)) p (.ins (He.ga K "Rule") dx []) ∧ PartsAt H0 pa t ∧
  ∀ H', Same H0 H' → RuleAt K H' p t → Q .non H'
theorem sc_Rule_init : FnScope ["self", "parts"] ["self", "parts"] (defScope s_Rule_init) := ⟨rfl, rfl, rfl, by decide +kernel, rfl, by decide +kernel, by decide +kernel⟩
theorem ok_Rule_init (T : Txt K mg) : OkF P w K mg base 1 (He.ma K (He.ga K "Rule") "__init__") ["self", "parts"] (spRuleInit K) := by
  obtain ⟨fd, F⟩ := T.fn 43 (st := s_Rule_init)
  refine ⟨fd, F.ok sc_Rule_init (fun vs H Q E h => ?_) (fun cdv A outer s H vs Q E hr h => ?_), F.binds (fun _ _ _ _ _ _ us hl => match us, hl with | [_, _], _ => rfl), F.kp⟩
  · obtain ⟨_, _, _, _, _, rfl, _⟩ := h
    rfl
  · obtain ⟨H0, p, dx, pa, t, rfl, hp, hd, ne, eH, ht, k⟩ := h
    have hH : H p = some (.ins (He.ga K "Rule") dx []) := by rw [eH, upd_same]
    have s0 : Same H0 H := by rw [eH]; exact same_made hp hd
    refine ⟨_, pss_one (SlX.ps_sl (pv 0) (pv 1)), _, rfl, _, rfl, p, _, dx, _, _, _, rfl, slt_new hH, T.s_Rule, T.l_its_parts, ?_⟩
    have s1 := same_slH (C := He.ga K "Rule") (vs := SlX.putS 0 (.ref pa) []) s0 hp hd
    exact k _ s1 ⟨dx, _, pa, SlX.slH_slt ne, SlX.putS_get _ _ _, PartsAt.nl (Nl.of s1) ht⟩
def spAlways (K : PySem.W.Frag) : Sp := fun vs H Q _ => ∃ b : Bool, vs = [.bl b] ∧ ∀ p H', Same H H' → RuleAt K H' p (.al b) → Q (.ref p) H'
theorem sc_Rule_always : FnScope ["truth"] ["truth"] (defScope s_Rule_always) := ⟨rfl, rfl, rfl, by decide +kernel, rfl, by decide +kernel, by decide +kernel⟩
theorem ok_Rule_always (T : Txt K mg) : OkF P w K mg base 3 (He5.wf K (He.ga K "Rule") "staticmethod" "always") ["truth"] (spAlways K) := by
  obtain ⟨fd, F⟩ := T.fn 45 (st := s_Rule_always)
  have R1 := (ok_Rule_init (P := P) (w := w) (base := base) T).raw
  refine ⟨fd, F.ok sc_Rule_always (fun vs H Q E h => ?_) (fun cdv A outer s H vs Q E hr h => ?_), F.binds (fun _ _ _ _ _ _ us hl => match us, hl with | [_], _ => rfl), F.kp⟩
  · obtain ⟨_, rfl, _⟩ := h
    rfl
  · obtain ⟨b, rfl, k⟩ := h
    refine ⟨_, pss_cons (ps_if (pt_not (pt_val (pe_callB call_isi (by rfl) T.m_isinstance (by decide +kernel) (pa_cons (pv 0) (pa_cons (pe_bltn (v := .ty "bool") (by rfl) T.m_bool (by decide +kernel) rfl) pa_nil))))) pss_never pss_nil)
      (pss_one (ps_ret (StX.pe_makeR T.kRule R1 hr (by rfl) T.g_Rule pass0 (pa_cons (pe_tup (pa_cons pe_str (pa_cons (pv 0) pa_nil))) pa_nil)))), ?_⟩
    refine ⟨_, rfl, .bl b, .ty "bool", .type "bool", .type "bool", true, rfl, .ty _, .base (.bl b), kit_ty (by decide +kernel), true, rfl, iteF ?_⟩
    refine ⟨_, rfl, (by show 2 ≤ sizeLine; decide), fun t ht x dx hx hdx ne => ?_⟩
    refine ⟨_, x, dx, t, .al b, rfl, hx, hdx, ne, rfl, upd_same, fun H' s' hR => ⟨rfl, k x H' ((same_upd (Same.refl _) ht).trans s') hR⟩⟩
def spBy (K : PySem.W.Frag) : Sp := fun vs H Q _ => ∃ (r : Rd) (p : Addr) (es as : List Bool), vs = [.str r.str, .ref p] ∧ WordAt K H p es as ∧ es.length ≤ 100 ∧ as.length ≤ 100 ∧ 0 < as.length ∧ ∀ p H', Same H H' → RuleAt K H' p (.rd r es as) → Q (.ref p) H'
theorem sc_Rule_by : FnScope ["reader", "word"] ["reader", "word"] (defScope s_Rule_by) := ⟨rfl, rfl, rfl, by decide +kernel, rfl, by decide +kernel, by decide +kernel⟩
theorem ok_Rule_by (T : Txt K mg) : OkF P w K mg base 3 (He5.wf K (He.ga K "Rule") "staticmethod" "by") ["reader", "word"] (spBy K) := by
  obtain ⟨fd, F⟩ := T.fn 44 (st := s_Rule_by)
  obtain ⟨f2, G2, b2, k2⟩ := ok_is_reader (P := P) (w := w) (base := base) T
  have R1 := (ok_Rule_init (P := P) (w := w) (base := base) T).raw
  have R2 := (ok_Word_early (P := P) (w := w) (base := base) T).raw
  have R3 := (ok_Word_again (P := P) (w := w) (base := base) T).raw
  obtain ⟨e1, e2, e3, e4⟩ := T.p_early
  obtain ⟨a1, a2, a3, a4⟩ := T.p_again
  refine ⟨fd, F.ok sc_Rule_by (fun vs H Q E h => ?_) (fun cdv A outer s H vs Q E hr h => ?_), F.binds (fun _ _ _ _ _ _ us hl => match us, hl with | [_, _], _ => rfl), F.kp⟩
  · obtain ⟨_, _, _, _, rfl, _⟩ := h
    rfl
  · obtain ⟨r, p, es, as, rfl, hw, l1, l2, l3, k⟩ := h
    refine ⟨_, pss_cons (ps_if (pt_not (pt_val (pe_call G2 (hr.mono (by decide)) (by rfl) T.g_is_reader k2 b2 .nil pass0 (pa_cons (pv 0) pa_nil)))) pss_never pss_nil)
      (pss_cons (ps_if (pt_not (pt_val (pe_callB (SlX.call_isiSl (.ref (He.ga K "Word"))) (by rfl) T.m_isinstance (by decide +kernel) (pa_cons (pv 1) (pa_cons (pe_glob (v := .ref (He.ga K "Word")) (by rfl) T.g_Word rfl) pa_nil))))) pss_never pss_nil)
      (pss_one (ps_ret (StX.pe_makeR T.kRule R1 hr (by rfl) T.g_Rule pass0 (pa_cons (pe_tup (pa_cons (pv 0) (pa_cons (SlX.pe_propSl (E := E0) (pv 1) T.s_Word e1 e2 e3 e4 R2 hr (fun _ _ _ _ z => z))
        (pa_cons (SlX.pe_propSl (E := E0) (pv 1) T.s_Word a1 a2 a3 a4 R3 hr (fun _ _ _ _ z => z)) pa_nil)))) pa_nil))))), ?_⟩
    obtain ⟨dx, vs, hs, h1, h0⟩ := id hw
    refine ⟨_, rfl, r, rfl, true, rfl, iteF ?_⟩
    refine ⟨_, rfl, p, _, dx, vs, .ref (He.ga K "Word"), true, rfl, rfl, fun w hw => hw, hs, T.s_Word, T.i_Word, T.k_Word, true, rfl, iteF ?_⟩
    refine ⟨_, rfl, _, rfl, p, dx, vs, rfl, hs, p, es, as, rfl, hw, _, rfl, p, dx, vs, rfl, hs, p, es, as, rfl, hw, (by show 3 ≤ sizeLine; decide), fun t ht x dx hx hdx ne => ?_⟩
    refine ⟨_, x, dx, t, .rd r es as, rfl, hx, hdx, ne, rfl, ⟨upd_same, l1, l2, l3⟩, fun H' s' hR => ⟨rfl, k x H' ((same_upd (Same.refl _) ht).trans s') hR⟩⟩
def spXor (K : PySem.W.Frag) : Sp := fun vs H Q _ => ∃ (p q : Addr) (x y : Rt), vs = [.ref p, .ref q] ∧ RuleAt K H p x ∧ RuleAt K H q y ∧ ∀ p H', Same H H' → RuleAt K H' p (.un x y) → Q (.ref p) H'
theorem sc_Rule_xor : FnScope ["self", "other"] ["self", "other"] (defScope s_Rule_xor) := ⟨rfl, rfl, rfl, by decide +kernel, rfl, by decide +kernel, by decide +kernel⟩
theorem ok_Rule_xor (T : Txt K mg) : OkF P w K mg base 3 (He.ma K (He.ga K "Rule") "__xor__") ["self", "other"] (spXor K) := by
  obtain ⟨fd, F⟩ := T.fn 47 (st := s_Rule_xor)
  have R1 := (ok_Rule_init (P := P) (w := w) (base := base) T).raw
  refine ⟨fd, F.ok sc_Rule_xor (fun vs H Q E h => ?_) (fun cdv A outer s H vs Q E hr h => ?_), F.binds (fun _ _ _ _ _ _ us hl => match us, hl with | [_, _], _ => rfl), F.kp⟩
  · obtain ⟨_, _, _, _, rfl, _⟩ := h
    rfl
  · obtain ⟨p, q, x, y, rfl, ⟨dx, vs, pa, hs, h0, hx⟩, ⟨dy, ws, qa, hs2, h02, hy⟩, k⟩ := h
    refine ⟨_, pss_one (ps_ret (StX.pe_makeR T.kRule R1 hr (by rfl) T.g_Rule pass0 (pa_cons (pe_tup (pa_cons pe_str (pa_cons (SlX.pe_sl (pv 0)) (pa_cons (SlX.pe_sl (pv 1)) pa_nil)))) pa_nil))), ?_⟩
    refine ⟨_, rfl, p, _, dx, _, vs, 0, _, rfl, hs, T.s_Rule, T.l_its_parts, h0, _, rfl, q, _, dy, _, ws, 0, _, rfl, hs2, T.s_Rule, T.l_its_parts, h02, (by show 3 ≤ sizeLine; decide), fun t ht x' dx hx' hdx ne => ?_⟩
    have s1 : Same H (upd H t (.tup [.str "unlike", .ref pa, .ref qa])) := same_upd (Same.refl _) ht
    refine ⟨_, x', dx, t, .un x y, rfl, hx', hdx, ne, rfl, ⟨pa, qa, upd_same, PartsAt.nl (Nl.of s1) hx, PartsAt.nl (Nl.of s1) hy⟩, fun H' s' hR => ⟨rfl, k x' H' (s1.trans s') hR⟩⟩
def spRuleCall (K : PySem.W.Frag) : Sp := fun vs H Q _ => ∃ (p : Addr) (t : Rt) (r i j n m : Nat), vs = [.ref p, .int r, .int i, .int j, .int n, .int m] ∧ r ≤ 100 ∧ RuleAt K H p t ∧ t.height < 8 ∧ ∀ H', Same H H' → Q (.bl (t.val fun rd => rd.num n m (r, i, j))) H'
theorem sc_Rule_call : FnScope ["self", "r", "i", "j", "suns", "moons", "numbers"] ["self", "r", "i", "j", "suns", "moons"] (defScope s_Rule_call) := ⟨rfl, rfl, rfl, by decide +kernel, rfl, by decide +kernel, by decide +kernel⟩
def numKvs (n m r i j : Nat) : List (Key × V) := [(Sum.inr "turns", .int ((r : Int) * m + j)), (Sum.inr "others", .int ((r : Int) * n + i)), (Sum.inr "rounds", .int r), (Sum.inr "suns", .int i), (Sum.inr "moons", .int j)]
theorem numKvs_at (n m r i j : Nat) (rd : Rd) : valV (mergeK [] (numKvs n m r i j)) (Sum.inr rd.str) = some (.int (rd.num n m (r, i, j) : Nat)) := by
  cases rd with
  | turns =>
    show some (V.int ((r : Int) * m + j)) = some (V.int ((r * m + j : Nat) : Int))
    rw [Int.natCast_add, Int.natCast_mul]
  | others =>
    show some (V.int ((r : Int) * n + i)) = some (V.int ((r * n + i : Nat) : Int))
    rw [Int.natCast_add, Int.natCast_mul]
  | rounds => rfl
  | suns => rfl
  | moons => rfl
theorem ok_Rule_call (T : Txt K mg) : OkF P w K mg base 11 (He.ma K (He.ga K "Rule") "__call__") ["self", "r", "i", "j", "suns", "moons"] (spRuleCall K) := by
  obtain ⟨fd, F⟩ := T.fn 46 (st := s_Rule_call)
  obtain ⟨f2, G2, b2, k2⟩ := ok_truth_of (P := P) (w := w) (base := base) T 8
  refine ⟨fd, F.ok sc_Rule_call (fun vs H Q E h => ?_) (fun cdv A outer s H vs Q E hr h => ?_), F.binds (fun _ _ _ _ _ _ us hl => match us, hl with | [_, _, _, _, _, _], _ => rfl), F.kp⟩
  · obtain ⟨_, _, _, _, _, _, _, rfl, _⟩ := h
    rfl
  · obtain ⟨p, t, r, i, j, n, m, rfl, hrr, ⟨dx, vs, pa, hs, h0, hp⟩, ht, k⟩ := h
    refine ⟨_, pss_cons (ps_set (i := 6) sc_Rule_call.nd rfl (Or.inl rfl) (pe_disp (pps_cons pe_str (pe_op op_add (pe_op op_mul (pv 1) (pv 5)) (pv 3)) (pps_cons pe_str (pe_op op_add (pe_op op_mul (pv 1) (pv 4)) (pv 2)) (pps_cons pe_str (pv 1) (pps_cons pe_str (pv 2) (pps_cons pe_str (pv 3) pps_nil))))) (by rfl) (by rfl) (fun z => by cases z) (by decide)))
      (pss_one (ps_ret (pe_call G2 hr (by rfl) T.g_truth_of k2 b2 .nil pass0 (pa_cons (SlX.pe_sl (pv 0)) (pa_cons (pv 6) pa_nil))))), ?_⟩
    refine fun d hd => ?_
    have bnd : -(2 ^ 64 : Int) < (r : Int) ∧ (r : Int) < 2 ^ 64 := by omega
    refine ⟨_, rfl, _, rfl, _, _, rfl, rfl, .inl bnd, _, rfl, _, _, rfl, rfl, ?_⟩
    refine ⟨_, rfl, _, rfl, _, _, rfl, rfl, .inl bnd, _, rfl, _, _, rfl, rfl, ?_⟩
    refine ⟨_, rfl, _, rfl, _, rfl, upd_same, numKvs n m r i j, rfl, (by show 5 ≤ 15; decide), ?_⟩
    have s1 : Same H (upd (upd H d (.dK [])) d (.dK (mergeK [] (numKvs n m r i j)))) := same_upd (same_upd (Same.refl _) hd) hd
    refine ⟨_, rfl, p, _, dx, _, vs, 0, _, rfl, (Nl.of s1).slt hs, T.s_Rule, T.l_its_parts, h0, _, rfl, pa, d, t, _, rfl, ht, PartsAt.nl (Nl.of s1) hp, ⟨_, upd_same, numKvs_at n m r i j⟩, k _ s1⟩
end
end K7
/-! text K7F -/
set_option maxHeartbeats 4000000
namespace K7
open PySem PySem.Spec PySem.Calls PyProof.Rows L2
section
variable {P : Program} {w : World} {K : PySem.W.Frag} {mg : PySem.Str → Option Value} {base : Heap}
def spDanceInit (K : PySem.W.Frag) : Sp := fun vs H Q _ => ∃ (H0 : Hp) (p dx ru : Addr) (n m R : Nat) (t : Rt), vs = [.ref p, .int n, .int m, .int R, .ref ru] ∧ H0 p = none ∧ H0 dx = none ∧ dx ≠ p ∧ H = upd (upd H0 dx (.own p)) p (.ins (He.ga K "Dance") dx []) ∧ 0 < n ∧ 0 < m ∧ 0 < R ∧ RuleAt K H0 ru t ∧
  ∀ H', Same H0 H' → DanceAt K H' p n m R t → Q .non H'
theorem sc_Dance_init : FnScope ["self", "suns", "moons", "rounds", "rule", "place", "number"] ["self", "suns", "moons", "rounds", "rule"] (defScope s_Dance_init) := ⟨rfl, rfl, rfl, by decide +kernel, rfl, by decide +kernel, by decide +kernel⟩
theorem ok_Dance_init (T : Txt K mg) : OkF P w K mg base 3 (He.ma K (He.ga K "Dance") "__init__") ["self", "suns", "moons", "rounds", "rule"] (spDanceInit K) := by
  obtain ⟨fd, F⟩ := T.fn 52 (st := s_Dance_init)
  obtain ⟨f1, G1, b1, k1⟩ := ok_is_number (P := P) (w := w) (base := base) T
  refine ⟨fd, F.ok sc_Dance_init (fun vs H Q E h => ?_) (fun cdv A outer s H vs Q E hr h => ?_), F.binds (fun _ _ _ _ _ _ us hl => match us, hl with | [_, _, _, _, _], _ => rfl), F.kp⟩
  · obtain ⟨_, _, _, _, _, _, _, _, rfl, _⟩ := h
    rfl
  · obtain ⟨H0, p, dx, ru, n, m, R, t, rfl, hp, hd, ne, eH, hn, hm, hR, hru, k⟩ := h
    have hH : H p = some (.ins (He.ga K "Dance") dx []) := by rw [eH, upd_same]
    have s0 : Same H0 H := by rw [eH]; exact same_made hp hd
    refine ⟨_, pss_cons (ps_for PassesOwn.never rfl (pi_enum (by rfl) T.m_enumerate (pa_cons (pe_lst (pa_cons (pv 1) (pa_cons (pv 2) (pa_cons (pv 3) pa_nil)))) pa_nil))
        (pg_tup (by rfl) (pgs_cons (pg_name (i := 5) sc_Dance_init.nd rfl (Or.inl rfl)) (pgs_cons (pg_name (i := 6) sc_Dance_init.nd rfl (Or.inl rfl)) pgs_nil)))
        (pss_one (ps_if (pt_not (pt_val (pe_call G1 hr (by rfl) T.g_is_number k1 b1 .nil pass0 (pa_cons (pv 6) pa_nil)))) pss_never pss_nil)))
      (pss_cons (ps_if (pt_not (pt_val (pe_callB (SlX.call_isiSl (.ref (He.ga K "Rule"))) (by rfl) T.m_isinstance (by decide +kernel) (pa_cons (pv 4) (pa_cons (pe_glob (v := .ref (He.ga K "Rule")) (by rfl) T.g_Rule rfl) pa_nil))))) pss_never pss_nil)
      (pss_one (ps_asg (pe_tup (pa_cons (pv 1) (pa_cons (pv 2) (pa_cons (pv 3) (pa_cons (pv 4) pa_nil))))) (pg_tup (by rfl) (pgs_cons (pg_slt (pv 0)) (pgs_cons (pg_slt (pv 0)) (pgs_cons (pg_slt (pv 0)) (pgs_cons (pg_slt (pv 0)) pgs_nil)))))))), ?_⟩
    refine ⟨_, rfl, _, rfl, _, rfl, (by show 3 ≤ sizeLine; decide), fun L hL => ?_⟩
    have sL : Same H (upd H L (.lst [.int n, .int m, .int R])) := same_upd (Same.refl _) hL
    refine ⟨L, _, rfl, SqL.of upd_same, ?_⟩
    refine for_it (walk_enum (K := K) (a := L) (xs := [.int n, .int m, .int R])) (fun i σ H' => ∃ v u : Option V, σ = [some (.ref p), some (.int n), some (.int m), some (.int R), some (.ref ru), v, u] ∧ Same H H' ∧ H' L = some (.lst [.int n, .int m, .int R]))
      ⟨none, none, rfl, sL, upd_same⟩ (fun i σ H' _ ⟨_, _, _, _, h⟩ => SqL.of h) (fun i x σ H' H2 hi ⟨v, u, e, s', hL'⟩ y => ?_) (fun σ H' ⟨v, u, e, s', hL'⟩ => ?_)
    · obtain ⟨t', x, y, rfl, ht, rfl, hx, hy⟩ := y
      subst e
      have hy2 : ∃ z : Nat, y = .int z ∧ 1 ≤ z := by
        match i, hy with
        | 0, hy => exact ⟨n, (Option.some.inj hy).symm, hn⟩
        | 1, hy => exact ⟨m, (Option.some.inj hy).symm, hm⟩
        | 2, hy => exact ⟨R, (Option.some.inj hy).symm, hR⟩
      obtain ⟨z, rfl, hz⟩ := hy2
      have s2 : Same H' (upd H' t' (.tup [x, .int z])) := same_upd (Same.refl _) ht
      refine ⟨t', _, rfl, SqT.of upd_same, rfl, _, _, rfl, _, _, rfl, rfl, ?_⟩
      refine ⟨_, rfl, z, rfl, true, ?_, iteF ?_⟩
      · rw [decide_eq_true (show (z : Int) ≥ 1 by omega)]
      · exact ⟨_, _, rfl, s'.trans s2, s2 _ _ hL'⟩
    · subst e
      obtain ⟨rx, rvs, rpa, rs, r0, rp⟩ := id hru
      refine ⟨_, rfl, ru, _, rx, rvs, .ref (He.ga K "Rule"), true, rfl, rfl, fun w hw => hw, (Nl.of (s0.trans s')).slt rs, T.s_Rule, T.i_Rule, T.k_Rule, true, rfl, iteF ?_⟩
      refine ⟨_, rfl, _, rfl, _, rfl, _, rfl, (by show 4 ≤ sizeLine; decide), fun q hq => ?_⟩
      have s3 : Same H (upd H' q (.tup [.int n, .int m, .int R, .ref ru])) := s'.trans (same_upd (Same.refl _) hq)
      have h3 := s3 _ _ hH
      refine ⟨q, _, rfl, SqT.of upd_same, rfl, ?_⟩
      refine ⟨_, _, rfl, ⟨_, rfl, p, _, dx, _, _, _, rfl, slt_new h3, T.s_Dance, T.l_its_suns, ?_⟩⟩
      refine ⟨_, _, rfl, ⟨_, rfl, p, _, dx, _, _, _, rfl, SlX.slH_slt ne, T.s_Dance, T.l_its_moons, ?_⟩⟩
      refine ⟨_, _, rfl, ⟨_, rfl, p, _, dx, _, _, _, rfl, SlX.slH_slt ne, T.s_Dance, T.l_its_rounds, ?_⟩⟩
      refine ⟨_, _, rfl, ⟨_, rfl, p, _, dx, _, _, _, rfl, SlX.slH_slt ne, T.s_Dance, T.l_its_rule, rfl, ?_⟩⟩
      have sf := same_slH (C := He.ga K "Dance") (vs := SlX.putS 2 (.ref ru) (SlX.putS 1 (.int R) (SlX.putS 0 (.int m) (SlX.putS 3 (.int n) [])))) (same_slH (C := He.ga K "Dance") (vs := SlX.putS 1 (.int R) (SlX.putS 0 (.int m) (SlX.putS 3 (.int n) []))) (same_slH (C := He.ga K "Dance") (vs := SlX.putS 0 (.int m) (SlX.putS 3 (.int n) [])) (same_slH (C := He.ga K "Dance") (vs := SlX.putS 3 (.int n) []) (s0.trans s3) hp hd) hp hd) hp hd) hp hd
      refine k _ sf ⟨dx, _, ru, SlX.slH_slt ne, ?_, ?_, ?_, SlX.putS_get _ _ _, hru.nl (Nl.of sf)⟩
      · exact (SlX.putS_ne (by decide)).mpr ((SlX.putS_ne (by decide)).mpr ((SlX.putS_ne (by decide)).mpr (SlX.putS_get _ _ _)))
      · exact (SlX.putS_ne (by decide)).mpr ((SlX.putS_ne (by decide)).mpr (SlX.putS_get _ _ _))
      · exact (SlX.putS_ne (by decide)).mpr (SlX.putS_get _ _ _)
def spDance (K : PySem.W.Frag) (g : Nat → Nat → Nat → Nat) : Sp := fun vs H Q _ => ∃ (p : Addr) (n m R : Nat) (t : Rt), vs = [.ref p] ∧ DanceAt K H p n m R t ∧ Q (.int (g n m R : Nat)) H
theorem sc_Dance_suns : FnScope ["self"] ["self"] (defScope s_Dance_suns) := ⟨rfl, rfl, rfl, by decide +kernel, rfl, by decide +kernel, by decide +kernel⟩
theorem sc_Dance_moons : FnScope ["self"] ["self"] (defScope s_Dance_moons) := ⟨rfl, rfl, rfl, by decide +kernel, rfl, by decide +kernel, by decide +kernel⟩
theorem sc_Dance_rounds : FnScope ["self"] ["self"] (defScope s_Dance_rounds) := ⟨rfl, rfl, rfl, by decide +kernel, rfl, by decide +kernel, by decide +kernel⟩
theorem ok_Dance_suns (T : Txt K mg) : OkF P w K mg base 1 (He5.wf K (He.ga K "Dance") "property" "suns") ["self"] (spDance K fun n _ _ => n) := by
  obtain ⟨fd, F⟩ := T.fn 53 (st := s_Dance_suns)
  refine ⟨fd, F.ok sc_Dance_suns (fun vs H Q E h => ?_) (fun cdv A outer s H vs Q E hr h => ?_), F.binds (fun _ _ _ _ _ _ us hl => match us, hl with | [_], _ => rfl), F.kp⟩
  · obtain ⟨_, _, _, _, _, rfl, _⟩ := h
    rfl
  · obtain ⟨p, n, m, R, t, rfl, ⟨dx, vs, ru, hs, h3, h0, h1, h2, _⟩, k⟩ := h
    exact ⟨_, pss_one (ps_ret (SlX.pe_sl (pv 0))), _, rfl, p, _, dx, _, vs, 3, _, rfl, hs, T.s_Dance, T.l_its_suns, h3, k⟩
theorem ok_Dance_moons (T : Txt K mg) : OkF P w K mg base 1 (He5.wf K (He.ga K "Dance") "property" "moons") ["self"] (spDance K fun _ m _ => m) := by
  obtain ⟨fd, F⟩ := T.fn 54 (st := s_Dance_moons)
  refine ⟨fd, F.ok sc_Dance_moons (fun vs H Q E h => ?_) (fun cdv A outer s H vs Q E hr h => ?_), F.binds (fun _ _ _ _ _ _ us hl => match us, hl with | [_], _ => rfl), F.kp⟩
  · obtain ⟨_, _, _, _, _, rfl, _⟩ := h
    rfl
  · obtain ⟨p, n, m, R, t, rfl, ⟨dx, vs, ru, hs, h3, h0, h1, h2, _⟩, k⟩ := h
    exact ⟨_, pss_one (ps_ret (SlX.pe_sl (pv 0))), _, rfl, p, _, dx, _, vs, 0, _, rfl, hs, T.s_Dance, T.l_its_moons, h0, k⟩
theorem ok_Dance_rounds (T : Txt K mg) : OkF P w K mg base 1 (He5.wf K (He.ga K "Dance") "property" "rounds") ["self"] (spDance K fun _ _ R => R) := by
  obtain ⟨fd, F⟩ := T.fn 55 (st := s_Dance_rounds)
  refine ⟨fd, F.ok sc_Dance_rounds (fun vs H Q E h => ?_) (fun cdv A outer s H vs Q E hr h => ?_), F.binds (fun _ _ _ _ _ _ us hl => match us, hl with | [_], _ => rfl), F.kp⟩
  · obtain ⟨_, _, _, _, _, rfl, _⟩ := h
    rfl
  · obtain ⟨p, n, m, R, t, rfl, ⟨dx, vs, ru, hs, h3, h0, h1, h2, _⟩, k⟩ := h
    exact ⟨_, pss_one (ps_ret (SlX.pe_sl (pv 0))), _, rfl, p, _, dx, _, vs, 1, _, rfl, hs, T.s_Dance, T.l_its_rounds, h1, k⟩
/-- a meeting's tuple -/
def mt3 (t : Nat × Nat × Nat) : List V := [.int t.1, .int t.2.1, .int t.2.2]
theorem mt3_int (t : Nat × Nat × Nat) {i : Nat} {y : V} (h : (mt3 t)[i]? = some y) : ∃ z : Nat, y = .int z := by
  match i, h with
  | 0, h => exact ⟨_, (Option.some.inj h).symm⟩
  | 1, h => exact ⟨_, (Option.some.inj h).symm⟩
  | 2, h => exact ⟨_, (Option.some.inj h).symm⟩
def spIsMeeting (K : PySem.W.Frag) : Sp := fun vs H Q _ => ∃ (p a : Addr) (n m R : Nat) (t : Rt) (mt : Nat × Nat × Nat), vs = [.ref p, .ref a] ∧ DanceAt K H p n m R t ∧ H a = some (.tup (mt3 mt)) ∧ mt.1 < R ∧ mt.2.1 < n ∧ mt.2.2 < m ∧ ∀ H', Same H H' → Q (.bl true) H'
theorem sc_Dance_is_meeting : FnScope ["self", "thing", "part"] ["self", "thing"] (defScope s_Dance_is_meeting) := ⟨rfl, rfl, rfl, by decide +kernel, rfl, by decide +kernel, by decide +kernel⟩
theorem ok_Dance_is_meeting (T : Txt K mg) : OkF P w K mg base 3 (He.ma K (He.ga K "Dance") "is_meeting") ["self", "thing"] (spIsMeeting K) := by
  obtain ⟨fd, F⟩ := T.fn 56 (st := s_Dance_is_meeting)
  obtain ⟨f1, G1, b1, k1⟩ := ok_is_count (P := P) (w := w) (base := base) T
  refine ⟨fd, F.ok sc_Dance_is_meeting (fun vs H Q E h => ?_) (fun cdv A outer s H vs Q E hr h => ?_), F.binds (fun _ _ _ _ _ _ us hl => match us, hl with | [_, _], _ => rfl), F.kp⟩
  · obtain ⟨_, _, _, _, _, _, _, rfl, _⟩ := h
    rfl
  · obtain ⟨p, a, n, m, R, t, mt, rfl, ⟨dx, vs, ru, hs, h3, h0, h1, h2, _⟩, ha, l1, l2, l3, k⟩ := h
    refine ⟨_, pss_cons (ps_if (PW.pt (pw_or (pt_not (pt_val (pe_callB call_isi (by rfl) T.m_isinstance (by decide +kernel) (pa_cons (pv 1) (pa_cons (pe_bltn (v := .ty "tuple") (by rfl) T.m_tuple (by decide +kernel) rfl) pa_nil)))))
        (pw_or (pt_cmpR op_ne (pe_callB call_len_seq (by rfl) T.m_len boot_len (pa_cons (pv 1) pa_nil)) pe_int (nomark _))
          (pw_or1 (pt_not (pt_val (pe_callB (cr_all rfl) (by rfl) T.m_all (by decide +kernel) (pa_cons (pe_lc (own := [("part", 2)]) (g := gName 2) (tt := tYes) rfl sc_Dance_is_meeting.nd (pi_tup (pv 1)) (blkOk_by (N := ["self", "thing", "part"]) (sc := defScope s_Dance_is_meeting) (by decide +kernel))
            (fun _ _ _ _ _ => pg_name (i := 2) sc_Dance_is_meeting.nd rfl (Or.inl rfl)) (fun _ _ _ _ _ => pts_nil) (fun _ _ _ _ _ => pe_call G1 hr (by rfl) T.g_is_count k1 b1 .nil pass0 (pa_cons (pv 2) pa_nil))) pa_nil)))))))) (pss_one (ps_ret pe_bl)) pss_nil)
      (pss_one (ps_ret (pe_and (pe_cmpR op_lt (pe_ix ix_tup (pv 1) pe_int (fun _ _ => rfl)) (SlX.pe_sl (pv 0)) (nomark _)) (pe_and (pe_cmpR op_lt (pe_ix ix_tup (pv 1) pe_int (fun _ _ => rfl)) (SlX.pe_sl (pv 0)) (nomark _)) (pe_one (pe_cmpR op_lt (pe_ix ix_tup (pv 1) pe_int (fun _ _ => rfl)) (SlX.pe_sl (pv 0)) (nomark _))))))), ?_⟩
    refine ⟨_, rfl, .ref a, .ty "tuple", .type "tuple", .type "tuple", true, rfl, .ty _, .base (.tup ha), kit_ty (by decide +kernel), true, rfl, iteF ?_⟩
    refine ⟨_, rfl, _, _, rfl, .inr (SqT.of ha), rfl, _, rfl, iteF ?_⟩
    refine ⟨_, rfl, a, rfl, ⟨_, SqT.of ha⟩, fun D hD => ?_⟩
    refine lc_flat (walk_tup (K := K) (a := a) (xs := mt3 mt)) (fun _ => .bl true) hD (by show 3 < sizeLine; decide) (fun H1 s1 => SqT.of (s1 _ _ ha)) (fun i x H1 H2 Kt hi s1 y q => ?_) (fun i H1 x H2 y => by rw [y.1]; exact Same.refl _) (fun H1 s1 eD => ?_)
    · obtain ⟨rfl, hx⟩ := y
      obtain ⟨z, rfl⟩ := mt3_int mt hx
      refine ⟨rfl, _, rfl, z, rfl, ?_⟩
      rw [decide_eq_true (show (z : Int) ≥ 0 by omega)]
      exact q _ (Same.refl _)
    · refine ⟨D, [true, true, true], rfl, SqL.of eD, true, rfl, iteF ?_⟩
      have ha1 := s1 _ _ ha
      have hs1 := (Nl.of s1).slt hs
      refine ⟨_, rfl, _, _, _, _, rfl, rfl, SqT.of ha1, rfl, _, rfl, p, _, dx, _, vs, 1, _, rfl, hs1, T.s_Dance, T.l_its_rounds, h1, _, _, rfl, rfl, _, rfl, ?_⟩
      rw [decide_eq_true (show (mt.1 : Int) < (R : Int) by omega)]
      refine iteT ⟨_, rfl, _, _, _, _, rfl, rfl, SqT.of ha1, rfl, _, rfl, p, _, dx, _, vs, 3, _, rfl, hs1, T.s_Dance, T.l_its_suns, h3, _, _, rfl, rfl, _, rfl, ?_⟩
      rw [decide_eq_true (show (mt.2.1 : Int) < (n : Int) by omega)]
      refine iteT ⟨_, rfl, _, _, _, _, rfl, rfl, SqT.of ha1, rfl, _, rfl, p, _, dx, _, vs, 0, _, rfl, hs1, T.s_Dance, T.l_its_moons, h0, _, _, rfl, rfl, ?_⟩
      show Q (.bl (decide ((mt.2.2 : Int) < (m : Int)))) H1
      rw [decide_eq_true (show (mt.2.2 : Int) < (m : Int) by omega)]
      exact k _ s1
def spNeed (K : PySem.W.Frag) : Sp := fun vs H Q _ => ∃ (p a : Addr) (n m R : Nat) (t : Rt) (mt : Nat × Nat × Nat), vs = [.ref p, .ref a] ∧ DanceAt K H p n m R t ∧ H a = some (.tup (mt3 mt)) ∧ mt.1 < R ∧ mt.2.1 < n ∧ mt.2.2 < m ∧ ∀ H', Same H H' → Q .non H'
theorem sc_Dance_need : FnScope ["self", "thing"] ["self", "thing"] (defScope s_Dance_need_meeting) := ⟨rfl, rfl, rfl, by decide +kernel, rfl, by decide +kernel, by decide +kernel⟩
theorem ok_Dance_need (T : Txt K mg) : OkF P w K mg base 4 (He.ma K (He.ga K "Dance") "need_meeting") ["self", "thing"] (spNeed K) := by
  obtain ⟨fd, F⟩ := T.fn 57 (st := s_Dance_need_meeting)
  have R1 := (ok_Dance_is_meeting (P := P) (w := w) (base := base) T).raw
  refine ⟨fd, F.ok sc_Dance_need (fun vs H Q E h => ?_) (fun cdv A outer s H vs Q E hr h => ?_), F.binds (fun _ _ _ _ _ _ us hl => match us, hl with | [_, _], _ => rfl), F.kp⟩
  · obtain ⟨_, _, _, _, _, _, _, rfl, _⟩ := h
    rfl
  · obtain ⟨p, a, n, m, R, t, mt, rfl, hdc, ha, l1, l2, l3, k⟩ := h
    obtain ⟨dx, vs, ru, hs, _⟩ := id hdc
    refine ⟨_, pss_one (ps_if (pt_not (pt_val (SlX.pe_methSl (E := E0) (pv 0) T.s_Dance T.me_is_meeting.1 R1 hr pass0 (pa_cons (pv 1) pa_nil)))) pss_never pss_nil), ?_⟩
    exact ⟨_, rfl, p, dx, vs, rfl, hs, _, rfl, p, a, n, m, R, t, mt, rfl, hdc, ha, l1, l2, l3, fun H1 s1 => ⟨true, rfl, iteF (k _ s1)⟩⟩
def spAbove (K : PySem.W.Frag) : Sp := fun vs H Q _ => ∃ (p a : Addr) (n m R : Nat) (t : Rt) (mt : Nat × Nat × Nat), vs = [.ref p, .ref a] ∧ DanceAt K H p n m R t ∧ H a = some (.tup (mt3 mt)) ∧ mt.1 < R ∧ mt.2.1 < n ∧ mt.2.2 < m ∧ R ≤ 100 ∧ t.height < 8 ∧ ∀ H', Same H H' → Q (.bl (t.val fun rd => rd.num n m mt)) H'
theorem sc_Dance_above : FnScope ["self", "meeting", "r", "i", "j"] ["self", "meeting"] (defScope s_Dance_above) := ⟨rfl, rfl, rfl, by decide +kernel, rfl, by decide +kernel, by decide +kernel⟩
theorem ok_Dance_above (T : Txt K mg) : OkF P w K mg base 12 (He.ma K (He.ga K "Dance") "above") ["self", "meeting"] (spAbove K) := by
  obtain ⟨fd, F⟩ := T.fn 58 (st := s_Dance_above)
  have R1 := (ok_Dance_need (P := P) (w := w) (base := base) T).raw
  have R2 := (ok_Rule_call (P := P) (w := w) (base := base) T).raw
  refine ⟨fd, F.ok sc_Dance_above (fun vs H Q E h => ?_) (fun cdv A outer s H vs Q E hr h => ?_), F.binds (fun _ _ _ _ _ _ us hl => match us, hl with | [_, _], _ => rfl), F.kp⟩
  · obtain ⟨_, _, _, _, _, _, _, rfl, _⟩ := h
    rfl
  · obtain ⟨p, a, n, m, R, t, mt, rfl, hdc, ha, l1, l2, l3, l4, l5, k⟩ := h
    obtain ⟨dx, vs, ru, hs, h3, h0, h1, h2, hru⟩ := id hdc
    refine ⟨_, pss_cons (ps_expr (SlX.pe_methSl (E := E0) (pv 0) T.s_Dance T.me_need_meeting.1 R1 (hr.mono (by decide)) pass0 (pa_cons (pv 1) pa_nil)))
      (pss_cons (ps_asg (pv 1) (pg_tup (by rfl) (pgs_cons (pg_name (i := 2) sc_Dance_above.nd rfl (Or.inl rfl)) (pgs_cons (pg_name (i := 3) sc_Dance_above.nd rfl (Or.inl rfl)) (pgs_cons (pg_name (i := 4) sc_Dance_above.nd rfl (Or.inl rfl)) pgs_nil)))))
      (pss_one (ps_ret (pe_slO (E := E0) (pv 0) (C2 := He.ga K "Rule") ⟨T.me_call.1.at_, T.me_call.1.fn, T.me_call.2⟩ R2 hr pass0 (pa_cons (pv 2) (pa_cons (pv 3) (pa_cons (pv 4) (pa_cons (SlX.pe_sl (pv 0)) (pa_cons (SlX.pe_sl (pv 0)) pa_nil))))))))), ?_⟩
    refine ⟨_, rfl, p, dx, vs, rfl, hs, _, rfl, p, a, n, m, R, t, mt, rfl, hdc, ha, l1, l2, l3, fun H1 s1 => ?_⟩
    have hs1 := (Nl.of s1).slt hs
    have ha1 := s1 _ _ ha
    have hru1 := hru.nl (Nl.of s1)
    refine ⟨_, rfl, a, _, rfl, SqT.of ha1, rfl, _, _, rfl, _, _, rfl, _, _, rfl, rfl, ?_⟩
    obtain ⟨rx, rvs, rpa, rs, r0, rp⟩ := id hru1
    refine ⟨_, rfl, p, _, dx, _, vs, 2, ru, rfl, hs1, T.s_Dance, T.l_its_rule, h2, _, rfl, _, rfl, _, rfl, _, rfl, p, _, dx, _, vs, 3, _, rfl, hs1, T.s_Dance, T.l_its_suns, h3, _, rfl, p, _, dx, _, vs, 0, _, rfl, hs1, T.s_Dance, T.l_its_moons, h0, ?_⟩
    exact ⟨.inl ⟨rx, rvs, rs⟩, ru, t, mt.1, mt.2.1, mt.2.2, n, m, rfl, by omega, hru1, l5, fun H2 s2 => k _ (s1.trans s2)⟩
end
end K7
/-! text K7E -/
set_option maxHeartbeats 4000000
namespace K7
open PySem PySem.Spec PySem.Calls PyProof.Rows L2
section
variable {P : Program} {w : World} {K : PySem.W.Frag} {mg : PySem.Str → Option Value} {base : Heap}
def joinT : List Rt → Rt
  | [] => .al false
  | x :: r => r.foldl .un x
def WordsAt (K : PySem.W.Frag) (H : Hp) (a : Addr) (ws : List (List Bool × List Bool)) : Prop := ∃ as : List Addr, H a = some (.lst (as.map V.ref)) ∧ as.length = ws.length ∧ ∀ (i : Nat) (p : Addr) (x : List Bool × List Bool), as[i]? = some p → ws[i]? = some x → WordAt K H p x.1 x.2
def leaves (fs : List Fm) (ws : List (List Bool × List Bool)) : List Rt := List.zipWith (fun f x => Rt.rd f.rd x.1 x.2) fs ws
def spJoined (K : PySem.W.Frag) : Sp := fun vs H Q _ => ∃ (a b : Addr) (fs : List Fm) (ws : List (List Bool × List Bool)), vs = [.ref a, .ref b] ∧ FormsAt H a fs ∧ WordsAt K H b ws ∧ ws.length = fs.length ∧ fs.length ≤ 100 ∧ (∀ x ∈ ws, x.1.length ≤ 100 ∧ x.2.length ≤ 100 ∧ 0 < x.2.length) ∧
  ∀ p H', Same H H' → RuleAt K H' p (joinT (leaves fs ws)) → Q (.ref p) H'
theorem sc_joined_rule : FnScope ["forms", "words", "rules", "found", "rule", "form", "word"] ["forms", "words"] (defScope s_joined_rule) := ⟨rfl, rfl, rfl, by decide +kernel, rfl, by decide +kernel, by decide +kernel⟩
theorem ix_tupK {X : Cx} {K : PySem.W.Frag} (h : X.K = K := by rfl) : IxR X (rIxT K) := by
  subst h
  exact ix_tup
theorem cut1 (as : List Addr) : cutV (as.map V.ref) (some 1) none = (as.drop 1).map V.ref := by
  unfold cutV
  rw [show HT.sIx (as.map V.ref).length 0 (some 1) = min 1 (as.map V.ref).length from HT.sIx_nat _ _ 1, HT.sIx_none, List.map_drop]
  rw [List.take_of_length_le (by rw [List.length_drop]; omega)]
  cases as with
  | nil => rfl
  | cons x r => rw [show min 1 ((x :: r).map V.ref).length = 1 by simp]
theorem atI_nat0 {xs : List V} {v : V} {i : Nat} (h : xs[i]? = some v) : atI xs (i : Nat) = some v := atI_nat h
theorem ok_joined_rule (T : Txt K mg) : OkF P w K mg base 4 (He.ga K "joined_rule") ["forms", "words"] (spJoined K) := by
  obtain ⟨fd, F⟩ := T.fn 8 (st := s_joined_rule)
  have RA := ok_Rule_always (P := P) (w := w) (base := base) T
  have RB := ok_Rule_by (P := P) (w := w) (base := base) T
  have RX := (ok_Rule_xor (P := P) (w := w) (base := base) T).raw
  refine ⟨fd, F.ok sc_joined_rule (fun vs H Q E h => ?_) (fun cdv A outer s H vs Q E hr h => ?_), F.binds (fun _ _ _ _ _ _ us hl => match us, hl with | [_, _], _ => rfl), F.kp⟩
  · obtain ⟨_, _, _, _, rfl, _⟩ := h
    rfl
  · obtain ⟨a, b, fs, ws, rfl, hf, hw, hl, h100, hlen, k⟩ := h
    refine ⟨_, pss_cons (ps_setLc (i := 2) (g := gTup K 2 (gCons (gName 5) (gCons (gName 6) gNil))) (own := [("form", 5), ("word", 6)]) (by rfl) sc_joined_rule.nd rfl rfl (sw_true rfl rfl rfl (by decide +kernel)) (pi_zip (by rfl) T.m_zip (pa_cons (pv 0) (pa_cons (pv 1) pa_nil)))
        (blkOk_by (N := ["forms", "words", "rules", "found", "rule", "form", "word"]) (sc := defScope s_joined_rule) (by decide +kernel))
        (fun _ _ _ _ _ => pg_tup (by rfl) (pgs_cons (pg_name (i := 5) sc_joined_rule.nd rfl (Or.inl rfl)) (pgs_cons (pg_name (i := 6) sc_joined_rule.nd rfl (Or.inl rfl)) pgs_nil))) (fun _ _ _ _ _ => pts_nil)
        (fun _ _ _ _ _ => pe_smeth (E := E0) (pe_glob (v := .ref (He.ga K "Rule")) (by rfl) T.g_Rule rfl) (T.st_by RB.kp) RB.raw hr pass0 (pa_cons (pe_ix (ix_tupK (K := K)) (pv 5) pe_int (fun _ _ => rfl)) (pa_cons (pv 6) pa_nil))))
      (pss_cons (ps_if (pt_cmpR (OpR.or2 (op_eqD hr.units) (op_eqLen hr.units0)) (pv 2) (pe_lst pa_nil) (nomark _)) (pss_one (ps_ret (pe_smeth (E := E0) (pe_glob (v := .ref (He.ga K "Rule")) (by rfl) T.g_Rule rfl) (T.st_always RA.kp) RA.raw hr pass0 (pa_cons pe_bl pa_nil)))) pss_nil)
      (pss_cons (ps_set (i := 3) sc_joined_rule.nd rfl (Or.inl rfl) (pe_ix ix_list (pv 2) pe_int (fun _ _ => rfl)))
      (pss_cons (ps_for PassesOwn.never rfl (pi_list (pe_slice sl_list (pv 2) (po_some pe_int) po_none)) (pg_name (i := 4) sc_joined_rule.nd rfl (Or.inl rfl))
        (pss_one (ps_set (i := 3) sc_joined_rule.nd rfl (Or.inl rfl) (pe_op (op_own (E := E0) T.selfRule T.me_xor.1.at_ T.me_xor.1.fn RX hr pass0) (pv 3) (pv 4)))))
      (pss_one (ps_ret (pv 3)))))), ?_⟩
    obtain ⟨fa, hf1, hf2, hf3⟩ := hf
    obtain ⟨wa, hw1, hw2, hw3⟩ := hw
    refine ⟨_, rfl, _, rfl, a, b, _, _, rfl, SqL.of hf1, SqL.of hw1, fun D hD => ?_⟩
    refine lc_rel (walk_zip (n := fs.length) (by rw [List.length_map, List.length_map, hf2, hw2, hl, Nat.min_self])) (fun i p H => ∃ f x, fs[i]? = some f ∧ ws[i]? = some x ∧ RuleAt K H p (.rd f.rd x.1 x.2)) (fun i p H H' s ⟨f, x, e1, e2, h⟩ => ⟨f, x, e1, e2, h.nl s⟩) hD (Nat.lt_of_le_of_lt h100 (by decide))
      (fun H1 s1 => ⟨s1.seq (SqL.of hf1), s1.seq (SqL.of hw1)⟩) (fun i x H1 H2 Kt hi s1 y q => ?_) (fun i H1 x H2 y => ?_) (fun H1 s1 hRf => ?_)
    · obtain ⟨t, x, y, rfl, ht, rfl, hx, hy⟩ := y
      have hi1 : i < fa.length := by omega
      have hi2 : i < wa.length := by omega
      have hi3 : i < ws.length := by omega
      have hx : (fa.map V.ref)[i]? = some x := hx
      have hy : (wa.map V.ref)[i]? = some y := hy
      rw [List.getElem?_map, List.getElem?_eq_getElem hi1] at hx
      rw [List.getElem?_map, List.getElem?_eq_getElem hi2] at hy
      cases hx
      cases hy
      have s2 : Same H1 (upd H1 t (.tup [.ref fa[i], .ref wa[i]])) := same_upd (Same.refl _) ht
      have ef := hf3 i fa[i] fs[i] (List.getElem?_eq_getElem hi1) (List.getElem?_eq_getElem hi)
      have ew := hw3 i wa[i] ws[i] (List.getElem?_eq_getElem hi2) (List.getElem?_eq_getElem hi3)
      obtain ⟨q1, q2, q3⟩ := hlen ws[i] (List.getElem_mem hi3)
      refine ⟨t, _, rfl, SqT.of upd_same, rfl, _, _, rfl, _, _, rfl, rfl, rfl, ?_⟩
      refine ⟨rfl, _, rfl, _, _, _, _, rfl, rfl, SqT.of ((s1.trans s2) _ _ ef), rfl, _, rfl, fs[i].rd, wa[i], ws[i].1, ws[i].2, rfl, ew.nl (Nl.of (s1.trans s2)), q1, q2, q3, fun p H' s' hR => q p H' s' ⟨fs[i], ws[i], List.getElem?_eq_getElem hi, List.getElem?_eq_getElem hi3, hR⟩⟩
    · obtain ⟨t, x, y, rfl, ht, rfl, hx, hy⟩ := y
      exact same_upd (Same.refl _) ht
    · obtain ⟨ra, hr1, hr2, hr3⟩ := hRf
      have lv : (leaves fs ws).length = fs.length := by unfold leaves; rw [List.length_zipWith, hl, Nat.min_self]
      have hlv : ∀ (i : Nat) (p : Addr), ra[i]? = some p → ∃ t, (leaves fs ws)[i]? = some t ∧ RuleAt K H1 p t := fun i p e => by
        obtain ⟨f, x, e1, e2, h⟩ := hr3 i p e
        refine ⟨_, ?_, h⟩
        unfold leaves
        rw [List.getElem?_zipWith, e1, e2]
      refine ⟨_, rfl, Nat.zero_le _, fun L hL => ?_⟩
      have sL : Same H1 (upd H1 L (.lst [])) := same_upd (Same.refl _) hL
      cases hra : ra with
      | nil =>
        subst hra
        have e0 : leaves fs ws = [] := List.length_eq_zero_iff.mp (by rw [lv, ← hr2] <;> rfl)
        refine .inl ⟨.list [], .list [], .lst (SqL.of (sL _ _ hr1)) .nil, .lst (SqL.of upd_same) .nil, rfl, rfl, true, rfl, ?_⟩
        refine iteT ⟨rfl, false, rfl, fun p H' s' hR => k p H' ((s1.trans sL).trans s') ?_⟩
        rw [e0]
        exact hR
      | cons p0 rest =>
        subst hra
        refine .inr ⟨D, L, _, _, rfl, rfl, SqL.of (sL _ _ hr1), SqL.of upd_same, by simp, false, rfl, iteF ?_⟩
        refine ⟨_, rfl, _, _, _, V.ref p0, rfl, rfl, SqL.of (sL _ _ hr1), atI_nat0 (i := 0) rfl, ?_⟩
        obtain ⟨t0, e0, R0⟩ := hlv 0 p0 rfl
        refine ⟨_, rfl, _, rfl, D, _, rfl, SqL.of (sL _ _ hr1), fun S hS => ?_⟩
        rw [cut1]
        have sS : Same H1 (upd (upd H1 L (.lst [])) S (.lst ((p0 :: rest).drop 1 |>.map V.ref))) := sL.trans (same_upd (Same.refl _) hS)
        refine ⟨S, rfl, ⟨_, SqL.of upd_same⟩, ?_⟩
        refine for_it (walk_list (K := K) (a := S) (xs := rest.map V.ref)) (fun i σ H' => ∃ (p : Addr) (v : Option V), σ = [some (.ref a), some (.ref b), some (.ref D), some (.ref p), v, none, none] ∧ Same H1 H' ∧ H' S = some (.lst (rest.map V.ref)) ∧ RuleAt K H' p (((leaves fs ws).tail.take i).foldl .un t0))
          ⟨p0, none, rfl, sS, upd_same, by rw [List.take_zero]; exact R0.nl (Nl.of sS)⟩ (fun i σ H' _ ⟨_, _, _, _, h, _⟩ => SqL.of h) (fun i x σ H' H2 hi ⟨p, v, e, s', hS', hR⟩ y => ?_) (fun σ H' ⟨p, v, e, s', hS', hR⟩ => ?_)
        · obtain ⟨rfl, hx⟩ := y
          subst e
          rw [List.length_map] at hi
          rw [List.getElem?_map, List.getElem?_eq_getElem hi] at hx
          cases hx
          obtain ⟨t1, e1, R1⟩ := hlv (i + 1) rest[i] (by rw [List.getElem?_cons_succ]; exact List.getElem?_eq_getElem hi)
          have R1' := R1.nl (Nl.of s')
          obtain ⟨dx, vs, _, hs1, _⟩ := id hR
          obtain ⟨dy, ws', _, hs2, _⟩ := id R1'
          refine ⟨_, rfl, _, rfl, p, dx, vs, rest[i], dy, ws', rfl, rfl, hs1, hs2, p, rest[i], _, t1, rfl, hR, R1', fun p2 H3 s3 hR3 => ?_⟩
          refine ⟨p2, _, rfl, s'.trans s3, s3 _ _ hS', ?_⟩
          have et : (leaves fs ws).tail.take (i + 1) = (leaves fs ws).tail.take i ++ [t1] := by
            rw [List.take_succ]
            congr 1
            rw [List.getElem?_tail, e1] <;> rfl
          rw [et, List.foldl_append]
          exact hR3
        · subst e
          refine ⟨_, rfl, k p H' (s1.trans s') ?_⟩
          have el : (leaves fs ws).tail.length = rest.length := by
            rw [List.length_tail, lv, ← hr2]
            simp
          rw [List.length_map, List.take_of_length_le (by omega)] at hR
          have ej : joinT (leaves fs ws) = (leaves fs ws).tail.foldl .un t0 := by
            cases hv : leaves fs ws with
            | nil => rw [hv] at e0; cases e0
            | cons u r =>
              rw [hv] at e0
              cases e0
              rfl
          rw [ej]
          exact hR
end
end K7
/-! text K7Lp -/
set_option maxHeartbeats 4000000
/-! the loops of a comprehension: any comprehension, any clause without tests -/
namespace K7
open PySem PySem.Spec PySem.Calls PyProof.Rows L2
section
variable {prog : Program} {w : World} {A : Around} {R : Result → Shared → Prop} {s : Shared} {e : Expr} {d : Nat} {acc : Value} {env : Env}
/-- a comprehension whose code is run in the def's own frame -/
structure Comp (e : Expr) : Prop where
  loop : ∀ (prog : Program) (w : World) d it acc env, (model prog w).den (.compLoop e d it acc env) = (compTurn e d it acc env).onRaise fun x => noteFrame x env >>= fun _ => theTreesLotGoes x
  start : ∀ (prog : Program) (w : World) d it acc env, (model prog w).den (.compStart e d it acc env) = (compStart e d it acc env).onRaise fun x => noteFrame x env >>= fun _ => standAt theWindowsPlace
  loopA : ∀ (A : Around) d it acc env, A.under (.compLoop e d it acc env) = A
  startA : ∀ (A : Around) d it acc env, A.under (.compStart e d it acc env) = A
theorem comp_list {x : Expr} {gs : List Comprehension} {sc : Scope} {p : Pos} : Comp (.ListComp x gs sc p) := ⟨fun _ _ _ _ _ _ => rfl, fun _ _ _ _ _ _ => rfl, fun _ _ _ _ _ => rfl, fun _ _ _ _ _ => rfl⟩
theorem comp_dict {x y : Expr} {gs : List Comprehension} {sc : Scope} {p : Pos} : Comp (.DictComp x y gs sc p) := ⟨fun _ _ _ _ _ _ => rfl, fun _ _ _ _ _ _ => rfl, fun _ _ _ _ _ => rfl, fun _ _ _ _ _ => rfl⟩
/-- an error that leaves the loop -/
abbrev Out (prog : Program) (w : World) (A : Around) (env : Env) (R : Result → Shared → Prop) : Value → Shared → Prop :=
  notedBy (model prog w) A env fun x s => R (.error x) s
/-- a turn's end: the loop is over, or it goes on and G holds -/
def Goes (R : Result → Shared → Prop) (c : Code) (G : Shared → Prop) : Fin → Shared → Prop
  | .done f, s => R (.ok f) s
  | .again c', s => c' = c ∧ G s
/-- a clause's loop, tl: what a turn does once the target is stored -/
theorem loop_any {it : Value} {p : Pos} {t : Expr} {tl : Sem Fin} (ce : Comp e)
    (hT : compTurn e d it acc env = (standAt p >>= fun _ => pyNext it >>= fun r => match r with
      | none => pure (.done .next)
      | some v => letOwnedTupleGo t it v >>= fun _ => assign t env v >>= fun _ => tl))
    (J : Nat → Shared → Prop)
    (turn : ∀ n s, J n s → wpAny (model prog w) A (pyNext it) (fun r s1 => match r with
      | none => R (.ok .next) s1
      | some v => wpAny (model prog w) A (letOwnedTupleGo t it v) (fun _ s2 => wpAny (model prog w) A (assign t env v) (fun _ s3 =>
          wpAny (model prog w) A tl (Goes R (.compLoop e d it acc env) fun s => ∃ m, m < n ∧ J m s) (Out prog w A env R) s3) (Out prog w A env R) s2) (Out prog w A env R) s1) (Out prog w A env R) s)
    (n : Nat) (h : J n s) : codeAny (model prog w) A (.compLoop e d it acc env) R s := by
  refine codeAny_loop rfl J (fun n s j => ?_) n h
  have same : ∀ x s, Out prog w A env R x s → Out prog w A env R x s := fun _ _ q => q
  have go : wpAny (model prog w) A (compTurn e d it acc env) (fun f s' => match f with
      | .done f => R (.ok f) s'
      | .again c' => c' = .compLoop e d it acc env ∧ ∃ m, m < n ∧ J m s') (Out prog w A env R) s := by
    rw [hT]
    refine wpAny_bind (wpAny_standAt (wpAny_bind (wpAny_mono (turn n s j) ?_ same)))
    rintro (_ | v) s1 q
    · exact wpAny_pure q
    · refine wpAny_bind (wpAny_mono q (fun _ s2 q2 => wpAny_bind (wpAny_mono q2 (fun _ s3 q3 => wpAny_mono q3 ?_ same) same)) same)
      rintro (f | c') s4 q4 <;> exact q4
  rw [ce.loop, ce.loopA]
  exact wpAny_noted go
/-- a clause's loop begins -/
theorem start_any {t i : Expr} {it : Value} (ce : Comp e) (hk : (clausesOf e)[d]? = some ⟨t, i, [], 0⟩)
    (h0 : codeAny (model prog w) A (.compLoop e d it acc env) R s)
    (h1 : wpAny (model prog w) A (pyIter it) (fun it' s' => codeAny (model prog w) A (.compLoop e d it' acc env) R s') (Out prog w A env R) s) :
    codeAny (model prog w) A (.compStart e d it acc env) R s := by
  have go : wpAny (model prog w) A (compStart e d it acc env) (fun f s' => match f with
      | .done f => R (.ok f) s'
      | .again c' => c'.quiet = true ∧ codeAny (model prog w) A c' R s') (Out prog w A env R) s := by
    unfold compStart
    rw [hk]
    refine wpAny_bind (wpAny_askSetting (wpAny_ite ?_))
    split
    · first
      | exact wpAny_bind (wpAny_pure (wpAny_pure ⟨rfl, h0⟩))
      | exact wpAny_pure ⟨rfl, h0⟩
    · exact wpAny_bind (wpAny_rule (wpAny_bind (wpAny_standAt (wpAny_bind (wpAny_mono h1 (fun _ _ q => wpAny_pure ⟨rfl, q⟩) fun _ _ q => q)))))
  refine codeAny_of_tree ?_
  rw [ce.start, ce.startA]
  exact wpAny_notedAt go
end
section
variable {Y : Cx}
/-- τ knows all that σ knows -/
def Knows (σ τ : L2.St) : Prop := σ.length = τ.length ∧ ∀ (j : Nat) v, σ[j]? = some (some v) → τ[j]? = some (some v)
theorem knows_wipe {σ τ : L2.St} {a b : List Nat} (e : wipe τ a = wipe σ a) (hb : ∀ i ∈ b, i ∈ a) : Knows (wipe σ a) (wipe τ b) := by
  refine ⟨by rw [← e, wipe_length, wipe_length], fun j v h => ?_⟩
  rw [← e] at h
  have q := wipe_some h
  rw [wipe_out fun z => q.2 (hb j z)]
  exact q.1
theorem knows_self {σ τ : L2.St} {a : List Nat} (e : wipe τ a = wipe σ a) : Knows (wipe σ a) τ :=
  ⟨by rw [← e, wipe_length], fun j v h => (wipe_some (by rw [← e] at h; exact h)).1⟩
/-- a clause's loop between two turns -/
def AtC (Y : Cx) (ps : List (Addr × Obj)) (σ : L2.St) (fp : List Addr) (tn : Nat → Heap → Prop) (W : Nat → Nat → Hp → Prop) (n : Nat) (s : Shared) : Prop :=
  ∃ i H, Inv Y ps σ H s ∧ tn i s.heap ∧ (∀ b ∈ fp, H b = none) ∧ W i n H
/-- a clause's loop over an iterator that tells its turns -/
theorem clause_ok {ps : List (Addr × Obj)} {σ : L2.St} {tg e : Expr} {J : It} {fp : List Addr} {it : Addr} {tn : Nat → Heap → Prop} {g : TG} {W : Nat → Nat → Hp → Prop} {Dn : Hp → Prop} {B : (Hp → Prop) → L2.St → Hp → Prop}
    {d n0 : Nat} {acc : Value} {p : Pos} {tl : Sem Fin} {R : Result → Shared → Prop} {s : Shared}
    (ce : Comp e) (hx : Y.xe = fun _ _ => False) (hc : Y.calm = true) (T : Turn Y.prog Y.w Y.K tg J fp it tn) (pg : PG Y tg g)
    (st : ∀ H s, Inv Y ps σ H s → (∀ b ∈ fp, H b = none) → ∀ b ∈ fp, FpOk Y ps H b)
    (turn : ∀ i m H, W i m H → (J.stop i H ∧ Dn H) ∨ (J.go i H ∧ ∃ Nx : Hp → Prop, (∀ H', Nx H' → ∃ m', m' < m ∧ W (i + 1) m' H') ∧ ∀ x H', J.yld i H x H' → g x σ H' (B Nx)))
    (hT : compTurn e d (.ref it) acc Y.env = (standAt p >>= fun _ => pyNext (.ref it) >>= fun r => match r with
      | none => pure (.done .next)
      | some v => letOwnedTupleGo tg (.ref it) v >>= fun _ => assign tg Y.env v >>= fun _ => tl))
    (dn : ∀ H s, Inv Y ps σ H s → Dn H → R (.ok .next) s)
    (body : ∀ (n : Nat) (Nx : Hp → Prop) (ps' : List (Addr × Obj)) (s : Shared) (τ : L2.St) (H : Hp), Inv Y ps' τ H s → B Nx τ H →
      (∀ υ s' H', Inv Y ps' υ H' s' → Knows σ υ → Nx H' → ∃ m, m < n ∧ AtC Y ps σ fp tn W m s') →
      wpAny (model Y.prog Y.w) Y.A tl (Goes R (.compLoop e d (.ref it) acc Y.env) fun s' => ∃ m, m < n ∧ AtC Y ps σ fp tn W m s') (Out Y.prog Y.w Y.A Y.env R) s)
    (h : AtC Y ps σ fp tn W n0 s) : codeAny (model Y.prog Y.w) Y.A (.compLoop e d (.ref it) acc Y.env) R s := by
  refine loop_any ce hT (AtC Y ps σ fp tn W) ?_ n0 h
  rintro n s ⟨i, H, I, t, f, w⟩
  rcases turn i n H w with ⟨a, b⟩ | ⟨a, Nx, k, b⟩
  · refine thnF (T.done Y rfl rfl rfl hc i ps s σ H _ I (st H s I f) t a) ?_
    rintro _ s1 ⟨rfl, I1⟩
    exact dn H s1 I1 b
  · refine thnF (T.item Y rfl rfl rfl hc i ps s σ H _ I (st H s I f) t a) ?_
    rintro _ s1 ⟨u, rfl, q⟩
    refine thnF q ?_
    rintro _ s2 ⟨x, H2, I2, rx, y, t2, f2⟩
    have stored := pg.run _ s2 σ H2 x u _ (I2.pinned (st H2 s2 I2 f2) (T.obj _ _ t2)) rx (b x H2 y)
    rw [hx] at stored
    refine thnF stored ?_
    rintro _ s3 ⟨τ, H3, I3, q3⟩
    refine body n Nx _ s3 τ H3 I3 q3 fun υ s' H' I' kn nx => ?_
    have held : ∀ b ∈ fp, ∀ o, s2.heap.get? b = some o → s'.heap.get? b = some o ∧ H' b = none := fun b hb o eo =>
      ⟨(I'.pin (b, o) (List.mem_append_right _ (List.mem_append_right _ (mem_pinsAt hb eo)))).1, (I'.pin (b, o) (List.mem_append_right _ (List.mem_append_right _ (mem_pinsAt hb eo)))).2.1⟩
    obtain ⟨m, lt, w'⟩ := k H' nx
    exact ⟨m, lt, i + 1, H', I'.unpinned.weak kn.1 kn.2, T.keep _ _ _ t2 fun b hb o eo => (held b hb o eo).1, fun b hb => (T.obj _ _ t2 b hb).elim fun o eo => (held b hb o eo.1).2, w'⟩
/-- a turn whose rest is the next clause -/
theorem inner_ok {ps : List (Addr × Obj)} {τ : L2.St} {H : Hp} {s : Shared} {tg i e : Expr} {d : Nat} {acc : Value} {wi : TI} {Rd : It → Hp → Prop} {R : Result → Shared → Prop} {c : Code} {G : Shared → Prop} {E : Value → Shared → Prop}
    (hx : Y.xe = fun _ _ => False) (pi : PI Y tg i wi) (hs : ∀ x, foldedSetIterable i Y.env x = pure x) (I : Inv Y ps τ H s) (h : wi τ H Rd)
    (start : ∀ itv s2, PIE Y ps τ tg Rd itv s2 → codeAny (model Y.prog Y.w) Y.A (.compStart e d itv acc Y.env) (fun r s' => match r with
      | .ok _ => G s'
      | .error _ => False) s2) :
    wpAny (model Y.prog Y.w) Y.A (eval i Y.env >>= fun x => standAt i.pos >>= fun _ => foldedSetIterable i Y.env x >>= fun x => holding [x] (pyIter x) >>= fun itv => runOwn (.compStart e d itv acc Y.env) Y.env >>= fun _ => again c) (Goes R c G) E s := by
  have run := pi.run ps s τ H Rd I h
  rw [hx] at run
  refine wpAny_bind (thnF run fun x s1 q => wpAny_bind (wpAny_standAt (wpAny_bind (wpAny_of_eq (hs x) (wpAny_bind (wpAny_holding (thnF q fun itv s2 q2 => wpAny_bind (wpAny_runOwn ?_))))))))
  rw [Around.mark_none]
  refine codeAny_mono (start itv s2 q2) ?_
  rintro (f | x) s' q
  · first
      | exact wpAny_pure ⟨rfl, q⟩
      | exact wpAny_bind (wpAny_pure (wpAny_pure ⟨rfl, q⟩))
      | exact q.elim
  · first
      | exact wpAny_pure ⟨rfl, q⟩
      | exact wpAny_bind (wpAny_pure (wpAny_pure ⟨rfl, q⟩))
      | exact q.elim
end
section
variable {X : Cx}
/-- a comprehension: its first iterator, the new object D, and the block in which the loop runs -/
theorem block_ok {pins : List (Addr × Obj)} {s : Shared} {σ : L2.St} {H : Hp} {Q : VK} {E tg iter : Expr} {gs : List Comprehension} {scope : Scope} {own : List (PySem.Str × Nat)} {pos' : Pos} {wi : TI} {Rd : It → Hp → Prop} {use : Option (Value → Sem Unit)} {Qf : Value → Shared → Prop} {cn : String} {dt : Data} {v0 : HO}
    (hcl : clausesOf E = ⟨tg, iter, [], 0⟩ :: gs) (hN : X.N.Nodup) (I : Inv X pins σ H s) (hi : PI X tg iter wi) (ok : BlkOk X.N X.env.scope scope own) (hs : ∀ x, foldedSetIterable iter X.env x = pure x) (hd : sizeOk dt)
    (new : ∀ (s2 : Shared) (H2 : Hp), Inv X pins σ H2 s2 → ObjOk X.prog X.w (upd H2 s2.heap.objs.size v0) (s2.heap.push { cls := .type cn, data := dt }) s2.heap.objs.size v0)
    (h : wi σ H Rd)
    (hRR : ∀ D C s' m H', Inv X pins σ H' s' → Q (.ref D) H' → s'.heap.Ns C m → FpOk X pins H' C → compPost (model X.prog X.w) X.A X.xe use Qf (.ref D) C (.ok .next) s')
    (loop : ∀ (D it C : Addr) (fp : List Addr) (tn : Nat → Heap → Prop) (J : It) (H2 : Hp) (s3 s4 : Shared) (cl : List (PySem.Str × Addr)), Rd J H2 → H2 D = none → Turn X.prog X.w X.K tg J fp it tn →
      Inv (X.blk s3 (upd H2 D v0) scope (compEnvC scope cl C X.env) fp) [] (wipe σ (own.map (·.2))) (upd H2 D v0) s4 → tn 0 s4.heap → (∀ b ∈ fp, (upd H2 D v0) b = none) →
      (∀ H' s', Inv (X.blk s3 (upd H2 D v0) scope (compEnvC scope cl C X.env) fp) [] (wipe σ (own.map (·.2))) H' s' → (∀ b ∈ fp, H' b = none) → ∀ b ∈ fp, FpOk (X.blk s3 (upd H2 D v0) scope (compEnvC scope cl C X.env) fp) [] H' b) →
      (∀ H' s', Inv (X.blk s3 (upd H2 D v0) scope (compEnvC scope cl C X.env) fp) [] (wipe σ (own.map (·.2))) H' s' → Q (.ref D) H' → compPost (model X.prog X.w) X.A X.xe use Qf (.ref D) C (.ok .next) s') →
      codeAny (model X.prog X.w) X.A (.compStart E 0 (.ref it) (.ref D) (compEnvC scope cl C X.env)) (compPost (model X.prog X.w) X.A X.xe use Qf (.ref D) C) s4) :
    wpAny (model X.prog X.w) X.A (comprehension E scope X.env pos' (newObj (.type cn) dt) false (eval iter X.env) use) Qf X.xe s := by
  have cells : ∀ y ∈ scope.names, y.2 = .free → ∃ c, X.env.cells.lookup y.1 = some c := fun y hy q => (ok.free y hy q).elim (fun k => I.ok.has _ (.inl k)) fun k => I.ok.has _ (.inr k)
  refine wpAny_comprehension_free (use := use) hcl hs (closure_ok cells) ok.kind (fun y hy q => by rw [ok.uniq y hy, q]) (thn (hi.run pins s σ H _ I h) fun xv s1 q1 => thn q1 ?_)
  rintro _ s2 ⟨it, fp, tn, J, H2, rfl, I2, T, t2, f2, rd⟩
  refine wpAny_newObj_type (newEnv_comp ?_) hd
  have free : H2 s2.heap.objs.size = none := I2.hok.fresh (Nat.le_refl _)
  have old : ∀ b ∈ fp, b < s2.heap.objs.size := fun b hb => (T.obj _ _ t2 b hb).elim fun o q => Heap.lt_size q.1
  have none3 : ∀ b ∈ fp, (upd H2 s2.heap.objs.size v0) b = none := fun b hb => by rw [upd_ne (Nat.ne_of_lt (old b hb))]; exact (f2 b hb).1
  have I3 : Inv X pins σ (upd H2 s2.heap.objs.size v0) { s2 with heap := s2.heap.push { cls := .type cn, data := dt } } :=
    I2.laid (t' := s2.toks) (fun b o q => Heap.get?_push_of_some _ q) (Nat.le_refl _) (new s2 H2 I2)
  have f3 : ∀ b ∈ fp, FpOk X pins (upd H2 s2.heap.objs.size v0) b ∧ b < (s2.heap.push { cls := .type cn, data := dt }).objs.size := fun b hb =>
    ⟨⟨none3 b hb, (f2 b hb).2⟩, by rw [Heap.size_push]; exact Nat.lt_succ_of_lt (old b hb)⟩
  have I4 := block_start I3 ok hN f3
  refine loop s2.heap.objs.size it _ fp tn J H2 _ _ _ rd free T I4 (T.keep _ _ _ t2 fun b _ o q => pushCells_keeps _ _ _ _ (Heap.get?_push_of_some _ (Heap.get?_push_of_some _ q))) none3
    (fun H' s' I' hn b hb => ⟨hn b hb, (I'.ok.exf b hb).1, I'.ok.exfs b hb, .inl hb, fun x c q => (I'.ok.exf b hb).2 x c q, fun p hp => by cases hp⟩) fun H' s' I' q => ?_
  have back : Inv X pins σ H' s' := I3.call' (ch := fp) I'.os I'.base I'.hok I'.bare fun b hb => ⟨(f3 b hb).1.2.2.2.1, (f3 b hb).1.2.1, (f3 b hb).1.2.2.2.2.1, (f3 b hb).1.2.2.2.2.2⟩
  obtain ⟨m, hm, _⟩ := I'.loc
  exact hRR _ _ s' m H' back q hm (I3.fpOk (Nat.le_refl _) I'.free)
end
end K7
/-! text K7R3 -/
set_option maxHeartbeats 4000000
/-! a list comprehension of three clauses without tests -/
namespace K7
open PySem PySem.Spec PySem.Calls PyProof.Rows L2
section
variable {X : Cx}
theorem compTurn3_0 (elt t0 i0 t1 i1 t2 i2 : Expr) (scope : Scope) (pos : Pos) (it acc : Value) (env : Env) :
    compTurn (.ListComp elt [⟨t0, i0, [], 0⟩, ⟨t1, i1, [], 0⟩, ⟨t2, i2, [], 0⟩] scope pos) 0 it acc env = (standAt i0.pos >>= fun _ => pyNext it >>= fun r => match r with
      | none => pure (.done .next)
      | some v => letOwnedTupleGo t0 it v >>= fun _ => assign t0 env v >>= fun _ => eval i1 env >>= fun x => standAt i1.pos >>= fun _ => foldedSetIterable i1 env x >>= fun x =>
          holding [x] (pyIter x) >>= fun itv => runOwn (.compStart (.ListComp elt [⟨t0, i0, [], 0⟩, ⟨t1, i1, [], 0⟩, ⟨t2, i2, [], 0⟩] scope pos) 1 itv acc env) env >>= fun _ => again (.compLoop (.ListComp elt [⟨t0, i0, [], 0⟩, ⟨t1, i1, [], 0⟩, ⟨t2, i2, [], 0⟩] scope pos) 0 it acc env)) := by rfl
theorem compTurn3_1 (elt t0 i0 t1 i1 t2 i2 : Expr) (scope : Scope) (pos : Pos) (it acc : Value) (env : Env) :
    compTurn (.ListComp elt [⟨t0, i0, [], 0⟩, ⟨t1, i1, [], 0⟩, ⟨t2, i2, [], 0⟩] scope pos) 1 it acc env = (standAt i1.pos >>= fun _ => pyNext it >>= fun r => match r with
      | none => pure (.done .next)
      | some v => letOwnedTupleGo t1 it v >>= fun _ => assign t1 env v >>= fun _ => eval i2 env >>= fun x => standAt i2.pos >>= fun _ => foldedSetIterable i2 env x >>= fun x =>
          holding [x] (pyIter x) >>= fun itv => runOwn (.compStart (.ListComp elt [⟨t0, i0, [], 0⟩, ⟨t1, i1, [], 0⟩, ⟨t2, i2, [], 0⟩] scope pos) 2 itv acc env) env >>= fun _ => again (.compLoop (.ListComp elt [⟨t0, i0, [], 0⟩, ⟨t1, i1, [], 0⟩, ⟨t2, i2, [], 0⟩] scope pos) 1 it acc env)) := by rfl
theorem compTurn3_2 (elt t0 i0 t1 i1 t2 i2 : Expr) (scope : Scope) (pos : Pos) (it acc : Value) (env : Env) :
    compTurn (.ListComp elt [⟨t0, i0, [], 0⟩, ⟨t1, i1, [], 0⟩, ⟨t2, i2, [], 0⟩] scope pos) 2 it acc env = (standAt i2.pos >>= fun _ => pyNext it >>= fun r => match r with
      | none => pure (.done .next)
      | some v => letOwnedTupleGo t2 it v >>= fun _ => assign t2 env v >>= fun _ => (eval elt env >>= fun x => call (.builtin "list.append") [acc, x] >>= fun _ => pure ()) >>= fun _ => again (.compLoop (.ListComp elt [⟨t0, i0, [], 0⟩, ⟨t1, i1, [], 0⟩, ⟨t2, i2, [], 0⟩] scope pos) 2 it acc env)) := by rfl
def tLc3 (wi : TI) (g : TG) (wi1 : TI) (g1 : TG) (wi2 : TI) (g2 : TG) (te : TE) (vs vs1 vs2 : List Nat) : TE := fun σ H Q => wi σ H fun J H1 => ∀ D, H1 D = none → ∃ W : Nat → Nat → Hp → Prop, (∃ m, W 0 m (upd H1 D (.lst []))) ∧ ∀ i m H, W i m H →
  (J.stop i H ∧ Q (.ref D) H) ∨ (J.go i H ∧ ∃ Nx : Hp → Prop, (∀ H', Nx H' → ∃ m', m' < m ∧ W (i + 1) m' H') ∧ ∀ x H', J.yld i H x H' → g x (wipe σ vs) H' fun σ2 H2 => wipe σ2 vs = wipe σ vs ∧
    wi1 σ2 H2 fun J1 H4 => ∃ W1 : Nat → Nat → Hp → Prop, (∃ m, W1 0 m H4) ∧ ∀ j k H, W1 j k H →
      (J1.stop j H ∧ Nx H) ∨ (J1.go j H ∧ ∃ Nx1 : Hp → Prop, (∀ H', Nx1 H' → ∃ k', k' < k ∧ W1 (j + 1) k' H') ∧ ∀ x H', J1.yld j H x H' → g1 x (wipe σ2 vs1) H' fun σ3 H5 => wipe σ3 vs1 = wipe σ2 vs1 ∧
        wi2 σ3 H5 fun J2 H6 => ∃ W2 : Nat → Nat → Hp → Prop, (∃ m, W2 0 m H6) ∧ ∀ l k H, W2 l k H →
          (J2.stop l H ∧ Nx1 H) ∨ (J2.go l H ∧ ∃ Nx2 : Hp → Prop, (∀ H', Nx2 H' → ∃ k', k' < k ∧ W2 (l + 1) k' H') ∧ ∀ x H', J2.yld l H x H' → g2 x (wipe σ3 vs2) H' fun σ4 H7 => wipe σ4 vs2 = wipe σ3 vs2 ∧
            te σ4 H7 fun y H8 => ∃ acc, H8 D = some (.lst acc) ∧ acc.length < sizeLine ∧ Nx2 (upd H8 D (.lst (acc ++ [y]))))))
theorem lc3_core {pins : List (Addr × Obj)} {s : Shared} {σ : L2.St} {H : Hp} {Q : VK} {elt tg iter tg1 iter1 tg2 iter2 : Expr} {scope : Scope} {own : List (PySem.Str × Nat)} {vs1 vs2 : List Nat} {pos pos' : Pos} {wi wi1 wi2 : TI} {g g1 g2 : TG} {te : TE} {use : Option (Value → Sem Unit)} {Qf : Value → Shared → Prop}
    (hc : X.calm = true) (hN : X.N.Nodup) (I : Inv X pins σ H s) (hi : PI X tg iter wi) (ok : BlkOk X.N X.env.scope scope own) (hv : ∀ i ∈ vs1, i ∈ own.map (·.2)) (hv2 : ∀ i ∈ vs2, i ∈ vs1)
    (hg : ∀ s H C cl fp, PG (X.blk s H scope (compEnvC scope cl C X.env) fp) tg g) (he : ∀ s H C cl fp, PE (X.blk s H scope (compEnvC scope cl C X.env) fp) elt te) (hs : ∀ x, foldedSetIterable iter X.env x = pure x)
    (hi1 : ∀ s H C cl fp, PI (X.blk s H scope (compEnvC scope cl C X.env) fp) tg1 iter1 wi1) (hg1 : ∀ s H C cl fp, PG (X.blk s H scope (compEnvC scope cl C X.env) fp) tg1 g1)
    (hi2 : ∀ s H C cl fp, PI (X.blk s H scope (compEnvC scope cl C X.env) fp) tg2 iter2 wi2) (hg2 : ∀ s H C cl fp, PG (X.blk s H scope (compEnvC scope cl C X.env) fp) tg2 g2)
    (hs1 : ∀ env x, foldedSetIterable iter1 env x = pure x) (hs2 : ∀ env x, foldedSetIterable iter2 env x = pure x)
    (h : tLc3 wi g wi1 g1 wi2 g2 te (own.map (·.2)) vs1 vs2 σ H Q)
    (hRR : ∀ D C s' m H', Inv X pins σ H' s' → Q (.ref D) H' → s'.heap.Ns C m → FpOk X pins H' C → compPost (model X.prog X.w) X.A X.xe use Qf (.ref D) C (.ok .next) s') :
    wpAny (model X.prog X.w) X.A (comprehension (.ListComp elt [⟨tg, iter, [], 0⟩, ⟨tg1, iter1, [], 0⟩, ⟨tg2, iter2, [], 0⟩] scope pos) scope X.env pos' (newList []) false (eval iter X.env) use) Qf X.xe s := by
  refine block_ok (Q := Q) (v0 := .lst []) (cn := "list") (dt := .seq ([] : List Value).toArray) rfl hN I hi ok hs (Nat.zero_le _) (fun s2 H2 I2 => ⟨Nat.zero_le _, [], 0, .nil, Heap.get?_push_size _ rfl⟩) h hRR ?_
  intro D it C fp tn J H2 s3 s4 cl rd hD T I4 t4 n4 st back
  obtain ⟨W, ⟨m0, w0⟩, turn⟩ := rd D hD
  have loop := clause_ok (Y := X.blk s3 (upd H2 D (.lst [])) scope (compEnvC scope cl C X.env) fp) comp_list rfl hc T (hg _ _ _ _ _) st turn
    (compTurn3_0 elt tg iter tg1 iter1 tg2 iter2 scope pos (.ref it) (.ref D) _) back (fun n Nx ps s5 τ H5 I5 q next => ?_) ⟨0, _, I4, t4, n4, w0⟩
  · exact start_any comp_list rfl loop (T.self X.A 0 _ _ _ t4 loop)
  refine inner_ok rfl (hi1 _ _ _ _ _) (hs1 _) I5 q.2 ?_
  rintro _ s6 ⟨it1, fp1, tn1, J1, H6, rfl, I6, T1, t6, f6, W1, ⟨m1, w1⟩, turn1⟩
  have loop1 := clause_ok (Y := X.blk s3 (upd H2 D (.lst [])) scope (compEnvC scope cl C X.env) fp) (ps := ps) (R := fun r s' => match r with
      | .ok _ => ∃ m, m < n ∧ AtC (X.blk s3 (upd H2 D (.lst [])) scope (compEnvC scope cl C X.env) fp) [] (wipe σ (own.map (·.2))) fp tn W m s'
      | .error _ => False) comp_list rfl hc T1 (hg1 _ _ _ _ _) (fun H s _ k b hb => ⟨k b hb, (f6 b hb).2⟩) turn1
    (compTurn3_1 elt tg iter tg1 iter1 tg2 iter2 scope pos (.ref it1) (.ref D) _) (fun H s J dn => next _ _ _ J (knows_wipe q.1 hv) dn) (fun n1 Nx1 ps1 s7 τ1 H7 I7 q1 next1 => ?_) ⟨0, H6, I6.weak (wipe_length _ _) (fun j v e => (wipe_some e).1), t6, fun b hb => (f6 b hb).1, w1⟩
  · exact start_any comp_list rfl loop1 (T1.self X.A 0 _ _ _ t6 loop1)
  refine inner_ok rfl (hi2 _ _ _ _ _) (hs2 _) I7 q1.2 ?_
  rintro _ s8 ⟨it2, fp2, tn2, J2, H8, rfl, I8, T2, t8, f8, W2, ⟨m2, w2⟩, turn2⟩
  have loop2 := clause_ok (Y := X.blk s3 (upd H2 D (.lst [])) scope (compEnvC scope cl C X.env) fp) (ps := ps1) (R := fun r s' => match r with
      | .ok _ => ∃ m, m < n1 ∧ AtC (X.blk s3 (upd H2 D (.lst [])) scope (compEnvC scope cl C X.env) fp) ps (wipe τ vs1) fp1 tn1 W1 m s'
      | .error _ => False) comp_list rfl hc T2 (hg2 _ _ _ _ _) (fun H s _ k b hb => ⟨k b hb, (f8 b hb).2⟩) turn2
    (compTurn3_2 elt tg iter tg1 iter1 tg2 iter2 scope pos (.ref it2) (.ref D) _) (fun H s J dn => next1 _ _ _ J (knows_wipe q1.1 hv2) dn) (fun n2 Nx2 ps2 s9 τ2 H9 I9 q2 next2 => ?_) ⟨0, H8, I8.weak (wipe_length _ _) (fun j v e => (wipe_some e).1), t8, fun b hb => (f8 b hb).1, w2⟩
  · exact start_any comp_list rfl loop2 (T2.self X.A 0 _ _ _ t8 loop2)
  refine wpAny_bind (wpAny_bind (thnF ((he _ _ _ _ _).run _ s9 τ2 H9 _ I9 q2.2) ?_))
  rintro z s10 ⟨y, H10, I10, ry, l, hl, hz, nx⟩
  refine wpAny_bind (app_ok I10 hl hz ry fun s11 I11 => ?_)
  exact wpAny_pure (wpAny_pure ⟨rfl, next2 _ _ _ I11 (knows_self q2.1) nx⟩)
theorem pe_lc3 {elt tg iter tg1 iter1 tg2 iter2 : Expr} {scope : Scope} {own : List (PySem.Str × Nat)} {vs1 vs2 : List Nat} {pos : Pos} {wi wi1 wi2 : TI} {g g1 g2 : TG} {te : TE} (hc : X.calm = true) (hN : X.N.Nodup) (hi : PI X tg iter wi) (ok : BlkOk X.N X.env.scope scope own) (hv : ∀ i ∈ vs1, i ∈ own.map (·.2)) (hv2 : ∀ i ∈ vs2, i ∈ vs1)
    (hg : ∀ (s : Shared) (H : Hp) (C : Addr) (cl : List (PySem.Str × Addr)) (fp : List Addr), PG (X.blk s H scope (compEnvC scope cl C X.env) fp) tg g)
    (hi1 : ∀ (s : Shared) (H : Hp) (C : Addr) (cl : List (PySem.Str × Addr)) (fp : List Addr), PI (X.blk s H scope (compEnvC scope cl C X.env) fp) tg1 iter1 wi1)
    (hg1 : ∀ (s : Shared) (H : Hp) (C : Addr) (cl : List (PySem.Str × Addr)) (fp : List Addr), PG (X.blk s H scope (compEnvC scope cl C X.env) fp) tg1 g1)
    (hi2 : ∀ (s : Shared) (H : Hp) (C : Addr) (cl : List (PySem.Str × Addr)) (fp : List Addr), PI (X.blk s H scope (compEnvC scope cl C X.env) fp) tg2 iter2 wi2)
    (hg2 : ∀ (s : Shared) (H : Hp) (C : Addr) (cl : List (PySem.Str × Addr)) (fp : List Addr), PG (X.blk s H scope (compEnvC scope cl C X.env) fp) tg2 g2)
    (he : ∀ (s : Shared) (H : Hp) (C : Addr) (cl : List (PySem.Str × Addr)) (fp : List Addr), PE (X.blk s H scope (compEnvC scope cl C X.env) fp) elt te) (hs : ∀ x, foldedSetIterable iter X.env x = pure x := by intro _; rfl) (hs1 : ∀ env x, foldedSetIterable iter1 env x = pure x := by intro _ _; rfl) (hs2 : ∀ env x, foldedSetIterable iter2 env x = pure x := by intro _ _; rfl) :
    PE X (.ListComp elt [⟨tg, iter, [], 0⟩, ⟨tg1, iter1, [], 0⟩, ⟨tg2, iter2, [], 0⟩] scope pos) (tLc3 wi g wi1 g1 wi2 g2 te (own.map (·.2)) vs1 vs2) := by
  refine ⟨fun pins s σ H Q I h => ?_⟩
  rw [eval_ListComp]
  refine lc3_core hc hN I hi ok hv hv2 hg he hs hi1 hg1 hi2 hg2 hs1 hs2 h fun D C s' m H' I' q hn f => ⟨m, hn, fun h'' sb => ?_⟩
  obtain ⟨f0, f1, f2, f3, f4, f5⟩ := f
  exact ⟨.ref D, H', I'.turned (t' := s'.toks) (fun b o hb e => (sb.2 b hb).trans e) f0 f1 f3 f4 f5, rfl, q⟩
end
end K7
/-! text K7Cl -/
set_option maxHeartbeats 4000000
/-! cloths: dicts of the pairs' texts, in any order -/
namespace K7
open PySem PySem.Spec PySem.Calls PyProof.Rows L2
def cellKey (m c : Nat) : List Key := [.inl ((c / m : Nat) : Int), .inl ((c % m : Nat) : Int)]
/-- the truths of one pair -/
def cellBits (n m R : Nat) (tr : Nat → Bool) (c : Nat) : List Bool := (List.range R).map fun r => tr (c + r * (n * m))
def canon (n m R : Nat) (tr : Nat → Bool) : List (List Key × V) := (List.range (n * m)).map fun c => (cellKey m c, V.str (bt (cellBits n m R tr c)))
theorem cellKey_inj {m : Nat} (hm : 0 < m) {c d : Nat} (h : cellKey m c = cellKey m d) : c = d := by
  unfold cellKey at h
  injection h with h1 h2
  injection h2 with h2 _
  injection h1 with h1
  injection h2 with h2
  have e1 : c / m = d / m := by omega
  have e2 : c % m = d % m := by omega
  rw [← Nat.div_add_mod c m, ← Nat.div_add_mod d m, e1, e2]
theorem canon_keys {n m R : Nat} {tr : Nat → Bool} (hm : 0 < m) : ((canon n m R tr).map (·.1)).Nodup := by
  unfold canon
  rw [List.map_map]
  refine List.pairwise_map.mpr (List.Pairwise.imp (fun {a b} ne e => ne (cellKey_inj hm e)) (List.nodup_range (n := n * m)))
theorem valV_mem {κ : Type} [DecidableEq κ] : ∀ {kvs : List (κ × V)} {k : κ} {v : V}, (kvs.map (·.1)).Nodup → (k, v) ∈ kvs → valV kvs k = some v
  | [], _, _, _, h => by cases h
  | p :: r, k, v, nd, h => by
    rw [List.map_cons, List.nodup_cons] at nd
    by_cases e : p.1 = k
    · rw [valV_pos e]
      rcases List.mem_cons.mp h with h | h
      · rw [← h]
      · exact absurd (e ▸ List.mem_map.mpr ⟨_, h, rfl⟩ : p.1 ∈ r.map (·.1)) nd.1
    · rw [valV_neg e]
      rcases List.mem_cons.mp h with h | h
      · rw [← h] at e
        exact absurd rfl e
      · exact valV_mem nd.2 h
/-- a cloth of n times m texts of R truths, told by tr at the meetings' numbers -/
structure Cloth (kvs : List (List Key × V)) (n m R : Nat) (tr : Nat → Bool) : Prop where
  perm : kvs.Perm (canon n m R tr)
  hn : 0 < n
  hm : 0 < m
  hR : 0 < R
  ln : n ≤ 8
  lm : m ≤ 8
  lR : R ≤ 6
section
variable {kvs : List (List Key × V)} {n m R : Nat} {tr : Nat → Bool}
theorem Cloth.keys (h : Cloth kvs n m R tr) : (kvs.map (·.1)).Nodup := (h.perm.map _).nodup_iff.mpr (canon_keys h.hm)
theorem Cloth.at_ (h : Cloth kvs n m R tr) {i j : Nat} (hi : i < n) (hj : j < m) : valV kvs [.inl (i : Nat), .inl (j : Nat)] = some (.str (bt (cellBits n m R tr (i * m + j)))) := by
  refine valV_mem h.keys (h.perm.mem_iff.mpr (List.mem_map.mpr ⟨i * m + j, List.mem_range.mpr ?_, ?_⟩))
  · have : (i + 1) * m ≤ n * m := Nat.mul_le_mul_right m hi
    rw [Nat.add_mul, Nat.one_mul] at this
    omega
  · have e1 : (i * m + j) / m = i := by rw [Nat.mul_comm, Nat.mul_add_div h.hm, Nat.div_eq_of_lt hj, Nat.add_zero]
    have e2 : (i * m + j) % m = j := by rw [Nat.mul_comm, Nat.mul_add_mod, Nat.mod_eq_of_lt hj]
    unfold cellKey
    rw [e1, e2]
theorem Cloth.len (h : Cloth kvs n m R tr) : kvs.length = n * m := by rw [h.perm.length_eq]; unfold canon; simp
theorem Cloth.key (h : Cloth kvs n m R tr) {k : List Key} {v : V} (hk : (k, v) ∈ kvs) : ∃ i j : Nat, k = [.inl (i : Nat), .inl (j : Nat)] ∧ i < n ∧ j < m := by
  obtain ⟨c, hc, e⟩ := List.mem_map.mp (h.perm.mem_iff.mp hk)
  have hc := List.mem_range.mp hc
  injection e with e1 e2
  refine ⟨c / m, c % m, e1.symm, ?_, Nat.mod_lt _ h.hm⟩
  rw [Nat.div_lt_iff_lt_mul h.hm]
  exact hc
theorem cell_bit {n m R : Nat} {tr : Nat → Bool} {i j r : Nat} (hr : r < R) : (cellBits n m R tr (i * m + j))[r]? = some (tr ((r * n + i) * m + j)) := by
  unfold cellBits
  rw [List.getElem?_map, List.getElem?_range hr, enc_at]
  rfl
theorem cell_len {n m R : Nat} {tr : Nat → Bool} {c : Nat} : (cellBits n m R tr c).length = R := by unfold cellBits; simp
end
def ClothAt (H : Hp) (a : Addr) (n m R : Nat) (tr : Nat → Bool) : Prop := ∃ kvs, H a = some (.dT kvs) ∧ Cloth kvs n m R tr
theorem ClothAt.nl {H H' : Hp} {a : Addr} {n m R : Nat} {tr : Nat → Bool} (h : ClothAt H a n m R tr) (s : Nl H H') : ClothAt H' a n m R tr := by
  obtain ⟨kvs, h1, h2⟩ := h
  exact ⟨kvs, s.dT h1, h2⟩
/-- a list of the meetings' tuples, the first k -/
def MeetsAt (H : Hp) (a : Addr) (n m k : Nat) : Prop := RefsAt (fun i p H => H p = some (.tup (mt3 (dec n m i)))) H a k
/-- any walk, with any body -/
theorem wk_it {J : It} {n : Nat} {G : Hp → Prop} {Y : Nat → Hp → V → Hp → Prop} (w : Walk J n G Y) {B : (Hp → Prop) → V → Hp → Prop} {H1 : Hp} {Nd : Hp → Prop} (Pv : Nat → Hp → Prop) (h0 : Pv 0 H1) (hG : ∀ i H, i ≤ n → Pv i H → G H)
    (hs : ∀ i x H H', i < n → Pv i H → Y i H x H' → B (Pv (i + 1)) x H') (hd : ∀ H, Pv n H → Nd H) :
    ∃ W : Nat → Nat → Hp → Prop, (∃ m, W 0 m H1) ∧ ∀ i m H, W i m H → (J.stop i H ∧ Nd H) ∨ (J.go i H ∧ ∃ Nx : Hp → Prop, (∀ H', Nx H' → ∃ m', m' < m ∧ W (i + 1) m' H') ∧ ∀ x H', J.yld i H x H' → B Nx x H') := by
  refine ⟨fun i m H => m = n - i ∧ i ≤ n ∧ Pv i H, ⟨n, by simp, Nat.zero_le _, h0⟩, ?_⟩
  rintro i m H ⟨rfl, hi, p⟩
  have q := hG i H hi p
  by_cases hlt : i < n
  · exact .inr ⟨w.goes i H hlt q, Pv (i + 1), fun H' p' => ⟨n - (i + 1), by omega, rfl, hlt, p'⟩, fun x H' y => hs i x H H' hlt p (w.yields i H x H' hlt q y)⟩
  · have e : i = n := by omega
    subst e
    exact .inl ⟨w.stops H q, hd H p⟩
/-- a list of addresses, one longer -/
theorem RefsAt.snoc {R : Nat → Addr → Hp → Prop} {H : Hp} {D a : Addr} {n : Nat} {acc : List V} (hR : ∀ i a H H', Nl H H' → R i a H → R i a H') (h : RefsAt R H D n) (hD : H D = some (.lst acc)) (ha : R n a H) : RefsAt R (upd H D (.lst (acc ++ [.ref a]))) D (n + 1) := by
  obtain ⟨as, hL, hl, hi⟩ := h
  have ea : acc = as.map V.ref := by
    rw [hL] at hD
    injection hD with hD
    injection hD with hD
    exact hD.symm
  subst ea
  have up : Nl H (upd H D (.lst (as.map V.ref ++ [V.ref a]))) := (Nl.refl _).updL hL
  refine ⟨as ++ [a], by rw [upd_same, List.map_append] <;> rfl, by rw [List.length_append, hl] <;> rfl, fun j b e => ?_⟩
  by_cases hj : j < as.length
  · rw [List.getElem?_append_left hj] at e
    exact hR _ _ _ _ up (hi j b e)
  · have hj2 : j = as.length := by
      have q := (List.getElem?_eq_some_iff.mp e).1
      rw [List.length_append, List.length_singleton] at q
      omega
    rw [hj2, List.getElem?_append_right (Nat.le_refl _), Nat.sub_self] at e
    have e3 : a = b := Option.some.inj e
    subst e3
    rw [hj2, hl]
    exact hR _ _ _ _ up ha
theorem RefsAt.same {R : Nat → Addr → Hp → Prop} {H H' : Hp} {D : Addr} {n : Nat} (hR : ∀ i a H H', Nl H H' → R i a H → R i a H') (h : RefsAt R H D n) (s : Same H H') : RefsAt R H' D n := by
  obtain ⟨as, hL, hl, hi⟩ := h
  exact ⟨as, s _ _ hL, hl, fun i p e => hR _ _ _ _ (Nl.of s) (hi i p e)⟩
theorem RefsAt.len {R : Nat → Addr → Hp → Prop} {H : Hp} {D : Addr} {n : Nat} {acc : List V} (h : RefsAt R H D n) (hD : H D = some (.lst acc)) : acc.length = n := by
  obtain ⟨as, hL, hl, hi⟩ := h
  rw [hL] at hD
  injection hD with hD
  injection hD with hD
  rw [← hD, List.length_map, hl]
theorem meets_nl (n m : Nat) : ∀ i (a : Addr) H H', Nl H H' → (fun (i : Nat) (p : Addr) (H : Hp) => H p = some (.tup (mt3 (dec n m i)))) i a H → (fun (i : Nat) (p : Addr) (H : Hp) => H p = some (.tup (mt3 (dec n m i)))) i a H' := fun i a H H' s h => s.tup h
end K7
/-! text K7Hm -/
set_option maxHeartbeats 4000000
/-! the largest pair of a cloth; sums of forms -/
namespace K7
open PySem PySem.Spec PySem.Calls PyProof.Rows L2
def kI (kvs : List (List Key × V)) (i : Nat) : Int := match kvs[i]? with
  | some ([.inl a, .inl _], _) => a
  | _ => 0
def kJ (kvs : List (List Key × V)) (i : Nat) : Int := match kvs[i]? with
  | some ([.inl _, .inl b], _) => b
  | _ => 0
section
variable {kvs : List (List Key × V)} {n m R : Nat} {tr : Nat → Bool}
theorem Cloth.pos (h : Cloth kvs n m R tr) : 0 < kvs.length := by rw [h.len]; exact Nat.mul_pos h.hn h.hm
theorem Cloth.idx (h : Cloth kvs n m R tr) {i j : Nat} (hi : i < n) (hj : j < m) : ∃ c, c < kvs.length ∧ kI kvs c = i ∧ kJ kvs c = j := by
  have hmem : ∃ v, ([Sum.inl (i : Int), Sum.inl (j : Int)], v) ∈ kvs := by
    have e := h.at_ hi hj
    unfold valV at e
    cases hf : kvs.find? fun kv => decide (kv.1 = [Sum.inl (i : Int), Sum.inl (j : Int)]) with
    | none => rw [hf] at e; cases e
    | some p =>
      have q1 := List.find?_some hf
      have q2 := List.mem_of_find?_eq_some hf
      have q3 : p.1 = [Sum.inl (i : Int), Sum.inl (j : Int)] := of_decide_eq_true q1
      refine ⟨p.2, ?_⟩
      rw [← q3]
      exact q2
  obtain ⟨v, hv⟩ := hmem
  obtain ⟨c, hc, e⟩ := List.mem_iff_getElem.mp hv
  refine ⟨c, hc, ?_, ?_⟩
  · unfold kI
    rw [List.getElem?_eq_getElem hc, e]
  · unfold kJ
    rw [List.getElem?_eq_getElem hc, e]
theorem Cloth.kI_at (h : Cloth kvs n m R tr) {c : Nat} {k : List Key} {v : V} (e : kvs[c]? = some (k, v)) : ∃ i j : Nat, k = [.inl (i : Nat), .inl (j : Nat)] ∧ i < n ∧ j < m ∧ kI kvs c = i ∧ kJ kvs c = j := by
  obtain ⟨i, j, rfl, hi, hj⟩ := h.key (List.mem_of_getElem? e)
  refine ⟨i, j, rfl, hi, hj, ?_, ?_⟩
  · unfold kI
    rw [e]
  · unfold kJ
    rw [e]
theorem Cloth.maxI (h : Cloth kvs n m R tr) {M : Int} (h1 : M ∈ (List.range kvs.length).map (kI kvs)) (h2 : ∀ y ∈ (List.range kvs.length).map (kI kvs), y ≤ M) : 1 + M = n := by
  obtain ⟨c, hc, e⟩ := List.mem_map.mp h1
  have hc := List.mem_range.mp hc
  obtain ⟨i, j, _, hi, _, e2, _⟩ := h.kI_at (c := c) (k := kvs[c].1) (v := kvs[c].2) (by rw [List.getElem?_eq_getElem hc])
  obtain ⟨d, hd, e3, _⟩ := h.idx (i := n - 1) (j := 0) (by have := h.hn; omega) h.hm
  have := h2 _ (List.mem_map.mpr ⟨d, List.mem_range.mpr hd, rfl⟩)
  have := h.hn
  omega
theorem Cloth.maxJ (h : Cloth kvs n m R tr) {M : Int} (h1 : M ∈ (List.range kvs.length).map (kJ kvs)) (h2 : ∀ y ∈ (List.range kvs.length).map (kJ kvs), y ≤ M) : 1 + M = m := by
  obtain ⟨c, hc, e⟩ := List.mem_map.mp h1
  have hc := List.mem_range.mp hc
  obtain ⟨i, j, _, _, hj, _, e2⟩ := h.kI_at (c := c) (k := kvs[c].1) (v := kvs[c].2) (by rw [List.getElem?_eq_getElem hc])
  obtain ⟨d, hd, _, e3⟩ := h.idx (i := 0) (j := m - 1) h.hn (by have := h.hm; omega)
  have := h2 _ (List.mem_map.mpr ⟨d, List.mem_range.mpr hd, rfl⟩)
  have := h.hm
  omega
end
theorem take_snoc {α : Type} {l : List α} {i : Nat} {a : α} (h : l[i]? = some a) : l.take (i + 1) = l.take i ++ [a] := by
  rw [List.take_succ, h]
  rfl
theorem fsize_sum (fs : List Fm) : (fs.map fun f => ((f.lead : Int) + (f.per : Int))).sum = (fsize fs : Nat) := by
  induction fs using snocInd with
  | h0 => rfl
  | h1 l a ih =>
    rw [List.map_append, List.sum_append, ih, fsize_snoc]
    show (fsize l : Int) + ((a.lead : Int) + (a.per : Int) + 0) = ((fsize l + (a.lead + a.per) : Nat) : Int)
    omega
theorem range_map_get {α β : Type} (l : List α) (f : Nat → β) (g : α → β) (h : ∀ i (hi : i < l.length), f i = g l[i]) : (List.range l.length).map f = l.map g := by
  refine List.ext_getElem (by simp) fun i h1 h2 => ?_
  have h3 : i < l.length := by simpa using h1
  rw [List.getElem_map, List.getElem_map, List.getElem_range, h i h3]
theorem same_lock {H H' : Hp} {d : Addr} {u f : HO} (h : H d = some u) (s : Same (upd H d f) H') : Same H (upd H' d u) := fun b o e => by
  by_cases q : b = d
  · subst q
    rw [upd_same, ← e, h]
  · rw [upd_ne q]
    exact s b o (by rw [upd_ne q]; exact e)
theorem xor_pp (a b : Nat) : Builtin.bitXor (a : Int) (b : Int) = ((a ^^^ b : Nat) : Int) := by
  rw [Bits.bitXor_pp (by omega) (by omega), Int.toNat_natCast, Int.toNat_natCast]
end K7
/-! text K7H -/
set_option maxHeartbeats 4000000
namespace K7
open PySem PySem.Spec PySem.Calls PyProof.Rows L2
section
variable {P : Program} {w : World} {K : PySem.W.Frag} {mg : PySem.Str → Option Value} {base : Heap}
def spMask : Sp := fun vs H Q _ => ∃ (a b : Addr) (fs : List Fm) (n m : Nat) (t : Nat × Nat × Nat), vs = [.ref a, .ref b, .int n, .int m] ∧ FormsAt H a fs ∧ H b = some (.tup (mt3 t)) ∧ FmOk fs ∧ fsize fs ≤ 1000 ∧ t.1 ≤ 100 ∧ ∀ H', Same H H' → Q (.int (mskOf n m fs t : Nat)) H'
theorem sc_mask_at : FnScope ["forms", "meeting", "suns", "moons", "r", "i", "j", "numbers", "found", "ahead", "reader", "lead", "period", "x"] ["forms", "meeting", "suns", "moons"] (defScope s_mask_at) := ⟨rfl, rfl, rfl, by decide +kernel, rfl, by decide +kernel, by decide +kernel⟩
theorem ok_mask_at (T : Txt K mg) : OkF P w K mg base 1 (He.ga K "mask_at") ["forms", "meeting", "suns", "moons"] spMask := by
  obtain ⟨fd, F⟩ := T.fn 11 (st := s_mask_at)
  refine ⟨fd, F.ok sc_mask_at (fun vs H Q E h => ?_) (fun cdv A outer s H vs Q E hr h => ?_), F.binds (fun _ _ _ _ _ _ us hl => match us, hl with | [_, _, _, _], _ => rfl), F.kp⟩
  · obtain ⟨_, _, _, _, _, _, rfl, _⟩ := h
    rfl
  · obtain ⟨a, b, fs, n, m, ⟨r, i, j⟩, rfl, hf, hb, ho, hsz, hrr, k⟩ := h
    have hu := hu_of hr
    have nd := sc_mask_at.nd
    refine ⟨_, pss_cons (ps_asg (pv 1) (pg_tup (by rfl) (pgs_cons (pg_name (i := 4) nd rfl (Or.inl rfl)) (pgs_cons (pg_name (i := 5) nd rfl (Or.inl rfl)) (pgs_cons (pg_name (i := 6) nd rfl (Or.inl rfl)) pgs_nil)))))
      (pss_cons (ps_set (i := 7) nd rfl (Or.inl rfl) (pe_disp (pps_cons pe_str (pe_op op_add (pe_op op_mul (pv 4) (pv 3)) (pv 6)) (pps_cons pe_str (pe_op op_add (pe_op op_mul (pv 4) (pv 2)) (pv 5)) (pps_cons pe_str (pv 4) (pps_cons pe_str (pv 5) (pps_cons pe_str (pv 6) pps_nil))))) (by rfl) (by rfl) (fun z => by cases z) (by decide)))
      (pss_cons (ps_asg (pe_tup (pa_cons pe_int (pa_cons pe_int pa_nil))) (pg_tup (by rfl) (pgs_cons (pg_name (i := 8) nd rfl (Or.inl rfl)) (pgs_cons (pg_name (i := 9) nd rfl (Or.inl rfl)) pgs_nil))))
      (pss_cons (ps_for PassesOwn.never rfl (pi_list (pv 0)) (pg_tup (by rfl) (pgs_cons (pg_name (i := 10) nd rfl (Or.inl rfl)) (pgs_cons (pg_name (i := 11) nd rfl (Or.inl rfl)) (pgs_cons (pg_name (i := 12) nd rfl (Or.inl rfl)) pgs_nil))))
        (pss_cons (ps_set (i := 13) nd rfl (Or.inl rfl) (pe_dget hu (pv 7) (pv 10) (fun _ _ => rfl)))
        (pss_cons (ps_aug (i := 8) nd rfl (Or.inl rfl) (pe_op op_oneShl pe_int (pe_op op_add (pv 9) (pe_ifExp (pt_cmpR op_lt (pv 13) (pv 11) (nomark _)) (pv 13) (pe_op op_add (pv 11) (pe_op op_modN (pe_op op_sub (pv 13) (pv 11)) (pv 12)))))) iop_xor)
        (pss_one (ps_aug (i := 9) nd rfl (Or.inl rfl) (pe_op op_add (pv 11) (pv 12)) iop_add)))))
      (pss_one (ps_ret (pv 8)))))), ?_⟩
    refine ⟨_, rfl, b, _, rfl, SqT.of hb, rfl, _, _, rfl, _, _, rfl, _, _, rfl, rfl, fun d hd => ?_⟩
    have bnd : -(2 ^ 64 : Int) < (r : Int) ∧ (r : Int) < 2 ^ 64 := by have : r ≤ 100 := hrr; omega
    refine ⟨_, rfl, _, rfl, _, _, rfl, rfl, .inl bnd, _, rfl, _, _, rfl, rfl, ?_⟩
    refine ⟨_, rfl, _, rfl, _, _, rfl, rfl, .inl bnd, _, rfl, _, _, rfl, rfl, ?_⟩
    refine ⟨_, rfl, _, rfl, _, rfl, upd_same, numKvs n m r i j, rfl, (by show 5 ≤ 15; decide), ?_⟩
    have s1 : Same H (upd (upd H d (.dK [])) d (.dK (mergeK [] (numKvs n m r i j)))) := same_upd (same_upd (Same.refl _) hd) hd
    refine ⟨(by show 2 ≤ sizeLine; decide), fun t ht => ?_⟩
    have s2 := s1.trans (same_upd (D := t) (o := .tup [.int 0, .int 0]) (Same.refl _) ht)
    have hd2 : (upd (upd (upd H d (.dK [])) d (.dK (mergeK [] (numKvs n m r i j)))) t (.tup [.int 0, .int 0])) d = some (.dK (mergeK [] (numKvs n m r i j))) := (same_upd (Same.refl _) ht) _ _ upd_same
    refine ⟨t, _, rfl, SqT.of upd_same, rfl, _, _, rfl, _, _, rfl, rfl, ?_⟩
    obtain ⟨fa, hf1, hf2, hf3⟩ := hf
    refine ⟨_, rfl, a, rfl, ⟨_, SqL.of (s2 _ _ hf1)⟩, ?_⟩
    refine for_it (walk_list (K := K) (a := a) (xs := fa.map V.ref)) (fun c σ H' => ∃ v1 v2 v3 v4 : Option V, σ = [some (.ref a), some (.ref b), some (.int n), some (.int m), some (.int r), some (.int i), some (.int j), some (.ref d), some (.int (maskOf (places n m (r, i, j) (fs.take c)) : Nat)), some (.int (fsize (fs.take c) : Nat)), v1, v2, v3, v4] ∧ Same H H' ∧ H' d = some (.dK (mergeK [] (numKvs n m r i j))))
      ⟨none, none, none, none, rfl, s2, hd2⟩ (fun c σ H' _ ⟨_, _, _, _, _, s', _⟩ => SqL.of (s' _ _ hf1)) (fun c x σ H' H2 hc ⟨v1, v2, v3, v4, e, s', hd'⟩ y => ?_) (fun σ H' ⟨v1, v2, v3, v4, e, s', hd'⟩ => ?_)
    · obtain ⟨rfl, hx⟩ := y
      subst e
      rw [List.length_map] at hc
      have hc2 : c < fs.length := by omega
      rw [List.getElem?_map, List.getElem?_eq_getElem hc] at hx
      cases hx
      have ef := s' _ _ (hf3 c fa[c] fs[c] (List.getElem?_eq_getElem hc) (List.getElem?_eq_getElem hc2))
      have hper : 0 < fs[c].per := ho _ (List.getElem_mem hc2)
      refine ⟨fa[c], _, rfl, SqT.of ef, rfl, _, _, rfl, _, _, rfl, _, _, rfl, rfl, ?_⟩
      refine ⟨_, rfl, _, rfl, d, _, rfl, by rw [← numKvs_at n m r i j fs[c].rd]; exact DGet.k (k := Sum.inr fs[c].rd.str) hd', ?_⟩
      generalize hz : fs[c].rd.num n m (r, i, j) = z
      have hat : fs[c].at_ n m (r, i, j) = idx fs[c].lead fs[c].per z := by unfold Fm.at_; rw [hz]
      have hlt : fsize (fs.take c) + idx fs[c].lead fs[c].per z < fsize fs := by
        have q1 := fsize_take_le (fs := fs) (c + 1)
        rw [take_snoc (List.getElem?_eq_getElem hc2), fsize_snoc] at q1
        have q2 := idx_lt (lead := fs[c].lead) hper z
        unfold Fm.len at q1
        omega
      have fin : ∀ y : V, y = .int (idx fs[c].lead fs[c].per z : Nat) → (rI0 fun i j => V.int (i + j)) (.int (fsize (fs.take c) : Nat)) y H2 fun y H3 => ∃ k : Nat, V.int 1 = .int 1 ∧ y = .int (k : Int) ∧ k ≤ 134217727 ∧ (rI0 fun i j => V.int (Builtin.bitXor i j)) (.int (maskOf (places n m (r, i, j) (fs.take c)) : Nat)) (.int (2 ^ k)) H3 fun z2 H4 =>
          tAug 9 (tOp (rI0 fun i j => V.int (i + j)) (tVar 11) (tVar 12)) (rI0 fun i j => V.int (i + j)) { nx := fun σ H' => ∃ v1 v2 v3 v4 : Option V, σ = [some (.ref a), some (.ref b), some (.int n), some (.int m), some (.int r), some (.int i), some (.int j), some (.ref d), some (.int (maskOf (places n m (r, i, j) (fs.take (c + 1))) : Nat)), some (.int (fsize (fs.take (c + 1)) : Nat)), v1, v2, v3, v4] ∧ Same H H' ∧ H' d = some (.dK (mergeK [] (numKvs n m r i j))), rt := Q }
            [some (.ref a), some (.ref b), some (.int n), some (.int m), some (.int r), some (.int i), some (.int j), some (.ref d), some z2, some (.int (fsize (fs.take c) : Nat)), some (.str fs[c].rd.str), some (.int (fs[c].lead : Nat)), some (.int (fs[c].per : Nat)), some (.int z)] H4 := by
        rintro y rfl
        refine ⟨_, _, rfl, rfl, fsize (fs.take c) + idx fs[c].lead fs[c].per z, rfl, by rw [Int.natCast_add], by omega, _, _, rfl, rfl, ?_⟩
        refine ⟨_, rfl, _, rfl, _, rfl, _, _, rfl, rfl, _, _, rfl, rfl, ?_⟩
        refine ⟨some (.str fs[c].rd.str), some (.int (fs[c].lead : Nat)), some (.int (fs[c].per : Nat)), some (.int z), ?_, s', hd'⟩
        rw [take_snoc (List.getElem?_eq_getElem hc2), places_snoc, maskOf_snoc, fsize_snoc, hat]
        have e1 : Builtin.bitXor ((maskOf (places n m (r, i, j) (fs.take c)) : Nat) : Int) (2 ^ (fsize (fs.take c) + idx fs[c].lead fs[c].per z)) = ((maskOf (places n m (r, i, j) (fs.take c)) ^^^ 2 ^ (fsize (fs.take c) + idx fs[c].lead fs[c].per z) : Nat) : Int) := by
          rw [← xor_pp, Int.natCast_pow]
          rfl
        have e2 : ((fsize (fs.take c) : Nat) : Int) + (((fs[c].lead : Nat) : Int) + ((fs[c].per : Nat) : Int)) = ((fsize (fs.take c) + fs[c].len : Nat) : Int) := by unfold Fm.len; omega
        rw [← e1, ← e2]
        rfl
      refine ⟨_, rfl, _, rfl, ?_⟩
      refine ⟨_, rfl, _, rfl, _, _, rfl, rfl, _, rfl, ?_⟩
      refine ite2 (fun q => ?_) (fun q => ?_)
      · have hl : z < fs[c].lead := by have := of_decide_eq_true q; omega
        exact ⟨_, rfl, fin _ (by unfold idx; rw [if_pos hl])⟩
      · have hl : ¬ z < fs[c].lead := by have := of_decide_eq_false (Bool.eq_false_iff.mpr q); omega
        refine ⟨_, rfl, _, rfl, _, rfl, _, _, rfl, rfl, _, rfl, _, _, rfl, rfl, by omega, _, _, rfl, rfl, fin _ ?_⟩
        unfold idx
        rw [if_neg hl, show ((z : Int) - (fs[c].lead : Int)) = ((z - fs[c].lead : Nat) : Int) by omega, Int.fmod_eq_emod_of_nonneg _ (by omega)]
        rfl
    · subst e
      rw [List.length_map, hf2, List.take_length]
      exact ⟨_, rfl, k _ s'⟩
def spMany : Sp := fun vs H Q _ => ∃ (a : Addr) (fs : List Fm), vs = [.ref a] ∧ FormsAt H a fs ∧ fs.length ≤ 1000 ∧ ∀ H', Same H H' → Q (.int (fsize fs : Nat)) H'
theorem sc_many_characters : FnScope ["forms", "reader", "lead", "period"] ["forms"] (defScope s_many_characters) := ⟨rfl, rfl, rfl, by decide +kernel, rfl, by decide +kernel, by decide +kernel⟩
theorem ok_many_characters (T : Txt K mg) : OkF P w K mg base 1 (He.ga K "many_characters") ["forms"] spMany := by
  obtain ⟨fd, F⟩ := T.fn 12 (st := s_many_characters)
  refine ⟨fd, F.ok sc_many_characters (fun vs H Q E h => ?_) (fun cdv A outer s H vs Q E hr h => ?_), F.binds (fun _ _ _ _ _ _ us hl => match us, hl with | [_], _ => rfl), F.kp⟩
  · obtain ⟨_, _, rfl, _⟩ := h
    rfl
  · obtain ⟨a, fs, rfl, hf, hl, k⟩ := h
    have nd := sc_many_characters.nd
    refine ⟨_, pss_one (ps_ret (pe_callB (cr_sum rfl) (by rfl) T.m_sum (by decide +kernel) (pa_cons (pe_lc (own := [("reader", 1), ("lead", 2), ("period", 3)]) (g := gTup K 3 (gCons (gName 1) (gCons (gName 2) (gCons (gName 3) gNil)))) (tt := tYes) rfl nd (pi_list (pv 0)) (blkOk_by (N := ["forms", "reader", "lead", "period"]) (sc := defScope s_many_characters) (by decide +kernel))
        (fun _ _ _ _ _ => pg_tup (by rfl) (pgs_cons (pg_name (i := 1) nd rfl (Or.inl rfl)) (pgs_cons (pg_name (i := 2) nd rfl (Or.inl rfl)) (pgs_cons (pg_name (i := 3) nd rfl (Or.inl rfl)) pgs_nil)))) (fun _ _ _ _ _ => pts_nil) (fun _ _ _ _ _ => pe_op op_add (pv 2) (pv 3))) pa_nil))), ?_⟩
    obtain ⟨fa, hf1, hf2, hf3⟩ := hf
    refine ⟨_, rfl, a, rfl, ⟨_, SqL.of hf1⟩, fun D hD => ?_⟩
    refine lc_flat (walk_list (K := K) (a := a) (xs := fa.map V.ref)) (fun i => .int (match fs[i]? with | some f => (f.lead : Int) + (f.per : Int) | none => 0)) hD (by rw [List.length_map, hf2]; exact Nat.lt_of_le_of_lt hl (by decide)) (fun H1 s1 => s1.seq (SqL.of hf1)) (fun c x H1 H2 Kt hc s1 y q => ?_) (fun i H1 x H2 y => by rw [y.1]; exact Same.refl _) (fun H1 s1 eD => ?_)
    · obtain ⟨rfl, hx⟩ := y
      rw [List.length_map] at hc
      have hc2 : c < fs.length := by omega
      rw [List.getElem?_map, List.getElem?_eq_getElem hc] at hx
      cases hx
      rw [List.getElem?_eq_getElem hc2] at q
      exact ⟨fa[c], _, rfl, SqT.of (s1 _ _ (hf3 c fa[c] fs[c] (List.getElem?_eq_getElem hc) (List.getElem?_eq_getElem hc2))), rfl, _, _, rfl, _, _, rfl, _, _, rfl, rfl, rfl, _, rfl, _, rfl, _, _, rfl, rfl, q _ (Same.refl _)⟩
    · rw [List.length_map, hf2, range_map_get fs _ (fun f => V.int ((f.lead : Int) + (f.per : Int))) (fun i hi => by rw [List.getElem?_eq_getElem hi])] at eD
      refine ⟨D, fs.map fun f => (f.lead : Int) + (f.per : Int), rfl, SqL.of (by rw [eD, List.map_map] <;> rfl), ?_⟩
      rw [fsize_sum]
      exact k _ s1
def spNumbers : Sp := fun vs H Q _ => ∃ (a : Addr) (n m R : Nat) (tr : Nat → Bool), vs = [.ref a] ∧ ClothAt H a n m R tr ∧ ∀ t H', Same H H' → H' t = some (.tup [.int n, .int m, .int R]) → Q (.ref t) H'
theorem sc_numbers_of : FnScope ["crossings", "i", "j"] ["crossings"] (defScope s_numbers_of) := ⟨rfl, rfl, rfl, by decide +kernel, rfl, by decide +kernel, by decide +kernel⟩
theorem ok_numbers_of (T : Txt K mg) : OkF P w K mg base 1 (He.ga K "numbers_of") ["crossings"] spNumbers := by
  obtain ⟨fd, F⟩ := T.fn 9 (st := s_numbers_of)
  refine ⟨fd, F.ok sc_numbers_of (fun vs H Q E h => ?_) (fun cdv A outer s H vs Q E hr h => ?_), F.binds (fun _ _ _ _ _ _ us hl => match us, hl with | [_], _ => rfl), F.kp⟩
  · obtain ⟨_, _, _, _, _, rfl, _⟩ := h
    rfl
  · obtain ⟨a, n, m, R, tr, rfl, ⟨kvs, ha, hC⟩, k⟩ := h
    have nd := sc_numbers_of.nd
    have hu := hu_of hr
    refine ⟨_, pss_one (ps_ret (pe_tup (pa_cons (pe_op op_add pe_int (pe_callB (cr_max rfl) (by rfl) T.m_max (by decide +kernel) (pa_cons (pe_lock (pe_lc (own := [("i", 1), ("j", 2)]) (g := gTup K 2 (gCons (gName 1) (gCons (gName 2) gNil))) (tt := tYes) rfl nd (pi_keys (pv 0)) (blkOk_by (N := ["crossings", "i", "j"]) (sc := defScope s_numbers_of) (by decide +kernel))
        (fun _ _ _ _ _ => pg_tup (by rfl) (pgs_cons (pg_name (i := 1) nd rfl (Or.inl rfl)) (pgs_cons (pg_name (i := 2) nd rfl (Or.inl rfl)) pgs_nil))) (fun _ _ _ _ _ => pts_nil) (fun _ _ _ _ _ => pv 1))) pa_nil)))
      (pa_cons (pe_op op_add pe_int (pe_callB (cr_max rfl) (by rfl) T.m_max (by decide +kernel) (pa_cons (pe_lock (pe_lc (own := [("i", 1), ("j", 2)]) (g := gTup K 2 (gCons (gName 1) (gCons (gName 2) gNil))) (tt := tYes) rfl nd (pi_keys (pv 0)) (blkOk_by (N := ["crossings", "i", "j"]) (sc := defScope s_numbers_of) (by decide +kernel))
        (fun _ _ _ _ _ => pg_tup (by rfl) (pgs_cons (pg_name (i := 1) nd rfl (Or.inl rfl)) (pgs_cons (pg_name (i := 2) nd rfl (Or.inl rfl)) pgs_nil))) (fun _ _ _ _ _ => pts_nil) (fun _ _ _ _ _ => pv 2))) pa_nil)))
      (pa_cons (pe_callB call_len_str (by rfl) T.m_len boot_len (pa_cons (pe_dget hu (pv 0) (pe_tup (pa_cons pe_int (pa_cons pe_int pa_nil))) (fun _ _ => rfl)) pa_nil)) pa_nil))))), ?_⟩
    have lk : kvs.length < sizeLine := by
      rw [hC.len]
      have := Nat.mul_le_mul hC.ln hC.lm
      exact Nat.lt_of_le_of_lt this (by decide)
    refine ⟨a, _, ha, True.intro, fun od => ?_⟩
    refine ⟨_, rfl, a, od, rfl, .inr ⟨kvs, upd_same, fun D hD => ?_⟩⟩
    refine lc_flat walk_keysT (fun c => .int (kI kvs c)) hD lk (fun H1 s1 => s1 _ _ upd_same) (fun c x H1 H2 Kt hc s1 y q => ?_) (fun i H1 x H2 y => by rw [y.1]; exact Same.refl _) (fun H1 s1 eD => ?_)
    · obtain ⟨rfl, ky, v, p, hk, rfl, hp⟩ := y
      obtain ⟨i, j, rfl, hi, hj, e1, e2⟩ := hC.kI_at hk
      rw [e1] at q
      exact ⟨p, _, rfl, SqT.of hp, rfl, _, _, rfl, _, _, rfl, rfl, rfl, _, rfl, q _ (Same.refl _)⟩
    · refine ⟨s1 _ _ upd_same, ?_⟩
      have sA : Same H (upd H1 a (.dT kvs)) := same_lock ha s1
      have nDa : D ≠ a := fun e => by rw [e, upd_same] at hD; cases hD
      refine ⟨D, (List.range kvs.length).map (kI kvs), rfl, SqL.of (by rw [upd_ne nDa, eD, List.map_map] <;> rfl), by rw [List.length_map, List.length_range]; exact hC.pos, fun M hM hle => ?_⟩
      refine ⟨_, _, rfl, rfl, ?_⟩
      have ha1 := sA _ _ ha
      refine ⟨a, _, ha1, True.intro, fun od => ?_⟩
      refine ⟨_, rfl, a, od, rfl, .inr ⟨kvs, upd_same, fun D2 hD2 => ?_⟩⟩
      refine lc_flat walk_keysT (fun c => .int (kJ kvs c)) hD2 lk (fun H1 s1 => s1 _ _ upd_same) (fun c x H1 H2 Kt hc s1 y q => ?_) (fun i H1 x H2 y => by rw [y.1]; exact Same.refl _) (fun H3 s3 eD2 => ?_)
      · obtain ⟨rfl, ky, v, p, hk, rfl, hp⟩ := y
        obtain ⟨i, j, rfl, hi, hj, e1, e2⟩ := hC.kI_at hk
        rw [e2] at q
        exact ⟨p, _, rfl, SqT.of hp, rfl, _, _, rfl, _, _, rfl, rfl, rfl, _, rfl, q _ (Same.refl _)⟩
      · refine ⟨s3 _ _ upd_same, ?_⟩
        have sB := sA.trans (same_lock ha1 s3)
        have nDa2 : D2 ≠ a := fun e => by rw [e, upd_same] at hD2; cases hD2
        refine ⟨D2, (List.range kvs.length).map (kJ kvs), rfl, SqL.of (by rw [upd_ne nDa2, eD2, List.map_map] <;> rfl), by rw [List.length_map, List.length_range]; exact hC.pos, fun M2 hM2 hle2 => ?_⟩
        refine ⟨_, _, rfl, rfl, ?_⟩
        refine ⟨_, rfl, (by show 2 ≤ sizeLine; decide), fun t ht => ?_⟩
        have sC := sB.trans (same_upd (D := t) (o := .tup [.int 0, .int 0]) (Same.refl _) ht)
        have g : DGet (upd (upd H3 a (.dT kvs)) t (.tup [.int 0, .int 0])) a (.ref t) (some (.str (bt (cellBits n m R tr (0 * m + 0))))) := by
          rw [← hC.at_ hC.hn hC.hm]
          exact DGet.t (k := [.inl 0, .inl 0]) (sC _ _ ha) upd_same
        refine ⟨a, _, rfl, g, _, rfl, by rw [bt_len, cell_len]; exact Nat.le_trans hC.lR (by decide), ?_⟩
        rw [bt_len, cell_len]
        refine ⟨(by show 3 ≤ sizeLine; decide), fun u hu' => k u _ (sC.trans (same_upd (Same.refl _) hu')) ?_⟩
        rw [upd_same]
        show some (HO.tup [V.int (1 + M), V.int (1 + M2), V.int (R : Nat)]) = some (.tup [.int n, .int m, .int R])
        rw [hC.maxI hM hle, hC.maxJ hM2 hle2]
end
end K7
/-! text K7Sm -/
set_option maxHeartbeats 4000000
/-! sums in memory -/
namespace K7
open PySem PySem.Spec PySem.Calls PyProof.Rows L2
theorem intBits_nat (m : Nat) : Builtin.Int.intBits (m : Int) = blen m := by
  unfold Builtin.Int.intBits blen
  by_cases h : m = 0
  · subst h
    rfl
  · rw [if_neg h, if_neg (by rw [beq_iff_eq]; omega), Int.natAbs_natCast]
theorem toNat_xor (a b : Bool) : a.toNat ^^^ b.toNat = (Bool.xor a b).toNat := by cases a <;> cases b <;> rfl
def rowTup (r : Row) : List V := [.int r.mask, .int r.bit.toNat, .int r.took]
/-- the rows' dict -/
def RowsAt (H : Hp) (kvs : List (Key × V)) (rs : List Row) : Prop := kvs.length = rs.length ∧ ∀ (i : Nat) (r : Row), rs[i]? = some r → ∃ q, kvs[i]? = some (Sum.inl ((blen r.mask : Nat) : Int), V.ref q) ∧ H q = some (.tup (rowTup r))
def SumsAt (K : PySem.W.Frag) (H : Hp) (p d : Addr) (rs : List Row) : Prop := ∃ dx vs kvs, SlX.Slt H p (He.ga K "Sums") dx vs ∧ vs[0]? = some (some (.ref d)) ∧ H d = some (.dK kvs) ∧ RowsAt H kvs rs
/-- all but the dict at d stays -/
def Bd (d : Addr) (H H' : Hp) : Prop := ∀ b o, b ≠ d → H b = some o → H' b = some o
theorem Bd.of {d : Addr} {H H' : Hp} (s : Same H H') : Bd d H H' := fun b o _ e => s b o e
theorem Bd.trans {d : Addr} {H H1 H2 : Hp} (a : Bd d H H1) (b : Bd d H1 H2) : Bd d H H2 := fun c o n e => b c o n (a c o n e)
theorem Bd.same {d : Addr} {H H1 H2 : Hp} (s : Same H H1) (b : Bd d H1 H2) (h : H d = none) : Same H H2 := fun c o e => b c o (ne_of_none e h) (s c o e)
/-- all but dicts of numbers and texts stays -/
def Nk (H H' : Hp) : Prop := ∀ b o, (∀ kvs, o ≠ .dK kvs) → H b = some o → H' b = some o
theorem Bd.nk {d : Addr} {H H' : Hp} {kvs : List (Key × V)} (s : Bd d H H') (h : H d = some (.dK kvs)) : Nk H H' := fun b o n e => s b o (fun q => by rw [q, h] at e; exact n kvs (Option.some.inj e).symm) e
theorem Nk.tup {H H' : Hp} (s : Nk H H') {a : Addr} {xs : List V} (h : H a = some (.tup xs)) : H' a = some (.tup xs) := s a _ (fun _ z => nomatch z) h
theorem Nk.lst {H H' : Hp} (s : Nk H H') {a : Addr} {xs : List V} (h : H a = some (.lst xs)) : H' a = some (.lst xs) := s a _ (fun _ z => nomatch z) h
theorem Nk.slt {H H' : Hp} (s : Nk H H') {a C dx : Addr} {vs : List (Option V)} (h : SlX.Slt H a C dx vs) : SlX.Slt H' a C dx vs := by
  rcases h with ⟨h1, h2⟩ | ⟨h1, h2⟩
  · exact .inl ⟨s _ _ (fun _ z => nomatch z) h1, h2⟩
  · exact .inr ⟨s _ _ (fun _ z => by unfold SlX.SlO at z; cases z) h1, s _ _ (fun _ z => nomatch z) h2⟩
theorem RowsAt.nk {H H' : Hp} {kvs : List (Key × V)} {rs : List Row} (h : RowsAt H kvs rs) (s : Nk H H') : RowsAt H' kvs rs := ⟨h.1, fun i r e => by
  obtain ⟨q, e1, e2⟩ := h.2 i r e
  exact ⟨q, e1, s.tup e2⟩⟩
theorem Nk.of {H H' : Hp} (s : Same H H') : Nk H H' := fun b o _ e => s b o e
theorem SumsAt.same {K : PySem.W.Frag} {H H' : Hp} {p d : Addr} {rs : List Row} (h : SumsAt K H p d rs) (s : Same H H') : SumsAt K H' p d rs := by
  obtain ⟨dx, vs, kvs, h1, h2, h3, h4⟩ := h
  exact ⟨dx, vs, kvs, (Nl.of s).slt h1, h2, s _ _ h3, h4.nk (Nk.of s)⟩
theorem SumsAt.dk {K : PySem.W.Frag} {H : Hp} {p d : Addr} {rs : List Row} (h : SumsAt K H p d rs) : ∃ kvs, H d = some (.dK kvs) := by
  obtain ⟨_, _, kvs, _, _, h3, _⟩ := h
  exact ⟨kvs, h3⟩
/-- a key's row -/
theorem RowsAt.get {H : Hp} {kvs : List (Key × V)} {rs : List Row} (h : RowsAt H kvs rs) {k : Nat} {v : V} (e : valV kvs (Sum.inl (k : Int)) = some v) : ∃ r ∈ rs, blen r.mask = k ∧ ∃ q, v = .ref q ∧ H q = some (.tup (rowTup r)) := by
  unfold valV at e
  cases hf : kvs.find? fun kv => decide (kv.1 = (Sum.inl (k : Int) : Key)) with
  | none => rw [hf] at e; cases e
  | some p =>
    rw [hf] at e
    have q1 : p.1 = (Sum.inl (k : Int) : Key) := of_decide_eq_true (List.find?_some (p := fun kv : Key × V => decide (kv.1 = (Sum.inl (k : Int) : Key))) hf)
    obtain ⟨i, hi, e2⟩ := List.mem_iff_getElem.mp (List.mem_of_find?_eq_some hf)
    have hi2 : i < rs.length := by rw [← h.1]; exact hi
    obtain ⟨q, e3, e4⟩ := h.2 i rs[i] (List.getElem?_eq_getElem hi2)
    rw [List.getElem?_eq_getElem hi, e2] at e3
    have e3 := Option.some.inj e3
    rw [e3] at q1 e
    have q1 : (Sum.inl ((blen rs[i].mask : Nat) : Int) : Key) = Sum.inl (k : Int) := q1
    injection q1 with q1
    exact ⟨rs[i], List.getElem_mem hi2, by omega, q, (Option.some.inj e).symm, e4⟩
theorem RowsAt.no {H : Hp} {kvs : List (Key × V)} {rs : List Row} (h : RowsAt H kvs rs) {k : Nat} (e : valV kvs (Sum.inl (k : Int)) = none) : k ∉ rs.map fun r => blen r.mask := by
  intro hm
  obtain ⟨r, hr, rfl⟩ := List.mem_map.mp hm
  obtain ⟨i, hi, rfl⟩ := List.mem_iff_getElem.mp hr
  obtain ⟨q, e3, e4⟩ := h.2 i rs[i] (List.getElem?_eq_getElem hi)
  unfold valV at e
  cases hf : kvs.find? fun kv => decide (kv.1 = (Sum.inl ((blen rs[i].mask : Nat) : Int) : Key)) with
  | some p => rw [hf] at e; cases e
  | none =>
    have := List.find?_eq_none.mp hf _ (List.mem_of_getElem? e3)
    simp at this
theorem RowsAt.put {H : Hp} {kvs : List (Key × V)} {rs : List Row} (h : RowsAt H kvs rs) {r : Row} {q : Addr} (hk : blen r.mask ∉ rs.map fun r => blen r.mask) (hq : H q = some (.tup (rowTup r))) : RowsAt H (putK kvs (Sum.inl ((blen r.mask : Nat) : Int)) (.ref q)) (rs ++ [r]) := by
  have hno : (kvs.any fun kv => decide (kv.1 = (Sum.inl ((blen r.mask : Nat) : Int) : Key))) = false := by
    rw [valV_any]
    cases e : valV kvs (Sum.inl ((blen r.mask : Nat) : Int)) with
    | none => rfl
    | some v =>
      obtain ⟨r2, hr2, e2, _⟩ := h.get e
      exact absurd (List.mem_map.mpr ⟨r2, hr2, e2⟩) hk
  have ep : putK kvs (Sum.inl ((blen r.mask : Nat) : Int)) (.ref q) = kvs ++ [(Sum.inl ((blen r.mask : Nat) : Int), .ref q)] := by
    unfold putK
    rw [if_neg (by rw [hno]; exact Bool.false_ne_true)]
  rw [ep]
  refine ⟨by rw [List.length_append, List.length_append, h.1] <;> rfl, fun i r' e => ?_⟩
  by_cases hi : i < rs.length
  · rw [List.getElem?_append_left hi] at e
    obtain ⟨q', e1, e2⟩ := h.2 i r' e
    exact ⟨q', by rw [List.getElem?_append_left (by rw [h.1]; exact hi)]; exact e1, e2⟩
  · have hi2 : i = rs.length := by
      have := (List.getElem?_eq_some_iff.mp e).1
      rw [List.length_append, List.length_singleton] at this
      omega
    subst hi2
    rw [List.getElem?_append_right (Nat.le_refl _), Nat.sub_self] at e
    have e : r = r' := Option.some.inj e
    subst e
    exact ⟨q, by rw [← h.1, List.getElem?_append_right (Nat.le_refl _), Nat.sub_self] <;> rfl, hq⟩
theorem intText_bit (b : Bool) : PySem.intText? (bt [b]) = some ((b.toNat : Nat) : Int) := by cases b <;> decide +kernel
end K7
/-! text K7S -/
set_option maxHeartbeats 4000000
namespace K7
open PySem PySem.Spec PySem.Calls PyProof.Rows L2
section
variable {P : Program} {w : World} {K : PySem.W.Frag} {mg : PySem.Str → Option Value} {base : Heap}
def spSumsInit (K : PySem.W.Frag) : Sp := fun vs H Q _ => ∃ (H0 : Hp) (p dx : Addr), vs = [.ref p] ∧ H0 p = none ∧ H0 dx = none ∧ dx ≠ p ∧ H = upd (upd H0 dx (.own p)) p (.ins (He.ga K "Sums") dx []) ∧ ∀ H' d, Same H0 H' → H0 d = none → SumsAt K H' p d [] → Q .non H'
theorem sc_Sums_init : FnScope ["self"] ["self"] (defScope s_Sums_init) := ⟨rfl, rfl, rfl, by decide +kernel, rfl, by decide +kernel, by decide +kernel⟩
theorem ok_Sums_init (T : Txt K mg) : OkF P w K mg base 1 (He.ma K (He.ga K "Sums") "__init__") ["self"] (spSumsInit K) := by
  obtain ⟨fd, F⟩ := T.fn 48 (st := s_Sums_init)
  refine ⟨fd, F.ok sc_Sums_init (fun vs H Q E h => ?_) (fun cdv A outer s H vs Q E hr h => ?_), F.binds (fun _ _ _ _ _ _ us hl => match us, hl with | [_], _ => rfl), F.kp⟩
  · obtain ⟨_, _, _, rfl, _⟩ := h
    rfl
  · obtain ⟨H0, p, dx, rfl, hp, hd, ne, eH, k⟩ := h
    have hH : H p = some (.ins (He.ga K "Sums") dx []) := by rw [eH, upd_same]
    have s0 : Same H0 H := by rw [eH]; exact same_made hp hd
    refine ⟨_, pss_one (SlX.ps_sl (pv 0) pe_dnewK), fun d hdn => ?_⟩
    have s1 : Same H (upd H d (.dK [])) := same_upd (Same.refl _) hdn
    refine ⟨_, rfl, p, _, dx, _, _, _, rfl, slt_new (s1 _ _ hH), T.s_Sums, T.l_its_rows, ?_⟩
    have hd0 : H0 d = none := s0.free hdn
    have npd : d ≠ p := fun e => by rw [e, hH] at hdn; cases hdn
    have nddx : d ≠ dx := fun e => by
      rw [e, eH, upd_ne ne, upd_same] at hdn
      cases hdn
    refine k _ d (same_slH (s0.trans s1) hp hd) hd0 ⟨dx, _, [], SlX.slH_slt ne, SlX.putS_get _ _ _, ?_, rfl, fun i r e => by simp at e⟩
    rw [SlX.slH_ne npd nddx, upd_same]
def spRank (K : PySem.W.Frag) : Sp := fun vs H Q _ => ∃ (p d : Addr) (rs : List Row), vs = [.ref p] ∧ SumsAt K H p d rs ∧ Q (.int rs.length) H
theorem sc_Sums_rank : FnScope ["self"] ["self"] (defScope s_Sums_rank) := ⟨rfl, rfl, rfl, by decide +kernel, rfl, by decide +kernel, by decide +kernel⟩
theorem ok_Sums_rank (T : Txt K mg) : OkF P w K mg base 1 (He.ma K (He.ga K "Sums") "rank") ["self"] (spRank K) := by
  obtain ⟨fd, F⟩ := T.fn 51 (st := s_Sums_rank)
  refine ⟨fd, F.ok sc_Sums_rank (fun vs H Q E h => ?_) (fun cdv A outer s H vs Q E hr h => ?_), F.binds (fun _ _ _ _ _ _ us hl => match us, hl with | [_], _ => rfl), F.kp⟩
  · obtain ⟨_, _, _, rfl, _⟩ := h
    rfl
  · obtain ⟨p, d, rs, rfl, ⟨dx, vs, kvs, hs, h0, hd, hr'⟩, k⟩ := h
    refine ⟨_, pss_one (ps_ret (pe_callB call_lenD (by rfl) T.m_len boot_len (pa_cons (SlX.pe_sl (pv 0)) pa_nil))), _, rfl, p, _, dx, _, vs, 0, _, rfl, hs, T.s_Sums, T.l_its_rows, h0, d, kvs, rfl, hd, ?_⟩
    rw [hr'.1]
    exact k
def spReduced (K : PySem.W.Frag) : Sp := fun vs H Q _ => ∃ (p d : Addr) (rs : List Row) (m t : Nat) (b : Bool), vs = [.ref p, .int m, .int b.toNat, .int t] ∧ SumsAt K H p d rs ∧
  ∀ u H' (m' t' : Nat) (b' : Bool), Same H H' → H' u = some (.tup [.int m', .int b'.toNat, .int t']) → Span rs (m ^^^ m') (Bool.xor b b') (t ^^^ t') → (m' ≠ 0 → blen m' ∉ rs.map fun r => blen r.mask) → Q (.ref u) H'
theorem sc_Sums_reduced : FnScope ["self", "mask", "bit", "taken", "row"] ["self", "mask", "bit", "taken"] (defScope s_Sums_reduced) := ⟨rfl, rfl, rfl, by decide +kernel, rfl, by decide +kernel, by decide +kernel⟩
theorem ok_Sums_reduced (T : Txt K mg) : OkF P w K mg base 1 (He.ma K (He.ga K "Sums") "reduced") ["self", "mask", "bit", "taken"] (spReduced K) := by
  obtain ⟨fd, F⟩ := T.fn 49 (st := s_Sums_reduced)
  refine ⟨fd, F.ok sc_Sums_reduced (fun vs H Q E h => ?_) (fun cdv A outer s H vs Q E hr h => ?_), F.binds (fun _ _ _ _ _ _ us hl => match us, hl with | [_, _, _, _], _ => rfl), F.kp⟩
  · obtain ⟨_, _, _, _, _, _, rfl, _⟩ := h
    rfl
  · obtain ⟨p, d, rs, m, t, b, rfl, ⟨dx, vs, kvs, hs, h0, hd, hrw⟩, k⟩ := h
    have nd := sc_Sums_reduced.nd
    have hu := hu_of hr
    refine ⟨_, pss_cons (ps_while PassesOwn.never (PW.pt (pw_and (pt_cmpR op_gt (pv 1) pe_int (nomark _)) (pw_and1 (pt_cmp (pc_din hu (pe_bits (pv 1)) (SlX.pe_sl (pv 0)))))))
        (pss_cons (ps_set (i := 4) nd rfl (Or.inl rfl) (pe_dget hu (SlX.pe_sl (pv 0)) (pe_bits (pv 1)) (fun _ _ => rfl)))
        (pss_one (ps_par3 (i := 1) (j := 2) (l := 3) (by rfl) nd rfl rfl rfl (by decide) (by decide) (by decide) rfl rfl rfl
          (pa_cons (pe_op op_xor (pv 1) (pe_ix ix_tup (pv 4) pe_int (fun _ _ => rfl))) (pa_cons (pe_op op_xor (pv 2) (pe_ix ix_tup (pv 4) pe_int (fun _ _ => rfl))) (pa_cons (pe_op op_xor (pv 3) (pe_ix ix_tup (pv 4) pe_int (fun _ _ => rfl))) pa_nil))) (by rfl)))))
      (pss_one (ps_ret (pe_tup (pa_cons (pv 1) (pa_cons (pv 2) (pa_cons (pv 3) pa_nil)))))), ?_⟩
    refine while_by (fun σ H' => ∃ (m' t' : Nat) (b' : Bool) (v : Option V), σ = [some (.ref p), some (.int m'), some (.int b'.toNat), some (.int t'), v] ∧ H' = H ∧ Span rs (m ^^^ m') (Bool.xor b b') (t ^^^ t'))
      (fun σ _ => match σ with | [_, some (.int m'), _, _, _] => m'.toNat | _ => 0) ⟨m, t, b, none, rfl, rfl, by rw [Nat.xor_self, Nat.xor_self, Bool.xor_self]; exact .zero⟩ ?_ ?_
    · rintro σ H' ⟨m', t', b', v, rfl, rfl, sp⟩
      refine ⟨_, rfl, _, _, rfl, rfl, _, rfl, ?_⟩
      refine ite2 (fun q => ?_) (fun q => ?_)
      · have hm : m' ≠ 0 := by have := of_decide_eq_true q; omega
        refine ⟨_, rfl, _, rfl, _, rfl, p, _, dx, _, vs, 0, _, rfl, hs, T.s_Sums, T.l_its_rows, h0, d, valV kvs (Sum.inl ((Builtin.Int.intBits (m' : Int) : Nat) : Int)), rfl, DGet.k (k := Sum.inl _) hd, _, rfl, ?_⟩
        rw [intBits_nat]
        cases e : valV kvs (Sum.inl ((blen m' : Nat) : Int)) with
        | some v0 =>
          obtain ⟨r, hr1, hr2, q, rfl, hq⟩ := hrw.get e
          refine iteT ⟨_, rfl, p, _, dx, _, vs, 0, _, rfl, hs, T.s_Sums, T.l_its_rows, h0, _, rfl, _, rfl, d, .ref q, rfl, by rw [intBits_nat, ← e]; exact DGet.k (k := Sum.inl _) hd, ?_⟩
          refine ⟨_, rfl, _, rfl, _, _, _, _, rfl, rfl, SqT.of hq, rfl, _, _, rfl, rfl, ?_⟩
          refine ⟨_, rfl, _, rfl, _, _, _, _, rfl, rfl, SqT.of hq, rfl, _, _, rfl, rfl, ?_⟩
          refine ⟨_, rfl, _, rfl, _, _, _, _, rfl, rfl, SqT.of hq, rfl, _, _, rfl, rfl, _, _, _, rfl, ?_⟩
          refine ⟨⟨m' ^^^ r.mask, t' ^^^ r.took, Bool.xor b' r.bit, some (.ref q), ?_, rfl, ?_⟩, ?_⟩
          · rw [← xor_pp, ← xor_pp, ← toNat_xor, ← xor_pp]
            rfl
          · rw [← Nat.xor_assoc, ← Nat.xor_assoc, ← Bool.xor_assoc]
            exact .add hr1 sp
          · show (Builtin.bitXor (m' : Int) (r.mask : Int)).toNat < ((m' : Nat) : Int).toNat
            rw [xor_pp, Int.toNat_natCast, Int.toNat_natCast]
            exact xor_less hm hr2.symm
        | none =>
          refine iteF ?_
          refine ⟨_, rfl, _, rfl, _, rfl, (by show 3 ≤ sizeLine; decide), fun u hu' => ?_⟩
          exact k u _ m' t' b' (same_upd (Same.refl _) hu') upd_same sp fun _ => hrw.no e
      · have hm : m' = 0 := by have := of_decide_eq_false (Bool.eq_false_iff.mpr q); omega
        refine iteF ?_
        refine ⟨_, rfl, _, rfl, _, rfl, (by show 3 ≤ sizeLine; decide), fun u hu' => ?_⟩
        exact k u _ m' t' b' (same_upd (Same.refl _) hu') upd_same sp fun h => absurd hm h
    · rintro σ H1 Q1 Q2 hQ ⟨x, e, i, j, e2, e3, c, e4, h⟩
      refine ⟨x, e, i, j, e2, e3, c, e4, ?_⟩
      split at h
      · rename_i hc
        rw [if_pos hc]
        obtain ⟨x2, g1, i2, g2, x3, g3, a, C, dx2, p2, vs2, i3, v3, g4, g5, g6, g7, g8, d2, o, g9, g10, c2, g11, h⟩ := h
        exact ⟨x2, g1, i2, g2, x3, g3, a, C, dx2, p2, vs2, i3, v3, g4, g5, g6, g7, g8, d2, o, g9, g10, c2, g11, hQ _ _ h⟩
      · rename_i hc
        rw [if_neg hc]
        exact hQ _ _ h
end
end K7
/-! text K7G -/
set_option maxHeartbeats 4000000
namespace K7
open PySem PySem.Spec PySem.Calls PyProof.Rows L2
section
variable {P : Program} {w : World} {K : PySem.W.Frag} {mg : PySem.Str → Option Value} {base : Heap}
def spEvery : Sp := fun vs H Q _ => ∃ n m R : Nat, vs = [.int n, .int m, .int R] ∧ n ≤ 100 ∧ m ≤ 100 ∧ R ≤ 100 ∧ 0 < n ∧ 0 < m ∧ ∀ D H', Same H H' → H D = none → MeetsAt H' D n m (R * n * m) → Q (.ref D) H'
theorem sc_every_meeting : FnScope ["suns", "moons", "rounds", "r", "i", "j"] ["suns", "moons", "rounds"] (defScope s_every_meeting) := ⟨rfl, rfl, rfl, by decide +kernel, rfl, by decide +kernel, by decide +kernel⟩
theorem ok_every_meeting (T : Txt K mg) : OkF P w K mg base 1 (He.ga K "every_meeting") ["suns", "moons", "rounds"] spEvery := by
  obtain ⟨fd, F⟩ := T.fn 10 (st := s_every_meeting)
  refine ⟨fd, F.ok sc_every_meeting (fun vs H Q E h => ?_) (fun cdv A outer s H vs Q E hr h => ?_), F.binds (fun _ _ _ _ _ _ us hl => match us, hl with | [_, _, _], _ => rfl), F.kp⟩
  · obtain ⟨_, _, _, rfl, _⟩ := h
    rfl
  · obtain ⟨n, m, R, rfl, l1, l2, l3, hn, hm, k⟩ := h
    refine ⟨_, pss_one (ps_ret (pe_lc3 (own := [("r", 3), ("i", 4), ("j", 5)]) (vs1 := [4, 5]) (vs2 := [5]) (by rfl) sc_every_meeting.nd (pi_range1 (by rfl) T.m_range (pa_cons (pv 2) pa_nil))
      (blkOk_by (N := ["suns", "moons", "rounds", "r", "i", "j"]) (sc := defScope s_every_meeting) (by decide +kernel)) (by decide) (by decide)
      (fun _ _ _ _ _ => pg_name (i := 3) sc_every_meeting.nd rfl (Or.inl rfl)) (fun _ _ _ _ _ => pi_range1 (by rfl) T.m_range (pa_cons (pv 0) pa_nil)) (fun _ _ _ _ _ => pg_name (i := 4) sc_every_meeting.nd rfl (Or.inl rfl))
      (fun _ _ _ _ _ => pi_range1 (by rfl) T.m_range (pa_cons (pv 1) pa_nil)) (fun _ _ _ _ _ => pg_name (i := 5) sc_every_meeting.nd rfl (Or.inl rfl))
      (fun _ _ _ _ _ => pe_tup (pa_cons (pv 3) (pa_cons (pv 4) (pa_cons (pv 5) pa_nil)))))), ?_⟩
    refine ⟨_, rfl, (R : Nat), rfl, by omega, by omega, fun D hD => ?_⟩
    have sz : sizeLine = 16777216 := sizeLine_eq
    have hmeet : ∀ {r i j : Nat}, i < n → j < m → dec n m ((r * n + i) * m + j) = (r, i, j) := fun h1 h2 => dec_enc h1 h2
    refine wk_it (walk_range (lo := 0) (n := R)) (fun i H' => Same H H' ∧ MeetsAt H' D n m (i * n * m)) ⟨same_upd (Same.refl _) hD, [], upd_same, by simp, fun i p e => by simp at e⟩ (fun _ _ _ _ => trivial) (fun i x H1 H2 hi p y => ?_) (fun H1 p => k D H1 p.1 hD p.2)
    obtain ⟨rfl, rfl⟩ := y
    refine ⟨rfl, _, rfl, (n : Nat), rfl, by omega, by omega, ?_⟩
    refine wk_it (walk_range (lo := 0) (n := n)) (fun i2 H' => Same H H' ∧ MeetsAt H' D n m ((i * n + i2) * m)) (by rw [Nat.add_zero]; exact p) (fun _ _ _ _ => trivial) (fun i2 x H3 H4 hi2 p2 y => ?_) (fun H3 p3 => ⟨p3.1, by rw [Nat.add_mul i 1 n, Nat.one_mul]; exact p3.2⟩)
    obtain ⟨rfl, rfl⟩ := y
    refine ⟨rfl, _, rfl, (m : Nat), rfl, by omega, by omega, ?_⟩
    refine wk_it (walk_range (lo := 0) (n := m)) (fun i3 H' => Same H H' ∧ MeetsAt H' D n m ((i * n + i2) * m + i3)) (by rw [Nat.add_zero]; exact p2) (fun _ _ _ _ => trivial) (fun i3 x H5 H6 hi3 p3 y => ?_) (fun H5 p5 => ⟨p5.1, by rw [← Nat.add_assoc, Nat.add_mul (i * n + i2) 1 m, Nat.one_mul]; exact p5.2⟩)
    obtain ⟨rfl, rfl⟩ := y
    refine ⟨rfl, _, rfl, _, rfl, _, rfl, (by show 3 ≤ sizeLine; decide), fun t ht => ?_⟩
    obtain ⟨s5, m5⟩ := p3
    obtain ⟨as, hL, hl, ha⟩ := id m5
    have s6 : Same H6 (upd H6 t (.tup [.int (0 + (i : Nat)), .int (0 + (i2 : Nat)), .int (0 + (i3 : Nat))])) := same_upd (Same.refl _) ht
    have hD6 := s6 _ _ hL
    have hk : (i * n + i2) * m + i3 < 2000000 := by
      have a1 : i * n + i2 ≤ 100 * 100 := by
        have := Nat.mul_le_mul (show i + 1 ≤ 100 by omega) l1
        rw [Nat.add_mul, Nat.one_mul] at this
        omega
      have a2 := Nat.mul_le_mul a1 l2
      have a3 : (i * n + i2) * m + i3 ≤ 100 * 100 * 100 + 100 := by omega
      omega
    refine ⟨_, hD6, by rw [List.length_map, hl]; omega, ?_, ?_⟩
    · exact same_upd (s5.trans s6) hD
    · refine (m5.same (meets_nl n m) s6).snoc (meets_nl n m) hD6 ?_
      show (upd H6 t _) t = some (.tup (mt3 (dec n m ((i * n + i2) * m + i3))))
      rw [upd_same, hmeet hi2 hi3]
      show some (HO.tup [V.int (0 + (i : Nat)), V.int (0 + (i2 : Nat)), V.int (0 + (i3 : Nat))]) = some (.tup [.int i, .int i2, .int i3])
      rw [Int.zero_add, Int.zero_add, Int.zero_add]
def spIsMeetingOf : Sp := fun vs H Q _ => ∃ (a : Addr) (n m R : Nat) (mt : Nat × Nat × Nat), vs = [.int n, .int m, .int R, .ref a] ∧ H a = some (.tup (mt3 mt)) ∧ mt.1 < R ∧ mt.2.1 < n ∧ mt.2.2 < m ∧ ∀ H', Same H H' → Q (.bl true) H'
theorem sc_is_meeting_of : FnScope ["suns", "moons", "rounds", "thing", "part"] ["suns", "moons", "rounds", "thing"] (defScope s_is_meeting_of) := ⟨rfl, rfl, rfl, by decide +kernel, rfl, by decide +kernel, by decide +kernel⟩
theorem ok_is_meeting_of (T : Txt K mg) : OkF P w K mg base 3 (He.ga K "is_meeting_of") ["suns", "moons", "rounds", "thing"] spIsMeetingOf := by
  obtain ⟨fd, F⟩ := T.fn 16 (st := s_is_meeting_of)
  obtain ⟨f1, G1, b1, k1⟩ := ok_is_count (P := P) (w := w) (base := base) T
  refine ⟨fd, F.ok sc_is_meeting_of (fun vs H Q E h => ?_) (fun cdv A outer s H vs Q E hr h => ?_), F.binds (fun _ _ _ _ _ _ us hl => match us, hl with | [_, _, _, _], _ => rfl), F.kp⟩
  · obtain ⟨_, _, _, _, _, rfl, _⟩ := h
    rfl
  · obtain ⟨a, n, m, R, mt, rfl, ha, l1, l2, l3, k⟩ := h
    refine ⟨_, pss_cons (ps_if (PW.pt (pw_or (pt_not (pt_val (pe_callB call_isi (by rfl) T.m_isinstance (by decide +kernel) (pa_cons (pv 3) (pa_cons (pe_bltn (v := .ty "tuple") (by rfl) T.m_tuple (by decide +kernel) rfl) pa_nil)))))
        (pw_or (pt_cmpR op_ne (pe_callB call_len_seq (by rfl) T.m_len boot_len (pa_cons (pv 3) pa_nil)) pe_int (nomark _))
          (pw_or1 (pt_not (pt_val (pe_callB (cr_all rfl) (by rfl) T.m_all (by decide +kernel) (pa_cons (pe_lc (own := [("part", 4)]) (g := gName 4) (tt := tYes) rfl sc_is_meeting_of.nd (pi_tup (pv 3)) (blkOk_by (N := ["suns", "moons", "rounds", "thing", "part"]) (sc := defScope s_is_meeting_of) (by decide +kernel))
            (fun _ _ _ _ _ => pg_name (i := 4) sc_is_meeting_of.nd rfl (Or.inl rfl)) (fun _ _ _ _ _ => pts_nil) (fun _ _ _ _ _ => pe_call G1 hr (by rfl) T.g_is_count k1 b1 .nil pass0 (pa_cons (pv 4) pa_nil))) pa_nil)))))))) (pss_one (ps_ret pe_bl)) pss_nil)
      (pss_one (ps_ret (pe_and (pe_cmpR op_lt (pe_ix ix_tup (pv 3) pe_int (fun _ _ => rfl)) (pv 2) (nomark _)) (pe_and (pe_cmpR op_lt (pe_ix ix_tup (pv 3) pe_int (fun _ _ => rfl)) (pv 0) (nomark _)) (pe_one (pe_cmpR op_lt (pe_ix ix_tup (pv 3) pe_int (fun _ _ => rfl)) (pv 1) (nomark _))))))), ?_⟩
    refine ⟨_, rfl, .ref a, .ty "tuple", .type "tuple", .type "tuple", true, rfl, .ty _, .base (.tup ha), kit_ty (by decide +kernel), true, rfl, iteF ?_⟩
    refine ⟨_, rfl, _, _, rfl, .inr (SqT.of ha), rfl, _, rfl, iteF ?_⟩
    refine ⟨_, rfl, a, rfl, ⟨_, SqT.of ha⟩, fun D hD => ?_⟩
    refine lc_flat (walk_tup (K := K) (a := a) (xs := mt3 mt)) (fun _ => .bl true) hD (by show 3 < sizeLine; decide) (fun H1 s1 => SqT.of (s1 _ _ ha)) (fun i x H1 H2 Kt hi s1 y q => ?_) (fun i H1 x H2 y => by rw [y.1]; exact Same.refl _) (fun H1 s1 eD => ?_)
    · obtain ⟨rfl, hx⟩ := y
      obtain ⟨z, rfl⟩ := mt3_int mt hx
      refine ⟨rfl, _, rfl, z, rfl, ?_⟩
      rw [decide_eq_true (show (z : Int) ≥ 0 by omega)]
      exact q _ (Same.refl _)
    · refine ⟨D, [true, true, true], rfl, SqL.of eD, true, rfl, iteF ?_⟩
      have ha1 := s1 _ _ ha
      refine ⟨_, rfl, _, _, _, _, rfl, rfl, SqT.of ha1, rfl, _, rfl, _, _, rfl, rfl, _, rfl, ?_⟩
      rw [decide_eq_true (show (mt.1 : Int) < (R : Int) by omega)]
      refine iteT ⟨_, rfl, _, _, _, _, rfl, rfl, SqT.of ha1, rfl, _, rfl, _, _, rfl, rfl, _, rfl, ?_⟩
      rw [decide_eq_true (show (mt.2.1 : Int) < (n : Int) by omega)]
      refine iteT ⟨_, rfl, _, _, _, _, rfl, rfl, SqT.of ha1, rfl, _, rfl, _, _, rfl, rfl, ?_⟩
      show Q (.bl (decide ((mt.2.2 : Int) < (m : Int)))) H1
      rw [decide_eq_true (show (mt.2.2 : Int) < (m : Int) by omega)]
      exact k _ s1
end
end K7
/-! text K7U -/
set_option maxHeartbeats 4000000
namespace K7
open PySem PySem.Spec PySem.Calls PyProof.Rows L2
section
variable {P : Program} {w : World} {K : PySem.W.Frag} {mg : PySem.Str → Option Value} {base : Heap}
def spPut (K : PySem.W.Frag) : Sp := fun vs H Q _ => ∃ (p d : Addr) (rs : List Row) (m t : Nat) (b : Bool), vs = [.ref p, .int m, .int b.toNat, .int t] ∧ SumsAt K H p d rs ∧ rs.length ≤ 1000 ∧
  (∀ H' (m' t' : Nat) (b' : Bool), Bd d H H' → m' ≠ 0 → blen m' ∉ (rs.map fun r => blen r.mask) → Span rs (m ^^^ m') (Bool.xor b b') (t ^^^ t') → SumsAt K H' p d (rs ++ [⟨m', b', t'⟩]) → Q (.int 0) H') ∧
  (∀ H' (t' : Nat) (b' : Bool), Bd d H H' → Span rs (m ^^^ 0) (Bool.xor b b') (t ^^^ t') → SumsAt K H' p d rs → Q (.int (if b' = true then t' else 0 : Nat)) H')
theorem sc_Sums_put : FnScope ["self", "mask", "bit", "taken", "left", "told", "used"] ["self", "mask", "bit", "taken"] (defScope s_Sums_put) := ⟨rfl, rfl, rfl, by decide +kernel, rfl, by decide +kernel, by decide +kernel⟩
theorem dec_bit (b : Bool) : decide (V.int ((b.toNat : Nat) : Int) = V.int 1) = b := by cases b <;> decide +kernel
theorem ok_Sums_put (T : Txt K mg) : OkF P w K mg base 2 (He.ma K (He.ga K "Sums") "put") ["self", "mask", "bit", "taken"] (spPut K) := by
  obtain ⟨fd, F⟩ := T.fn 50 (st := s_Sums_put)
  have R1 := (ok_Sums_reduced (P := P) (w := w) (base := base) T).raw
  refine ⟨fd, F.ok sc_Sums_put (fun vs H Q E h => ?_) (fun cdv A outer s H vs Q E hr h => ?_), F.binds (fun _ _ _ _ _ _ us hl => match us, hl with | [_, _, _, _], _ => rfl), F.kp⟩
  · obtain ⟨_, _, _, _, _, _, rfl, _⟩ := h
    rfl
  · obtain ⟨p, d, rs, m, t, b, rfl, hsum, hlen, k1, k2⟩ := h
    have nd := sc_Sums_put.nd
    have hu := hu_of hr
    obtain ⟨dx, vs, kvs, hs, h0, hd, hrw⟩ := id hsum
    refine ⟨_, pss_cons (ps_asg (SlX.pe_methSl (E := E0) (pv 0) T.s_Sums T.me_reduced.1 R1 hr pass0 (pa_cons (pv 1) (pa_cons (pv 2) (pa_cons (pv 3) pa_nil)))) (pg_tup (by rfl) (pgs_cons (pg_name (i := 4) nd rfl (Or.inl rfl)) (pgs_cons (pg_name (i := 5) nd rfl (Or.inl rfl)) (pgs_cons (pg_name (i := 6) nd rfl (Or.inl rfl)) pgs_nil)))))
      (pss_cons (ps_if (pt_cmpR op_gt (pv 4) pe_int (nomark _)) (pss_cons (ps_dput hu (SlX.pe_sl (pv 0)) (pe_bits (pv 4)) (pe_tup (pa_cons (pv 4) (pa_cons (pv 5) (pa_cons (pv 6) pa_nil)))) rfl) (pss_one (ps_ret pe_int))) pss_nil)
      (pss_one (ps_ret (pe_ifExp (pt_cmpR op_eq (pv 5) pe_int (nomark _)) (pv 6) pe_int)))), ?_⟩
    refine ⟨_, rfl, p, dx, vs, rfl, hs, _, rfl, _, rfl, _, rfl, p, d, rs, m, t, b, rfl, hsum, fun u H1 m' t' b' s1 hu1 sp hno => ?_⟩
    refine ⟨u, _, rfl, SqT.of hu1, rfl, _, _, rfl, _, _, rfl, _, _, rfl, rfl, ?_⟩
    refine ⟨_, rfl, _, _, rfl, rfl, _, rfl, ?_⟩
    refine ite2 (fun q => ?_) (fun q => ?_)
    · have hm : m' ≠ 0 := by have := of_decide_eq_true q; omega
      refine ⟨_, rfl, _, rfl, _, rfl, (by show 3 ≤ sizeLine; decide), fun q2 hq2 => ?_⟩
      have s2 : Same H (upd H1 q2 (.tup [.int m', .int b'.toNat, .int t'])) := s1.trans (same_upd (Same.refl _) hq2)
      have hd2 := s2 _ _ hd
      refine ⟨_, rfl, p, _, dx, _, vs, 0, _, rfl, (Nl.of s2).slt hs, T.s_Sums, T.l_its_rows, h0, _, rfl, _, rfl, d, _, rfl, DPut.k (k := Sum.inl _) hd2 (by rw [hrw.1]; exact Nat.lt_of_le_of_lt hlen (by decide)), ?_⟩
      have bd : Bd d H (upd (upd H1 q2 (.tup [.int m', .int b'.toNat, .int t'])) d (.dK (putK kvs (Sum.inl ((Builtin.Int.intBits (m' : Int) : Nat) : Int)) (.ref q2)))) := fun b o n e => by
        rw [upd_ne n]
        exact s2 b o e
      refine k1 _ m' t' b' bd hm (hno hm) sp ⟨dx, vs, _, (bd.nk hd).slt hs, h0, upd_same, ?_⟩
      rw [intBits_nat]
      refine RowsAt.put (r := ⟨m', b', t'⟩) ((hrw.nk (Nk.of s2)).nk (fun b o n e => ?_)) (hno hm) ?_
      · rw [upd_ne (fun z => by rw [z, hd2] at e; exact n _ (Option.some.inj e).symm)]
        exact e
      · have nq : q2 ≠ d := fun e => by
          rw [e, s1 _ _ hd] at hq2
          cases hq2
        rw [upd_ne nq, upd_same]
        rfl
    · have hm : m' = 0 := by have := of_decide_eq_false (Bool.eq_false_iff.mpr q); omega
      subst hm
      refine ⟨_, rfl, rfl, _, rfl, ?_⟩
      rw [dec_bit]
      have z := k2 H1 t' b' (Bd.of s1) sp (hsum.same s1)
      cases b' with
      | true => exact iteT ⟨_, rfl, z⟩
      | false => exact iteF z
/-! sums_of -/
def spSumsOf (K : PySem.W.Frag) : Sp := fun vs H Q _ => ∃ (a b : Addr) (n m R : Nat) (tr : Nat → Bool) (fs : List Fm), vs = [.ref a, .ref b] ∧ ClothAt H a n m R tr ∧ FormsAt H b fs ∧ FmOk fs ∧ fsize fs ≤ 40 ∧
  (∀ u p d rs H', Same H H' → H d = none → SumsAt K H' p d rs → SumsInv (fsize fs) (fun i => mskOf n m fs (dec n m i)) tr (R * n * m) rs → H' u = some (.tup [.ref p, .int 0]) → Q (.ref u) H') ∧
  (∀ u p (t : Nat) H', Same H H' → Refuses (fun i => mskOf n m fs (dec n m i)) tr (R * n * m) (fsize fs) t → t ≠ 0 → H' u = some (.tup [.ref p, .int t]) → Q (.ref u) H')
theorem sc_sums_of : FnScope ["crossings", "forms", "suns", "moons", "rounds", "sums", "place", "r", "i", "j", "bit", "refused"] ["crossings", "forms"] (defScope s_sums_of) := ⟨rfl, rfl, rfl, by decide +kernel, rfl, by decide +kernel, by decide +kernel⟩
theorem MeetsAt.nk {H H' : Hp} {a : Addr} {n m k : Nat} (h : MeetsAt H a n m k) (s : Nk H H') : MeetsAt H' a n m k := by
  obtain ⟨as, h1, h2, h3⟩ := h
  exact ⟨as, s.lst h1, h2, fun i p e => s.tup (h3 i p e)⟩
theorem ok_sums_of (T : Txt K mg) : OkF P w K mg base 3 (He.ga K "sums_of") ["crossings", "forms"] (spSumsOf K) := by
  obtain ⟨fd, F⟩ := T.fn 13 (st := s_sums_of)
  obtain ⟨f1, G1, b1, k1⟩ := ok_numbers_of (P := P) (w := w) (base := base) T
  obtain ⟨f2, G2, b2, k2⟩ := ok_Sums_init (P := P) (w := w) (base := base) T
  obtain ⟨f3, G3, b3, k3⟩ := ok_every_meeting (P := P) (w := w) (base := base) T
  obtain ⟨f4, G4, b4, k4⟩ := ok_mask_at (P := P) (w := w) (base := base) T
  have R5 := (ok_Sums_put (P := P) (w := w) (base := base) T).raw
  refine ⟨fd, F.ok sc_sums_of (fun vs H Q E h => ?_) (fun cdv A outer s H vs Q E hr h => ?_), F.binds (fun _ _ _ _ _ _ us hl => match us, hl with | [_, _], _ => rfl), F.kp⟩
  · obtain ⟨_, _, _, _, _, _, _, rfl, _⟩ := h
    rfl
  · obtain ⟨a, b, n, m, R, tr, fs, rfl, hC, hf, ho, hsz, kA, kB⟩ := h
    have nd := sc_sums_of.nd
    have hu := hu_of hr
    refine ⟨_, pss_cons (ps_asg (pe_call G1 (hr.mono (by decide)) (by rfl) T.g_numbers_of k1 b1 .nil pass0 (pa_cons (pv 0) pa_nil)) (pg_tup (by rfl) (pgs_cons (pg_name (i := 2) nd rfl (Or.inl rfl)) (pgs_cons (pg_name (i := 3) nd rfl (Or.inl rfl)) (pgs_cons (pg_name (i := 4) nd rfl (Or.inl rfl)) pgs_nil)))))
      (pss_cons (ps_set (i := 5) nd rfl (Or.inl rfl) (pe_make0 T.kSums G2 hr (by rfl) T.g_Sums b2 .nil pass0))
      (pss_cons (ps_for PassesOwn.never rfl (pi_enum (by rfl) T.m_enumerate (pa_cons (pe_call G3 (hr.mono (by decide)) (by rfl) T.g_every_meeting k3 b3 .nil pass0 (pa_cons (pv 2) (pa_cons (pv 3) (pa_cons (pv 4) pa_nil)))) pa_nil))
          (pg_tup (by rfl) (pgs_cons (pg_name (i := 6) nd rfl (Or.inl rfl)) (pgs_cons (pg_tup (by rfl) (pgs_cons (pg_name (i := 7) nd rfl (Or.inl rfl)) (pgs_cons (pg_name (i := 8) nd rfl (Or.inl rfl)) (pgs_cons (pg_name (i := 9) nd rfl (Or.inl rfl)) pgs_nil)))) pgs_nil)))
        (pss_cons (ps_set (i := 10) nd rfl (Or.inl rfl) (pe_callTy call_int_str (by rfl) T.m_int (by decide +kernel) (pa_cons (pe_item_str (pe_dget hu (pv 0) (pe_tup (pa_cons (pv 8) (pa_cons (pv 9) pa_nil))) (fun _ _ => rfl)) (pv 7) (fun _ _ => rfl)) pa_nil)))
        (pss_cons (ps_set (i := 11) nd rfl (Or.inl rfl) (SlX.pe_methSl (E := E0) (pv 5) T.s_Sums T.me_put.1 R5 hr pass0 (pa_cons (pe_call G4 (hr.mono (by decide)) (by rfl) T.g_mask_at k4 b4 .nil pass0 (pa_cons (pv 1) (pa_cons (pe_tup (pa_cons (pv 7) (pa_cons (pv 8) (pa_cons (pv 9) pa_nil)))) (pa_cons (pv 2) (pa_cons (pv 3) pa_nil)))))
            (pa_cons (pv 10) (pa_cons (pe_op op_oneShl pe_int (pv 6)) pa_nil)))))
        (pss_one (ps_if (pt_cmpR op_gt (pv 11) pe_int (nomark _)) (pss_one (ps_ret (pe_tup (pa_cons (pv 5) (pa_cons (pv 11) pa_nil))))) pss_nil)))))
      (pss_one (ps_ret (pe_tup (pa_cons (pv 5) (pa_cons pe_int pa_nil))))))), ?_⟩
    obtain ⟨kvs, ha, hCl⟩ := id hC
    refine ⟨_, rfl, a, n, m, R, tr, rfl, hC, fun t H1 s1 ht => ?_⟩
    refine ⟨t, _, rfl, SqT.of ht, rfl, _, _, rfl, _, _, rfl, _, _, rfl, rfl, ?_⟩
    refine fun x dx hx hdx ne => ⟨_, x, dx, rfl, hx, hdx, ne, rfl, fun H2 d s2 hd0 hS => ⟨rfl, ?_⟩⟩
    have hd0H : H d = none := s1.free hd0
    have c1 := hCl.ln
    have c2 := hCl.lm
    have c3 := hCl.lR
    refine ⟨_, rfl, _, rfl, _, rfl, n, m, R, rfl, by omega, by omega, by omega, hCl.hn, hCl.hm, fun L H3 s3 hL hM => ?_⟩
    obtain ⟨as, hL1, hL2, hL3⟩ := id hM
    have s13 : Same H H3 := (s1.trans s2).trans s3
    refine ⟨L, _, rfl, SqL.of hL1, ?_⟩
    have hn := hCl.hn
    have hm := hCl.hm
    refine for_it (walk_enum (K := K) (a := L) (xs := as.map V.ref)) (fun c σ H' => ∃ (rs : List Row) (v1 v2 v3 v4 v5 v6 : Option V), σ = [some (.ref a), some (.ref b), some (.int n), some (.int m), some (.int R), some (.ref x), v1, v2, v3, v4, v5, v6] ∧ Same H H' ∧ MeetsAt H' L n m (R * n * m) ∧ H' L = some (.lst (as.map V.ref)) ∧ SumsAt K H' x d rs ∧ SumsInv (fsize fs) (fun i => mskOf n m fs (dec n m i)) tr c rs)
      ⟨[], none, none, none, none, none, none, rfl, s13, hM, hL1, hS.same s3, SumsInv.nil _ _ _⟩ (fun c σ H' _ ⟨_, _, _, _, _, _, _, _, _, _, h, _⟩ => SqL.of h) (fun c y σ H' H4 hc ⟨rs, v1, v2, v3, v4, v5, v6, e, s', hM', hL', hS', hI⟩ y => ?_) (fun σ H' ⟨rs, v1, v2, v3, v4, v5, v6, e, s', hM', hL', hS', hI⟩ => ?_)
    · subst e
      obtain ⟨e, x1, y1, rfl, he, rfl, hx1, hy1⟩ := y
      cases hx1
      rw [List.length_map] at hc
      have hy1 : (as.map V.ref)[c]? = some y1 := hy1
      rw [List.getElem?_map, List.getElem?_eq_getElem hc] at hy1
      cases hy1
      rw [hL2] at hc
      have s4 : Same H' (upd H' e (.tup [.int c, .ref as[c]])) := same_upd (Same.refl _) he
      obtain ⟨as', q1, q2, q3⟩ := id hM'
      have eas : as'.map V.ref = as.map V.ref := by rw [hL'] at q1; injection q1 with q1; injection q1 with q1; exact q1.symm
      have e0 : as'[c]? = some as[c] := by
        have z : (as'.map V.ref)[c]? = (as.map V.ref)[c]? := by rw [eas]
        rw [List.getElem?_map, List.getElem?_map, List.getElem?_eq_getElem (by omega : c < as.length)] at z
        cases e1 : as'[c]? with
        | none => rw [e1] at z; cases z
        | some q =>
          rw [e1] at z
          have z := Option.some.inj z
          injection z with z
          rw [z]
      have htup := s4 _ _ (q3 c as[c] e0)
      obtain ⟨hr1, hi1, hj1⟩ := dec_lt (n := n) (m := m) (R := R) (k := c) hc
      have hencd : enc n m (dec n m c) = c := enc_dec hn hm
      generalize hdc : dec n m c = mt at htup hr1 hi1 hj1 hencd
      obtain ⟨r, i, j⟩ := mt
      have hr1 : r < R := hr1
      have hi1 : i < n := hi1
      have hj1 : j < m := hj1
      have hencd : (r * n + i) * m + j = c := hencd
      refine ⟨e, _, rfl, SqT.of upd_same, rfl, _, _, rfl, _, _, rfl, ⟨as[c], _, rfl, SqT.of htup, rfl, _, _, rfl, _, _, rfl, _, _, rfl, rfl, rfl, ?_⟩⟩
      refine ⟨_, rfl, _, rfl, _, rfl, (by show 2 ≤ sizeLine; decide), fun t2 ht2 => ?_⟩
      have s5 : Same H (upd (upd H' e (.tup [.int c, .ref as[c]])) t2 (.tup [.int i, .int j])) := (s'.trans s4).trans (same_upd (Same.refl _) ht2)
      have g : DGet (upd (upd H' e (.tup [.int c, .ref as[c]])) t2 (.tup [.int i, .int j])) a (.ref t2) (some (.str (bt (cellBits n m R tr (i * m + j))))) := by
        rw [← hCl.at_ hi1 hj1]
        exact DGet.t (k := [.inl (i : Nat), .inl (j : Nat)]) (s5 _ _ ha) upd_same
      have cb : (cellBits n m R tr (i * m + j))[r]? = some (tr c) := by rw [cell_bit hr1, hencd]
      refine ⟨a, _, rfl, g, _, rfl, _, _, sgn (tr c), rfl, rfl, by omega, by omega, by rw [bt_len, cell_len]; omega, by rw [Int.toNat_natCast]; exact bt_get cb, ?_⟩
      refine ⟨_, _, rfl, intText_bit (tr c), (by rw [bt_one, bt_len]; show 1 ≤ 640; decide), ?_⟩
      have hS5 : SumsAt K (upd (upd H' e (.tup [.int c, .ref as[c]])) t2 (.tup [.int i, .int j])) x d rs := hS'.same (s4.trans (same_upd (Same.refl _) ht2))
      obtain ⟨sdx, svs, skvs, ss1, ss2, ss3, ss4⟩ := id hS5
      refine ⟨_, rfl, x, sdx, svs, rfl, ss1, ?_⟩
      refine ⟨_, rfl, _, rfl, _, rfl, _, rfl, (by show 3 ≤ sizeLine; decide), fun t3 ht3 => ?_⟩
      have s6 := s5.trans (same_upd (D := t3) (o := .tup [.int r, .int i, .int j]) (Same.refl _) ht3)
      refine ⟨_, rfl, _, rfl, b, t3, fs, n, m, (r, i, j), rfl, hf.same s6, upd_same, ho, by omega, by omega, fun H5 s7 => ?_⟩
      have hcb : c < 134217727 := by
        have a1 := Nat.mul_le_mul c3 c1
        have a2 := Nat.mul_le_mul a1 c2
        omega
      refine ⟨_, rfl, _, rfl, c, rfl, rfl, by omega, ?_⟩
      have hS6 := hS5.same ((same_upd (D := t3) (o := .tup [.int r, .int i, .int j]) (Same.refl _) ht3).trans s7)
      have hM6 : MeetsAt H5 L n m (R * n * m) := hM'.same (meets_nl n m) (((s4.trans (same_upd (Same.refl _) ht2)).trans (same_upd (Same.refl _) ht3)).trans s7)
      have hL6 : H5 L = some (.lst (as.map V.ref)) := (((s4.trans (same_upd (Same.refl _) ht2)).trans (same_upd (Same.refl _) ht3)).trans s7) _ _ hL'
      have s16 : Same H H5 := s6.trans s7
      have hmsk : mskOf n m fs (dec n m c) < 2 ^ fsize fs := mskOf_lt ho _
      have hrl : rs.length ≤ fsize fs := rank_le hI.ok fun r hr => (hI.lt r hr).1
      have hput : ((mskOf n m fs (dec n m c) : Nat) : Int) = ((mskOf n m fs (r, i, j) : Nat) : Int) := by rw [hdc]
      refine ⟨x, d, rs, mskOf n m fs (r, i, j), 2 ^ c, tr c, by rw [Int.natCast_pow] <;> rfl, hS6, by omega, fun H7 m' t' b' bd h0 hno sp hS7 => ?_, fun H7 t' b' bd sp hS7 => ?_⟩
      · obtain ⟨kv6, dk6⟩ := hS6.dk
        refine ⟨_, rfl, _, _, rfl, rfl, _, rfl, iteF ?_⟩
        refine ⟨_, _, _, _, _, _, _, rfl, Bd.same s16 bd hd0H, hM6.nk (bd.nk dk6), (bd.nk dk6).lst hL6, hS7, ?_⟩
        rw [← hdc] at sp
        exact hI.fresh hmsk sp h0 hno
      · obtain ⟨kv6, dk6⟩ := hS6.dk
        rw [← hdc] at sp
        refine ⟨_, rfl, _, _, rfl, rfl, _, rfl, ?_⟩
        cases b' with
        | false =>
          refine iteF ?_
          exact ⟨_, _, _, _, _, _, _, rfl, Bd.same s16 bd hd0H, hM6.nk (bd.nk dk6), (bd.nk dk6).lst hL6, hS7, hI.same sp⟩
        | true =>
          obtain ⟨hRef, ht0⟩ := hI.refuses hmsk sp hc
          refine ite2 (fun q => ?_) (fun q => ?_)
          · refine ⟨_, rfl, _, rfl, (by show 2 ≤ sizeLine; decide), fun u hu' => ?_⟩
            exact kB u x t' _ ((Bd.same s16 bd hd0H).trans (same_upd (Same.refl _) hu')) hRef ht0 upd_same
          · have := of_decide_eq_false (Bool.eq_false_iff.mpr q)
            rw [if_pos rfl] at this
            omega
    · subst e
      rw [List.length_map, hL2] at hI
      refine ⟨_, rfl, (by show 2 ≤ sizeLine; decide), fun u hu' => ?_⟩
      exact kA u x d rs _ (s'.trans (same_upd (Same.refl _) hu')) hd0H (hS'.same (same_upd (Same.refl _) hu')) hI upd_same
end
end K7
/-! text K7Vm -/
set_option maxHeartbeats 4000000
/-! told or refused, not both -/
namespace K7
open PySem PySem.Spec PySem.Calls PyProof.Rows L2
theorem dot_fxor (t : Nat) (f g : Nat → Bool) : ∀ M, dot M t (fun i => Bool.xor (f i) (g i)) = Bool.xor (dot M t f) (dot M t g)
  | 0 => rfl
  | M + 1 => by
    simp only [dot]
    rw [dot_fxor t f g M]
    cases dot M t f <;> cases dot M t g <;> cases t.testBit M <;> cases f M <;> cases g M <;> rfl
theorem dot_fand (t : Nat) (f : Nat → Bool) (c : Bool) : ∀ M, dot M t (fun i => f i && c) = (dot M t f && c)
  | 0 => by simp [dot]
  | M + 1 => by
    simp only [dot]
    rw [dot_fand t f c M]
    cases dot M t f <;> cases t.testBit M <;> cases f M <;> cases c <;> rfl
theorem dot_swap (M t : Nat) (msk : Nat → Nat) (x : Nat → Bool) : ∀ N, (∀ q, dot M t (fun i => (msk i).testBit q) = false) → dot M t (fun i => dot N (msk i) x) = false
  | 0, _ => by
    show dot M t (fun _ => false) = false
    have e := dot_fand t (fun _ => false) false M
    simp only [Bool.and_false] at e
    exact e
  | N + 1, h => by
    show dot M t (fun i => Bool.xor (dot N (msk i) x) ((msk i).testBit N && x N)) = false
    rw [dot_fxor, dot_swap M t msk x N h, dot_fand, h N]
    rfl
theorem not_both {N M t : Nat} {msk : Nat → Nat} {tru : Nat → Bool} {rs : List Row} (h : SumsInv N msk tru M rs) (r : Refuses msk tru M N t) : False := by
  obtain ⟨x, hx⟩ := rows_sat N rs h.ok fun r hr => (h.lt r hr).1
  have e1 := dot_swap M t msk x N r.even
  have e2 : dot M t (fun i => dot N (msk i) x) = dot M t tru := dot_congr t M fun i hi => h.imp x hx i hi
  rw [e1, r.odd] at e2
  cases e2
/-- the picked meetings -/
theorem picked_take {α : Type} (t : Nat) {l : List α} {c : Nat} {a : α} (h : l[c]? = some a) : picked 0 (l.take (c + 1)) t = picked 0 (l.take c) t ++ if t.testBit c then [a] else [] := by
  rw [take_snoc h, picked_snoc, Nat.zero_add, List.length_take]
  have := (List.getElem?_eq_some_iff.mp h).1
  rw [Nat.min_eq_left (by omega)]
/-- a list of tuples of meetings -/
def ThingAt (H : Hp) (a : Addr) (ts : List (Nat × Nat × Nat)) : Prop := ∃ as : List Addr, H a = some (.lst (as.map V.ref)) ∧ as.length = ts.length ∧ ∀ (i : Nat) (p : Addr) (x : Nat × Nat × Nat), as[i]? = some p → ts[i]? = some x → H p = some (.tup (mt3 x))
theorem ThingAt.same {H H' : Hp} {a : Addr} {ts : List (Nat × Nat × Nat)} (h : ThingAt H a ts) (s : Same H H') : ThingAt H' a ts := by
  obtain ⟨as, h1, h2, h3⟩ := h
  exact ⟨as, s _ _ h1, h2, fun i p x e1 e2 => s _ _ (h3 i p x e1 e2)⟩
theorem ThingAt.snoc {H : Hp} {a p : Addr} {acc : List V} {ts : List (Nat × Nat × Nat)} {x : Nat × Nat × Nat} (h : ThingAt H a ts) (ha : H a = some (.lst acc)) (hp : H p = some (.tup (mt3 x))) : ThingAt (upd H a (.lst (acc ++ [.ref p]))) a (ts ++ [x]) := by
  obtain ⟨as, h1, h2, h3⟩ := h
  have ea : acc = as.map V.ref := by
    rw [h1] at ha
    injection ha with ha
    injection ha with ha
    exact ha.symm
  subst ea
  have nb : ∀ {c : Addr} {t : List V}, H c = some (.tup t) → c ≠ a := fun e q => by
    rw [q, h1] at e
    cases e
  refine ⟨as ++ [p], by rw [upd_same, List.map_append] <;> rfl, by rw [List.length_append, List.length_append, h2] <;> rfl, fun i q y e1 e2 => ?_⟩
  by_cases hi : i < as.length
  · rw [List.getElem?_append_left hi] at e1
    rw [List.getElem?_append_left (by omega)] at e2
    have e3 := h3 i q y e1 e2
    rw [upd_ne (nb e3)]
    exact e3
  · have hi2 : i = as.length := by
      have := (List.getElem?_eq_some_iff.mp e1).1
      rw [List.length_append, List.length_singleton] at this
      omega
    subst hi2
    rw [List.getElem?_append_right (Nat.le_refl _), Nat.sub_self] at e1
    rw [h2, List.getElem?_append_right (Nat.le_refl _), Nat.sub_self] at e2
    have e1 : p = q := Option.some.inj e1
    have e2 : x = y := Option.some.inj e2
    subst e1 e2
    rw [upd_ne (nb hp)]
    exact hp
theorem shift_bit (t c : Nat) : decide (V.int (Builtin.bitAnd ((t : Int) / 2 ^ ((c : Int)).toNat) 1) = V.int 1) = t.testBit c := by
  have e : ((t : Int) / 2 ^ ((c : Int)).toNat) = ((t / 2 ^ c : Nat) : Int) := by
    rw [Int.toNat_natCast]
    rw [Int.natCast_ediv, Int.natCast_pow]
    rfl
  rw [e, show (1 : Int) = ((1 : Nat) : Int) from rfl, PyProof.Rows.bitAnd_pp (Int.natCast_nonneg _) (Int.natCast_nonneg _), Int.toNat_natCast, Int.toNat_natCast, Nat.and_one_is_mod, Nat.testBit_eq_decide_div_mod_eq]
  rw [Bool.eq_iff_iff, decide_eq_true_iff, decide_eq_true_iff]
  constructor
  · intro h
    injection h with h
    omega
  · intro h
    rw [h]
end K7
/-! text K7Vd -/
set_option maxHeartbeats 4000000
/-! meetings as data -/
namespace K7
open PySem PySem.Spec PySem.Calls PyProof.Rows L2
def mtD (t : Nat × Nat × Nat) : PyData := .tuple [.int t.1, .int t.2.1, .int t.2.2]
theorem mtD_eqv (x y : Nat × Nat × Nat) : PyData.eqv (mtD x) (mtD y) = decide (x = y) := by
  obtain ⟨a, b, c⟩ := x
  obtain ⟨d, e, f⟩ := y
  show PyData.eqv (.tuple [.int a, .int b, .int c]) (.tuple [.int d, .int e, .int f]) = _
  simp only [PyData.eqv, PyData.eqvAll, Bool.and_true]
  rw [Bool.eq_iff_iff]
  simp only [Bool.and_eq_true, beq_iff_eq, decide_eq_true_iff, Prod.mk.injEq]
  omega
theorem mtD_shaped (x : Nat × Nat × Nat) : SeqAt.shaped (mtD x) = true := rfl
theorem canLayAll_mt : ∀ ts : List (Nat × Nat × Nat), PyData.canLayAll0 (ts.map mtD) = true
  | [] => rfl
  | t :: ts => by
    rw [List.map_cons, PyData.canLayAll0, canLayAll_mt ts]
    rfl
theorem depthAll_mt : ∀ ts : List (Nat × Nat × Nat), PyData.depthAll (ts.map mtD) ≤ 3
  | [] => by decide
  | t :: ts => by
    rw [List.map_cons, PyData.depthAll]
    have := depthAll_mt ts
    have e : (mtD t).depth ≤ 3 := by
      show PyData.depth (.tuple [.int t.1, .int t.2.1, .int t.2.2]) ≤ 3
      simp [PyData.depth, PyData.depthAll]
    omega
theorem list_shaped (ts : List (Nat × Nat × Nat)) (h : ts.length ≤ 1000) : SeqAt.shaped (.list (ts.map mtD)) = true := by
  unfold SeqAt.shaped
  rw [Bool.and_eq_true]
  constructor
  · show PyData.canLay0 (.list (ts.map mtD)) = true
    rw [PyData.canLay0]
    exact canLayAll_mt ts
  · rw [decide_eq_true_iff]
    have := depthAll_mt ts
    show PyData.depth (.list (ts.map mtD)) ≤ 64
    rw [PyData.depth]
    omega
theorem dp_mt {K : PySem.W.Frag} {H : Hp} {p : Addr} {x : Nat × Nat × Nat} (h : H p = some (.tup (mt3 x))) : Dp K H (.ref p) (mtD x) := .tup (SqT.of h) (.cons (.int _) (.cons (.int _) (.cons (.int _) .nil)))
theorem dpAll_mt {K : PySem.W.Frag} {H : Hp} : ∀ {as : List Addr} {ts : List (Nat × Nat × Nat)}, as.length = ts.length → (∀ (i : Nat) (p : Addr) (x : Nat × Nat × Nat), as[i]? = some p → ts[i]? = some x → H p = some (.tup (mt3 x))) → DpAll K H (as.map V.ref) (ts.map mtD)
  | [], [], _, _ => .nil
  | [], _ :: _, h, _ => by cases h
  | _ :: _, [], h, _ => by cases h
  | a :: as, t :: ts, h, k => .cons (dp_mt (k 0 a t rfl rfl)) (dpAll_mt (Nat.succ.inj h) fun i p x e1 e2 => k (i + 1) p x (by rw [List.getElem?_cons_succ]; exact e1) (by rw [List.getElem?_cons_succ]; exact e2))
theorem any_mtD (ts : List (Nat × Nat × Nat)) (x : Nat × Nat × Nat) : ((ts.map mtD).any fun z => PyData.eqv z (mtD x)) = decide (x ∈ ts) := by
  induction ts with
  | nil => rfl
  | cons t ts ih =>
    rw [List.map_cons, List.any_cons, ih, mtD_eqv]
    rw [Bool.eq_iff_iff]
    simp only [Bool.or_eq_true, decide_eq_true_iff, List.mem_cons]
    constructor
    · rintro (h | h)
      · exact .inl h.symm
      · exact .inr h
    · rintro (h | h)
      · exact .inl h.symm
      · exact .inr h
theorem u65 {k : Nat} {A : Around} (r : Room k A) : A.units + 65 < cLine := by have := r.un; omega
/-- one's own truth at a meeting, by the numbers' order -/
def trAt (n m : Nat) (tr : Nat → Bool) (x : Nat × Nat × Nat) : Bool := tr (enc n m x)
theorem xor_bits (a b : Bool) : Builtin.bitXor ((a.toNat : Nat) : Int) ((b.toNat : Nat) : Int) = (((Bool.xor a b).toNat : Nat) : Int) := by rw [xor_pp, toNat_xor]
end K7
/-! text K7V3 -/
set_option maxHeartbeats 4000000
namespace K7
open PySem PySem.Spec PySem.Calls PyProof.Rows L2
section
variable {P : Program} {w : World} {K : PySem.W.Frag} {mg : PySem.Str → Option Value} {base : Heap}
def cutB (bs : List Bool) (a l : Nat) : List Bool := (bs.drop a).take l
def wordAt (fs : List Fm) (bs : List Bool) (i : Nat) : List Bool × List Bool := match fs[i]? with
  | some f => (cutB bs (fsize (fs.take i)) f.lead, cutB bs (fsize (fs.take i) + f.lead) f.per)
  | none => ([], [])
def WRel (K : PySem.W.Frag) (fs : List Fm) (bs : List Bool) : Nat → Addr → Hp → Prop := fun i p H => WordAt K H p (wordAt fs bs i).1 (wordAt fs bs i).2
theorem WRel.nl (K : PySem.W.Frag) (fs : List Fm) (bs : List Bool) : ∀ i a H H', Nl H H' → WRel K fs bs i a H → WRel K fs bs i a H' := fun i a H H' s h => WordAt.nl h s
theorem cut_bt (bs : List Bool) (a l : Nat) (h : a + l ≤ bs.length) : cutS (bt bs) (some (a : Int)) (some ((a + l : Nat) : Int)) = bt (cutB bs a l) := by
  rw [bt_cut, HT.sIx_nat, HT.sIx_nat, Nat.min_eq_left (show a ≤ bs.length by omega), Nat.min_eq_left h, Nat.add_sub_cancel_left]
  rfl
theorem cutB_len (bs : List Bool) (a l : Nat) (h : a + l ≤ bs.length) : (cutB bs a l).length = l := by
  unfold cutB
  rw [List.length_take, List.length_drop]
  omega
def spTold (K : PySem.W.Frag) : Sp := fun vs H Q _ => ∃ (a b : Addr) (n m R : Nat) (tr : Nat → Bool) (fs : List Fm), vs = [.ref a, .ref b] ∧ ClothAt H a n m R tr ∧ FormsAt H b fs ∧ fs.length ≤ 1000 ∧ FmOk fs ∧ fsize fs ≤ 40 ∧
  (∀ D (bs : List Bool) rs H', Same H H' → H D = none → RefsAt (WRel K fs bs) H' D fs.length → bs.length = fsize fs → SumsInv (fsize fs) (fun i => mskOf n m fs (dec n m i)) tr (R * n * m) rs →
    (∀ i, i < R * n * m → dot (fsize fs) (mskOf n m fs (dec n m i)) (fun p => bs.getD p false) = tr i) → Q (.ref D) H') ∧
  (∀ (t : Nat) H', Same H H' → Refuses (fun i => mskOf n m fs (dec n m i)) tr (R * n * m) (fsize fs) t → Q .non H')
theorem sc_told_back : FnScope ["crossings", "forms", "sums", "refused", "bits", "fresh", "place", "words", "ahead", "reader", "lead", "period"] ["crossings", "forms"] (defScope s_told_back) := ⟨rfl, rfl, rfl, by decide +kernel, rfl, by decide +kernel, by decide +kernel⟩
theorem ok_told_back (T : Txt K mg) : OkF P w K mg base 4 (He.ga K "told_back") ["crossings", "forms"] (spTold K) := by
  obtain ⟨fd, F⟩ := T.fn 18 (st := s_told_back)
  obtain ⟨f2, G2, b2, k2⟩ := ok_sums_of (P := P) (w := w) (base := base) T
  obtain ⟨f3, G3, b3, k3⟩ := ok_many_characters (P := P) (w := w) (base := base) T
  have R4 := (ok_Sums_put (P := P) (w := w) (base := base) T).raw
  have R5 := (ok_Word_init (P := P) (w := w) (base := base) T).raw
  refine ⟨fd, F.ok sc_told_back (fun vs H Q E h => ?_) (fun cdv A outer s H vs Q E hr h => ?_), F.binds (fun _ _ _ _ _ _ us hl => match us, hl with | [_, _], _ => rfl), F.kp⟩
  · obtain ⟨_, _, _, _, _, _, _, rfl, _⟩ := h
    rfl
  · obtain ⟨a, b, n, m, R, tr, fs, rfl, hC, hf, hfl, ho, hsz, kA, kB⟩ := h
    have nd := sc_told_back.nd
    have hu := hu_of hr
    obtain ⟨kvs, ha, hCl⟩ := id hC
    have c1 := hCl.ln
    have c2 := hCl.lm
    have c3 := hCl.lR
    obtain ⟨fa, hf1, hf2, hf3⟩ := id hf
    refine ⟨_, pss_cons (ps_asg (pe_call G2 hr (by rfl) T.g_sums_of k2 b2 .nil pass0 (pa_cons (pv 0) (pa_cons (pv 1) pa_nil))) (pg_tup (by rfl) (pgs_cons (pg_name (i := 2) nd rfl (Or.inl rfl)) (pgs_cons (pg_name (i := 3) nd rfl (Or.inl rfl)) pgs_nil))))
      (pss_cons (ps_if (pt_cmpR op_gt (pv 3) pe_int (nomark _)) (pss_one (ps_ret pe_non)) pss_nil)
      (pss_cons (ps_par (i := 4) (j := 5) (by rfl) nd rfl rfl (by decide) rfl rfl (pa_cons pe_str (pa_cons (pe_op op_mul (pe_callB call_len_dT (by rfl) T.m_len boot_len (pa_cons (pv 0) pa_nil)) (pe_callB call_len_str (by rfl) T.m_len boot_len (pa_cons (pe_dget hu (pv 0) (pe_tup (pa_cons pe_int (pa_cons pe_int pa_nil))) (fun _ _ => rfl)) pa_nil))) pa_nil)) (by rfl))
      (pss_cons (ps_for PassesOwn.never rfl (pi_range1 (by rfl) T.m_range (pa_cons (pe_call G3 (hr.mono (by decide)) (by rfl) T.g_many_characters k3 b3 .nil pass0 (pa_cons (pv 1) pa_nil)) pa_nil)) (pg_name (i := 6) nd rfl (Or.inl rfl))
        (pss_one (ps_aug (i := 4) nd rfl (Or.inl rfl) (pe_ifExp (pt_cmpR op_gt (SlX.pe_methSl (E := E0) (pv 2) T.s_Sums T.me_put.1 R4 (hr.mono (by decide)) pass0 (pa_cons (pe_op op_oneShl pe_int (pv 6)) (pa_cons pe_int (pa_cons (pe_op op_oneShl pe_int (pe_op op_add (pv 5) (pv 6))) pa_nil)))) pe_int (nomark _)) pe_str pe_str) iop_add_str)))
      (pss_cons (ps_par (i := 7) (j := 8) (by rfl) nd rfl rfl (by decide) rfl rfl (pa_cons (pe_lst pa_nil) (pa_cons pe_int pa_nil)) (by rfl))
      (pss_cons (ps_for PassesOwn.never rfl (pi_list (pv 1)) (pg_tup (by rfl) (pgs_cons (pg_name (i := 9) nd rfl (Or.inl rfl)) (pgs_cons (pg_name (i := 10) nd rfl (Or.inl rfl)) (pgs_cons (pg_name (i := 11) nd rfl (Or.inl rfl)) pgs_nil))))
        (pss_cons (ps_expr (pe_bm PySem.F.plainAttrs_list PySem.F.slot_list_append PySem.F.type_list_append mt_append (pv 7) (pa_cons (StX.pe_makeR T.kWord R5 hr (by rfl) T.g_Word pass0
            (pa_cons (pe_slice sl_str (pv 4) (po_some (pv 8)) (po_some (pe_op op_add (pv 8) (pv 10)))) (pa_cons (pe_slice sl_str (pv 4) (po_some (pe_op op_add (pv 8) (pv 10))) (po_some (pe_op op_add (pe_op op_add (pv 8) (pv 10)) (pv 11)))) pa_nil))) pa_nil)))
        (pss_one (ps_aug (i := 8) nd rfl (Or.inl rfl) (pe_op op_add (pv 10) (pv 11)) iop_add))))
      (pss_one (ps_ret (pv 7)))))))), ?_⟩
    refine ⟨_, rfl, _, rfl, a, b, n, m, R, tr, fs, rfl, hC, hf, ho, hsz, fun u p d rs0 H1 s1 hd hS hI hu1 => ?_, fun u p t H1 s1 hRf ht hu1 => ?_⟩
    · refine ⟨u, _, rfl, SqT.of hu1, rfl, _, _, rfl, _, _, rfl, rfl, ?_⟩
      refine ⟨_, rfl, _, _, rfl, rfl, _, rfl, iteF ?_⟩
      refine ⟨_, rfl, a, kvs, rfl, s1 _ _ ha, ?_⟩
      refine ⟨_, rfl, (by show 2 ≤ sizeLine; decide), fun t ht => ?_⟩
      have s2 := s1.trans (same_upd (D := t) (o := .tup [.int 0, .int 0]) (Same.refl _) ht)
      have g : DGet (upd H1 t (.tup [.int 0, .int 0])) a (.ref t) (some (.str (bt (cellBits n m R tr (0 * m + 0))))) := by
        rw [← hCl.at_ hCl.hn hCl.hm]
        exact DGet.t (k := [.inl 0, .inl 0]) (s2 _ _ ha) upd_same
      refine ⟨a, _, rfl, g, _, rfl, by rw [bt_len, cell_len]; exact Nat.le_trans c3 (by decide), ?_⟩
      rw [bt_len, cell_len]
      have hkl : kvs.length ≤ 64 := by rw [hCl.len]; exact Nat.le_trans (Nat.mul_le_mul c1 c2) (by decide)
      refine ⟨_, _, rfl, rfl, .inl (by constructor <;> omega), _, _, rfl, ?_⟩
      have hM : ((kvs.length : Nat) : Int) * ((R : Nat) : Int) = ((R * n * m : Nat) : Int) := by
        rw [hCl.len, ← Int.natCast_mul]
        congr 1
        rw [Nat.mul_comm (n * m) R, Nat.mul_assoc]
      have hMl : R * n * m ≤ 6 * 8 * 8 := Nat.mul_le_mul (Nat.mul_le_mul c3 c1) c2
      have hS2 := hS.same (same_upd (D := t) (o := .tup [.int 0, .int 0]) (Same.refl _) ht)
      refine ⟨_, rfl, b, fs, rfl, hf.same s2, hfl, fun H3 s3 => ?_⟩
      have s13 := s2.trans s3
      refine ⟨(fsize fs : Nat), rfl, by omega, by omega, ?_⟩
      refine for_it (walk_range (lo := 0) (n := fsize fs)) (fun i σ H' => ∃ (bs : List Bool) (rs : List Row) (v : Option V), σ = [some (.ref a), some (.ref b), some (.ref p), some (.int 0), some (.str (bt bs)), some (.int (R * n * m : Nat)), v, none, none, none, none, none] ∧ bs.length = i ∧ Same H H' ∧ SumsAt K H' p d rs ∧ TbInv (fsize fs) (R * n * m) rs0 bs rs)
        ⟨[], rs0, none, by rw [bt_nil, ← hM] <;> rfl, rfl, s13, hS2.same s3, TbInv.start hI⟩ (fun _ _ _ _ _ => trivial) (fun i x σ H' H4 hi ⟨bs, rs, v, e, hbl, s', hS', hTb⟩ y => ?_) (fun σ H' ⟨bs, rs, v, e, hbl, s', hS', hTb⟩ => ?_)
      · obtain ⟨rfl, rfl⟩ := y
        subst e hbl
        obtain ⟨dx, vs, kv', hs, hs0, hdk, hrw⟩ := id hS'
        have hrl : rs.length ≤ fsize fs := rank_le hTb.ok fun r hr => (hTb.lt r hr).1
        refine ⟨_, rfl, _, rfl, p, dx, vs, rfl, hs, ?_⟩
        refine ⟨_, rfl, bs.length, rfl, congrArg V.int (by omega), by omega, ?_⟩
        refine ⟨_, rfl, _, rfl, _, _, rfl, rfl, R * n * m + bs.length, rfl, congrArg V.int (by omega), by omega, ?_⟩
        have fin : ∀ (c : Bool) (z : PySem.Str) H5 rs', z = bt [c] → Bd d H4 H5 → SumsAt K H5 p d rs' → TbInv (fsize fs) (R * n * m) rs0 (bs ++ [c]) rs' → ∃ i j : PySem.Str, V.str (bt bs) = .str i ∧ V.str z = .str j ∧ i.length + j.length ≤ sizeLine ∧
            ∃ (bs' : List Bool) (rs : List Row) (v : Option V), ([some (.ref a), some (.ref b), some (.ref p), some (.int 0), some (.str (bt bs)), some (.int (R * n * m : Nat)), some (.int (0 + ((bs.length : Nat) : Int))), none, none, none, none, none] : L2.St).set 4 (some (.str (i ++ j))) = [some (.ref a), some (.ref b), some (.ref p), some (.int 0), some (.str (bt bs')), some (.int (R * n * m : Nat)), v, none, none, none, none, none] ∧ bs'.length = bs.length + 1 ∧ Same H H5 ∧ SumsAt K H5 p d rs ∧ TbInv (fsize fs) (R * n * m) rs0 bs' rs := by
          rintro c z H5 rs' rfl bd hS5 hT5
          refine ⟨_, _, rfl, rfl, ?_, bs ++ [c], rs', some (.int (0 + ((bs.length : Nat) : Int))), ?_, by rw [List.length_append] <;> rfl, Bd.same s' bd hd, hS5, hT5⟩
          · rw [bt_len, bt_len]
            have : sizeLine = 16777216 := sizeLine_eq
            show bs.length + 1 ≤ sizeLine
            omega
          · rw [bt_app]
            rfl
        refine ⟨p, d, rs, 2 ^ bs.length, 2 ^ (R * n * m + bs.length), false, by rw [Int.natCast_pow, Int.natCast_pow] <;> rfl, hS', by omega, fun H5 m' t' b' bd h0 hno sp hS5 => ?_, fun H5 t' b' bd sp hS5 => ?_⟩
        · refine ⟨_, _, rfl, rfl, _, rfl, iteF ?_⟩
          exact fin false _ H5 _ bt_0.symm bd hS5 (hTb.fresh hi sp h0 hno)
        · obtain ⟨hT5, ht0⟩ := hTb.same hi sp
          refine ⟨_, _, rfl, rfl, _, rfl, ?_⟩
          cases b' with
          | false => exact iteF (fin false _ H5 _ bt_0.symm bd hS5 hT5)
          | true =>
            rw [decide_eq_true (show (((if true = true then t' else 0 : Nat)) : Int) > 0 by rw [if_pos rfl]; omega)]
            exact iteT (fin true _ H5 _ bt_1.symm bd hS5 hT5)
      · subst e
        have htold := hTb.told hbl hI
        refine ⟨Nat.zero_le _, fun W hW => ⟨_, _, rfl, ?_⟩⟩
        have sW : Same H (upd H' W (.lst [])) := s'.trans (same_upd (Same.refl _) hW)
        have hW0 : H W = none := s'.free hW
        refine ⟨_, rfl, b, rfl, ⟨_, SqL.of (sW _ _ hf1)⟩, ?_⟩
        refine for_it (walk_list (K := K) (a := b) (xs := fa.map V.ref)) (fun i σ H' => ∃ (v1 v2 v3 : Option V), σ = [some (.ref a), some (.ref b), some (.ref p), some (.int 0), some (.str (bt bs)), some (.int (R * n * m : Nat)), v, some (.ref W), some (.int (fsize (fs.take i) : Nat)), v1, v2, v3] ∧ Same H H' ∧ RefsAt (WRel K fs bs) H' W i)
          ⟨none, none, none, rfl, sW, [], upd_same, rfl, fun i p e => by simp at e⟩ (fun i σ H' _ ⟨_, _, _, _, s', _⟩ => SqL.of (s' _ _ hf1)) (fun i x σ H' H4 hi ⟨v1, v2, v3, e, s', hR⟩ y => ?_) (fun σ H' ⟨v1, v2, v3, e, s', hR⟩ => ?_)
        · obtain ⟨rfl, hx⟩ := y
          subst e
          rw [List.length_map] at hi
          have hi2 : i < fs.length := by omega
          rw [List.getElem?_map, List.getElem?_eq_getElem hi] at hx
          cases hx
          have hfi : fs[i]? = some fs[i] := List.getElem?_eq_getElem hi2
          have ef := s' _ _ (hf3 i fa[i] fs[i] (List.getElem?_eq_getElem hi) hfi)
          have hper : 0 < fs[i].per := ho _ (List.getElem_mem hi2)
          have hend : fsize (fs.take i) + fs[i].lead + fs[i].per ≤ bs.length := by
            have q1 := fsize_take_le (fs := fs) (i + 1)
            rw [take_snoc hfi, fsize_snoc] at q1
            unfold Fm.len at q1
            omega
          refine ⟨fa[i], _, rfl, SqT.of ef, rfl, _, _, rfl, _, _, rfl, _, _, rfl, rfl, ?_⟩
          obtain ⟨as, hL, hl, hp⟩ := id hR
          refine ⟨_, rfl, .inl ⟨rfl, _, SqL.of hL⟩, ?_⟩
          have zs : bs.length ≤ sizeLine := by have : sizeLine = 16777216 := sizeLine_eq; omega
          refine ⟨_, rfl, _, rfl, _, rfl, _, rfl, _, rfl, _, _, rfl, rfl, ((fsize (fs.take i) + fs[i].lead : Nat) : Int), congrArg V.int (by omega), _, rfl, by rw [bt_len]; exact zs, ?_⟩
          refine ⟨_, rfl, _, rfl, _, rfl, _, _, rfl, rfl, ((fsize (fs.take i) + fs[i].lead : Nat) : Int), congrArg V.int (by omega), _, rfl, _, rfl, _, _, rfl, rfl, _, rfl, _, _, rfl, rfl, ((fsize (fs.take i) + fs[i].lead + fs[i].per : Nat) : Int), congrArg V.int (by omega), _, rfl, by rw [bt_len]; exact zs, ?_⟩
          rw [cut_bt bs _ _ (by omega), cut_bt bs _ _ hend]
          refine fun x dx hx hdx ne => ⟨_, x, dx, _, _, rfl, hx, hdx, ne, rfl, ?_, ?_, ?_, fun H5 s5 hWd => ⟨rfl, ?_⟩⟩
          · rw [cutB_len _ _ _ (by omega)]; omega
          · rw [cutB_len _ _ _ hend]; omega
          · rw [cutB_len _ _ _ hend]; exact hper
          have hL5 := s5 _ _ hL
          refine ⟨W, _, _, rfl, rfl, hL5, by rw [List.length_map, hl]; have : sizeLine = 16777216 := sizeLine_eq; omega, ?_⟩
          refine ⟨_, rfl, _, rfl, _, rfl, _, _, rfl, rfl, _, _, rfl, rfl, ?_⟩
          refine ⟨some (.str fs[i].rd.str), some (.int (fs[i].lead : Nat)), some (.int (fs[i].per : Nat)), ?_, same_upd (s'.trans s5) hW0, (hR.same (WRel.nl K fs bs) s5).snoc (WRel.nl K fs bs) hL5 ?_⟩
          · rw [take_snoc hfi, fsize_snoc]
            have e2 : ((fsize (fs.take i) : Nat) : Int) + (((fs[i].lead : Nat) : Int) + ((fs[i].per : Nat) : Int)) = ((fsize (fs.take i) + fs[i].len : Nat) : Int) := by unfold Fm.len; omega
            rw [← e2]
            rfl
          · unfold WRel wordAt
            rw [hfi]
            exact hWd
        · subst e
          rw [List.length_map, hf2] at hR
          exact ⟨_, rfl, kA W bs rs0 H' s' hW0 hR hbl hI htold⟩
    · refine ⟨u, _, rfl, SqT.of hu1, rfl, _, _, rfl, _, _, rfl, rfl, ?_⟩
      refine ⟨_, rfl, _, _, rfl, rfl, _, rfl, ?_⟩
      rw [decide_eq_true (show ((t : Nat) : Int) > 0 by omega)]
      exact iteT (kB t H1 s1 hRf)
end
end K7
/-! text K7R5 -/
set_option maxHeartbeats 4000000
/-! own rules: dicts with tuple keys: ==, != (equal ones); dict(pairs); dict comprehensions -/
namespace K7
open PySem PySem.Spec PySem.Calls PyProof.Rows L2
section
variable {prog : Program} {w : World} {K : Type} [DecidableEq K] {knd : HeapKind prog w K} {A : Around} {E : Value → Shared → Prop} {s : Shared}
/-- a key that stands in a dict is found, with what stands at it -/
theorem found_there {b p q : Addr} {y : Value} {k : K} {xb : List (K × Addr × Value)} {o : Obj} {es : Array DictEntry} {ep : Nat} {Qo : Option Nat → Shared → Prop} (hu : knd.room A) (hk : knd.is s.heap k p)
    (ho : s.heap.get? b = some o) (hd : o.data = .dict es ep) (he : es.toList = xb.map (entryOfKey knd)) (hi : ∀ x ∈ xb, knd.is s.heap x.1 x.2.1) (hn : (xb.map (·.1)).Nodup) (hm : (k, q, y) ∈ xb)
    (h : ∀ j : Nat, es[j]? = some (entryOfKey knd (k, q, y)) → Qo (some j) s) : wpAny (model prog w) A (dictFind b (.ref p) (knd.hash k)) Qo E s := by
  obtain ⟨i, li, ei⟩ := List.mem_iff_getElem.mp hm
  have there : xb[i]? = some (k, q, y) := by rw [List.getElem?_eq_getElem li, ei]
  refine wpAny_dictFind_heap hu hk ho hd he hi hn (fun no => absurd there (no i (q, y))) fun j r hj => ?_
  cases Option.some.inj ((atKey_of_get hn hj).symm.trans (atKey_of_get hn there))
  exact h j (by rw [entry_at he j, hj]; rfl)
/-- two dicts with object keys that hold the same -/
theorem samePairsT {nm : String} {a b : Addr} {xa xb : List (K × Addr × Value)} {Q : Bool → Shared → Prop} (hu : knd.room A) (ha : (a == sysModules) = false) (hb : (b == sysModules) = false)
    (da : s.heap.DictOfH knd a xa) (db : s.heap.DictOfH knd b xb) (hl : xa.length = xb.length) (hits : ∀ k p v, (k, p, v) ∈ xa → ∃ q y, (k, q, y) ∈ xb ∧ SeqAt.EqAt A s v y true) (h : Q true s) :
    wpAny (model prog w) A (Builtin.Dict.samePairs nm a b) Q E s := by
  obtain ⟨oa, es, na, ga, _, dta, ea, ia, _⟩ := da
  obtain ⟨ob, fs, nb, gb, _, dtb, eb, ib, ub⟩ := db
  have la : es.size = xa.length := size_of_entries ea
  have size : es.size = fs.size := by rw [la, hl, size_of_entries eb]
  have plain : ∀ d : Addr, (d == sysModules) = false → Builtin.Dict.showsAll d = pure () := fun d q => by
    unfold Builtin.Dict.showsAll
    rw [q]
    rfl
  unfold Builtin.Dict.samePairs
  rw [plain a ha, plain b hb]
  refine wpAny_bind (wpAny_pure (wpAny_bind (wpAny_pure (wpAny_bind (wpAny_dictEntries ga dta ?_)))))
  dsimp only
  refine wpAny_bind (wpAny_dictEntries gb dtb ?_)
  rw [if_neg (by simp [size])]
  refine wpAny_bind (wpAny_dictEpoch ga dta (wpAny_bind ?_))
  rw [Std.Legacy.Range.forIn_eq_forIn_range']
  refine wpAny_forIn_list _ (fun rest q s' => s' = s ∧ q = (none, ()) ∧ ∀ j ∈ rest, j < xa.length) _ ?_ ?_ _ _ ⟨rfl, rfl, fun j hj => ?_⟩
  · rintro j rest _ s' ⟨rfl, rfl, lt⟩
    have lj := lt j List.mem_cons_self
    have mem : xa[j] ∈ xa := List.getElem_mem lj
    obtain ⟨q, y, hq, same⟩ := hits xa[j].1 xa[j].2.1 xa[j].2.2 mem
    refine wpAny_bind (wpAny_dictEntries ga dta ?_)
    rw [entry_at ea j, List.getElem?_eq_getElem lj]
    refine wpAny_bind (wpAny_holding (wpAny_bind (found_there hu (ia _ mem) gb dtb eb ib ub hq fun i ei => wpAny_bind (wpAny_dictEntries gb dtb ?_))))
    rw [ei]
    refine wpAny_holding (same prog w _ _ (wpAny_bind (wpAny_dictEpoch ga dta ?_)))
    rw [if_neg (by simp)]
    exact wpAny_pure ⟨rfl, rfl, fun i hi => lt i (List.mem_cons_of_mem _ hi)⟩
  · rintro _ s' ⟨rfl, rfl, _⟩
    exact wpAny_pure h
  · rw [List.mem_range'] at hj
    simp only [Std.Legacy.Range.size] at hj
    omega
theorem slot_args {nm : String} {a : Addr} {v : Value} {xa : List (K × Addr × Value)} {Q : Value × Value → Shared → Prop} (da : s.heap.DictOfH knd a xa) (h : Q (.ref a, v) s) :
    wpAny (model prog w) A (Builtin.Dict.dictSlotArgs nm ⟨[.ref a, v], []⟩) Q E s := by
  unfold Builtin.Dict.dictSlotArgs
  exact wpAny_bind (wpAny_notOrdered_dict da.typeIs (wpAny_pure h))
theorem keqT {a b : Addr} {xa xb : List (K × Addr × Value)} {Q : Value → Shared → Prop} (hu1 : A.units < cLine) (hu : knd.room A.in1) (ha : (a == sysModules) = false) (hb : (b == sysModules) = false)
    (da : s.heap.DictOfH knd a xa) (db : s.heap.DictOfH knd b xb) (hl : xa.length = xb.length) (hits : ∀ k p v, (k, p, v) ∈ xa → ∃ q y, (k, q, y) ∈ xb ∧ SeqAt.EqAt A.in1 s v y true) (h : Q (.bool true) s) :
    wpAny (model prog w) A (compareOp .Eq (.ref a) (.ref b)) Q E s := by
  refine wpAny_richCompare_same_room (op := .Eq) da.typeIs db.typeIs PySem.F.slot_dict_eq (wpAny_call_entry PySem.F.slot_dict_eq da.typeIs PySem.F.entry_dict_eq (wpAny_bind (slot_args da (wpAny_bind (wpAny_isInstance (T := "dict") db.typeIs PySem.F.sub_dict_dict ?_)))) (PySem.F.args_dict_eq_2 _ _)) hu1
  rw [if_neg (by decide)]
  exact wpAny_bind (wpAny_pure (wpAny_bind (wpAny_pure (wpAny_bind (samePairsT hu ha hb da db hl hits (wpAny_pure ⟨_, rfl, nofun, h⟩))))))
theorem kneT {a b : Addr} {xa xb : List (K × Addr × Value)} {Q : Value → Shared → Prop} (hu1 : A.units < cLine) (hu : knd.room A.in1) (ha : (a == sysModules) = false) (hb : (b == sysModules) = false)
    (da : s.heap.DictOfH knd a xa) (db : s.heap.DictOfH knd b xb) (hl : xa.length = xb.length) (hits : ∀ k p v, (k, p, v) ∈ xa → ∃ q y, (k, q, y) ∈ xb ∧ SeqAt.EqAt A.in1 s v y true) (h : Q (.bool false) s) :
    wpAny (model prog w) A (compareOp .NotEq (.ref a) (.ref b)) Q E s := by
  refine wpAny_richCompare_same_room (op := .NotEq) da.typeIs db.typeIs PySem.F.slot_dict_ne (wpAny_call_entry PySem.F.slot_dict_ne da.typeIs PySem.F.entry_dict_ne (wpAny_bind (slot_args da (wpAny_bind (wpAny_isInstance (T := "dict") db.typeIs PySem.F.sub_dict_dict ?_)))) (PySem.F.args_dict_ne_2 _ _)) hu1
  rw [if_neg (by decide)]
  exact wpAny_bind (wpAny_pure (wpAny_bind (wpAny_pure (wpAny_bind (samePairsT hu ha hb da db hl hits (wpAny_pure ⟨_, rfl, nofun, h⟩))))))
end
theorem kt_mem {H : Hp} {kvs : List (List Key × V)} {xs : List (List Key × Addr × Value)} (r : KT H kvs xs) {k : List Key} {v : V} (h : (k, v) ∈ kvs) : ∃ q y, (k, q, y) ∈ xs ∧ RelV v y := by
  unfold KT at r
  induction r with
  | nil => cases h
  | @cons p q ps qs e t ih =>
    rcases List.mem_cons.mp h with e1 | e1
    · subst e1
      obtain ⟨a1, a2, a3⟩ := e
      refine ⟨q.2.1, q.2.2, ?_, a3⟩
      have a1 : k = q.1 := a1
      have : q = (k, q.2.1, q.2.2) := by rw [a1]
      rw [← this]
      exact List.mem_cons_self
    · obtain ⟨a, y, e2, e3⟩ := ih e1
      exact ⟨a, y, List.mem_cons_of_mem _ e2, e3⟩
theorem kt_back {H : Hp} {kvs : List (List Key × V)} {xs : List (List Key × Addr × Value)} (r : KT H kvs xs) {k : List Key} {q : Addr} {y : Value} (h : (k, q, y) ∈ xs) : ∃ v, (k, v) ∈ kvs ∧ RelV v y := by
  unfold KT at r
  induction r with
  | nil => cases h
  | @cons p q' ps qs e t ih =>
    obtain ⟨a1, a2, a3⟩ := e
    rcases List.mem_cons.mp h with e1 | e1
    · refine ⟨p.2, ?_, ?_⟩
      · have : p = (k, p.2) := by rw [show k = q'.1 by rw [← e1], ← a1]
        rw [← this]
        exact List.mem_cons_self
      · rw [show y = q'.2.2 by rw [← e1]]
        exact a3
    · obtain ⟨v, e2, e3⟩ := ih e1
      exact ⟨v, List.mem_cons_of_mem _ e2, e3⟩
theorem eqAt_str {A : Around} {s : Shared} {x : PySem.Str} {v y : Value} (h1 : RelV (.str x) v) (h2 : RelV (.str x) y) : SeqAt.EqAt A s v y true := by
  obtain ⟨t, rfl⟩ := h1
  obtain ⟨u, rfl⟩ := h2
  have z := SeqAt.EqAt.str_str (A := A) (s := s) x t x u
  rw [beq_self_eq_true] at z
  exact z
section
variable {X : Cx}
/-- two dicts that hold the same texts at the same tuple keys -/
def rEqT (r : Bool) : R2 := fun x y H Q => ∃ a b ks ls, x = .ref a ∧ y = .ref b ∧ H a = some (.dT ks) ∧ H b = some (.dT ls) ∧ ks.length = ls.length ∧ (∀ k v, (k, v) ∈ ks → (k, v) ∈ ls ∧ ∃ z, v = V.str z) ∧ Q (.bl r) H
theorem hitsT {H : Hp} {ks ls : List (List Key × V)} {xa xb : List (List Key × Addr × Value)} (ra : KT H ks xa) (rb : KT H ls xb) (h : ∀ k v, (k, v) ∈ ks → (k, v) ∈ ls ∧ ∃ z, v = V.str z) {A : Around} {s : Shared} : ∀ k p v, (k, p, v) ∈ xa → ∃ q y, (k, q, y) ∈ xb ∧ SeqAt.EqAt A s v y true := by
  intro k p v hm
  obtain ⟨v1, e1, e2⟩ := kt_back ra hm
  obtain ⟨e3, z, rfl⟩ := h k v1 e1
  obtain ⟨q, y, e4, e5⟩ := kt_mem rb e3
  exact ⟨q, y, e4, eqAt_str e2 e5⟩
theorem op_eqT (hu : X.A.units + 1 < cLine) : OpR X (compareOp .Eq) (rEqT true) := by
  intro pins s σ H x y v u Q I rx ry h
  obtain ⟨a, b, ks, ls, rfl, rfl, ea, eb, hlen, hp, q⟩ := h
  obtain rfl : v = Value.ref a := rx
  obtain rfl : u = Value.ref b := ry
  obtain ⟨_, ya, va, ra, da⟩ := dt_of I.hok ea
  obtain ⟨_, yb, vb, rb, db⟩ := dt_of I.hok eb
  have hl : va.length = vb.length := by rw [← Paired.length ra, ← Paired.length rb]; exact hlen
  exact keqT (by omega) (tupleKind_room_in1 hu) ya yb da db hl (hitsT ra rb hp) ⟨.bl true, H, I, rfl, q⟩
theorem op_neT (hu : X.A.units + 1 < cLine) : OpR X (compareOp .NotEq) (rEqT false) := by
  intro pins s σ H x y v u Q I rx ry h
  obtain ⟨a, b, ks, ls, rfl, rfl, ea, eb, hlen, hp, q⟩ := h
  obtain rfl : v = Value.ref a := rx
  obtain rfl : u = Value.ref b := ry
  obtain ⟨_, ya, va, ra, da⟩ := dt_of I.hok ea
  obtain ⟨_, yb, vb, rb, db⟩ := dt_of I.hok eb
  have hl : va.length = vb.length := by rw [← Paired.length ra, ← Paired.length rb]; exact hlen
  exact kneT (by omega) (tupleKind_room_in1 hu) ya yb da db hl (hitsT ra rb hp) ⟨.bl false, H, I, rfl, q⟩
end
end K7
/-! text K7R6 -/
set_option maxHeartbeats 4000000
/-! own rules: dict(list of pairs with tuple keys) -/
namespace K7
open PySem PySem.Spec PySem.Calls PyProof.Rows L2
section
variable {X : Cx}
theorem prs_of {pins : List (Addr × Obj)} {σ : L2.St} {H : Hp} {s : Shared} (I : Inv X pins σ H s) : ∀ {ps : List Addr} {kvs : List (List Key × V)}, Paired (fun (p : Addr) (kv : List Key × V) => ∃ b, H b = some (.tup (kv.1.map kV)) ∧ H p = some (.tup [.ref b, kv.2])) ps kvs →
    ∃ prs : List (List Key × Addr × Value), KT H kvs prs ∧ prs.length = ps.length ∧ ∀ (j : Nat) (q : List Key × Addr × Value), prs[j]? = some q → ∃ (p : Addr), ps[j]? = some p ∧ PairAt s.heap p (.ref q.2.1) q.2.2
  | _, _, .nil => ⟨[], .nil, rfl, fun j q e => by simp at e⟩
  | _, _, .cons (a := p) (b := kv) h t => by
    obtain ⟨prs, r, hl, hp⟩ := prs_of I t
    obtain ⟨b, hb, hpp⟩ := h
    obtain ⟨its, rv, ht, _⟩ := I.tuple (SqT.of hpp)
    obtain ⟨u, y, ei, ru, ry⟩ := vals2 rv
    subst ei
    obtain rfl : u = Value.ref b := ru
    refine ⟨(kv.1, b, y) :: prs, .cons ⟨rfl, hb, ry⟩ r, by rw [List.length_cons, List.length_cons, hl], fun j q e => ?_⟩
    cases j with
    | zero =>
      have e' : (kv.1, b, y) = q := Option.some.inj e
      subst e'
      exact ⟨p, rfl, .inl ht⟩
    | succ j =>
      obtain ⟨p', e1, e2⟩ := hp j q (by simpa using e)
      exact ⟨p', by simpa using e1, e2⟩
theorem kt_keys {H : Hp} {kvs : List (List Key × V)} {xs : List (List Key × Addr × Value)} (r : KT H kvs xs) : xs.map (·.1) = kvs.map (·.1) := by
  unfold KT at r
  induction r with
  | nil => rfl
  | @cons p q ps qs e t ih => rw [List.map_cons, List.map_cons, ih, e.1]
theorem kt_tup {H : Hp} {kvs : List (List Key × V)} {xs : List (List Key × Addr × Value)} (r : KT H kvs xs) : ∀ x ∈ xs, H x.2.1 = some (.tup (x.1.map kV)) := by
  unfold KT at r
  induction r with
  | nil => intro x hx; cases hx
  | @cons p q ps qs e t ih =>
    intro x hx
    rcases List.mem_cons.mp hx with e1 | e1
    · subst e1
      rw [← e.1]
      exact e.2.1
    · exact ih x e1
theorem call_dictPT (hc : X.calm = true) (hu : X.A.units + 2 < cLine) : CallR X (.type "dict") (fun xs H Q => ∃ (a : Addr) (ps : List Addr) (kvs : List (List Key × V)), xs = [.ref a] ∧ SqL X.K H a (ps.map V.ref) ∧
    Paired (fun (p : Addr) (kv : List Key × V) => ∃ b, H b = some (.tup (kv.1.map kV)) ∧ H p = some (.tup [.ref b, kv.2])) ps kvs ∧ (kvs.map (·.1)).Nodup ∧ ∀ p, H p = none → Q (.ref p) (upd H p (.dT kvs))) := by
  intro pins s σ H xs us Q I r q
  obtain ⟨a, ps, kvs, ex, hq, hp, hnd, q⟩ := q
  subst ex
  obtain ⟨u, eu, rx⟩ := vals1 r
  subst eu
  cases rx
  obtain ⟨its, rv, pl, hz⟩ := I.list hq
  have ei := refs_at rv
  subst ei
  rw [List.length_map] at hz
  obtain ⟨prs, rel, hl, hpr⟩ := prs_of I hp
  obtain ⟨o, n, ho, hcl, hd, hdat⟩ := pl
  have hnp : (prs.map (·.1)).Nodup := by rw [kt_keys rel]; exact hnd
  have vl : (prs.map fun x => (Value.ref x.2.1, x.2.2)).length = prs.length := by rw [List.length_map]
  refine call_dict_pairsH (knd := tupleKind (mixKind X.prog X.w)) (ps := prs) (PairArg.list a (ps.map Value.ref).toArray (fun j => ps.getD j 0) (prs.map fun x => (Value.ref x.2.1, x.2.2))) (I.ok.hd hc) (show X.A.units + 2 < cLine from hu)
    ⟨⟨o, n, ho, hcl, hd, hdat⟩, ?_, ?_⟩ ⟨vl.symm, ?_⟩ ?_ (by rw [vl, hl]; exact hz) fun h' tk hd' k => ?_
  · rw [vl, hl]; simp
  · intro j k v hj
    rw [List.getElem?_map] at hj
    cases e : prs[j]? with
    | none => rw [e] at hj; cases hj
    | some x =>
      rw [e] at hj
      cases hj
      obtain ⟨p, e1, e2⟩ := hpr j x e
      refine ⟨by simp [e1], ?_⟩
      show PairAt s.heap (ps.getD j 0) _ _
      rw [List.getD_eq_getElem?_getD, e1]
      exact e2
  · intro i key v hj
    have hj : (prs.map fun x => (Value.ref x.2.1, x.2.2))[i]? = some (key, v) := hj
    rw [List.getElem?_map] at hj
    cases e : prs[i]? with
    | none => rw [e] at hj; cases hj
    | some x =>
      rw [e] at hj
      cases hj
      exact ⟨x.1, x.2.1, rfl, rfl⟩
  · intro h' hk x hx
    obtain ⟨o2, its2, n2, g1, g2, g3, g4⟩ := key_of (P := X.prog) (w := X.w) I.hok (kt_tup rel x hx)
    exact ⟨o2, its2, n2, hk _ _ (Nat.ne_of_lt (Heap.lt_size g1)) (fun z => nomatch z) g1, g2, g3, g4⟩
  · have hm : (s.heap.objs.size == sysModules) = false := beq_eq_false_iff_ne.mpr (Nat.ne_of_gt I.big)
    rw [storedAllH_nil_of_nodup _ hnp] at hd'
    have kl := Paired.length rel
    obtain ⟨q1, es, ep, hq1, h2, h3, h4, _, h5⟩ := hd'
    refine ⟨.ref s.heap.objs.size, upd H s.heap.objs.size (.dT kvs), I.laid (t' := tk) (fun b u e => k b u (fun z => nomatch z) e) (Nat.le_refl _) ?_, rfl, q _ (I.hok.fresh (Nat.le_refl _))⟩
    refine ⟨by rw [kl, hl]; exact hz, hm, prs, rel.keeps fun c ys ec => ?_, q1, es, ep, hq1, h2, h3, h4, h5⟩
    rw [upd_ne (ne_of_none ec (I.hok.fresh (Nat.le_refl _)))]
    exact ec
end
end K7
/-! text K7R7 -/
set_option maxHeartbeats 4000000
/-! own rules: dict comprehensions with tuple keys -/
namespace K7
open PySem PySem.Spec PySem.Calls PyProof.Rows L2
theorem d_dictSetT {X : Cx} {pins : List (Addr × Obj)} {σ : L2.St} {H : Hp} {s : Shared} {E : Value → Shared → Prop} {D b : Addr} {kvs : List (List Key × V)} {k : List Key} {v : V} {r : Value} {Q : Unit → Shared → Prop} (hu : X.A.units < cLine) (I : Inv X pins σ H s) (hD : H D = some (.dT kvs)) (hz : kvs.length < sizeLine)
    (eb : H b = some (.tup (k.map kV))) (rv : RelV v r) (h : ∀ s', Inv X pins σ (upd H D (.dT (putK kvs k v))) s' → Q () s') : wpAny (model X.prog X.w) X.A (dictSet D (.ref b) r) Q E s := by
  obtain ⟨z, hd, xs, rel, dd⟩ := dt_of I.hok hD
  have hzv : xs.length ≤ sizeLine := by rw [← Paired.length rel]; exact z
  have hl : (putK kvs k v).length ≤ sizeLine := by have := length_putK kvs k v; omega
  refine wpAny_dictSet_heap (knd := tupleKind (mixKind X.prog X.w)) (hsz := hzv) hu (key_of I.hok eb) dd fun h' dd' hs => h _ ?_
  obtain ⟨q, es, ep, hq, h2, h3, h4, _, h5⟩ := dd'
  refine d_write I (by rw [hD]; exact True.intro) hs ⟨q, hq⟩ ⟨hl, hd, _, (rel.put k eb rv).keeps fun c ys ec => ?_, q, es, ep, hq, h2, h3, h4, h5⟩
  rw [upd_ne (ne_of ec hD (fun z => nomatch z))]
  exact ec
section
variable {X : Cx}
/-- {k: v for target in iter}, keys tuples: D the new dict -/
def tDcT (wi : TI) (g : TG) (tk tv : TE) (vs : List Nat) : TE := fun σ H Q => wi σ H fun J H1 => ∀ D, H1 D = none → ∃ W : Nat → Nat → Hp → Prop, (∃ m, W 0 m (upd H1 D (.dT []))) ∧ ∀ i m H, W i m H →
  (J.stop i H ∧ Q (.ref D) H) ∨ (J.go i H ∧ ∃ Nx : Hp → Prop, (∀ H', Nx H' → ∃ m', m' < m ∧ W (i + 1) m' H') ∧ ∀ x H', J.yld i H x H' → g x (wipe σ vs) H' fun σ2 H2 => wipe σ2 vs = wipe σ vs ∧
    tk σ2 H2 fun y H4 => tv σ2 H4 fun z H5 => ∃ kvs k b, y = .ref b ∧ H5 b = some (.tup (k.map kV)) ∧ H5 D = some (.dT kvs) ∧ kvs.length < sizeLine ∧ Nx (upd H5 D (.dT (putK kvs k z))))
theorem compTurnD (kx vx tg iter : Expr) (scope : Scope) (pos : Pos) (it : Value) (D : Addr) (env : Env) :
    compTurn (.DictComp kx vx [⟨tg, iter, [], 0⟩] scope pos) 0 it (.ref D) env = (standAt iter.pos >>= fun _ => pyNext it >>= fun r => match r with
      | none => pure (.done .next)
      | some v => letOwnedTupleGo tg it v >>= fun _ => assign tg env v >>= fun _ => (eval kx env >>= fun kv => holding [kv] (eval vx env) >>= fun vv =>
          standAt { kx.pos with endLine := vx.pos.endLine, endCol := vx.pos.endCol } >>= fun _ => holding [kv, vv] (dictSet D kv vv)) >>= fun _ => again (.compLoop (.DictComp kx vx [⟨tg, iter, [], 0⟩] scope pos) 0 it (.ref D) env)) := by rfl
theorem dcT_core {pins : List (Addr × Obj)} {s : Shared} {σ : L2.St} {H : Hp} {Q : VK} {kx vx tg iter : Expr} {scope : Scope} {own : List (PySem.Str × Nat)} {pos pos' : Pos} {wi : TI} {g : TG} {tk tv : TE} {use : Option (Value → Sem Unit)} {Qf : Value → Shared → Prop}
    (hu : X.A.units < cLine) (hc : X.calm = true) (hN : X.N.Nodup) (I : Inv X pins σ H s) (hi : PI X tg iter wi) (ok : BlkOk X.N X.env.scope scope own)
    (hg : ∀ s H C cl fp, PG (X.blk s H scope (compEnvC scope cl C X.env) fp) tg g) (hk : ∀ s H C cl fp, PE (X.blk s H scope (compEnvC scope cl C X.env) fp) kx tk)
    (he : ∀ s H C cl fp, PE (X.blk s H scope (compEnvC scope cl C X.env) fp) vx tv) (hs : ∀ x, foldedSetIterable iter X.env x = pure x)
    (h : tDcT wi g tk tv (own.map (·.2)) σ H Q)
    (hRR : ∀ D C s' m H', Inv X pins σ H' s' → Q (.ref D) H' → s'.heap.Ns C m → FpOk X pins H' C → compPost (model X.prog X.w) X.A X.xe use Qf (.ref D) C (.ok .next) s') :
    wpAny (model X.prog X.w) X.A (comprehension (.DictComp kx vx [⟨tg, iter, [], 0⟩] scope pos) scope X.env pos' newDict false (eval iter X.env) use) Qf X.xe s := by
  refine block_ok (Q := Q) (v0 := .dT []) (cn := "dict") (dt := .dict #[]) rfl hN I hi ok hs (by size_fits) (fun s2 H2 I2 => dt_empty s2.heap I2.big) h hRR ?_
  intro D it C fp tn J H2 s3 s4 cl rd hD T I4 t4 n4 st back
  obtain ⟨W, ⟨m0, w0⟩, turn⟩ := rd D hD
  have loop := clause_ok (Y := X.blk s3 (upd H2 D (.dT [])) scope (compEnvC scope cl C X.env) fp) comp_dict rfl hc T (hg _ _ _ _ _) st turn
    (compTurnD kx vx tg iter scope pos (.ref it) D _) back (fun n Nx ps s5 τ H5 I5 q next => ?_) ⟨0, _, I4, t4, n4, w0⟩
  · exact start_any comp_dict rfl loop (T.self X.A 0 _ _ _ t4 loop)
  refine wpAny_bind (wpAny_bind (thnF ((hk _ _ _ _ _).run _ s5 τ H5 _ I5 q.2) ?_))
  rintro kv s6 ⟨y, H6, I6, ry, q6⟩
  refine wpAny_bind (wpAny_holding (thnF ((he _ _ _ _ _).run _ s6 τ H6 _ I6 q6) ?_))
  rintro vv s7 ⟨z, H7, I7, rz, kvs, k, b, rfl, eb, hl, hz, nx⟩
  obtain rfl : kv = Value.ref b := ry
  refine wpAny_bind (wpAny_standAt (wpAny_holding (d_dictSetT hu I7 hl hz eb rz fun s8 I8 => ?_)))
  exact wpAny_pure ⟨rfl, next _ _ _ I8 (knows_self q.1) nx⟩
theorem pe_dcT {kx vx tg iter : Expr} {scope : Scope} {own : List (PySem.Str × Nat)} {pos : Pos} {wi : TI} {g : TG} {tk tv : TE} (hu : X.A.units < cLine) (hc : X.calm = true) (hN : X.N.Nodup) (hi : PI X tg iter wi) (ok : BlkOk X.N X.env.scope scope own)
    (hg : ∀ (s : Shared) (H : Hp) (C : Addr) (cl : List (PySem.Str × Addr)) (fp : List Addr), PG (X.blk s H scope (compEnvC scope cl C X.env) fp) tg g)
    (hk : ∀ (s : Shared) (H : Hp) (C : Addr) (cl : List (PySem.Str × Addr)) (fp : List Addr), PE (X.blk s H scope (compEnvC scope cl C X.env) fp) kx tk)
    (he : ∀ (s : Shared) (H : Hp) (C : Addr) (cl : List (PySem.Str × Addr)) (fp : List Addr), PE (X.blk s H scope (compEnvC scope cl C X.env) fp) vx tv) (hs : ∀ x, foldedSetIterable iter X.env x = pure x := by intro _; rfl) :
    PE X (.DictComp kx vx [⟨tg, iter, [], 0⟩] scope pos) (tDcT wi g tk tv (own.map (·.2))) := by
  refine ⟨fun pins s σ H Q I h => ?_⟩
  rw [arm_eval_DictComp]
  refine dcT_core hu hc hN I hi ok hg hk he hs h fun D C s' m H' I' q hn f => ⟨m, hn, fun h'' sb => ?_⟩
  obtain ⟨f0, f1, f2, f3, f4, f5⟩ := f
  exact ⟨.ref D, H', I'.turned (t' := s'.toks) (fun b o hb e => (sb.2 b hb).trans e) f0 f1 f3 f4 f5, rfl, q⟩
end
end K7
/-! text K7X -/
set_option maxHeartbeats 4000000
namespace K7
open PySem PySem.Spec PySem.Calls PyProof.Rows L2
section
variable {P : Program} {w : World} {K : PySem.W.Frag} {mg : PySem.Str → Option Value} {base : Heap}
theorem pa_starK {X : Cx} {K : PySem.W.Frag} {e : Expr} {es : List Expr} {te : TE} {t : TA} {p : Pos} (he : PE X e te) (hr : PA X es t) (hK : X.K = K := by rfl) (hs : starEach (.Starred e p :: es) X.env = (true, eval e X.env) :: starEach es X.env := by rfl) : PA X (.Starred e p :: es) (StX.tStar K te t) := by
  subst hK
  exact StX.pa_star he hr hs
abbrev crSc : Scope := { kind := ScopeKind.function, names := [(PySem.Str.ofString ".0", NameKind.local), (PySem.Str.ofString "pair", NameKind.cell), (PySem.Str.ofString "text_of", NameKind.globalImplicit), (PySem.Str.ofString "range", NameKind.globalImplicit), (PySem.Str.ofString "dance", NameKind.cell)], isGenerator := false, isCoroutine := false }
theorem tYes_of {σ2 : L2.St} {H2 : Hp} {A B : Hp → Prop} (h : A H2) : tYes σ2 H2 fun b H3 => if b = true then A H3 else B H3 := by
  rw [tYes_eq]
  exact h
/-- the truths that a rule tells, by the meetings' numbers -/
def trRule (n m : Nat) (t : Rt) (k : Nat) : Bool := t.val fun rd => rd.num n m (dec n m k)
def spCross (K : PySem.W.Frag) : Sp := fun vs H Q _ => ∃ (p : Addr) (n m R : Nat) (t : Rt), vs = [.ref p] ∧ DanceAt K H p n m R t ∧ 0 < n ∧ 0 < m ∧ n ≤ 8 ∧ m ≤ 8 ∧ R ≤ 6 ∧ t.height < 8 ∧
  ∀ D H', Same H H' → H' D = some (.dT (canon n m R (trRule n m t))) → Q (.ref D) H'
theorem sc_crossings : FnScope ["dance", "pairs", "i", "j", "pair", "r"] ["dance"] (defScope s_crossings) := ⟨rfl, rfl, rfl, by decide +kernel, rfl, by decide +kernel, by decide +kernel⟩
def pairTup (m c : Nat) : List V := [.int ((c / m : Nat) : Int), .int ((c % m : Nat) : Int)]
theorem pairs_nl (m : Nat) : ∀ i (a : Addr) H H', Nl H H' → (fun (i : Nat) (p : Addr) (H : Hp) => H p = some (.tup (pairTup m i))) i a H → (fun (i : Nat) (p : Addr) (H : Hp) => H p = some (.tup (pairTup m i))) i a H' := fun i a H H' s h => s.tup h
theorem canon_put {n m R : Nat} {tr : Nat → Bool} {c : Nat} (hm : 0 < m) (v : V) : putK ((List.range c).map fun c => (cellKey m c, V.str (bt (cellBits n m R tr c)))) (cellKey m c) v = ((List.range c).map fun c => (cellKey m c, V.str (bt (cellBits n m R tr c)))) ++ [(cellKey m c, v)] := by
  unfold putK
  rw [if_neg]
  rw [List.any_map, Bool.not_eq_true, List.any_eq_false]
  intro d hd
  have hd := List.mem_range.mp hd
  show ¬ decide (cellKey m d = cellKey m c) = true
  rw [decide_eq_true_iff]
  intro e
  have := cellKey_inj hm e
  omega
theorem key_tup (m c : Nat) : (cellKey m c).map kV = pairTup m c := rfl
theorem ok_crossings (T : Txt K mg) : OkF P w K mg base 13 (He.ga K "crossings") ["dance"] (spCross K) := by
  obtain ⟨fd, F⟩ := T.fn 19 (st := s_crossings)
  have R1 := (ok_Dance_suns (P := P) (w := w) (base := base) T).raw
  have R2 := (ok_Dance_moons (P := P) (w := w) (base := base) T).raw
  have R3 := (ok_Dance_rounds (P := P) (w := w) (base := base) T).raw
  have R4 := (ok_Dance_above (P := P) (w := w) (base := base) T).raw
  obtain ⟨f5, G5, b5, k5⟩ := ok_text_of (P := P) (w := w) (base := base) T
  obtain ⟨a1, a2, a3, a4⟩ := T.p_suns
  obtain ⟨m1, m2, m3, m4⟩ := T.p_moons
  obtain ⟨r1, r2, r3, r4⟩ := T.p_rounds
  refine ⟨fd, F.ok sc_crossings (fun vs H Q E h => ?_) (fun cdv A outer s H vs Q E hr h => ?_), F.binds (fun _ _ _ _ _ _ us hl => match us, hl with | [_], _ => rfl), F.kp⟩
  · obtain ⟨_, _, _, _, _, rfl, _⟩ := h
    rfl
  · obtain ⟨p, n, m, R, t, rfl, hD, hn, hm, ln, lm, lR, lh, k⟩ := h
    have nd := sc_crossings.nd
    have hr1 := hr.mono (show 2 ≤ 12 by decide)
    refine ⟨_, pss_cons (ps_setLc2 (i := 1) (own := [("i", 2), ("j", 3)]) (vs1 := [3]) (by rfl) nd rfl rfl (sw_true rfl rfl rfl (by decide +kernel)) (pi_range1 (by rfl) T.m_range (pa_cons (SlX.pe_propSl (E := E0) (pv 0) T.s_Dance a1 a2 a3 a4 R1 hr1 (fun _ _ _ _ z => z)) pa_nil))
        (blkOk_by (N := ["dance", "pairs", "i", "j", "pair", "r"]) (sc := defScope s_crossings) (by decide +kernel)) (by decide)
        (fun _ _ _ _ _ => pg_name (i := 2) nd rfl (Or.inl rfl)) (fun _ _ _ _ _ => pts_nil) (fun _ _ _ _ _ => pi_range1 (by rfl) T.m_range (pa_cons (SlX.pe_propSl (E := E0) (pv 0) T.s_Dance m1 m2 m3 m4 R2 hr1 (fun _ _ _ _ z => z)) pa_nil))
        (fun _ _ _ _ _ => pg_name (i := 3) nd rfl (Or.inl rfl)) (fun _ _ _ _ _ => pts_nil) (fun _ _ _ _ _ => pe_tup (pa_cons (pv 2) (pa_cons (pv 3) pa_nil))))
      (pss_one (ps_ret (pe_dcT (own := [("pair", 4)]) hr.units0 (by rfl) nd (pi_list (pv 1)) (blkOk_by (N := ["dance", "pairs", "i", "j", "pair", "r"]) (sc := defScope s_crossings) (by decide +kernel))
        (fun _ _ _ _ _ => pg_name (i := 4) nd rfl (Or.inr rfl)) (fun _ _ _ _ _ => pv 4)
        (fun _ _ _ _ _ => pe_call G5 (hr.mono (by decide)) (by rfl) T.g_text_of k5 b5 .nil pass0 (pa_cons (pe_lc (own := [("r", 5)]) (g := gName 5) (tt := tYes) (by rfl) nd (pi_range1 (by rfl) T.m_range (pa_cons (SlX.pe_propSl (E := E0) (pv 0) T.s_Dance r1 r2 r3 r4 R3 hr1 (fun _ _ _ _ z => z)) pa_nil))
            (blkOk_by (N := ["dance", "pairs", "i", "j", "pair", "r"]) (sc := crSc) (by decide +kernel)) (fun _ _ _ _ _ => pg_name (i := 5) nd rfl (Or.inl rfl)) (fun _ _ _ _ _ => pts_nil)
            (fun _ _ _ _ _ => SlX.pe_methSl (E := E0) (pv 0) T.s_Dance T.me_above.1 R4 hr pass0 (pa_cons (pe_tup (pa_cons (pv 5) (pa_starK (K := K) (pv 4) pa_nil))) pa_nil))) pa_nil))))), ?_⟩
    obtain ⟨dx, vs, ru, hs, h3, h0, h1, h2, hru⟩ := id hD
    refine ⟨_, rfl, p, dx, vs, rfl, hs, p, n, m, R, t, rfl, hD, (n : Nat), rfl, by omega, by omega, fun L hL => ?_⟩
    have sz : sizeLine = 16777216 := sizeLine_eq
    refine wk_it (walk_range (lo := 0) (n := n)) (fun i H' => Same H H' ∧ RefsAt (fun (i : Nat) (p : Addr) (H : Hp) => H p = some (.tup (pairTup m i))) H' L (i * m)) ⟨same_upd (Same.refl _) hL, [], upd_same, by simp, fun i p e => by simp at e⟩ (fun _ _ _ _ => trivial) (fun i x H1 H2 hi q y => ?_) (fun H1 q => ?_)
    · obtain ⟨rfl, rfl⟩ := y
      have hD1 := hD.nl (Nl.of q.1)
      refine ⟨rfl, tYes_of ?_⟩
      refine ⟨_, rfl, p, dx, vs, rfl, (Nl.of q.1).slt hs, p, n, m, R, t, rfl, hD1, (m : Nat), rfl, by omega, by omega, ?_⟩
      refine wk_it (walk_range (lo := 0) (n := m)) (fun j H' => Same H H' ∧ RefsAt (fun (i : Nat) (p : Addr) (H : Hp) => H p = some (.tup (pairTup m i))) H' L (i * m + j)) q (fun _ _ _ _ => trivial) (fun j x H3 H4 hj q3 y => ?_) (fun H3 q3 => ⟨q3.1, by rw [Nat.add_mul, Nat.one_mul]; exact q3.2⟩)
      obtain ⟨rfl, rfl⟩ := y
      refine ⟨rfl, tYes_of ?_⟩
      refine ⟨_, rfl, _, rfl, (by show 2 ≤ sizeLine; decide), fun t2 ht2 => ?_⟩
      obtain ⟨s3, q3⟩ := q3
      obtain ⟨as, hL1, hl, ha⟩ := id q3
      have s4 : Same H4 (upd H4 t2 (.tup [.int (0 + (i : Nat)), .int (0 + (j : Nat))])) := same_upd (Same.refl _) ht2
      have hk : i * m + j < 64 := by
        have := Nat.mul_le_mul (show i + 1 ≤ 8 by omega) lm
        rw [Nat.add_mul, Nat.one_mul] at this
        omega
      refine ⟨_, s4 _ _ hL1, by rw [List.length_map, hl]; omega, same_upd (s3.trans s4) hL, (q3.same (pairs_nl m) s4).snoc (pairs_nl m) (s4 _ _ hL1) ?_⟩
      show (upd H4 t2 _) t2 = some (.tup (pairTup m (i * m + j)))
      rw [upd_same]
      unfold pairTup
      rw [show (i * m + j) / m = i by rw [Nat.mul_comm, Nat.mul_add_div hm, Nat.div_eq_of_lt hj, Nat.add_zero], show (i * m + j) % m = j by rw [Nat.mul_comm, Nat.mul_add_mod, Nat.mod_eq_of_lt hj]]
      show some (HO.tup [V.int (0 + (i : Nat)), V.int (0 + (j : Nat))]) = some (HO.tup [V.int (i : Nat), V.int (j : Nat)])
      rw [Int.zero_add, Int.zero_add]
    · obtain ⟨s1, q1⟩ := q
      obtain ⟨as, hL1, hl, ha⟩ := id q1
      refine ⟨_, rfl, L, rfl, ⟨_, SqL.of hL1⟩, fun D hDn => ?_⟩
      have hnm : n * m ≤ 64 := Nat.le_trans (Nat.mul_le_mul ln lm) (by decide)
      refine wk_it (walk_list (K := K) (a := L) (xs := as.map V.ref)) (fun c H' => Same H1 H' ∧ H' D = some (.dT ((List.range c).map fun c => (cellKey m c, V.str (bt (cellBits n m R (trRule n m t) c)))))) ⟨same_upd (Same.refl _) hDn, upd_same⟩ (fun c H' _ q => SqL.of (q.1 _ _ hL1)) (fun c x H2 H3 hc q y => ?_) (fun H2 q => ?_)
      · obtain ⟨rfl, hx⟩ := y
        obtain ⟨s2, hD2⟩ := q
        rw [List.length_map, hl] at hc
        rw [List.getElem?_map, List.getElem?_eq_getElem (by omega : c < as.length)] at hx
        cases hx
        have htup := s2 _ _ (ha c as[c] (List.getElem?_eq_getElem (by omega)))
        have s12 := s1.trans s2
        have hDn2 := hD.nl (Nl.of s12)
        refine ⟨rfl, _, rfl, _, rfl, p, dx, vs, rfl, (Nl.of s12).slt hs, p, n, m, R, t, rfl, hDn2, (R : Nat), rfl, by omega, by omega, fun L2 hL2 => ?_⟩
        refine lc_flat (walk_range (lo := 0) (n := R)) (fun r => .bl (t.val fun rd => rd.num n m (r, c / m, c % m))) hL2 (by omega) (fun _ _ => trivial) (fun r x H4 H5 Kt hr' s4 y q => ?_) (fun i H1 x H2 y => by rw [y.1]; exact Same.refl _) (fun H4 s4 eD => ?_)
        · obtain ⟨rfl, rfl⟩ := y
          have s14 := s12.trans s4
          refine ⟨rfl, _, rfl, p, dx, vs, rfl, (Nl.of s14).slt hs, ?_⟩
          refine ⟨_, rfl, _, rfl, _, _, rfl, .inl (SqT.of (s4 _ _ htup)), (by show 3 ≤ sizeLine; decide), fun t3 ht3 => ?_⟩
          have s5 : Same H5 (upd H5 t3 (.tup (.int (0 + (r : Nat)) :: (pairTup m c ++ [])))) := same_upd (Same.refl _) ht3
          refine ⟨p, t3, n, m, R, t, (r, c / m, c % m), rfl, hD.nl (Nl.of (s14.trans s5)), ?_, hr', ?_, Nat.mod_lt _ hm, by omega, lh, fun H6 s6 => q _ (s5.trans s6)⟩
          · rw [upd_same]
            show some (HO.tup [V.int (0 + (r : Nat)), .int ((c / m : Nat) : Int), .int ((c % m : Nat) : Int)]) = some (.tup [.int r, .int ((c / m : Nat) : Int), .int ((c % m : Nat) : Int)])
            rw [Int.zero_add]
          · show c / m < n
            rw [Nat.div_lt_iff_lt_mul hm]
            exact hc
        · have eb : (List.range R).map (fun r => V.bl (t.val fun rd => rd.num n m (r, c / m, c % m))) = (cellBits n m R (trRule n m t) c).map V.bl := by
            unfold cellBits
            rw [List.map_map]
            refine List.map_congr_left fun r hr' => ?_
            show _ = V.bl (trRule n m t (c + r * (n * m)))
            unfold trRule
            have hin : c / m < n := by rw [Nat.div_lt_iff_lt_mul hm]; exact hc
            have e1 : c + r * (n * m) = (r * n + c / m) * m + c % m := by
              rw [enc_at]
              have := Nat.div_add_mod c m
              rw [Nat.mul_comm] at this
              omega
            rw [e1, dec_enc hin (Nat.mod_lt _ hm)]
          rw [eb] at eD
          refine ⟨K, L2, _, rfl, eD, by rw [cell_len]; omega, fun H5 s5 => ?_⟩
          have s25 := s4.trans s5
          refine ⟨_, cellKey m c, as[c], rfl, s25 _ _ htup, s25 _ _ hD2, by rw [List.length_map, List.length_range]; omega, same_upd (s2.trans s25) hDn, ?_⟩
          rw [upd_same, canon_put hm, List.range_succ, List.map_append]
          rfl
      · obtain ⟨s2, hD2⟩ := q
        rw [List.length_map, hl] at hD2
        exact k D H2 (s1.trans s2) hD2
end
end K7
/-! text K7LA -/
set_option maxHeartbeats 4000000
namespace K7
open PySem PySem.Spec PySem.Calls PyProof.Rows L2
section
variable {P : Program} {w : World} {K : PySem.W.Frag} {mg : PySem.Str → Option Value} {base : Heap}
/-! the law's own helpers: draws -/
def BagAt (H : Hp) (b c : Addr) : Prop := ∃ (g h k : Int) (cells : List Int), H b = some (.lst [.int g, .int h, .int k, .ref c]) ∧ H c = some (.lst (cells.map V.int)) ∧ (∀ x ∈ cells, 0 ≤ x) ∧ 0 ≤ g ∧ 0 ≤ h ∧ h < 2147483647 ∧ 0 ≤ k
theorem BagAt.mk4 {H H' : Hp} {b c : Addr} {g h k g' h' k' : Int} {cells : List Int} (hb : H b = some (.lst [.int g, .int h, .int k, .ref c])) (hc : H c = some (.lst (cells.map V.int))) (hx : ∀ x ∈ cells, 0 ≤ x) (e : H' = upd H b (.lst [.int g', .int h', .int k', .ref c])) (g0 : 0 ≤ g') (h0 : 0 ≤ h') (h1 : h' < 2147483647) (k0 : 0 ≤ k') :
    H' b = some (.lst [.int g', .int h', .int k', .ref c]) ∧ H' c = some (.lst (cells.map V.int)) ∧ Bd b H H' ∧ BagAt H' b c := by
  have ne : c ≠ b := fun q => by
    rw [q, hb] at hc
    injection hc with hc
    injection hc with hc
    have z : ([V.int g, V.int h, V.int k, V.ref c] : List V)[3]? = (cells.map V.int)[3]? := by rw [hc]
    rw [List.getElem?_map] at z
    cases e3 : cells[3]? with
    | none => rw [e3] at z; cases z
    | some y =>
      rw [e3] at z
      have z : V.ref c = V.int y := Option.some.inj z
      cases z
  have e1 : H' b = some (.lst [.int g', .int h', .int k', .ref c]) := by rw [e, upd_same]
  have e2 : H' c = some (.lst (cells.map V.int)) := by rw [e, upd_ne ne]; exact hc
  exact ⟨e1, e2, fun x o n q => by rw [e, upd_ne n]; exact q, g', h', k', cells, e1, e2, hx, g0, h0, h1, k0⟩
def spBag (K : PySem.W.Frag) : Sp := fun vs H Q _ => ∃ (a : Addr) (ns : List Int), vs = [.ref a] ∧ SqL K H a (ns.map V.int) ∧ ∀ b c H', Same H H' → H b = none → BagAt H' b c → Q (.ref b) H'
theorem sc_law_bag : FnScope ["_law_script", "_law_cell"] ["_law_script"] (defScope s_law_bag) := ⟨rfl, rfl, rfl, by decide +kernel, rfl, by decide +kernel, by decide +kernel⟩
theorem ok_law_bag (T : Txt K mg) : OkF P w K mg base 1 (He.ga K "_law_bag") ["_law_script"] (spBag K) := by
  obtain ⟨fd, F⟩ := T.fn 20 (st := s_law_bag)
  refine ⟨fd, F.ok sc_law_bag (fun vs H Q E h => ?_) (fun cdv A outer s H vs Q E hr h => ?_), F.binds (fun _ _ _ _ _ _ us hl => match us, hl with | [_], _ => rfl), F.kp⟩
  · obtain ⟨_, _, rfl, _⟩ := h
    rfl
  · obtain ⟨a, ns, rfl, ha, k⟩ := h
    have nd := sc_law_bag.nd
    refine ⟨_, pss_one (ps_ret (pe_lst (pa_cons pe_int (pa_cons pe_int (pa_cons pe_int (pa_cons (pe_lc (own := [("_law_cell", 1)]) (g := gName 1) (tt := tYes) rfl nd (pi_list (pe_slice sl_list (pv 0) po_none (po_some pe_int))) (blkOk_by (N := ["_law_script", "_law_cell"]) (sc := defScope s_law_bag) (by decide +kernel))
        (fun _ _ _ _ _ => pg_name (i := 1) nd rfl (Or.inl rfl)) (fun _ _ _ _ _ => pts_nil) (fun _ _ _ _ _ => pe_callB call_abs (by rfl) T.m_abs (by decide +kernel) (pa_cons (pv 1) pa_nil))) pa_nil)))))), ?_⟩
    refine ⟨_, rfl, _, rfl, a, _, rfl, ha, fun S hS => ?_⟩
    have ecut : cutV (ns.map V.int) none (some 63) = (ns.take 63).map V.int := by
      unfold cutV
      rw [HT.sIx_none, show HT.sIx (ns.map V.int).length (ns.map V.int).length (some 63) = min 63 (ns.map V.int).length from HT.sIx_nat _ _ 63, Nat.sub_zero, List.drop_zero, List.map_take]
      rw [List.length_map]
      by_cases h : 63 ≤ ns.length
      · rw [Nat.min_eq_left h]
      · rw [Nat.min_eq_right (by omega), List.take_of_length_le (by rw [List.length_map]; exact Nat.le_refl _), List.take_of_length_le (by rw [List.length_map]; omega)]
    rw [ecut]
    have sS : Same H (upd H S (.lst ((ns.take 63).map V.int))) := same_upd (Same.refl _) hS
    refine ⟨S, rfl, ⟨_, SqL.of upd_same⟩, fun D hD => ?_⟩
    refine lc_flat (walk_list (K := K) (a := S) (xs := (ns.take 63).map V.int)) (fun i => .int (if (ns.getD i 0) < 0 then -(ns.getD i 0) else ns.getD i 0)) hD (by rw [List.length_map, List.length_take]; have : sizeLine = 16777216 := sizeLine_eq; omega) (fun H1 s1 => SqL.of (s1 _ _ upd_same)) (fun i x H1 H2 Kt hi s1 y q => ?_) (fun i H1 x H2 y => by rw [y.1]; exact Same.refl _) (fun H1 s1 eD => ?_)
    · obtain ⟨rfl, hx⟩ := y
      rw [List.length_map, List.length_take] at hi
      have hi2 : i < ns.length := by omega
      rw [List.getElem?_map, List.getElem?_take, if_pos (by omega), List.getElem?_eq_getElem hi2] at hx
      cases hx
      have ed : ns.getD i 0 = ns[i] := by rw [List.getD_eq_getElem?_getD, List.getElem?_eq_getElem hi2] <;> rfl
      rw [ed] at q
      exact ⟨rfl, _, rfl, ns[i], rfl, q _ (Same.refl _)⟩
    · refine ⟨(by show 4 ≤ sizeLine; decide), fun b hb => ?_⟩
      have s2 := sS.trans s1
      have hDb : D ≠ b := fun e => by rw [← e, eD] at hb; cases hb
      refine k b D _ (s2.trans (same_upd (Same.refl _) hb)) (s2.free hb) ⟨0, 1234567891, 0, (List.range ((ns.take 63).map V.int).length).map (fun i => if (ns.getD i 0) < 0 then -(ns.getD i 0) else ns.getD i 0), upd_same, ?_, ?_, by decide, by decide, by decide, by decide⟩
      · rw [upd_ne hDb, eD, List.map_map] <;> rfl
      · intro x hx
        obtain ⟨i, _, rfl⟩ := List.mem_map.mp hx
        split <;> omega
def spTake : Sp := fun vs H Q _ => ∃ (b c : Addr) (many : Nat), vs = [.ref b, .int many] ∧ BagAt H b c ∧ 1 ≤ many ∧ many ≤ 1000 ∧ ∀ (v : Nat) H', v < many → Bd b H H' → BagAt H' b c → Q (.int v) H'
theorem sc_law_take : FnScope ["_law_bag_here", "_law_many", "_law_cell", "_law_mixed_here", "_law_value", "_law_begin", "_law_second"] ["_law_bag_here", "_law_many"] (defScope s_law_take) := ⟨rfl, rfl, rfl, by decide +kernel, rfl, by decide +kernel, by decide +kernel⟩
theorem ok_law_take (T : Txt K mg) : OkF P w K mg base 1 (He.ga K "_law_take") ["_law_bag_here", "_law_many"] spTake := by
  obtain ⟨fd, F⟩ := T.fn 21 (st := s_law_take)
  refine ⟨fd, F.ok sc_law_take (fun vs H Q E h => ?_) (fun cdv A outer s H vs Q E hr h => ?_), F.binds (fun _ _ _ _ _ _ us hl => match us, hl with | [_, _], _ => rfl), F.kp⟩
  · obtain ⟨_, _, _, rfl, _⟩ := h
    rfl
  · obtain ⟨b, c, many, rfl, hB, hm1, hm2, k⟩ := h
    have nd := sc_law_take.nd
    refine ⟨_, C8.pss_cut (ps_if (pt_cmpR op_eq (pe_ix ix_list (pv 0) pe_int (fun _ _ => rfl)) pe_int (nomark _))
        (pss_cons (ps_set (i := 2) nd rfl (Or.inl rfl) pe_int)
        (C8.pss_cut (ps_if (pt_cmpR op_lt (pe_ix ix_list (pv 0) pe_int (fun _ _ => rfl)) (pe_callB call_len_seq (by rfl) T.m_len boot_len (pa_cons (pe_ix ix_list (pv 0) pe_int (fun _ _ => rfl)) pa_nil)) (nomark _))
            (pss_one (ps_set (i := 2) nd rfl (Or.inl rfl) (pe_ix ix_list (pe_ix ix_list (pv 0) pe_int (fun _ _ => rfl)) (pe_ix ix_list (pv 0) pe_int (fun _ _ => rfl)) (fun _ _ => rfl)))) pss_nil)
        (pss_cons (ps_augS (pv 0) pe_int pget_list pe_int iop_add set_list)
        (C8.pss_cut (ps_if (pt_cmpR op_ge (pv 2) pe_int (nomark _)) (pss_one (ps_asg (pv 2) (pg_sub (pv 0) pe_int set_list))) pss_nil)
        (pss_cons (ps_set (i := 3) nd rfl (Or.inl rfl) (pe_op op_add (pe_op op_add (pe_op op_mul (pe_ix ix_list (pv 0) pe_int (fun _ _ => rfl)) pe_int) (pe_op op_modN (pe_callTy call_int1 (by rfl) T.m_int (by decide +kernel) (pa_cons (pv 2) pa_nil)) pe_int)) (pe_op op_mul pe_int (pe_ix ix_list (pv 0) pe_int (fun _ _ => rfl)))))
        (pss_one (ps_asg (pe_op op_modN (pe_callTy call_int1 (by rfl) T.m_int (by decide +kernel) (pa_cons (pv 3) pa_nil)) pe_int) (pg_sub (pv 0) pe_int set_list)))))))) pss_nil)
      (pss_cons (ps_if (pt_cmpR op_gt (pe_ix ix_list (pv 0) pe_int (fun _ _ => rfl)) pe_int (nomark _))
        (pss_cons (ps_set (i := 4) nd rfl (Or.inl rfl) (pe_op op_modN (pe_callTy call_int1 (by rfl) T.m_int (by decide +kernel) (pa_cons (pe_ix ix_list (pv 0) pe_int (fun _ _ => rfl)) pa_nil)) (pv 1)))
        (pss_cons (ps_asg (pe_op op_fdivN (pe_ix ix_list (pv 0) pe_int (fun _ _ => rfl)) (pv 1)) (pg_sub (pv 0) pe_int set_list))
        (pss_one (ps_ret (pv 4))))) pss_nil)
      (pss_cons (ps_set (i := 5) nd rfl (Or.inl rfl) (pe_op op_modN (pe_callTy call_int1 (by rfl) T.m_int (by decide +kernel) (pa_cons (pe_op op_mul (pe_op op_add (pe_ix ix_list (pv 0) pe_int (fun _ _ => rfl)) pe_int) pe_int) pa_nil)) pe_int))
      (pss_cons (ps_set (i := 6) nd rfl (Or.inl rfl) (pe_op op_modN (pe_callTy call_int1 (by rfl) T.m_int (by decide +kernel) (pa_cons (pe_op op_mul (pe_op op_modN (pe_callTy call_int1 (by rfl) T.m_int (by decide +kernel) (pa_cons (pe_op op_mul (pv 5) (pv 5)) pa_nil)) pe_int) pe_int) pa_nil)) pe_int))
      (pss_cons (ps_if (pt_cmpR op_gt (pv 1) pe_int (nomark _)) pss_never pss_nil)
      (pss_one (ps_ret (pe_op op_modN (pe_callTy call_int1 (by rfl) T.m_int (by decide +kernel) (pa_cons (pe_op op_fdivN (pv 6) pe_int) pa_nil)) (pv 1)))))))), ?_⟩
    have fm : ∀ {x y : Int}, 0 ≤ x → 0 < y → 0 ≤ x.fmod y ∧ x.fmod y < y := fun hx hy => by
      rw [Int.fmod_eq_emod_of_nonneg _ (Int.le_of_lt hy)]
      exact ⟨Int.emod_nonneg _ (by omega), Int.emod_lt_of_pos _ hy⟩
    refine ⟨fun σ H' => ∃ v3 v4 : Option V, σ = [some (.ref b), some (.int many), v3, v4, none, none, none] ∧ Bd b H H' ∧ BagAt H' b c, ?_, ?_⟩
    · obtain ⟨g, h, kk, cells, hb, hc, hx, g0, h0, h1, k0⟩ := id hB
      refine ⟨_, rfl, _, _, _, _, rfl, rfl, SqL.of hb, atI_nat0 (i := 0) rfl, rfl, _, rfl, ?_⟩
      refine ite2 (fun q => ?_) (fun q => ⟨_, _, rfl, Bd.of (Same.refl _), hB⟩)
      refine ⟨fun σ H' => ∃ x : Int, 0 ≤ x ∧ σ = [some (.ref b), some (.int many), some (.int x), none, none, none, none] ∧ H' = H, ?_, ?_⟩
      · refine ⟨_, rfl, _, _, _, _, rfl, rfl, SqL.of hb, atI_nat0 (i := 2) rfl, _, rfl, _, _, _, _, rfl, rfl, SqL.of hb, atI_nat0 (i := 3) rfl, c, _, rfl, .inl (SqL.of hc), _, _, rfl, rfl, _, rfl, ?_⟩
        refine ite2 (fun q2 => ?_) (fun q2 => ⟨0, Int.le_refl _, rfl, rfl⟩)
        have hk : kk < ((cells.map V.int).length : Nat) := of_decide_eq_true q2
        rw [List.length_map] at hk
        have hk2 : kk.toNat < cells.length := by omega
        refine ⟨_, rfl, _, _, _, _, rfl, rfl, SqL.of hb, atI_nat0 (i := 3) rfl, _, rfl, _, _, _, _, rfl, rfl, SqL.of hb, atI_nat0 (i := 2) rfl, c, _, kk, V.int cells[kk.toNat], rfl, rfl, SqL.of hc, ?_, cells[kk.toNat], hx _ (List.getElem_mem hk2), rfl, rfl⟩
        have e := atI_nat0 (xs := cells.map V.int) (i := kk.toNat) (v := V.int cells[kk.toNat]) (by rw [List.getElem?_map, List.getElem?_eq_getElem hk2] <;> rfl)
        rw [show ((kk.toNat : Nat) : Int) = kk by omega] at e
        exact e
      · rintro σ H' ⟨x, hx0, rfl, rfl⟩
        refine ⟨_, rfl, _, _, _, _, rfl, rfl, SqL.of hb, atI_nat0 (i := 2) rfl, _, _, rfl, rfl, b, _, 2, 2, rfl, rfl, hb, rfl, ?_⟩
        obtain ⟨b1, c1, d1, B1⟩ := BagAt.mk4 (g' := g) (h' := h) (k' := kk + 1) hb hc hx rfl g0 h0 h1 (by omega)
        refine ⟨fun σ H'' => ∃ g' : Int, 0 ≤ g' ∧ σ = [some (.ref b), some (.int many), some (.int x), none, none, none, none] ∧ H'' b = some (.lst [.int g', .int h, .int (kk + 1), .ref c]) ∧ H'' c = some (.lst (cells.map V.int)) ∧ Bd b H' H'', ?_, ?_⟩
        · refine ⟨_, rfl, _, _, rfl, rfl, _, rfl, ?_⟩
          refine ite2 (fun q3 => ?_) (fun q3 => ⟨g, g0, rfl, b1, c1, d1⟩)
          refine ⟨_, rfl, _, rfl, b, _, 0, 0, rfl, rfl, b1, rfl, ?_⟩
          obtain ⟨b2, c2, d2, B2⟩ := BagAt.mk4 (g' := x) (h' := h) (k' := kk + 1) b1 c1 hx rfl hx0 h0 h1 (by omega)
          exact ⟨x, hx0, rfl, b2, c2, d1.trans d2⟩
        · rintro σ H2 ⟨g', hg', rfl, b2, c2, d2⟩
          refine ⟨_, rfl, _, _, _, _, rfl, rfl, SqL.of b2, atI_nat0 (i := 1) rfl, _, _, rfl, rfl, .inl (by constructor <;> omega), ?_⟩
          refine ⟨_, rfl, .inl ⟨_, rfl, _, _, rfl, rfl, (by show (2147483647 : Int) ≠ 0; decide), _, _, rfl, rfl, ?_⟩⟩
          refine ⟨_, rfl, _, _, _, _, rfl, rfl, SqL.of b2, atI_nat0 (i := 2) rfl, _, _, rfl, rfl, .inl (by decide), _, _, rfl, rfl, ?_⟩
          obtain ⟨e1, e2⟩ := fm (x := x) (y := 2147483647) hx0 (by decide)
          refine ⟨_, rfl, .inl ⟨_, rfl, _, _, rfl, rfl, (by show (2147483647 : Int) ≠ 0; decide), ?_⟩⟩
          have e3 : 0 ≤ h * 48271 := Int.mul_nonneg h0 (by decide)
          have e4 : 0 ≤ 7919 * (kk + 1) := Int.mul_nonneg (by decide) (by omega)
          obtain ⟨e5, e6⟩ := fm (x := h * 48271 + x.fmod 2147483647 + 7919 * (kk + 1)) (y := 2147483647) (by omega) (by decide)
          refine ⟨_, rfl, b, _, 1, 1, rfl, rfl, b2, rfl, ?_⟩
          obtain ⟨b3, c3, d3, B3⟩ := BagAt.mk4 (g' := g') (h' := (h * 48271 + x.fmod 2147483647 + 7919 * (kk + 1)).fmod 2147483647) (k' := kk + 1) b2 c2 hx rfl hg' e5 e6 (by omega)
          exact ⟨_, _, rfl, d2.trans d3, B3⟩
    · rintro σ H1 ⟨v3, v4, rfl, d1, hB1⟩
      obtain ⟨g, h, kk, cells, hb, hc, hx, g0, h0, h1, k0⟩ := id hB1
      refine ⟨_, rfl, _, _, _, _, rfl, rfl, SqL.of hb, atI_nat0 (i := 0) rfl, _, _, rfl, rfl, _, rfl, ?_⟩
      have hmp : (0 : Int) < many := by omega
      refine ite2 (fun q => ?_) (fun q => ?_)
      · obtain ⟨e1, e2⟩ := fm (x := g) (y := many) g0 hmp
        refine ⟨_, rfl, _, _, _, _, rfl, rfl, SqL.of hb, atI_nat0 (i := 0) rfl, .inl ⟨_, rfl, _, rfl, _, _, rfl, rfl, by omega, ?_⟩⟩
        refine ⟨_, rfl, _, _, _, _, rfl, rfl, SqL.of hb, atI_nat0 (i := 0) rfl, _, rfl, _, _, rfl, rfl, ⟨by omega, by omega⟩, ?_⟩
        refine ⟨_, rfl, b, _, 0, 0, rfl, rfl, hb, rfl, ?_⟩
        have e3 : 0 ≤ g.fdiv many := by rw [Int.fdiv_eq_ediv_of_nonneg _ (Int.le_of_lt hmp)]; exact Int.ediv_nonneg g0 (Int.le_of_lt hmp)
        obtain ⟨b3, c3, d3, B3⟩ := BagAt.mk4 (g' := g.fdiv many) (h' := h) (k' := kk) hb hc hx rfl e3 h0 h1 k0
        have z := k (g.fmod many).toNat _ (by omega) (d1.trans d3) B3
        rw [show (((g.fmod many).toNat : Nat) : Int) = g.fmod many by omega] at z
        exact ⟨_, rfl, z⟩
      · obtain ⟨e1, e2⟩ := fm (x := (h + 1) * 39373) (y := 1000000007) (Int.mul_nonneg (by omega) (by decide)) (by decide)
        obtain ⟨e3, e4⟩ := fm (x := ((h + 1) * 39373).fmod 1000000007 * ((h + 1) * 39373).fmod 1000000007) (y := 998244353) (Int.mul_nonneg e1 e1) (by decide)
        obtain ⟨e5, e6⟩ := fm (x := (((h + 1) * 39373).fmod 1000000007 * ((h + 1) * 39373).fmod 1000000007).fmod 998244353 * 30011) (y := 998244353) (Int.mul_nonneg e3 (by decide)) (by decide)
        have b0 : -(2 ^ 64 : Int) < h + 1 ∧ h + 1 < 2 ^ 64 := by constructor <;> omega
        have b1 : -(2 ^ 64 : Int) < ((h + 1) * 39373).fmod 1000000007 ∧ ((h + 1) * 39373).fmod 1000000007 < 2 ^ 64 := by
          generalize ((h + 1) * 39373).fmod 1000000007 = u at e1 e2 ⊢
          omega
        have b2 : -(2 ^ 64 : Int) < (((h + 1) * 39373).fmod 1000000007 * ((h + 1) * 39373).fmod 1000000007).fmod 998244353 ∧ (((h + 1) * 39373).fmod 1000000007 * ((h + 1) * 39373).fmod 1000000007).fmod 998244353 < 2 ^ 64 := by
          generalize (((h + 1) * 39373).fmod 1000000007 * ((h + 1) * 39373).fmod 1000000007).fmod 998244353 = u at e3 e4 ⊢
          omega
        refine ⟨_, rfl, _, _, _, _, rfl, rfl, SqL.of hb, atI_nat0 (i := 1) rfl, _, _, rfl, rfl, _, _, rfl, rfl, .inl b0, .inl ⟨_, rfl, _, _, rfl, rfl, (by show (1000000007 : Int) ≠ 0; decide), ?_⟩⟩
        refine ⟨_, rfl, _, rfl, _, _, rfl, rfl, .inl b1, .inl ⟨_, rfl, _, _, rfl, rfl, (by show (998244353 : Int) ≠ 0; decide), ?_⟩⟩
        refine ⟨_, _, rfl, rfl, .inl b2, .inl ⟨_, rfl, _, _, rfl, rfl, (by show (998244353 : Int) ≠ 0; decide), ?_⟩⟩
        refine ⟨_, rfl, _, _, rfl, rfl, _, rfl, ?_⟩
        rw [decide_eq_false (show ¬ ((many : Nat) : Int) > 1000000 by omega)]
        refine iteF ?_
        refine ⟨_, rfl, _, _, rfl, rfl, ⟨by decide, by decide⟩, .inl ⟨_, rfl, _, rfl, _, _, rfl, rfl, by omega, ?_⟩⟩
        have key : ∀ u3 : Int, 0 ≤ u3 → Q (.int ((u3.fdiv 7).fmod many)) H1 := fun u3 e5 => by
          have e7 : 0 ≤ u3.fdiv 7 := by rw [Int.fdiv_eq_ediv_of_nonneg _ (by decide)]; exact Int.ediv_nonneg e5 (by decide)
          obtain ⟨e8, e9⟩ := fm (x := u3.fdiv 7) (y := many) e7 hmp
          have z := k ((u3.fdiv 7).fmod many).toNat H1 (by omega) d1 hB1
          rw [show ((((u3.fdiv 7).fmod many).toNat : Nat) : Int) = (u3.fdiv 7).fmod many by omega] at z
          exact z
        exact key _ e5
end
end K7
/-! text K7LB -/
set_option maxHeartbeats 4000000
namespace K7
open PySem PySem.Spec PySem.Calls PyProof.Rows L2
section
variable {P : Program} {w : World} {K : PySem.W.Frag} {mg : PySem.Str → Option Value} {base : Heap}
def spAlike : Sp := fun vs H Q _ => ∃ x : Bool, vs = [.bl x, .bl x] ∧ Q (.bl true) H
theorem sc_law_alike : FnScope ["_law_found", "_law_due"] ["_law_found", "_law_due"] (defScope s_law_alike) := ⟨rfl, rfl, rfl, by decide +kernel, rfl, by decide +kernel, by decide +kernel⟩
theorem ok_law_alike (T : Txt K mg) : OkF P w K mg base 1 (He.ga K "_law_alike") ["_law_found", "_law_due"] spAlike := by
  obtain ⟨fd, F⟩ := T.fn 22 (st := s_law_alike)
  refine ⟨fd, F.ok sc_law_alike (fun vs H Q E h => ?_) (fun cdv A outer s H vs Q E hr h => ?_), F.binds (fun _ _ _ _ _ _ us hl => match us, hl with | [_, _], _ => rfl), F.kp⟩
  · obtain ⟨_, rfl, _⟩ := h
    rfl
  · obtain ⟨x, rfl, k⟩ := h
    refine ⟨_, pss_one (ps_ret (pe_and (pe_cmpR op_eq (pv 0) (pv 1) (nomark _)) (pe_one (pe_cmpR op_eq (pe_callB call_repr_bl (by rfl) T.m_repr (by decide +kernel) (pa_cons (pv 0) pa_nil)) (pe_callB call_repr_bl (by rfl) T.m_repr (by decide +kernel) (pa_cons (pv 1) pa_nil)) (nomark _))))), ?_⟩
    refine ⟨_, rfl, _, rfl, rfl, _, rfl, ?_⟩
    rw [decide_eq_true (rfl : V.bl x = V.bl x)]
    refine iteT ⟨_, rfl, x, rfl, _, rfl, x, rfl, rfl, ?_⟩
    show Q (.bl (decide (V.str (if x = true then "True" else "False" : PySem.Str) = V.str (if x = true then "True" else "False" : PySem.Str)))) H
    rw [decide_eq_true rfl]
    exact k
def spPlaces : Sp := fun vs H Q _ => ∃ (a : Addr) (fs : List Fm) (r i j n m : Nat), vs = [.ref a, .int r, .int i, .int j, .int n, .int m] ∧ FormsAt H a fs ∧ FmOk fs ∧ fsize fs ≤ 1000 ∧ fs.length ≤ 1000 ∧ r ≤ 100 ∧ ∀ D H', Same H H' → H D = none → H' D = some (.lst ((places n m (r, i, j) fs).map fun p => V.int (p : Nat))) → Q (.ref D) H'
theorem sc_law_my_places : FnScope ["_law_forms", "_law_r", "_law_i", "_law_j", "_law_n", "_law_m", "_law_numbers", "_law_found", "_law_ahead", "_law_reader", "_law_lead", "_law_period", "_law_x"] ["_law_forms", "_law_r", "_law_i", "_law_j", "_law_n", "_law_m"] (defScope s_law_my_places) := ⟨rfl, rfl, rfl, by decide +kernel, rfl, by decide +kernel, by decide +kernel⟩
theorem ok_law_my_places (T : Txt K mg) : OkF P w K mg base 1 (He.ga K "_law_my_places") ["_law_forms", "_law_r", "_law_i", "_law_j", "_law_n", "_law_m"] spPlaces := by
  obtain ⟨fd, F⟩ := T.fn 26 (st := s_law_my_places)
  refine ⟨fd, F.ok sc_law_my_places (fun vs H Q E h => ?_) (fun cdv A outer s H vs Q E hr h => ?_), F.binds (fun _ _ _ _ _ _ us hl => match us, hl with | [_, _, _, _, _, _], _ => rfl), F.kp⟩
  · obtain ⟨_, _, _, _, _, _, _, rfl, _⟩ := h
    rfl
  · obtain ⟨a, fs, r, i, j, n, m, rfl, hf, ho, hsz, hlen, hrr, k⟩ := h
    have nd := sc_law_my_places.nd
    have hu := hu_of hr
    refine ⟨_, pss_cons (ps_set (i := 6) nd rfl (Or.inl rfl) (pe_disp (pps_cons pe_str (pe_op op_add (pe_op op_mul (pv 1) (pv 5)) (pv 3)) (pps_cons pe_str (pe_op op_add (pe_op op_mul (pv 1) (pv 4)) (pv 2)) (pps_cons pe_str (pv 1) (pps_cons pe_str (pv 2) (pps_cons pe_str (pv 3) pps_nil))))) (by rfl) (by rfl) (fun z => by cases z) (by decide)))
      (pss_cons (ps_par (i := 7) (j := 8) (by rfl) nd rfl rfl (by decide) rfl rfl (pa_cons (pe_lst pa_nil) (pa_cons pe_int pa_nil)) (by rfl))
      (pss_cons (ps_for PassesOwn.never rfl (pi_list (pv 0)) (pg_tup (by rfl) (pgs_cons (pg_name (i := 9) nd rfl (Or.inl rfl)) (pgs_cons (pg_name (i := 10) nd rfl (Or.inl rfl)) (pgs_cons (pg_name (i := 11) nd rfl (Or.inl rfl)) pgs_nil))))
        (pss_cons (ps_set (i := 12) nd rfl (Or.inl rfl) (pe_dget hu (pv 6) (pv 9) (fun _ _ => rfl)))
        (pss_cons (ps_expr (pe_bm PySem.F.plainAttrs_list PySem.F.slot_list_append PySem.F.type_list_append mt_append (pv 7) (pa_cons (pe_op op_add (pv 8) (pe_ifExp (pt_cmpR op_lt (pv 12) (pv 10) (nomark _)) (pv 12) (pe_op op_add (pv 10) (pe_op op_modN (pe_callTy call_int1 (by rfl) T.m_int (by decide +kernel) (pa_cons (pe_op op_sub (pv 12) (pv 10)) pa_nil)) (pv 11))))) pa_nil)))
        (pss_one (ps_aug (i := 8) nd rfl (Or.inl rfl) (pe_op op_add (pv 10) (pv 11)) iop_add)))))
      (pss_one (ps_ret (pv 7))))), ?_⟩
    refine fun d hd => ?_
    have bnd : -(2 ^ 64 : Int) < (r : Int) ∧ (r : Int) < 2 ^ 64 := by omega
    refine ⟨_, rfl, _, rfl, _, _, rfl, rfl, .inl bnd, _, rfl, _, _, rfl, rfl, ?_⟩
    refine ⟨_, rfl, _, rfl, _, _, rfl, rfl, .inl bnd, _, rfl, _, _, rfl, rfl, ?_⟩
    refine ⟨_, rfl, _, rfl, _, rfl, upd_same, numKvs n m r i j, rfl, (by show 5 ≤ 15; decide), ?_⟩
    have s1 : Same H (upd (upd H d (.dK [])) d (.dK (mergeK [] (numKvs n m r i j)))) := same_upd (same_upd (Same.refl _) hd) hd
    refine ⟨Nat.zero_le _, fun D hD => ⟨_, _, rfl, ?_⟩⟩
    have s2 := s1.trans (same_upd (D := D) (o := .lst []) (Same.refl _) hD)
    have hd2 : (upd (upd (upd H d (.dK [])) d (.dK (mergeK [] (numKvs n m r i j)))) D (.lst [])) d = some (.dK (mergeK [] (numKvs n m r i j))) := (same_upd (Same.refl _) hD) _ _ upd_same
    have hD0 : H D = none := s1.free hD
    obtain ⟨fa, hf1, hf2, hf3⟩ := hf
    refine ⟨_, rfl, a, rfl, ⟨_, SqL.of (s2 _ _ hf1)⟩, ?_⟩
    refine for_it (walk_list (K := K) (a := a) (xs := fa.map V.ref)) (fun c σ H' => ∃ v1 v2 v3 v4 : Option V, σ = [some (.ref a), some (.int r), some (.int i), some (.int j), some (.int n), some (.int m), some (.ref d), some (.ref D), some (.int (fsize (fs.take c) : Nat)), v1, v2, v3, v4] ∧ Same H H' ∧ H' d = some (.dK (mergeK [] (numKvs n m r i j))) ∧ H' D = some (.lst ((places n m (r, i, j) (fs.take c)).map fun p => V.int (p : Nat))))
      ⟨none, none, none, none, rfl, s2, hd2, upd_same⟩ (fun c σ H' _ ⟨_, _, _, _, _, s', _⟩ => SqL.of (s' _ _ hf1)) (fun c x σ H' H2 hc ⟨v1, v2, v3, v4, e, s', hd', hD'⟩ y => ?_) (fun σ H' ⟨v1, v2, v3, v4, e, s', hd', hD'⟩ => ?_)
    · obtain ⟨rfl, hx⟩ := y
      subst e
      rw [List.length_map] at hc
      have hc2 : c < fs.length := by omega
      rw [List.getElem?_map, List.getElem?_eq_getElem hc] at hx
      cases hx
      have ef := s' _ _ (hf3 c fa[c] fs[c] (List.getElem?_eq_getElem hc) (List.getElem?_eq_getElem hc2))
      have hper : 0 < fs[c].per := ho _ (List.getElem_mem hc2)
      refine ⟨fa[c], _, rfl, SqT.of ef, rfl, _, _, rfl, _, _, rfl, _, _, rfl, rfl, ?_⟩
      refine ⟨_, rfl, _, rfl, d, _, rfl, by rw [← numKvs_at n m r i j fs[c].rd]; exact DGet.k (k := Sum.inr fs[c].rd.str) hd', ?_⟩
      generalize hz : fs[c].rd.num n m (r, i, j) = z
      have hat : fs[c].at_ n m (r, i, j) = idx fs[c].lead fs[c].per z := by unfold Fm.at_; rw [hz]
      refine ⟨_, rfl, .inl ⟨rfl, _, SqL.of hD'⟩, ?_⟩
      have ndD : d ≠ D := fun e => by rw [e, hD'] at hd'; cases hd'
      have hpl : (places n m (r, i, j) (fs.take c)).length ≤ 1000 := by rw [places_len, List.length_take]; omega
      have fin : ∀ y : V, y = .int (idx fs[c].lead fs[c].per z : Nat) → (rI0 fun i j => V.int (i + j)) (.int (fsize (fs.take c) : Nat)) y H2 fun y H3 => tNil [some (.ref a), some (.int r), some (.int i), some (.int j), some (.int n), some (.int m), some (.ref d), some (.ref D), some (.int (fsize (fs.take c) : Nat)), some (.str fs[c].rd.str), some (.int (fs[c].lead : Nat)), some (.int (fs[c].per : Nat)), some (.int z)] H3 fun vs H4 => ∃ (l : Addr) (xs : List V) (y' : V), V.ref D = .ref l ∧ y :: vs = [y'] ∧ H4 l = some (.lst xs) ∧ xs.length < sizeLine ∧
          tAug 8 (tOp (rI0 fun i j => V.int (i + j)) (tVar 10) (tVar 11)) (rI0 fun i j => V.int (i + j)) { nx := fun σ H' => ∃ v1 v2 v3 v4 : Option V, σ = [some (.ref a), some (.int r), some (.int i), some (.int j), some (.int n), some (.int m), some (.ref d), some (.ref D), some (.int (fsize (fs.take (c + 1)) : Nat)), v1, v2, v3, v4] ∧ Same H H' ∧ H' d = some (.dK (mergeK [] (numKvs n m r i j))) ∧ H' D = some (.lst ((places n m (r, i, j) (fs.take (c + 1))).map fun p => V.int (p : Nat))), rt := Q }
            [some (.ref a), some (.int r), some (.int i), some (.int j), some (.int n), some (.int m), some (.ref d), some (.ref D), some (.int (fsize (fs.take c) : Nat)), some (.str fs[c].rd.str), some (.int (fs[c].lead : Nat)), some (.int (fs[c].per : Nat)), some (.int z)] (upd H4 l (.lst (xs ++ [y']))) := by
        rintro y rfl
        refine ⟨_, _, rfl, rfl, D, _, _, rfl, rfl, hD', by rw [List.length_map]; have : sizeLine = 16777216 := sizeLine_eq; omega, ?_⟩
        refine ⟨_, rfl, _, rfl, _, rfl, _, _, rfl, rfl, _, _, rfl, rfl, ?_⟩
        refine ⟨some (.str fs[c].rd.str), some (.int (fs[c].lead : Nat)), some (.int (fs[c].per : Nat)), some (.int z), ?_, same_upd s' hD0, by rw [upd_ne ndD]; exact hd', ?_⟩
        · rw [take_snoc (List.getElem?_eq_getElem hc2), fsize_snoc]
          have e2 : ((fsize (fs.take c) : Nat) : Int) + (((fs[c].lead : Nat) : Int) + ((fs[c].per : Nat) : Int)) = ((fsize (fs.take c) + fs[c].len : Nat) : Int) := by unfold Fm.len; omega
          rw [← e2]
          rfl
        · rw [upd_same, take_snoc (List.getElem?_eq_getElem hc2), places_snoc, hat, List.map_append]
          show some (HO.lst (_ ++ [V.int (((fsize (fs.take c) : Nat) : Int) + ((idx fs[c].lead fs[c].per z : Nat) : Int))])) = some (HO.lst (_ ++ [V.int ((fsize (fs.take c) + idx fs[c].lead fs[c].per z : Nat) : Int)]))
          rw [Int.natCast_add]
      refine ⟨_, rfl, ?_⟩
      refine ⟨_, rfl, _, rfl, _, _, rfl, rfl, _, rfl, ?_⟩
      refine ite2 (fun q => ?_) (fun q => ?_)
      · have hl : z < fs[c].lead := by have := of_decide_eq_true q; omega
        exact ⟨_, rfl, fin _ (by unfold idx; rw [if_pos hl])⟩
      · have hl : ¬ z < fs[c].lead := by have := of_decide_eq_false (Bool.eq_false_iff.mpr q); omega
        refine ⟨_, rfl, _, rfl, _, rfl, _, _, rfl, rfl, .inl ⟨_, rfl, _, rfl, _, _, rfl, rfl, by omega, _, _, rfl, rfl, fin _ ?_⟩⟩
        unfold idx
        rw [if_neg hl, show ((z : Int) - (fs[c].lead : Int)) = ((z - fs[c].lead : Nat) : Int) by omega, Int.fmod_eq_emod_of_nonneg _ (by omega)]
        rfl
    · subst e
      rw [List.length_map, hf2, List.take_length] at hD'
      exact ⟨_, rfl, k D H' s' hD0 hD'⟩
def spMySize : Sp := fun vs H Q _ => ∃ (a : Addr) (fs : List Fm), vs = [.ref a] ∧ FormsAt H a fs ∧ fs.length ≤ 1000 ∧ ∀ H', Same H H' → Q (.int (fsize fs : Nat)) H'
theorem sc_law_my_size : FnScope ["_law_forms", "_law_form"] ["_law_forms"] (defScope s_law_my_size) := ⟨rfl, rfl, rfl, by decide +kernel, rfl, by decide +kernel, by decide +kernel⟩
theorem ok_law_my_size (T : Txt K mg) : OkF P w K mg base 1 (He.ga K "_law_my_size") ["_law_forms"] spMySize := by
  obtain ⟨fd, F⟩ := T.fn 27 (st := s_law_my_size)
  refine ⟨fd, F.ok sc_law_my_size (fun vs H Q E h => ?_) (fun cdv A outer s H vs Q E hr h => ?_), F.binds (fun _ _ _ _ _ _ us hl => match us, hl with | [_], _ => rfl), F.kp⟩
  · obtain ⟨_, _, rfl, _⟩ := h
    rfl
  · obtain ⟨a, fs, rfl, hf, hl, k⟩ := h
    have nd := sc_law_my_size.nd
    refine ⟨_, pss_one (ps_ret (pe_callB (cr_sum rfl) (by rfl) T.m_sum (by decide +kernel) (pa_cons (pe_lc (own := [("_law_form", 1)]) (g := gName 1) (tt := tYes) rfl nd (pi_list (pv 0)) (blkOk_by (N := ["_law_forms", "_law_form"]) (sc := defScope s_law_my_size) (by decide +kernel))
        (fun _ _ _ _ _ => pg_name (i := 1) nd rfl (Or.inl rfl)) (fun _ _ _ _ _ => pts_nil) (fun _ _ _ _ _ => pe_op op_add (pe_ix (ix_tupK (K := K)) (pv 1) pe_int (fun _ _ => rfl)) (pe_ix (ix_tupK (K := K)) (pv 1) pe_int (fun _ _ => rfl)))) pa_nil))), ?_⟩
    obtain ⟨fa, hf1, hf2, hf3⟩ := hf
    refine ⟨_, rfl, a, rfl, ⟨_, SqL.of hf1⟩, fun D hD => ?_⟩
    refine lc_flat (walk_list (K := K) (a := a) (xs := fa.map V.ref)) (fun i => .int (match fs[i]? with | some f => (f.lead : Int) + (f.per : Int) | none => 0)) hD (by rw [List.length_map, hf2]; exact Nat.lt_of_le_of_lt hl (by decide)) (fun H1 s1 => s1.seq (SqL.of hf1)) (fun c x H1 H2 Kt hc s1 y q => ?_) (fun i H1 x H2 y => by rw [y.1]; exact Same.refl _) (fun H1 s1 eD => ?_)
    · obtain ⟨rfl, hx⟩ := y
      rw [List.length_map] at hc
      have hc2 : c < fs.length := by omega
      rw [List.getElem?_map, List.getElem?_eq_getElem hc] at hx
      cases hx
      rw [List.getElem?_eq_getElem hc2] at q
      have ef := s1 _ _ (hf3 c fa[c] fs[c] (List.getElem?_eq_getElem hc) (List.getElem?_eq_getElem hc2))
      exact ⟨rfl, _, rfl, _, _, _, _, rfl, rfl, SqT.of ef, rfl, _, rfl, _, _, _, _, rfl, rfl, SqT.of ef, rfl, _, _, rfl, rfl, q _ (Same.refl _)⟩
    · rw [List.length_map, hf2, range_map_get fs _ (fun f => V.int ((f.lead : Int) + (f.per : Int))) (fun i hi => by rw [List.getElem?_eq_getElem hi])] at eD
      refine ⟨D, fs.map fun f => (f.lead : Int) + (f.per : Int), rfl, SqL.of (by rw [eD, List.map_map] <;> rfl), ?_⟩
      rw [fsize_sum]
      exact k _ s1
def spMyMeet : Sp := fun vs H Q _ => ∃ n m R : Nat, vs = [.int n, .int m, .int R] ∧ n ≤ 100 ∧ m ≤ 100 ∧ R ≤ 100 ∧ 0 < n ∧ 0 < m ∧ ∀ D H', Same H H' → MeetsAt H' D n m (R * n * m) → Q (.ref D) H'
theorem sc_law_my_meetings : FnScope ["_law_n", "_law_m", "_law_rounds", "_law_found", "_law_r", "_law_i", "_law_j"] ["_law_n", "_law_m", "_law_rounds"] (defScope s_law_my_meetings) := ⟨rfl, rfl, rfl, by decide +kernel, rfl, by decide +kernel, by decide +kernel⟩
theorem ok_law_my_meetings (T : Txt K mg) : OkF P w K mg base 1 (He.ga K "_law_my_meetings") ["_law_n", "_law_m", "_law_rounds"] spMyMeet := by
  obtain ⟨fd, F⟩ := T.fn 28 (st := s_law_my_meetings)
  refine ⟨fd, F.ok sc_law_my_meetings (fun vs H Q E h => ?_) (fun cdv A outer s H vs Q E hr h => ?_), F.binds (fun _ _ _ _ _ _ us hl => match us, hl with | [_, _, _], _ => rfl), F.kp⟩
  · obtain ⟨_, _, _, rfl, _⟩ := h
    rfl
  · obtain ⟨n, m, R, rfl, l1, l2, l3, hn, hm, k⟩ := h
    have nd := sc_law_my_meetings.nd
    refine ⟨_, pss_cons (ps_set (i := 3) nd rfl (Or.inl rfl) (pe_lst pa_nil))
      (pss_cons (ps_for PassesOwn.never rfl (pi_range1 (by rfl) T.m_range (pa_cons (pv 2) pa_nil)) (pg_name (i := 4) nd rfl (Or.inr rfl))
        (pss_one (ps_for PassesOwn.never rfl (pi_range1 (by rfl) T.m_range (pa_cons (pv 0) pa_nil)) (pg_name (i := 5) nd rfl (Or.inr rfl))
          (pss_one (ps_set (i := 3) nd rfl (Or.inl rfl) (pe_op op_cat (pv 3) (pe_lc (own := [("_law_j", 6)]) (g := gName 6) (tt := tYes) (by rfl) nd (pi_range1 (by rfl) T.m_range (pa_cons (pv 1) pa_nil)) (blkOk_by (N := ["_law_n", "_law_m", "_law_rounds", "_law_found", "_law_r", "_law_i", "_law_j"]) (sc := defScope s_law_my_meetings) (by decide +kernel))
            (fun _ _ _ _ _ => pg_name (i := 6) nd rfl (Or.inl rfl)) (fun _ _ _ _ _ => pts_nil) (fun _ _ _ _ _ => pe_tup (pa_cons (pv 4) (pa_cons (pv 5) (pa_cons (pv 6) pa_nil)))))))))))
      (pss_one (ps_ret (pv 3)))), ?_⟩
    refine ⟨Nat.zero_le _, fun D0 hD0 => ?_⟩
    have sz : sizeLine = 16777216 := sizeLine_eq
    refine ⟨_, rfl, (R : Nat), rfl, by omega, by omega, ?_⟩
    refine for_it (walk_range (lo := 0) (n := R)) (fun r σ H' => ∃ (D : Addr) (v1 v2 : Option V), σ = [some (.int n), some (.int m), some (.int R), some (.ref D), v1, v2, none] ∧ Same H H' ∧ MeetsAt H' D n m (r * n * m)) ⟨D0, none, none, rfl, same_upd (Same.refl _) hD0, [], upd_same, by simp, fun i p e => by simp at e⟩ (fun _ _ _ _ _ => trivial) (fun r x σ H1 H2 hr' ⟨D, v1, v2, e, s1, hM⟩ y => ?_) (fun σ H1 ⟨D, v1, v2, e, s1, hM⟩ => ?_)
    · obtain ⟨rfl, rfl⟩ := y
      subst e
      refine ⟨_, rfl, (n : Nat), rfl, by omega, by omega, ?_⟩
      refine for_it (walk_range (lo := 0) (n := n)) (fun i σ H' => ∃ (D : Addr) (v2 : Option V), σ = [some (.int n), some (.int m), some (.int R), some (.ref D), some (.int (0 + (r : Nat))), v2, none] ∧ Same H H' ∧ MeetsAt H' D n m ((r * n + i) * m)) ⟨D, v2, rfl, s1, by rw [Nat.add_zero]; exact hM⟩ (fun _ _ _ _ _ => trivial) (fun i x σ H3 H4 hi ⟨D, v2, e, s3, hM3⟩ y => ?_) (fun σ H3 ⟨D, v2, e, s3, hM3⟩ => ⟨D, _, v2, e, s3, by rw [Nat.add_mul r 1 n, Nat.one_mul]; exact hM3⟩)
      obtain ⟨rfl, rfl⟩ := y
      subst e
      refine ⟨_, rfl, _, rfl, (m : Nat), rfl, by omega, by omega, fun L hL => ?_⟩
      refine lc_tups (walk_range (lo := 0) (n := m)) (fun j => mt3 (r, i, j)) hL (by omega) (fun _ _ => trivial) (fun j x H5 H6 Kt hj s5 y q => ?_) (fun i H1 x H2 y => by rw [y.1]; exact Same.refl _) (fun H5 bs s5 hbl hb eL => ?_)
      · obtain ⟨rfl, rfl⟩ := y
        refine ⟨rfl, _, rfl, _, rfl, _, rfl, (by show 3 ≤ sizeLine; decide), fun t ht => ?_⟩
        refine q t _ (same_upd (Same.refl _) ht) ?_
        rw [upd_same]
        show some (HO.tup [V.int (0 + (r : Nat)), .int (0 + (i : Nat)), .int (0 + (j : Nat))]) = some (.tup [.int r, .int i, .int j])
        rw [Int.zero_add, Int.zero_add, Int.zero_add]
      · have hM5 := hM3.same (meets_nl n m) s5
        obtain ⟨as, hD5, hal, ha⟩ := id hM5
        have hk : (r * n + i) * m + m ≤ 1000000 := by
          have a1 : r * n + i ≤ 100 * 100 - 1 := by
            have := Nat.mul_le_mul (show r + 1 ≤ 100 by omega) l1
            rw [Nat.add_mul, Nat.one_mul] at this
            omega
          have a2 := Nat.mul_le_mul a1 l2
          omega
        refine ⟨D, L, _, _, rfl, rfl, hD5, eL, by rw [List.length_map, List.length_map, hal, hbl]; omega, fun p hp => ?_⟩
        have sp : Same H5 (upd H5 p (.lst (as.map V.ref ++ bs.map V.ref))) := same_upd (Same.refl _) hp
        refine ⟨p, _, rfl, (s3.trans s5).trans sp, as ++ bs, by rw [upd_same, List.map_append], by rw [List.length_append, hal, hbl, ← Nat.add_assoc, Nat.add_mul (r * n + i) 1 m, Nat.one_mul], fun c q e => ?_⟩
        by_cases hc : c < as.length
        · rw [List.getElem?_append_left hc] at e
          exact sp _ _ (ha c q e)
        · rw [List.getElem?_append_right (by omega)] at e
          have e1 := hb (c - as.length) q e
          have hcb : c - as.length < m := by
            have := (List.getElem?_eq_some_iff.mp e).1
            omega
          have e2 := sp _ _ e1
          rw [e2]
          have e3 : c = (r * n + i) * m + (c - as.length) := by omega
          show some (HO.tup (mt3 (r, i, c - as.length))) = some (HO.tup (mt3 (dec n m c)))
          rw [e3, dec_enc hi (by omega)]
          rw [← e3]
    · subst e
      exact ⟨_, rfl, k D H1 s1 hM⟩
def spTwo : Sp := fun vs H Q _ => ∃ k : Nat, vs = [.int k] ∧ k ≤ 100 ∧ Q (.int (2 ^ k)) H
theorem sc_law_my_two : FnScope ["_law_k"] ["_law_k"] (defScope s_law_my_two) := ⟨rfl, rfl, rfl, by decide +kernel, rfl, by decide +kernel, by decide +kernel⟩
theorem zeros_num (a : Nat) : ∀ k, (List.replicate k 48).foldl (fun a c => a * 2 + (c - 48)) a = a * 2 ^ k
  | 0 => by simp
  | k + 1 => by
    rw [List.replicate_succ', List.foldl_append, zeros_num a k]
    show a * 2 ^ k * 2 + (48 - 48) = a * 2 ^ (k + 1)
    rw [Nat.pow_succ, Nat.mul_assoc]
    rfl
theorem flat48 : ∀ k : Nat, (List.replicate k [48]).flatten = List.replicate k 48
  | 0 => rfl
  | k + 1 => by
    rw [List.replicate_succ, List.flatten_cons, flat48 k]
    rfl
theorem ok_law_my_two (T : Txt K mg) : OkF P w K mg base 1 (He.ga K "_law_my_two") ["_law_k"] spTwo := by
  obtain ⟨fd, F⟩ := T.fn 32 (st := s_law_my_two)
  refine ⟨fd, F.ok sc_law_my_two (fun vs H Q E h => ?_) (fun cdv A outer s H vs Q E hr h => ?_), F.binds (fun _ _ _ _ _ _ us hl => match us, hl with | [_], _ => rfl), F.kp⟩
  · obtain ⟨_, rfl, _⟩ := h
    rfl
  · obtain ⟨k, rfl, hk, q⟩ := h
    have l0 : ("0" : PySem.Str).length = 1 := by decide +kernel
    have l1 : ("1" : PySem.Str).length = 1 := by decide +kernel
    have c0 : ("0" : PySem.Str).cps.toList = [48] := by decide +kernel
    have c1 : TL.tl ("1" : PySem.Str) = [49] := by decide +kernel
    have er : (List.replicate k [48]).flatten = List.replicate k 48 := flat48 k
    have etl : TL.tl (("1" : PySem.Str) ++ ⟨(List.replicate k ("0" : PySem.Str).cps.toList).flatten.toArray⟩) = 49 :: List.replicate k 48 := by
      rw [TL.tl_append, c1, TL.tl_mk, c0, er]
      rfl
    have elen : (⟨(List.replicate k ("0" : PySem.Str).cps.toList).flatten.toArray⟩ : PySem.Str).length = k := by
      rw [c0, er]
      show (List.replicate k 48).toArray.size = k
      simp
    refine ⟨_, pss_one (ps_ret (pe_callTy call_int_bin (by rfl) T.m_int (by decide +kernel) (pa_cons (pe_op op_add_str pe_str (pe_op op_mulS pe_str (pv 0))) (pa_cons pe_int pa_nil)))), ?_⟩
    refine ⟨_, rfl, _, k, rfl, rfl, by rw [l0]; omega, by omega, by rw [l0]; decide, _, _, rfl, rfl, by rw [l1, elen]; have : sizeLine = 16777216 := sizeLine_eq; omega, _, rfl, ?_, ?_, ?_, ?_⟩
    · rw [etl]; exact fun z => by cases z
    · rw [Str.length_append, l1, elen]; omega
    · intro c hc
      rw [etl] at hc
      rcases List.mem_cons.mp hc with e | e
      · rw [e]; exact .inr rfl
      · rw [(List.mem_replicate.mp e).2]; exact .inl rfl
    · have en : Bn.binNum (TL.tl (("1" : PySem.Str) ++ ⟨(List.replicate k ("0" : PySem.Str).cps.toList).flatten.toArray⟩)) = 2 ^ k := by
        rw [etl]
        show (List.replicate k 48).foldl (fun a c => a * 2 + (c - 48)) (0 * 2 + (49 - 48)) = 2 ^ k
        rw [zeros_num]
        simp
      show Q (.int ((Bn.binNum (TL.tl (("1" : PySem.Str) ++ ⟨(List.replicate k ("0" : PySem.Str).cps.toList).flatten.toArray⟩)) : Nat) : Int)) H
      rw [en, Int.natCast_pow]
      exact q
end
end K7
/-! text K7LC -/
set_option maxHeartbeats 4000000
namespace K7
open PySem PySem.Spec PySem.Calls PyProof.Rows L2
section
variable {P : Program} {w : World} {K : PySem.W.Frag} {mg : PySem.Str → Option Value} {base : Heap}
theorem pe_bmK {X : Cx} {K : PySem.W.Frag} {T name id : String} {r : V → List V → Hp → VK → Prop} {o e : Expr} {es : List Expr} {to : TE} {t : TA} {apos cpos : Pos} (pa : PlainAttrs T) (slot : Slot T name id) (hty : typeOf (.builtin id) = pure (.type "method_descriptor")) (hm : MtR X id r) (ho : PE X o to) (ha : PA X (e :: es) t) (hK : X.K = K := by rfl)
    (hbase : attributeBase o name X.env (eval o X.env) = eval o X.env := by rfl)
    (hfew : ((backTo cpos (starEach (e :: es) X.env)).all (fun x => !x.1) && (backToKw cpos (keywordEach [] X.env)).all (fun x => x.1.isSome)
      && decide ((e :: es).length + ([] : List Keyword).length + (if ([] : List Keyword).isEmpty then 0 else 1) < 30)) = true := by rfl)
    (hline : (apos.endLine == cpos.line) = true := by rfl) (hs : starEach (e :: es) X.env = (false, eval e X.env) :: starEach es X.env := by rfl) (hplain : (backTo cpos (starEach es X.env)).any (·.1) = false := by rfl) :
    PE X (.Call (.Attribute o name apos) (e :: es) [] cpos) (tBM K T r to t) := by
  subst hK
  exact pe_bm pa slot hty hm ho ha hbase hfew hline hs hplain
theorem mt_lcountK {X : Cx} {K : PySem.W.Frag} (h : X.K = K := by rfl) : MtR X "list.count" (rCntI K) := by
  subst h
  exact mt_lcount
theorem par_word (c : Nat) : ("01" : PySem.Str).cps[c % 2]? = some (sgn (decide (c % 2 = 1))) := by
  have h : c % 2 = 0 ∨ c % 2 = 1 := by omega
  rcases h with h | h
  · rw [h]; decide +kernel
  · rw [h]; decide +kernel
theorem count_keep (f : Nat → Bool) : ∀ l : List Nat, (l.filter f).length = (l.map f).count true
  | [] => rfl
  | a :: l => by
    rw [List.filter_cons, List.map_cons, List.count_cons]
    cases h : f a with
    | true => rw [if_pos rfl, List.length_cons, count_keep f l]; rfl
    | false => rw [if_neg Bool.false_ne_true, count_keep f l]; rfl
theorem keep_par (f : Nat → Bool) (l : List Nat) : decide ((l.filter f).length % 2 = 1) = par (l.map f) := by rw [count_keep, par_count]
def wovenBits (n m R : Nat) (fs : List Fm) (bs : List Bool) : List Bool := (List.range (R * n * m)).map fun k => truBy n m fs bs (dec n m k)
def spWoven : Sp := fun vs H Q _ => ∃ (a : Addr) (fs : List Fm) (bs : List Bool) (n m R : Nat), vs = [.ref a, .str (bt bs), .int n, .int m, .int R] ∧ FormsAt H a fs ∧ FmOk fs ∧ fsize fs = bs.length ∧ fsize fs ≤ 40 ∧ fs.length ≤ 40 ∧ 0 < n ∧ 0 < m ∧ n ≤ 8 ∧ m ≤ 8 ∧ R ≤ 6 ∧
  ∀ H', Same H H' → Q (.str (bt (wovenBits n m R fs bs))) H'
theorem sc_law_my_woven : FnScope ["_law_forms", "_law_bits", "_law_n", "_law_m", "_law_rounds", "_law_found", "_law_r", "_law_i", "_law_j", "_law_ones", "_law_place"] ["_law_forms", "_law_bits", "_law_n", "_law_m", "_law_rounds"] (defScope s_law_my_woven) := ⟨rfl, rfl, rfl, by decide +kernel, rfl, by decide +kernel, by decide +kernel⟩
theorem ok_law_my_woven (T : Txt K mg) : OkF P w K mg base 2 (He.ga K "_law_my_woven") ["_law_forms", "_law_bits", "_law_n", "_law_m", "_law_rounds"] spWoven := by
  obtain ⟨fd, F⟩ := T.fn 29 (st := s_law_my_woven)
  obtain ⟨f1, G1, b1, k1⟩ := ok_law_my_meetings (P := P) (w := w) (base := base) T
  obtain ⟨f2, G2, b2, k2⟩ := ok_law_my_places (P := P) (w := w) (base := base) T
  refine ⟨fd, F.ok sc_law_my_woven (fun vs H Q E h => ?_) (fun cdv A outer s H vs Q E hr h => ?_), F.binds (fun _ _ _ _ _ _ us hl => match us, hl with | [_, _, _, _, _], _ => rfl), F.kp⟩
  · obtain ⟨_, _, _, _, _, _, rfl, _⟩ := h
    rfl
  · obtain ⟨a, fs, bs, n, m, R, rfl, hf, ho, hsz, h40, hfl, hn, hm, ln, lm, lR, k⟩ := h
    have nd := sc_law_my_woven.nd
    have sz : sizeLine = 16777216 := sizeLine_eq
    refine ⟨_, pss_cons (ps_set (i := 5) nd rfl (Or.inl rfl) pe_str)
      (pss_cons (ps_for PassesOwn.never rfl (pi_list (pe_call G1 hr (by rfl) T.g__law_my_meetings k1 b1 .nil pass0 (pa_cons (pv 2) (pa_cons (pv 3) (pa_cons (pv 4) pa_nil))))) (pg_tup (by rfl) (pgs_cons (pg_name (i := 6) nd rfl (Or.inl rfl)) (pgs_cons (pg_name (i := 7) nd rfl (Or.inl rfl)) (pgs_cons (pg_name (i := 8) nd rfl (Or.inl rfl)) pgs_nil))))
        (pss_cons (ps_setLc (i := 9) (own := [("_law_place", 10)]) (g := gName 10) (by rfl) nd rfl rfl (sw_true rfl rfl rfl (by decide +kernel)) (pi_list (pe_call G2 hr (by rfl) T.g__law_my_places k2 b2 .nil pass0 (pa_cons (pv 0) (pa_cons (pv 6) (pa_cons (pv 7) (pa_cons (pv 8) (pa_cons (pv 2) (pa_cons (pv 3) pa_nil))))))))
            (blkOk_by (N := ["_law_forms", "_law_bits", "_law_n", "_law_m", "_law_rounds", "_law_found", "_law_r", "_law_i", "_law_j", "_law_ones", "_law_place"]) (sc := defScope s_law_my_woven) (by decide +kernel))
            (fun _ _ _ _ _ => pg_name (i := 10) nd rfl (Or.inl rfl)) (fun _ _ _ _ _ => pts_one (pt_cmpR op_eq (pe_item_str (pv 1) (pv 10) (fun _ _ => rfl)) pe_str (nomark _))) (fun _ _ _ _ _ => pv 10))
        (pss_one (ps_aug (i := 5) nd rfl (Or.inl rfl) (pe_item_str pe_str (pe_op op_modN (pe_callTy call_int1 (by rfl) T.m_int (by decide +kernel) (pa_cons (pe_callB call_len_seq (by rfl) T.m_len boot_len (pa_cons (pv 9) pa_nil)) pa_nil)) pe_int) (fun _ _ => rfl)) iop_add_str))))
      (pss_one (ps_ret (pv 5)))), ?_⟩
    have hbig : R * n * m ≤ 6 * 8 * 8 := Nat.mul_le_mul (Nat.mul_le_mul lR ln) lm
    refine ⟨_, rfl, _, rfl, _, rfl, n, m, R, rfl, by omega, by omega, by omega, hn, hm, fun L H1 s1 hM => ?_⟩
    obtain ⟨as, hL1, hal, ha⟩ := id hM
    refine ⟨L, rfl, ⟨_, SqL.of hL1⟩, ?_⟩
    refine for_it (walk_list (K := K) (a := L) (xs := as.map V.ref)) (fun c σ H' => ∃ v1 v2 v3 v4 : Option V, σ = [some (.ref a), some (.str (bt bs)), some (.int n), some (.int m), some (.int R), some (.str (bt ((List.range c).map fun k => truBy n m fs bs (dec n m k)))), v1, v2, v3, v4, none] ∧ Same H1 H') ⟨none, none, none, none, by rw [← bt_nil]; rfl, Same.refl _⟩ (fun c σ H' _ ⟨_, _, _, _, _, s'⟩ => SqL.of (s' _ _ hL1)) (fun c x σ H2 H3 hc ⟨v1, v2, v3, v4, e, s2⟩ y => ?_) (fun σ H2 ⟨v1, v2, v3, v4, e, s2⟩ => ?_)
    · obtain ⟨rfl, hx⟩ := y
      subst e
      rw [List.length_map, hal] at hc
      rw [List.getElem?_map, List.getElem?_eq_getElem (by omega : c < as.length)] at hx
      cases hx
      have htup := s2 _ _ (ha c as[c] (List.getElem?_eq_getElem (by omega)))
      have hrd := (dec_lt (n := n) (m := m) (R := R) (k := c) hc).1
      refine ⟨as[c], _, rfl, SqT.of htup, rfl, _, _, rfl, _, _, rfl, _, _, rfl, rfl, ?_⟩
      generalize hmt : dec n m c = mt at hrd htup
      obtain ⟨r, i, j⟩ := mt
      have hrd : r < R := hrd
      refine ⟨_, rfl, _, rfl, _, rfl, _, rfl, _, rfl, _, rfl, a, fs, r, i, j, n, m, rfl, hf.same (s1.trans s2), ho, by omega, by omega, by omega, fun D H4 s4 hD0 hD => ?_⟩
      refine ⟨D, rfl, ⟨_, SqL.of hD⟩, fun D2 hD2 => ?_⟩
      refine lc_it (walk_list (K := K) (a := D) (xs := (places n m (r, i, j) fs).map fun p => V.int (p : Nat))) (fun d H' => Same H4 H' ∧ H' D2 = some (.lst ((((places n m (r, i, j) fs).take d).filter fun p => bs.getD p false).map fun p => V.int (p : Nat)))) ⟨same_upd (Same.refl _) hD2, upd_same⟩ (fun d H' _ q => SqL.of (q.1 _ _ hD)) (fun d x H5 H6 hd q y => ?_) (fun H5 q => ?_)
      · obtain ⟨rfl, hx⟩ := y
        obtain ⟨s5, q5⟩ := q
        rw [List.length_map] at hd
        rw [List.getElem?_map, List.getElem?_eq_getElem hd] at hx
        cases hx
        have hget : (places n m (r, i, j) fs)[d]? = some (places n m (r, i, j) fs)[d] := List.getElem?_eq_getElem hd
        have hp : (places n m (r, i, j) fs)[d] < bs.length := by rw [← hsz]; exact places_lt ho _ (List.getElem_mem hd)
        have hlen := places_len (n := n) (m := m) (t := (r, i, j)) (fs := fs)
        generalize hpp : (places n m (r, i, j) fs)[d] = p at hp hget
        have hb : bs[p]? = some (bs.getD p false) := by rw [List.getD_eq_getElem?_getD, List.getElem?_eq_getElem hp] <;> rfl
        refine ⟨rfl, _, rfl, _, rfl, _, _, sgn (bs.getD p false), rfl, rfl, by omega, by omega, by rw [bt_len]; omega, by rw [Int.toNat_natCast]; exact bt_get hb, rfl, _, rfl, ?_⟩
        rw [dec_one]
        have et : ((places n m (r, i, j) fs).take (d + 1)).filter (fun p => bs.getD p false) = ((places n m (r, i, j) fs).take d).filter (fun p => bs.getD p false) ++ (if bs.getD p false = true then [p] else []) := by
          rw [take_snoc hget, List.filter_append, List.filter_cons, List.filter_nil]
        cases hb2 : bs.getD p false with
        | true =>
          refine iteT ⟨_, rfl, _, q5, ?_, same_upd s5 hD2, ?_⟩
          · rw [List.length_map]
            have := List.length_filter_le (fun p => bs.getD p false) ((places n m (r, i, j) fs).take d)
            rw [List.length_take] at this
            omega
          · rw [upd_same, et, hb2, List.map_append]
            rfl
        | false =>
          refine iteF ⟨s5, ?_⟩
          rw [et, hb2, q5]
          show _ = some (HO.lst ((_ ++ []).map _))
          rw [List.append_nil]
      · obtain ⟨s5, q5⟩ := q
        rw [List.length_map, List.take_length] at q5
        refine ⟨_, rfl, _, rfl, D2, _, rfl, .inl (SqL.of q5), .inl ⟨_, rfl, _, _, rfl, rfl, (by show (2 : Int) ≠ 0; decide), ?_⟩⟩
        have ef : ((((((places n m (r, i, j) fs).filter fun p => bs.getD p false).map fun p => V.int (p : Nat)).length : Nat) : Int)).fmod 2 = ((((places n m (r, i, j) fs).filter fun p => bs.getD p false).length % 2 : Nat) : Int) := by
          rw [List.length_map, Int.fmod_eq_emod_of_nonneg _ (by decide)]
          rfl
        have l01 : ("01" : PySem.Str).length = 2 := by decide +kernel
        refine ⟨_, ((((places n m (r, i, j) fs).filter fun p => bs.getD p false).length % 2 : Nat) : Int), _, rfl, congrArg V.int ef, by omega, by omega, by rw [l01]; omega, by rw [Int.toNat_natCast]; exact par_word _, ?_⟩
        refine ⟨_, _, rfl, rfl, ?_, some (.int r), some (.int i), some (.int j), some (.ref D2), ?_, (s2.trans s4).trans s5⟩
        · rw [bt_len, List.length_map, List.length_range]
          show c + 1 ≤ sizeLine
          omega
        · rw [bt_one, bt_app, List.range_succ, List.map_append]
          rw [keep_par, show (List.map (fun k => truBy n m fs bs (dec n m k)) [c]) = [truBy n m fs bs (r, i, j)] by rw [List.map_cons, List.map_nil, hmt]]
          rfl
    · subst e
      rw [List.length_map, hal]
      exact ⟨_, rfl, k H2 (s1.trans s2)⟩
theorem step_cell {n m R : Nat} {tr : Nat → Bool} {a : Nat} (ha : a < n * m) : stepS (bt ((List.range (R * n * m)).map tr)) a (n * m) = bt (cellBits n m R tr a) := by
  unfold stepS
  have hlen : (bt ((List.range (R * n * m)).map tr)).length = R * (n * m) := by rw [bt_len, List.length_map, List.length_range, Nat.mul_assoc]
  by_cases hR : R = 0
  · subst hR
    have e0 : (0 * (n * m) - a + n * m - 1) / (n * m) = 0 := by
      rw [Nat.zero_mul]
      exact Nat.div_eq_of_lt (by omega)
    rw [hlen, e0]
    rfl
  have hcnt : ((bt ((List.range (R * n * m)).map tr)).length - a + n * m - 1) / (n * m) = R := by
    rw [hlen]
    have h1 : 1 * (n * m) ≤ R * (n * m) := Nat.mul_le_mul_right _ (by omega)
    have e : R * (n * m) - a + n * m - 1 = n * m * R + (n * m - 1 - a) := by
      rw [Nat.mul_comm (n * m) R]
      omega
    rw [e, Nat.mul_add_div (by omega), Nat.div_eq_of_lt (by omega), Nat.add_zero]
  rw [hcnt]
  show (⟨_⟩ : PySem.Str) = ⟨_⟩
  congr 2
  unfold cellBits
  rw [List.map_map]
  have hf : ∀ l : List Nat, (∀ k ∈ l, k < R) → l.filterMap (fun k => (bt ((List.range (R * n * m)).map tr)).cps[a + n * m * k]?) = l.map (sgn ∘ fun r => tr (a + r * (n * m))) := by
    intro l
    induction l with
    | nil => intro _; rfl
    | cons k l ih =>
      intro hl
      have hk := hl k List.mem_cons_self
      have hin : a + n * m * k < R * n * m := by
        have := Nat.mul_le_mul_right (n * m) (show k + 1 ≤ R by omega)
        rw [Nat.add_mul, Nat.one_mul, Nat.mul_comm k] at this
        have e : R * n * m = R * (n * m) := Nat.mul_assoc _ _ _
        rw [e]
        omega
      have e : (bt ((List.range (R * n * m)).map tr)).cps[a + n * m * k]? = some (sgn (tr (a + n * m * k))) := bt_get (by rw [List.getElem?_map, List.getElem?_range hin] <;> rfl)
      rw [List.filterMap_cons, e, List.map_cons, ih fun k hk => hl k (List.mem_cons_of_mem _ hk)]
      show sgn (tr (a + n * m * k)) :: _ = sgn (tr (a + k * (n * m))) :: _
      rw [Nat.mul_comm (n * m) k]
  exact hf _ fun k hk => List.mem_range.mp hk
def spMyCross : Sp := fun vs H Q _ => ∃ (n m R : Nat) (tr : Nat → Bool), vs = [.str (bt ((List.range (R * n * m)).map tr)), .int n, .int m, .int R] ∧ 0 < n ∧ 0 < m ∧ 0 < R ∧ n ≤ 8 ∧ m ≤ 8 ∧ R ≤ 6 ∧ ∀ D H', Same H H' → H' D = some (.dT (canon n m R tr)) → Q (.ref D) H'
theorem sc_law_my_crossings : FnScope ["_law_text", "_law_n", "_law_m", "_law_rounds", "_law_found", "_law_i", "_law_j"] ["_law_text", "_law_n", "_law_m", "_law_rounds"] (defScope s_law_my_crossings) := ⟨rfl, rfl, rfl, by decide +kernel, rfl, by decide +kernel, by decide +kernel⟩
theorem ok_law_my_crossings (T : Txt K mg) : OkF P w K mg base 1 (He.ga K "_law_my_crossings") ["_law_text", "_law_n", "_law_m", "_law_rounds"] spMyCross := by
  obtain ⟨fd, F⟩ := T.fn 30 (st := s_law_my_crossings)
  refine ⟨fd, F.ok sc_law_my_crossings (fun vs H Q E h => ?_) (fun cdv A outer s H vs Q E hr h => ?_), F.binds (fun _ _ _ _ _ _ us hl => match us, hl with | [_, _, _, _], _ => rfl), F.kp⟩
  · obtain ⟨_, _, _, _, rfl, _⟩ := h
    rfl
  · obtain ⟨n, m, R, tr, rfl, hn, hm, hR, ln, lm, lR, k⟩ := h
    have nd := sc_law_my_crossings.nd
    have hu := hu_of hr
    refine ⟨_, pss_cons (ps_set (i := 4) nd rfl (Or.inl rfl) pe_dnewT)
      (pss_cons (ps_for PassesOwn.never rfl (pi_range1 (by rfl) T.m_range (pa_cons (pv 1) pa_nil)) (pg_name (i := 5) nd rfl (Or.inl rfl))
        (pss_one (ps_for PassesOwn.never rfl (pi_range1 (by rfl) T.m_range (pa_cons (pv 2) pa_nil)) (pg_name (i := 6) nd rfl (Or.inl rfl))
          (pss_one (ps_dput hu (pv 4) (pe_tup (pa_cons (pv 5) (pa_cons (pv 6) pa_nil))) (pe_stepS (pv 0) (pe_op op_add (pe_op op_mul (pv 5) (pv 2)) (pv 6)) (pe_op op_mul (pv 1) (pv 2))) rfl)))))
      (pss_one (ps_ret (pv 4)))), ?_⟩
    refine fun D hD => ?_
    have hnm : n * m ≤ 64 := Nat.le_trans (Nat.mul_le_mul ln lm) (by decide)
    have hbig : R * n * m ≤ 6 * 8 * 8 := Nat.mul_le_mul (Nat.mul_le_mul lR ln) lm
    have sz : sizeLine = 16777216 := sizeLine_eq
    refine ⟨_, rfl, (n : Nat), rfl, by omega, by omega, ?_⟩
    refine for_it (walk_range (lo := 0) (n := n)) (fun i σ H' => ∃ v1 v2 : Option V, σ = [some (.str (bt ((List.range (R * n * m)).map tr))), some (.int n), some (.int m), some (.int R), some (.ref D), v1, v2] ∧ Same H H' ∧ H' D = some (.dT ((List.range (i * m)).map fun c => (cellKey m c, V.str (bt (cellBits n m R tr c)))))) ⟨none, none, rfl, same_upd (Same.refl _) hD, by rw [upd_same, Nat.zero_mul] <;> rfl⟩ (fun _ _ _ _ _ => trivial) (fun i x σ H1 H2 hi ⟨v1, v2, e, s1, q1⟩ y => ?_) (fun σ H1 ⟨v1, v2, e, s1, q1⟩ => ?_)
    · obtain ⟨rfl, rfl⟩ := y
      subst e
      refine ⟨_, rfl, (m : Nat), rfl, by omega, by omega, ?_⟩
      refine for_it (walk_range (lo := 0) (n := m)) (fun j σ H' => ∃ v2 : Option V, σ = [some (.str (bt ((List.range (R * n * m)).map tr))), some (.int n), some (.int m), some (.int R), some (.ref D), some (.int (0 + (i : Nat))), v2] ∧ Same H H' ∧ H' D = some (.dT ((List.range (i * m + j)).map fun c => (cellKey m c, V.str (bt (cellBits n m R tr c)))))) ⟨v2, rfl, s1, q1⟩ (fun _ _ _ _ _ => trivial) (fun j x σ H3 H4 hj ⟨v2, e, s3, q3⟩ y => ?_) (fun σ H3 ⟨v2, e, s3, q3⟩ => ⟨_, v2, e, s3, by rw [Nat.add_mul, Nat.one_mul]; exact q3⟩)
      obtain ⟨rfl, rfl⟩ := y
      subst e
      have hin : i * m + j < n * m := by
        have := Nat.mul_le_mul_right m hi
        rw [Nat.succ_mul] at this
        omega
      refine ⟨_, rfl, _, rfl, _, rfl, _, _, rfl, rfl, .inl (by constructor <;> omega), _, rfl, _, _, rfl, rfl, _, rfl, _, rfl, _, _, rfl, rfl, .inl (by constructor <;> omega), ?_⟩
      refine ⟨_, i * m + j, n * m, rfl, congrArg V.int (by rw [Int.natCast_add, Int.natCast_mul, Int.zero_add, Int.zero_add]), congrArg V.int (Int.natCast_mul n m).symm, ?_, by omega, ?_, ?_⟩
      · rw [bt_len, List.length_map, List.length_range]
        have h1 : 1 * (n * m) ≤ R * (n * m) := Nat.mul_le_mul_right _ hR
        have e : R * n * m = R * (n * m) := Nat.mul_assoc _ _ _
        rw [Nat.one_mul] at h1
        rw [e]
        omega
      · rw [bt_len, List.length_map, List.length_range]
        omega
      rw [step_cell hin]
      refine ⟨_, rfl, _, rfl, _, rfl, (by show 2 ≤ sizeLine; decide), fun t ht => ?_⟩
      have s5 : Same H4 (upd H4 t (.tup [.int (0 + (i : Nat)), .int (0 + (j : Nat))])) := same_upd (Same.refl _) ht
      have ekey : (upd H4 t (.tup [.int (0 + (i : Nat)), .int (0 + (j : Nat))])) t = some (.tup ((cellKey m (i * m + j)).map kV)) := by
        rw [upd_same, key_tup]
        unfold pairTup
        rw [show (i * m + j) / m = i by rw [Nat.mul_comm, Nat.mul_add_div hm, Nat.div_eq_of_lt hj, Nat.add_zero], show (i * m + j) % m = j by rw [Nat.mul_comm, Nat.mul_add_mod, Nat.mod_eq_of_lt hj], Int.zero_add, Int.zero_add]
      refine ⟨D, _, rfl, DPut.t (k := cellKey m (i * m + j)) (s5 _ _ q3) ekey (by rw [List.length_map, List.length_range]; omega), ?_⟩
      refine ⟨_, rfl, same_upd (s3.trans s5) hD, ?_⟩
      rw [upd_same, canon_put hm, ← Nat.add_assoc, List.range_succ, List.map_append]
      rfl
    · subst e
      exact ⟨_, rfl, k D H1 s1 q1⟩
end
end K7
/-! text K7LD -/
set_option maxHeartbeats 4000000
namespace K7
open PySem PySem.Spec PySem.Calls PyProof.Rows L2
section
variable {P : Program} {w : World} {K : PySem.W.Frag} {mg : PySem.Str → Option Value} {base : Heap}
theorem count_int (p : Nat) : ∀ ps : List Nat, (ps.map fun q => ((q : Nat) : Int)).count (p : Int) = ps.count p
  | [] => rfl
  | q :: ps => by
    rw [List.map_cons, List.count_cons, List.count_cons, count_int p ps]
    congr 1
    by_cases h : q = p
    · rw [h, beq_self_eq_true, beq_self_eq_true]
    · rw [beq_eq_false_iff_ne.mpr h, beq_eq_false_iff_ne.mpr (fun e => h (by omega))]
theorem count_bt : ∀ l : List Bool, (l.map fun b => bt [b]).count ("1" : PySem.Str) = l.count true
  | [] => rfl
  | b :: l => by
    rw [List.map_cons, List.count_cons, List.count_cons, count_bt l]
    congr 1
    cases b with
    | true => rw [bt_1, beq_self_eq_true]; rfl
    | false => rw [bt_0, show (("0" : PySem.Str) == "1") = false by decide +kernel]; rfl
theorem odd_nil (ps : List Nat) : (ps.filter fun p => decide (ps.count p % 2 = 1)) = [] ↔ maskOf ps = 0 := by
  rw [mask_zero_iff, List.filter_eq_nil_iff]
  constructor
  · intro h p hp
    have := h p hp
    rw [decide_eq_true_iff] at this
    exact this
  · intro h p hp
    rw [decide_eq_true_iff]
    exact h p hp
def spRefuses : Sp := fun vs H Q _ => ∃ (a b c : Addr) (n m R : Nat) (tr : Nat → Bool) (fs : List Fm) (ts : List (Nat × Nat × Nat)), vs = [.ref a, .ref b, .int n, .int m, .ref c] ∧ ClothAt H a n m R tr ∧ FormsAt H b fs ∧ FmOk fs ∧ fsize fs ≤ 40 ∧ fs.length ≤ 40 ∧ ThingAt H c ts ∧ ts.length ≤ 100 ∧
  (∀ x ∈ ts, x.1 < R ∧ x.2.1 < n ∧ x.2.2 < m) ∧ ∀ H', Same H H' → Q (.bl (decide (maskOf (ts.flatMap fun x => places n m x fs) = 0) && par (ts.map (trAt n m tr)))) H'
theorem sc_law_my_refuses : FnScope ["_law_cloth", "_law_forms", "_law_n", "_law_m", "_law_thing", "_law_places", "_law_r", "_law_i", "_law_j", "_law_odd", "_law_truths", "_law_place"] ["_law_cloth", "_law_forms", "_law_n", "_law_m", "_law_thing"] (defScope s_law_my_refuses) := ⟨rfl, rfl, rfl, by decide +kernel, rfl, by decide +kernel, by decide +kernel⟩
theorem ok_law_my_refuses (T : Txt K mg) : OkF P w K mg base 2 (He.ga K "_law_my_refuses") ["_law_cloth", "_law_forms", "_law_n", "_law_m", "_law_thing"] spRefuses := by
  obtain ⟨fd, F⟩ := T.fn 31 (st := s_law_my_refuses)
  obtain ⟨f2, G2, b2, k2⟩ := ok_law_my_places (P := P) (w := w) (base := base) T
  refine ⟨fd, F.ok sc_law_my_refuses (fun vs H Q E h => ?_) (fun cdv A outer s H vs Q E hr h => ?_), F.binds (fun _ _ _ _ _ _ us hl => match us, hl with | [_, _, _, _, _], _ => rfl), F.kp⟩
  · obtain ⟨_, _, _, _, _, _, _, _, _, rfl, _⟩ := h
    rfl
  · obtain ⟨a, b, c, n, m, R, tr, fs, ts, rfl, hC, hf, ho, hsz, hfl, hT, htl, hin, k⟩ := h
    have nd := sc_law_my_refuses.nd
    have hu := hu_of hr
    have sz : sizeLine = 16777216 := sizeLine_eq
    obtain ⟨kvs, ha, hCl⟩ := id hC
    have c3 := hCl.lR
    obtain ⟨as, hT1, hT2, hT3⟩ := id hT
    refine ⟨_, pss_cons (ps_set (i := 5) nd rfl (Or.inr rfl) (pe_lst pa_nil))
      (pss_cons (ps_for PassesOwn.never rfl (pi_list (pv 4)) (pg_tup (by rfl) (pgs_cons (pg_name (i := 6) nd rfl (Or.inl rfl)) (pgs_cons (pg_name (i := 7) nd rfl (Or.inl rfl)) (pgs_cons (pg_name (i := 8) nd rfl (Or.inl rfl)) pgs_nil))))
        (pss_one (ps_set (i := 5) nd rfl (Or.inr rfl) (pe_op op_cat (pv 5) (pe_call G2 hr (by rfl) T.g__law_my_places k2 b2 .nil pass0 (pa_cons (pv 1) (pa_cons (pv 6) (pa_cons (pv 7) (pa_cons (pv 8) (pa_cons (pv 2) (pa_cons (pv 3) pa_nil)))))))))))
      (pss_cons (ps_setLc (i := 9) (own := [("_law_place", 11)]) (g := gName 11) (by rfl) nd rfl rfl (sw_true rfl rfl rfl (by decide +kernel)) (pi_list (pv 5))
          (blkOk_by (N := ["_law_cloth", "_law_forms", "_law_n", "_law_m", "_law_thing", "_law_places", "_law_r", "_law_i", "_law_j", "_law_odd", "_law_truths", "_law_place"]) (sc := defScope s_law_my_refuses) (by decide +kernel))
          (fun _ _ _ _ _ => pg_name (i := 11) nd rfl (Or.inl rfl)) (fun _ _ _ _ _ => pts_one (pt_cmpR op_eq (pe_op op_modN (pe_callTy call_int1 (by rfl) T.m_int (by decide +kernel) (pa_cons (pe_bmK (K := K) PySem.F.plainAttrs_list PySem.F.slot_list_count PySem.F.type_list_count (mt_lcountK (K := K)) (pv 5) (pa_cons (pv 11) pa_nil)) pa_nil)) pe_int) pe_int (nomark _))) (fun _ _ _ _ _ => pv 11))
      (pss_cons (ps_setLc (i := 10) (own := [("_law_r", 6), ("_law_i", 7), ("_law_j", 8)]) (g := gTup K 3 (gCons (gName 6) (gCons (gName 7) (gCons (gName 8) gNil)))) (by rfl) nd rfl rfl (sw_true rfl rfl rfl (by decide +kernel)) (pi_list (pv 4))
          (blkOk_by (N := ["_law_cloth", "_law_forms", "_law_n", "_law_m", "_law_thing", "_law_places", "_law_r", "_law_i", "_law_j", "_law_odd", "_law_truths", "_law_place"]) (sc := defScope s_law_my_refuses) (by decide +kernel))
          (fun _ _ _ _ _ => pg_tup (by rfl) (pgs_cons (pg_name (i := 6) nd rfl (Or.inl rfl)) (pgs_cons (pg_name (i := 7) nd rfl (Or.inl rfl)) (pgs_cons (pg_name (i := 8) nd rfl (Or.inl rfl)) pgs_nil)))) (fun _ _ _ _ _ => pts_nil)
          (fun _ _ _ _ _ => pe_item_str (pe_dget hu (pv 0) (pe_tup (pa_cons (pv 7) (pa_cons (pv 8) pa_nil))) (fun _ _ => rfl)) (pv 6) (fun _ _ => rfl)))
      (pss_one (ps_ret (pe_and (pe_cmpR (OpR.or2 (op_eqD hr.units) (op_eqLen hr.units0)) (pv 9) (pe_lst pa_nil) (nomark _)) (pe_one (pe_cmpR op_eq (pe_op op_modN (pe_callTy call_int1 (by rfl) T.m_int (by decide +kernel) (pa_cons (pe_bm PySem.F.plainAttrs_list PySem.F.slot_list_count PySem.F.type_list_count mt_lcountS (pv 10) (pa_cons pe_str pa_nil)) pa_nil)) pe_int) pe_int (nomark _))))))))), ?_⟩
    refine ⟨Nat.zero_le _, fun P0 hP0 => ?_⟩
    have s0 : Same H (upd H P0 (.lst [])) := same_upd (Same.refl _) hP0
    refine ⟨_, rfl, c, rfl, ⟨_, SqL.of (s0 _ _ hT1)⟩, ?_⟩
    refine for_it (walk_list (K := K) (a := c) (xs := as.map V.ref)) (fun d σ H' => ∃ (D : Addr) (v1 v2 v3 : Option V), σ = [some (.ref a), some (.ref b), some (.int n), some (.int m), some (.ref c), some (.ref D), v1, v2, v3, none, none, none] ∧ Same H H' ∧ H' D = some (.lst (((ts.take d).flatMap fun x => places n m x fs).map fun p => V.int (p : Nat)))) ⟨P0, none, none, none, rfl, s0, upd_same⟩ (fun d σ H' _ ⟨_, _, _, _, _, s', _⟩ => SqL.of (s' _ _ hT1)) (fun d x σ H1 H2 hd ⟨D, v1, v2, v3, e, s1, q1⟩ y => ?_) (fun σ H1 ⟨D, v1, v2, v3, e, s1, q1⟩ => ?_)
    · obtain ⟨rfl, hx⟩ := y
      subst e
      rw [List.length_map, hT2] at hd
      rw [List.getElem?_map, List.getElem?_eq_getElem (by omega : d < as.length)] at hx
      cases hx
      have htd : ts[d]? = some ts[d] := List.getElem?_eq_getElem hd
      have htup := s1 _ _ (hT3 d as[d] ts[d] (List.getElem?_eq_getElem (by omega)) htd)
      obtain ⟨hr1, _, _⟩ := hin _ (List.getElem_mem hd)
      have hstep : (ts.take (d + 1)).flatMap (fun x => places n m x fs) = (ts.take d).flatMap (fun x => places n m x fs) ++ places n m ts[d] fs := by
        rw [take_snoc htd, List.flatMap_append, List.flatMap_cons, List.flatMap_nil, List.append_nil]
      have hlen : ((ts.take d).flatMap fun x => places n m x fs).length ≤ 100 * 40 := by
        have : ∀ l : List (Nat × Nat × Nat), (l.flatMap fun x => places n m x fs).length = l.length * fs.length := by
          intro l
          induction l with
          | nil => simp
          | cons z l ih => rw [List.flatMap_cons, List.length_append, ih, places_len, List.length_cons, Nat.succ_mul]; omega
        rw [this, List.length_take]
        exact Nat.mul_le_mul (by omega) hfl
      refine ⟨as[d], _, rfl, SqT.of htup, rfl, _, _, rfl, _, _, rfl, _, _, rfl, rfl, ?_⟩
      refine ⟨_, rfl, _, rfl, _, rfl, _, rfl, _, rfl, _, rfl, _, rfl, b, fs, ts[d].1, ts[d].2.1, ts[d].2.2, n, m, rfl, hf.same s1, ho, by omega, by omega, by omega, fun L H3 s3 hL0 hL => ?_⟩
      refine ⟨D, L, _, _, rfl, rfl, s3 _ _ q1, hL, by rw [List.length_map, List.length_map, places_len]; omega, fun p hp => ?_⟩
      refine ⟨p, _, _, _, rfl, (s1.trans s3).trans (same_upd (Same.refl _) hp), ?_⟩
      rw [upd_same, hstep, List.map_append]
    · subst e
      rw [List.length_map, hT2, List.take_length] at q1
      generalize hps : (ts.flatMap fun x => places n m x fs) = ps at q1 k
      have hpl : ps.length ≤ 100 * 40 := by
        have : ∀ l : List (Nat × Nat × Nat), (l.flatMap fun x => places n m x fs).length = l.length * fs.length := by
          intro l
          induction l with
          | nil => simp
          | cons z l ih => rw [List.flatMap_cons, List.length_append, ih, places_len, List.length_cons, Nat.succ_mul]; omega
        rw [← hps, this]
        exact Nat.mul_le_mul htl hfl
      refine ⟨_, rfl, D, rfl, ⟨_, SqL.of q1⟩, fun O hO => ?_⟩
      refine lc_it (walk_list (K := K) (a := D) (xs := ps.map fun p => V.int (p : Nat))) (fun d H' => Same H1 H' ∧ H' O = some (.lst (((ps.take d).filter fun p => decide (ps.count p % 2 = 1)).map fun p => V.int (p : Nat)))) ⟨same_upd (Same.refl _) hO, upd_same⟩ (fun d H' _ q => SqL.of (q.1 _ _ q1)) (fun d x H3 H4 hd q y => ?_) (fun H3 q => ?_)
      · obtain ⟨rfl, hx⟩ := y
        obtain ⟨s3, q3⟩ := q
        rw [List.length_map] at hd
        rw [List.getElem?_map, List.getElem?_eq_getElem hd] at hx
        cases hx
        have hget : ps[d]? = some ps[d] := List.getElem?_eq_getElem hd
        refine ⟨rfl, _, rfl, .inl ⟨rfl, _, SqL.of (s3 _ _ q1)⟩, _, rfl, D, ps.map (fun q => ((q : Nat) : Int)), ps[d], rfl, rfl, SqL.of (by rw [s3 _ _ q1, List.map_map] <;> rfl), ?_⟩
        rw [count_int]
        refine .inl ⟨_, rfl, _, _, rfl, rfl, (by show (2 : Int) ≠ 0; decide), rfl, _, rfl, ?_⟩
        have ec : decide (V.int ((((ps.count ps[d] : Nat) : Int)).fmod 2) = V.int 1) = decide (ps.count ps[d] % 2 = 1) := by
          rw [Int.fmod_eq_emod_of_nonneg _ (by decide), Bool.eq_iff_iff, decide_eq_true_iff, decide_eq_true_iff]
          constructor
          · intro h
            injection h with h
            omega
          · intro h
            congr 1
            omega
        show if decide (V.int ((((ps.count ps[d] : Nat) : Int)).fmod 2) = V.int 1) = true then _ else _
        rw [ec]
        have et : (ps.take (d + 1)).filter (fun p => decide (ps.count p % 2 = 1)) = (ps.take d).filter (fun p => decide (ps.count p % 2 = 1)) ++ (if decide (ps.count ps[d] % 2 = 1) = true then [ps[d]] else []) := by
          rw [take_snoc hget, List.filter_append, List.filter_cons, List.filter_nil]
        cases hb2 : decide (ps.count ps[d] % 2 = 1) with
        | true =>
          refine iteT ⟨_, rfl, _, q3, ?_, same_upd s3 hO, ?_⟩
          · rw [List.length_map]
            have := List.length_filter_le (fun p => decide (ps.count p % 2 = 1)) (ps.take d)
            rw [List.length_take] at this
            omega
          · rw [upd_same, et, hb2, List.map_append]
            rfl
        | false =>
          refine iteF ⟨s3, ?_⟩
          rw [et, hb2, q3]
          show _ = some (HO.lst ((_ ++ []).map _))
          rw [List.append_nil]
      · obtain ⟨s3, q3⟩ := q
        rw [List.length_map, List.take_length] at q3
        have s13 := s1.trans s3
        refine ⟨_, rfl, c, rfl, ⟨_, SqL.of (s13 _ _ hT1)⟩, fun U hU => ?_⟩
        refine lc_flat (walk_list (K := K) (a := c) (xs := as.map V.ref)) (fun d => .str (bt [match ts[d]? with | some x => trAt n m tr x | none => false])) hU (by rw [List.length_map, hT2]; omega) (fun H4 s4 => SqL.of ((s13.trans s4) _ _ hT1)) (fun d x H4 H5 Kt hd s4 y q => ?_) (fun i H1 x H2 y => by rw [y.1]; exact Same.refl _) (fun H4 s4 eU => ?_)
        · obtain ⟨rfl, hx⟩ := y
          rw [List.length_map, hT2] at hd
          rw [List.getElem?_map, List.getElem?_eq_getElem (by omega : d < as.length)] at hx
          cases hx
          have htd : ts[d]? = some ts[d] := List.getElem?_eq_getElem hd
          have s14 := s13.trans s4
          have htup0 := hT3 d as[d] ts[d] (List.getElem?_eq_getElem (by omega)) htd
          rw [htd] at q
          obtain ⟨hr1, hi1, hj1⟩ := hin _ (List.getElem_mem hd)
          generalize ts[d] = x at q hr1 hi1 hj1 htup0
          obtain ⟨r, i, j⟩ := x
          have hr1 : r < R := hr1
          have hi1 : i < n := hi1
          have hj1 : j < m := hj1
          have htup := s14 _ _ htup0
          refine ⟨as[d], _, rfl, SqT.of htup, rfl, _, _, rfl, _, _, rfl, _, _, rfl, rfl, rfl, ?_⟩
          refine ⟨_, rfl, _, rfl, _, rfl, (by show 2 ≤ sizeLine; decide), fun t ht => ?_⟩
          have s5 : Same H5 (upd H5 t (.tup [.int i, .int j])) := same_upd (Same.refl _) ht
          have g : DGet (upd H5 t (.tup [.int i, .int j])) a (.ref t) (some (.str (bt (cellBits n m R tr (i * m + j))))) := by
            rw [← hCl.at_ hi1 hj1]
            exact DGet.t (k := [.inl (i : Nat), .inl (j : Nat)]) ((s14.trans s5) _ _ ha) upd_same
          have cb : (cellBits n m R tr (i * m + j))[r]? = some (tr ((r * n + i) * m + j)) := cell_bit hr1
          refine ⟨a, _, rfl, g, _, rfl, _, _, sgn (tr ((r * n + i) * m + j)), rfl, rfl, by show 0 ≤ (r : Int); omega, by show (r : Int) < 2 ^ 63; omega, by rw [bt_len, cell_len]; show (r : Int) < (R : Int); omega, by show _[(r : Int).toNat]? = _; rw [Int.toNat_natCast]; exact bt_get cb, q _ s5⟩
        · rw [List.length_map, hT2, range_map_get ts _ (fun x => V.str (bt [trAt n m tr x])) (fun i hi => by rw [List.getElem?_eq_getElem hi])] at eU
          have q4 := s4 _ _ q3
          refine ⟨_, rfl, Nat.zero_le _, fun L hL => ?_⟩
          have sL : Same H4 (upd H4 L (.lst [])) := same_upd (Same.refl _) hL
          have eU' : (ts.map fun x => V.str (bt [trAt n m tr x])) = ((ts.map (trAt n m tr)).map fun b => bt [b]).map V.str := by rw [List.map_map, List.map_map] <;> rfl
          have ec : decide (V.int ((((((ts.map (trAt n m tr)).map fun b => bt [b]).count ("1" : PySem.Str) : Nat) : Int)).fmod 2) = V.int 1) = par (ts.map (trAt n m tr)) := by
            rw [count_bt, par_count, Int.fmod_eq_emod_of_nonneg _ (by decide), Bool.eq_iff_iff, decide_eq_true_iff, decide_eq_true_iff]
            constructor
            · intro h
              injection h with h
              omega
            · intro h
              congr 1
              omega
          have sAll := (s13.trans s4).trans sL
          have hodd := odd_nil ps
          by_cases hz : maskOf ps = 0
          · have h0 := hodd.mpr hz
            rw [h0] at q4
            refine .inl ⟨.list [], .list [], .lst (SqL.of (sL _ _ q4)) .nil, .lst (SqL.of upd_same) .nil, rfl, rfl, true, rfl, iteT ?_⟩
            have z := k _ sAll
            rw [decide_eq_true hz, Bool.true_and] at z
            refine ⟨_, rfl, .inl ⟨rfl, _, SqL.of (sL _ _ eU)⟩, U, (ts.map (trAt n m tr)).map (fun b => bt [b]), ("1" : PySem.Str), rfl, rfl, SqL.of (by rw [sL _ _ eU, eU']), .inl ⟨_, rfl, _, _, rfl, rfl, (by show (2 : Int) ≠ 0; decide), rfl, ?_⟩⟩
            show Q (.bl (decide (V.int ((((((ts.map (trAt n m tr)).map fun b => bt [b]).count ("1" : PySem.Str) : Nat) : Int)).fmod 2) = V.int 1))) _
            rw [ec]
            exact z
          · have hne : ((ps.filter fun p => decide (ps.count p % 2 = 1)).map fun p => V.int (p : Nat)) ≠ [] := fun h => hz (hodd.mp (List.map_eq_nil_iff.mp h))
            refine .inr ⟨O, L, _, _, rfl, rfl, SqL.of (sL _ _ q4), SqL.of upd_same, fun h => hne (List.length_eq_zero_iff.mp h), false, rfl, iteF ?_⟩
            have z := k _ sAll
            rw [decide_eq_false hz, Bool.false_and] at z
            exact z
end
end K7
/-! text K7LE -/
set_option maxHeartbeats 4000000
namespace K7
open PySem PySem.Spec PySem.Calls PyProof.Rows L2
section
variable {P : Program} {w : World} {K : PySem.W.Frag} {mg : PySem.Str → Option Value} {base : Heap}
theorem BagAt.at_ {H : Hp} {b c : Addr} (h : BagAt H b c) : ∃ xs, H b = some (.lst xs) := by
  obtain ⟨g, x, k, cells, hb, _⟩ := h
  exact ⟨_, hb⟩
theorem BagAt.cell {H : Hp} {b c : Addr} (h : BagAt H b c) : ∃ xs, H c = some (.lst xs) := by
  obtain ⟨g, x, k, cells, hb, hc, _⟩ := h
  exact ⟨_, hc⟩
theorem Bd.nl {b c : Addr} {H H' : Hp} (s : Bd b H H') (h : BagAt H b c) : Nl H H' := fun x o n e => by
  obtain ⟨xs, hb⟩ := h.at_
  exact s x o (fun q => by rw [q, hb] at e; exact n xs (Option.some.inj e).symm) e
theorem BagAt.same {H H' : Hp} {b c : Addr} (h : BagAt H b c) (s : Same H H') : BagAt H' b c := by
  obtain ⟨g, x, k, cells, hb, hc, r⟩ := h
  exact ⟨g, x, k, cells, s _ _ hb, s _ _ hc, r⟩
/-- a list that is written leaves the bag -/
theorem BagAt.updL {H : Hp} {b c D : Addr} {o : HO} (h : BagAt H b c) (hD : D ≠ b) (hc : D ≠ c) : BagAt (upd H D o) b c := by
  obtain ⟨g, x, k, cells, hb, hcc, r⟩ := h
  exact ⟨g, x, k, cells, by rw [upd_ne hD.symm]; exact hb, by rw [upd_ne hc.symm]; exact hcc, r⟩
/-- what is new is neither -/
theorem BagAt.new {H : Hp} {b c D : Addr} (h : BagAt H b c) (hD : H D = none) : D ≠ b ∧ D ≠ c := by
  obtain ⟨_, hb⟩ := h.at_
  obtain ⟨_, hc⟩ := h.cell
  exact ⟨fun e => (by rw [e, hb] at hD; cases hD), fun e => (by rw [e, hc] at hD; cases hD)⟩
theorem Bd.updN {b D : Addr} {H H' : Hp} {o : HO} (s : Bd b H H') (h : H D = none) : Bd b H (upd H' D o) := fun x u n e => by
  rw [upd_ne (ne_of_none e h)]
  exact s x u n e
theorem Bd.refl (b : Addr) (H : Hp) : Bd b H H := fun _ _ _ e => e
theorem FormsAt.bd {H H' : Hp} {a b c : Addr} {fs : List Fm} (h : FormsAt H a fs) (s : Bd b H H') (B : BagAt H b c) (ne : a ≠ b) : FormsAt H' a fs := by
  obtain ⟨as, h1, h2, h3⟩ := h
  exact ⟨as, s _ _ ne h1, h2, fun i p f e1 e2 => (s.nl B).tup (h3 i p f e1 e2)⟩
theorem ThingAt.bd {H H' : Hp} {a b c : Addr} {ts : List (Nat × Nat × Nat)} (h : ThingAt H a ts) (s : Bd b H H') (B : BagAt H b c) (ne : a ≠ b) : ThingAt H' a ts := by
  obtain ⟨as, h1, h2, h3⟩ := h
  exact ⟨as, s _ _ ne h1, h2, fun i p f e1 e2 => (s.nl B).tup (h3 i p f e1 e2)⟩
theorem FormsAt.snoc {H : Hp} {a p : Addr} {acc : List V} {fs : List Fm} {f : Fm} (h : FormsAt H a fs) (ha : H a = some (.lst acc)) (hp : H p = some (.tup [.str f.rd.str, .int (f.lead : Nat), .int (f.per : Nat)])) : FormsAt (upd H a (.lst (acc ++ [.ref p]))) a (fs ++ [f]) := by
  obtain ⟨as, h1, h2, h3⟩ := h
  have ea : acc = as.map V.ref := by
    rw [h1] at ha
    injection ha with ha
    injection ha with ha
    exact ha.symm
  subst ea
  have nb : ∀ {c : Addr} {t : List V}, H c = some (.tup t) → c ≠ a := fun e q => by
    rw [q, h1] at e
    cases e
  refine ⟨as ++ [p], by rw [upd_same, List.map_append] <;> rfl, by rw [List.length_append, List.length_append, h2] <;> rfl, fun i q y e1 e2 => ?_⟩
  by_cases hi : i < as.length
  · rw [List.getElem?_append_left hi] at e1
    rw [List.getElem?_append_left (by omega)] at e2
    have e3 := h3 i q y e1 e2
    rw [upd_ne (nb e3)]
    exact e3
  · have hi2 : i = as.length := by
      have := (List.getElem?_eq_some_iff.mp e1).1
      rw [List.length_append, List.length_singleton] at this
      omega
    subst hi2
    rw [List.getElem?_append_right (Nat.le_refl _), Nat.sub_self] at e1
    rw [h2, List.getElem?_append_right (Nat.le_refl _), Nat.sub_self] at e2
    have e1 : p = q := Option.some.inj e1
    have e2 : f = y := Option.some.inj e2
    subst e1 e2
    rw [upd_ne (nb hp)]
    exact hp
def spPick : Sp := fun vs H Q _ => ∃ (b c a : Addr) (xs : List V), vs = [.ref b, .ref a] ∧ H a = some (.lst xs) ∧ a ≠ b ∧ 1 ≤ xs.length ∧ xs.length ≤ 1000 ∧ BagAt H b c ∧ ∀ (i : Nat) v H', xs[i]? = some v → Bd b H H' → BagAt H' b c → Q v H'
theorem sc_law_pick : FnScope ["_law_bag_here", "_law_things"] ["_law_bag_here", "_law_things"] (defScope s_law_pick) := ⟨rfl, rfl, rfl, by decide +kernel, rfl, by decide +kernel, by decide +kernel⟩
theorem ok_law_pick (T : Txt K mg) : OkF P w K mg base 2 (He.ga K "_law_pick") ["_law_bag_here", "_law_things"] spPick := by
  obtain ⟨fd, F⟩ := T.fn 24 (st := s_law_pick)
  obtain ⟨f1, G1, b1, k1⟩ := ok_law_take (P := P) (w := w) (base := base) T
  refine ⟨fd, F.ok sc_law_pick (fun vs H Q E h => ?_) (fun cdv A outer s H vs Q E hr h => ?_), F.binds (fun _ _ _ _ _ _ us hl => match us, hl with | [_, _], _ => rfl), F.kp⟩
  · obtain ⟨_, _, _, _, rfl, _⟩ := h
    rfl
  · obtain ⟨b, c, a, xs, rfl, ha, ne, h1, h2, hB, k⟩ := h
    refine ⟨_, pss_one (ps_ret (pe_ix ix_list (pv 1) (pe_call G1 hr (by rfl) T.g__law_take k1 b1 .nil pass0 (pa_cons (pv 0) (pa_cons (pe_callB call_len_seq (by rfl) T.m_len boot_len (pa_cons (pv 1) pa_nil)) pa_nil))) (fun _ _ => rfl))), ?_⟩
    refine ⟨_, rfl, _, rfl, _, rfl, a, _, rfl, .inl (SqL.of ha), b, c, xs.length, rfl, hB, h1, h2, fun v H1 hv d1 B1 => ?_⟩
    have ha1 := d1 _ _ ne ha
    exact ⟨a, xs, _, xs[v], rfl, rfl, SqL.of ha1, atI_nat0 (List.getElem?_eq_getElem hv), k v xs[v] H1 (List.getElem?_eq_getElem hv) d1 B1⟩
def spMixed : Sp := fun vs H Q _ => ∃ (b c a : Addr) (xs : List V), vs = [.ref b, .ref a] ∧ H a = some (.lst xs) ∧ a ≠ b ∧ xs.length ≤ 900 ∧ BagAt H b c ∧ ∀ D ys H', ys.Perm xs → Bd b H H' → H D = none → H' D = some (.lst ys) → BagAt H' b c → Q (.ref D) H'
theorem sc_law_mixed : FnScope ["_law_bag_here", "_law_things", "_law_found", "_law_thing"] ["_law_bag_here", "_law_things"] (defScope s_law_mixed) := ⟨rfl, rfl, rfl, by decide +kernel, rfl, by decide +kernel, by decide +kernel⟩
theorem insert_perm (xs : List V) (i : Nat) (y : V) : (xs.take i ++ [y] ++ xs.drop i).Perm (xs ++ [y]) := by
  have h1 : (xs.take i ++ [y] ++ xs.drop i).Perm (xs.take i ++ xs.drop i ++ [y]) := by
    rw [List.append_assoc, List.append_assoc]
    exact List.Perm.append_left _ List.perm_append_comm
  rw [List.take_append_drop] at h1
  exact h1
theorem ok_law_mixed (T : Txt K mg) : OkF P w K mg base 2 (He.ga K "_law_mixed") ["_law_bag_here", "_law_things"] spMixed := by
  obtain ⟨fd, F⟩ := T.fn 23 (st := s_law_mixed)
  obtain ⟨f1, G1, b1, k1⟩ := ok_law_take (P := P) (w := w) (base := base) T
  refine ⟨fd, F.ok sc_law_mixed (fun vs H Q E h => ?_) (fun cdv A outer s H vs Q E hr h => ?_), F.binds (fun _ _ _ _ _ _ us hl => match us, hl with | [_, _], _ => rfl), F.kp⟩
  · obtain ⟨_, _, _, _, rfl, _⟩ := h
    rfl
  · obtain ⟨b, c, a, xs, rfl, ha, ne, h2, hB, k⟩ := h
    have nd := sc_law_mixed.nd
    have sz : sizeLine = 16777216 := sizeLine_eq
    refine ⟨_, pss_cons (ps_set (i := 2) nd rfl (Or.inl rfl) (pe_lst pa_nil))
      (pss_cons (ps_for PassesOwn.never rfl (pi_list (pv 1)) (pg_name (i := 3) nd rfl (Or.inl rfl))
        (pss_one (ps_expr (pe_bm PySem.F.plainAttrs_list PySem.F.slot_list_insert PySem.F.type_list_insert mt_insert (pv 2) (pa_cons (pe_call G1 hr (by rfl) T.g__law_take k1 b1 .nil pass0 (pa_cons (pv 0) (pa_cons (pe_op op_add (pe_callB call_len_seq (by rfl) T.m_len boot_len (pa_cons (pv 2) pa_nil)) pe_int) pa_nil))) (pa_cons (pv 3) pa_nil))))))
      (pss_one (ps_ret (pv 2)))), ?_⟩
    refine ⟨Nat.zero_le _, fun D hD => ?_⟩
    obtain ⟨hDb, hDc⟩ := hB.new hD
    have s0 : Same H (upd H D (.lst [])) := same_upd (Same.refl _) hD
    refine ⟨_, rfl, a, rfl, ⟨_, SqL.of (s0 _ _ ha)⟩, ?_⟩
    refine for_it (walk_list (K := K) (a := a) (xs := xs)) (fun i σ H' => ∃ (ys : List V) (v : Option V), σ = [some (.ref b), some (.ref a), some (.ref D), v] ∧ ys.Perm (xs.take i) ∧ Bd b H H' ∧ H' D = some (.lst ys) ∧ BagAt H' b c) ⟨[], none, rfl, .refl _, Bd.of s0, upd_same, hB.same s0⟩ (fun i σ H' _ ⟨_, _, _, _, d, _⟩ => SqL.of (d _ _ ne ha)) (fun i x σ H1 H2 hi ⟨ys, v, e, hp, d1, hD1, B1⟩ y => ?_) (fun σ H1 ⟨ys, v, e, hp, d1, hD1, B1⟩ => ?_)
    · obtain ⟨rfl, hx⟩ := y
      subst e
      have hyl : ys.length = i := by rw [hp.length_eq, List.length_take]; omega
      refine ⟨_, rfl, .inl ⟨rfl, _, SqL.of hD1⟩, ?_⟩
      refine ⟨_, rfl, _, rfl, D, _, rfl, .inl (SqL.of hD1), _, _, rfl, rfl, b, c, ys.length + 1, by rw [Int.natCast_add] <;> rfl, B1, by omega, by omega, fun v2 H3 hv d3 B3 => ?_⟩
      have hD3 := d3 _ _ hDb hD1
      refine ⟨_, rfl, D, _, _, _, rfl, rfl, hD3, by omega, Int.natCast_nonneg _, by omega, ?_⟩
      refine ⟨_, _, rfl, ?_, (d1.trans d3).updN hD, upd_same, B3.updL hDb hDc⟩
      rw [Int.toNat_natCast, take_snoc hx]
      exact (insert_perm ys v2 x).trans (List.Perm.append_right _ hp)
    · subst e
      rw [List.take_length] at hp
      exact ⟨_, rfl, k D ys H1 hp d1 hD hD1 B1⟩
/-! the forms -/
def rdNames : List V := [.str "turns", .str "others", .str "rounds", .str "suns", .str "moons"]
theorem rd_name {i : Nat} {v : V} (h : rdNames[i]? = some v) : ∃ r : Rd, v = .str r.str := by
  match i, h with
  | 0, h => exact ⟨.turns, (Option.some.inj h).symm⟩
  | 1, h => exact ⟨.others, (Option.some.inj h).symm⟩
  | 2, h => exact ⟨.rounds, (Option.some.inj h).symm⟩
  | 3, h => exact ⟨.suns, (Option.some.inj h).symm⟩
  | 4, h => exact ⟨.moons, (Option.some.inj h).symm⟩
def spForms : Sp := fun vs H Q _ => ∃ b c : Addr, vs = [.ref b, .int 4, .int 40] ∧ BagAt H b c ∧ ∀ D (fs : List Fm) H', Bd b H H' → H D = none → BagAt H' b c → FormsAt H' D fs → FmOk fs → fsize fs ≤ 40 → fs.length ≤ 4 → Q (.ref D) H'
theorem sc_law_my_forms : FnScope ["_law_bag_here", "_law_many", "_law_size", "_law_found", "_law_yet", "_law_wide", "_law_k", "_law_lead", "_law_period"] ["_law_bag_here", "_law_many", "_law_size"] (defScope s_law_my_forms) := ⟨rfl, rfl, rfl, by decide +kernel, rfl, by decide +kernel, by decide +kernel⟩
theorem ok_law_my_forms (T : Txt K mg) : OkF P w K mg base 3 (He.ga K "_law_my_forms") ["_law_bag_here", "_law_many", "_law_size"] spForms := by
  obtain ⟨fd, F⟩ := T.fn 25 (st := s_law_my_forms)
  obtain ⟨f1, G1, b1, k1⟩ := ok_law_take (P := P) (w := w) (base := base) T
  obtain ⟨f2, G2, b2, k2⟩ := ok_law_pick (P := P) (w := w) (base := base) T
  refine ⟨fd, F.ok sc_law_my_forms (fun vs H Q E h => ?_) (fun cdv A outer s H vs Q E hr h => ?_), F.binds (fun _ _ _ _ _ _ us hl => match us, hl with | [_, _, _], _ => rfl), F.kp⟩
  · obtain ⟨_, _, rfl, _⟩ := h
    rfl
  · obtain ⟨b, c, rfl, hB, k⟩ := h
    have nd := sc_law_my_forms.nd
    have hr1 := hr.mono (show 1 ≤ 2 by decide)
    have sz : sizeLine = 16777216 := sizeLine_eq
    refine ⟨_, pss_cons (ps_par3 (i := 3) (j := 4) (l := 5) (by rfl) nd rfl rfl rfl (by decide) (by decide) (by decide) rfl rfl rfl
        (pa_cons (pe_lst pa_nil) (pa_cons (pv 2) (pa_cons (pe_and (pe_cmpR op_gt (pv 2) pe_int (nomark _)) (pe_one (pe_cmpR op_eq (pe_call G1 hr1 (by rfl) T.g__law_take k1 b1 .nil pass0 (pa_cons (pv 0) (pa_cons pe_int pa_nil))) pe_int (nomark _)))) pa_nil))) (by rfl))
      (pss_cons (ps_for PassesOwn.never rfl (pi_range1 (by rfl) T.m_range (pa_cons (pe_call G1 hr1 (by rfl) T.g__law_take k1 b1 .nil pass0 (pa_cons (pv 0) (pa_cons (pe_op op_add (pv 1) pe_int) pa_nil))) pa_nil)) (pg_name (i := 6) nd rfl (Or.inl rfl))
        (pss_cons (ps_par (i := 7) (j := 8) (by rfl) nd rfl rfl (by decide) rfl rfl (pa_cons (pe_call G1 hr1 (by rfl) T.g__law_take k1 b1 .nil pass0 (pa_cons (pv 0) (pa_cons pe_int pa_nil))) (pa_cons (pe_op op_add pe_int (pe_call G1 hr1 (by rfl) T.g__law_take k1 b1 .nil pass0 (pa_cons (pv 0) (pa_cons pe_int pa_nil)))) pa_nil)) (by rfl))
        (C8.pss_cut (ps_if (pt_val (pv 5)) (pss_one (ps_par (i := 7) (j := 8) (by rfl) nd rfl rfl (by decide) rfl rfl (pa_cons (pe_call G1 hr1 (by rfl) T.g__law_take k1 b1 .nil pass0 (pa_cons (pv 0) (pa_cons pe_int pa_nil))) (pa_cons (pe_op op_add pe_int (pe_call G1 hr1 (by rfl) T.g__law_take k1 b1 .nil pass0 (pa_cons (pv 0) (pa_cons pe_int pa_nil)))) pa_nil)) (by rfl))) pss_nil)
        (pss_one (ps_if (pt_cmpR op_le (pe_op op_add (pv 7) (pv 8)) (pv 4) (nomark _))
          (pss_cons (ps_expr (pe_bm PySem.F.plainAttrs_list PySem.F.slot_list_append PySem.F.type_list_append mt_append (pv 3) (pa_cons (pe_tup (pa_cons (pe_call G2 hr (by rfl) T.g__law_pick k2 b2 .nil pass0 (pa_cons (pv 0) (pa_cons (pe_lst (pa_cons pe_str (pa_cons pe_str (pa_cons pe_str (pa_cons pe_str (pa_cons pe_str pa_nil)))))) pa_nil))) (pa_cons (pv 7) (pa_cons (pv 8) pa_nil)))) pa_nil)))
          (pss_one (ps_set (i := 4) nd rfl (Or.inl rfl) (pe_op op_sub (pe_op op_sub (pv 4) (pv 7)) (pv 8))))) pss_nil)))))
      (pss_one (ps_ret (pv 3)))), ?_⟩
    refine ⟨Nat.zero_le _, fun D hD => ?_⟩
    obtain ⟨hDb, hDc⟩ := hB.new hD
    have s0 : Same H (upd H D (.lst [])) := same_upd (Same.refl _) hD
    refine ⟨_, rfl, _, rfl, _, _, rfl, rfl, true, rfl, iteT ?_⟩
    refine ⟨_, rfl, b, c, 4, rfl, hB.same s0, by decide, by decide, fun v0 H1 hv0 d1 B1 => ⟨rfl, _, _, _, rfl, ?_⟩⟩
    have hD1 : H1 D = some (.lst []) := d1 _ _ hDb upd_same
    have d01 : Bd b H H1 := (Bd.of s0).trans d1
    refine ⟨_, rfl, _, rfl, _, _, rfl, rfl, b, c, 5, rfl, B1, by decide, by decide, fun N H2 hN d2 B2 => ?_⟩
    refine ⟨(N : Nat), rfl, by omega, by omega, ?_⟩
    generalize (decide (V.int ((v0 : Nat) : Int) = V.int 0)) = wd
    refine for_it (walk_range (lo := 0) (n := N)) (fun i σ H' => ∃ (fs : List Fm) (yet : Nat) (v6 v7 v8 : Option V), σ = [some (.ref b), some (.int 4), some (.int 40), some (.ref D), some (.int yet), some (.bl wd), v6, v7, v8] ∧ Bd b H H' ∧ BagAt H' b c ∧ FormsAt H' D fs ∧ FmOk fs ∧ fsize fs + yet = 40 ∧ fs.length ≤ i)
      ⟨[], 40, none, none, none, rfl, d01.trans d2, B2, ⟨[], d2 _ _ hDb hD1, rfl, fun i p f e => by simp at e⟩, fun f hf => (by cases hf), rfl, Nat.le_refl _⟩ (fun _ _ _ _ _ => trivial) (fun i x σ H3 H4 hi ⟨fs, yet, v6, v7, v8, e, d3, B3, hf3, ho, hsum, hfl⟩ y => ?_) (fun σ H3 ⟨fs, yet, v6, v7, v8, e, d3, B3, hf3, ho, hsum, hfl⟩ => ?_)
    · obtain ⟨rfl, rfl⟩ := y
      subst e
      refine ⟨_, rfl, b, c, 3, rfl, B3, by decide, by decide, fun l1 H5 hl1 d5 B5 => ?_⟩
      refine ⟨_, rfl, b, c, 4, rfl, B5, by decide, by decide, fun p1 H6 hp1 d6 B6 => ⟨_, _, rfl, rfl, _, _, rfl, ?_⟩⟩
      have hf6 := (hf3.bd d5 B3 hDb).bd d6 B5 hDb
      refine ⟨fun σ H' => ∃ (ld pr : Nat), σ = [some (.ref b), some (.int 4), some (.int 40), some (.ref D), some (.int yet), some (.bl wd), some (.int (0 + (i : Nat))), some (.int ld), some (.int pr)] ∧ 1 ≤ pr ∧ Bd b H H' ∧ BagAt H' b c ∧ FormsAt H' D fs, ?_, ?_⟩
      · refine ⟨_, rfl, _, rfl, ?_⟩
        refine ite2 (fun q => ?_) (fun q => ?_)
        · refine ⟨_, rfl, b, c, 25, rfl, B6, by decide, by decide, fun l2 H7 hl2 d7 B7 => ?_⟩
          refine ⟨_, rfl, b, c, 24, rfl, B7, by decide, by decide, fun p2 H8 hp2 d8 B8 => ⟨_, _, rfl, rfl, _, _, rfl, ?_⟩⟩
          exact ⟨l2, 1 + p2, by rw [Int.natCast_add] <;> rfl, by omega, (((d3.trans d5).trans d6).trans d7).trans d8, B8, (hf6.bd d7 B6 hDb).bd d8 B7 hDb⟩
        · exact ⟨l1, 1 + p1, by rw [Int.natCast_add] <;> rfl, by omega, (d3.trans d5).trans d6, B6, hf6⟩
      · rintro σ H9 ⟨ld, pr, rfl, hpr, d9, B9, hf9⟩
        refine ⟨_, rfl, _, rfl, _, _, rfl, rfl, _, rfl, _, _, rfl, rfl, _, rfl, ?_⟩
        refine ite2 (fun q => ?_) (fun q => ⟨fs, yet, _, _, _, rfl, d9, B9, hf9, ho, hsum, by omega⟩)
        have hfit : ld + pr ≤ yet := by have := of_decide_eq_true q; omega
        obtain ⟨as, hDa, hal, _⟩ := id hf9
        refine ⟨_, rfl, .inl ⟨rfl, _, SqL.of hDa⟩, ?_⟩
        refine ⟨_, rfl, (by show 5 ≤ sizeLine; decide), fun L hL => ?_⟩
        have sL : Same H9 (upd H9 L (.lst rdNames)) := same_upd (Same.refl _) hL
        obtain ⟨hLb, hLc⟩ := B9.new hL
        refine ⟨b, c, L, rdNames, rfl, upd_same, hLb, by decide, by decide, B9.same sL, fun ix v H10 hv d10 B10 => ?_⟩
        obtain ⟨r, rfl⟩ := rd_name hv
        have hf10 := (hf9.same sL).bd d10 (B9.same sL) hDb
        refine ⟨_, rfl, _, rfl, (by show 3 ≤ sizeLine; decide), fun t ht => ?_⟩
        have st : Same H10 (upd H10 t (.tup [.str r.str, .int ld, .int pr])) := same_upd (Same.refl _) ht
        have hf11 := hf10.same st
        obtain ⟨as2, hDa2, hal2, _⟩ := id hf11
        refine ⟨D, _, _, rfl, rfl, hDa2, by rw [List.length_map, hal2]; omega, ?_⟩
        refine ⟨_, rfl, _, rfl, _, _, rfl, rfl, _, rfl, _, _, rfl, rfl, ?_⟩
        refine ⟨fs ++ [⟨r, ld, pr⟩], yet - ld - pr, some (.int (0 + (i : Nat))), some (.int ld), some (.int pr), ?_, (((d9.trans (Bd.of sL)).trans d10).trans (Bd.of st)).updN hD, (B10.same st).updL hDb hDc, hf11.snoc (f := ⟨r, ld, pr⟩) hDa2 upd_same, ?_, ?_, ?_⟩
        · rw [show ((yet - ld - pr : Nat) : Int) = (yet : Int) - (ld : Int) - (pr : Int) by omega]
          rfl
        · intro f hf
          rcases List.mem_append.mp hf with h | h
          · exact ho f h
          · rw [List.mem_singleton.mp h]
            exact hpr
        · rw [fsize_snoc]
          show fsize fs + (ld + pr) + _ = 40
          omega
        · rw [List.length_append, List.length_singleton]
          omega
    · subst e
      exact ⟨_, rfl, k D fs H3 d3 hD B3 hf3 ho (by omega) (by omega)⟩
/-! the cloth, in a drawn order -/
theorem perm_map_inv {α β : Type} (f : α → β) : ∀ {ys zs : List β}, ys.Perm zs → ∀ l : List α, zs = l.map f → ∃ l' : List α, l'.Perm l ∧ ys = l'.map f := by
  intro ys zs h
  induction h with
  | nil =>
    intro l e
    cases l with
    | nil => exact ⟨[], List.Perm.refl _, rfl⟩
    | cons => cases e
  | cons x _ ih =>
    intro l e
    cases l with
    | nil => cases e
    | cons a l =>
      injection e with e1 e2
      obtain ⟨l', p, e3⟩ := ih l e2
      exact ⟨a :: l', p.cons a, by rw [List.map_cons, e1, e3]⟩
  | swap x y l0 =>
    intro l e
    cases l with
    | nil => cases e
    | cons a l =>
      cases l with
      | nil => injection e with _ e; cases e
      | cons a2 l =>
        injection e with e1 e2
        injection e2 with e2 e3
        exact ⟨a2 :: a :: l, .swap _ _ _, by rw [List.map_cons, List.map_cons, ← e1, ← e2, ← e3]⟩
  | trans _ _ ih1 ih2 =>
    intro l e
    obtain ⟨l2, p2, e2⟩ := ih2 l e
    obtain ⟨l1, p1, e1⟩ := ih1 l2 e2
    exact ⟨l1, p1.trans p2, e1⟩
theorem paired_zip {α β : Type} {R : α → β → Prop} {l : List α} {m : List β} (h : Paired R l m) : ∃ z : List (α × β), z.map (·.1) = l ∧ z.map (·.2) = m ∧ ∀ p ∈ z, R p.1 p.2 := by
  induction h with
  | nil => exact ⟨[], rfl, rfl, fun p hp => by cases hp⟩
  | @cons a b l m r _ ih =>
    obtain ⟨z, e1, e2, e3⟩ := ih
    refine ⟨(a, b) :: z, by rw [List.map_cons, e1], by rw [List.map_cons, e2], fun p hp => ?_⟩
    rcases List.mem_cons.mp hp with h | h
    · rw [h]; exact r
    · exact e3 p h
theorem zip_paired {α β : Type} {R : α → β → Prop} : ∀ {z : List (α × β)}, (∀ p ∈ z, R p.1 p.2) → Paired R (z.map (·.1)) (z.map (·.2))
  | [], _ => .nil
  | p :: z, h => .cons (h p List.mem_cons_self) (zip_paired fun q hq => h q (List.mem_cons_of_mem _ hq))
theorem u2 {k : Nat} {A : Around} (r : Room k A) : A.units + 2 < cLine := by have := r.un; omega
def spShuffled : Sp := fun vs H Q _ => ∃ (b c a : Addr) (n m R : Nat) (tr : Nat → Bool), vs = [.ref b, .ref a] ∧ BagAt H b c ∧ ClothAt H a n m R tr ∧ ∀ D H', Bd b H H' → BagAt H' b c → ClothAt H' D n m R tr → Q (.ref D) H'
theorem sc_law_my_shuffled : FnScope ["_law_bag_here", "_law_cloth"] ["_law_bag_here", "_law_cloth"] (defScope s_law_my_shuffled) := ⟨rfl, rfl, rfl, by decide +kernel, rfl, by decide +kernel, by decide +kernel⟩
theorem ok_law_my_shuffled (T : Txt K mg) : OkF P w K mg base 3 (He.ga K "_law_my_shuffled") ["_law_bag_here", "_law_cloth"] spShuffled := by
  obtain ⟨fd, F⟩ := T.fn 33 (st := s_law_my_shuffled)
  obtain ⟨f1, G1, b1, k1⟩ := ok_law_mixed (P := P) (w := w) (base := base) T
  refine ⟨fd, F.ok sc_law_my_shuffled (fun vs H Q E h => ?_) (fun cdv A outer s H vs Q E hr h => ?_), F.binds (fun _ _ _ _ _ _ us hl => match us, hl with | [_, _], _ => rfl), F.kp⟩
  · obtain ⟨_, _, _, _, _, _, _, rfl, _⟩ := h
    rfl
  · obtain ⟨b, c, a, n, m, R, tr, rfl, hB, ⟨kvs, ha, hCl⟩, k⟩ := h
    refine ⟨_, pss_one (ps_ret (pe_callTy (call_dictPT (by rfl) (u2 hr)) (by rfl) T.m_dict (by decide +kernel) (pa_cons (pe_call G1 hr (by rfl) T.g__law_mixed k1 b1 .nil pass0 (pa_cons (pv 0) (pa_cons (pe_listItemsT (by rfl) (pv 1) (by rfl) T.m_list (by decide +kernel)) pa_nil))) pa_nil))), ?_⟩
    refine ⟨_, rfl, _, rfl, a, kvs, rfl, ha, fun H1 L ts s1 hL hL1 hp => ?_⟩
    obtain ⟨hLb, hLc⟩ := hB.new hL
    have htl : ts.length = kvs.length := Paired.length hp
    have hk64 : kvs.length ≤ 64 := by rw [hCl.len]; exact Nat.le_trans (Nat.mul_le_mul hCl.ln hCl.lm) (by decide)
    have B1 := hB.same s1
    refine ⟨b, c, L, _, rfl, hL1, hLb, by rw [List.length_map]; omega, B1, fun D ys H2 hperm d2 hD hD2 B2 => ?_⟩
    obtain ⟨z, z1, z2, z3⟩ := paired_zip hp
    obtain ⟨z', zp, ez⟩ := perm_map_inv (fun p : Addr × (List Key × V) => V.ref p.1) hperm z (by rw [← z1, List.map_map] <;> rfl)
    have nl2 := d2.nl B1
    refine ⟨D, z'.map (·.1), z'.map (·.2), rfl, SqL.of (by rw [hD2, ez, List.map_map] <;> rfl), zip_paired fun p hp' => ?_, ?_, fun p hp' => ?_⟩
    · obtain ⟨q, e1, e2⟩ := z3 p (zp.mem_iff.mp hp')
      exact ⟨q, nl2.tup e1, nl2.tup e2⟩
    · have e : ((z'.map (·.2)).map (·.1)).Perm (kvs.map (·.1)) := by
        rw [← z2]
        exact (zp.map _).map _
      exact e.nodup_iff.mpr hCl.keys
    · have hb2 := B2
      obtain ⟨pb, pc⟩ := B2.new hp'
      refine k p _ (((Bd.of s1).trans d2).trans (Bd.of (same_upd (Same.refl _) hp'))) (B2.same (same_upd (Same.refl _) hp')) ⟨_, upd_same, ?_, hCl.hn, hCl.hm, hCl.hR, hCl.ln, hCl.lm, hCl.lR⟩
      have e : (z'.map (·.2)).Perm kvs := by rw [← z2]; exact zp.map _
      exact e.trans hCl.perm
end
end K7
/-! text K7Rf -/
set_option maxHeartbeats 4000000
/-! what a refusal is -/
namespace K7
open PySem PySem.Spec PySem.Calls PyProof.Rows L2
def code3 (x : Nat × Nat × Nat) : Nat := (x.1 * 8 + x.2.1) * 8 + x.2.2
theorem enc_code {n m : Nat} (hm : 0 < m) (ln : n ≤ 8) (lm : m ≤ 8) {x y : Nat × Nat × Nat} (hx : x.2.1 < n) (hx2 : x.2.2 < m) (hy : y.2.1 < n) (hy2 : y.2.2 < m) (h : enc n m x < enc n m y) : code3 x < code3 y := by
  obtain ⟨r, a, b⟩ := x
  obtain ⟨r', a', b'⟩ := y
  have hx : a < n := hx
  have hx2 : b < m := hx2
  have hy : a' < n := hy
  have hy2 : b' < m := hy2
  have h : (r * n + a) * m + b < (r' * n + a') * m + b' := h
  show (r * 8 + a) * 8 + b < (r' * 8 + a') * 8 + b'
  have key : r * n + a ≤ r' * n + a' := by
    apply Nat.le_of_not_lt
    intro hlt
    have := Nat.mul_le_mul_right m (show r' * n + a' + 1 ≤ r * n + a from hlt)
    rw [Nat.add_mul, Nat.one_mul] at this
    omega
  have key2 : r ≤ r' := by
    apply Nat.le_of_not_lt
    intro hlt
    have := Nat.mul_le_mul_right n (show r' + 1 ≤ r from hlt)
    rw [Nat.add_mul, Nat.one_mul] at this
    omega
  by_cases hr : r = r'
  · subst hr
    by_cases ha : a = a'
    · subst ha
      omega
    · omega
  · omega
theorem meets_asc {n m R : Nat} (hn : 0 < n) (hm : 0 < m) (ln : n ≤ 8) (lm : m ≤ 8) : (meets n m (R * n * m)).Pairwise (fun x y => code3 x < code3 y) := by
  unfold meets
  refine List.pairwise_map.mpr ?_
  have h := List.pairwise_lt_range (n := R * n * m)
  refine List.Pairwise.imp_of_mem (fun {a b} ha hb hab => ?_) h
  have h1 := dec_lt (List.mem_range.mp ha)
  have h2 := dec_lt (List.mem_range.mp hb)
  refine enc_code hm ln lm h1.2.1 h1.2.2 h2.2.1 h2.2.2 ?_
  rw [enc_dec hn hm, enc_dec hn hm]
  exact hab
structure RefOk (n m R : Nat) (tr : Nat → Bool) (fs : List Fm) (ts : List (Nat × Nat × Nat)) : Prop where
  nd : ts.Nodup
  bd : ∀ x ∈ ts, x.1 < R ∧ x.2.1 < n ∧ x.2.2 < m
  few : ts.length ≤ 41
  odd : par (ts.map (trAt n m tr)) = true
  even : maskOf (ts.flatMap fun x => places n m x fs) = 0
  asc : ts.Pairwise (fun x y => code3 x < code3 y)
  some_ : 1 ≤ ts.length
theorem refusal_ok {n m R t : Nat} {tr : Nat → Bool} {fs : List Fm} (hn : 0 < n) (hm : 0 < m) (ln : n ≤ 8) (lm : m ≤ 8) (hsz : fsize fs ≤ 40) (r : Refuses (fun i => mskOf n m fs (dec n m i)) tr (R * n * m) (fsize fs) t) : RefOk n m R tr fs (picked 0 (meets n m (R * n * m)) t) := by
  have hsub := picked_sub t 0 (meets n m (R * n * m))
  have hodd : par ((picked 0 (meets n m (R * n * m)) t).map (trAt n m tr)) = true := by
    rw [picked_par, meets_len, ← r.odd]
    refine dot_congr t _ fun i hi => ?_
    rw [meets_get hi]
    show tr (enc n m (dec n m i)) = tr i
    rw [enc_dec hn hm]
  refine ⟨(meets_nodup hn hm).sublist hsub, fun x hx => meets_mem (hsub.mem hx), ?_, hodd, ?_, (meets_asc hn hm ln lm).sublist hsub, ?_⟩
  · obtain ⟨pv, h1, h2⟩ := r.pv
    exact Nat.le_trans (picked_few ⟨pv, h1, h2⟩) (by omega)
  · refine Nat.eq_of_testBit_eq fun q => ?_
    rw [mask_flat, picked_par, meets_len, Nat.zero_testBit, ← r.even q]
    refine dot_congr t _ fun i hi => ?_
    rw [meets_get hi]
    rfl
  · cases h : picked 0 (meets n m (R * n * m)) t with
    | nil => rw [h] at hodd; cases hodd
    | cons x l => exact Nat.succ_le_succ (Nat.zero_le _)
/-- two ascending lists of the same numbers are one -/
theorem asc_eq : ∀ {l k : List Int}, l.Pairwise (· < ·) → k.Pairwise (· < ·) → (∀ x, x ∈ l ↔ x ∈ k) → l = k
  | [], [], _, _, _ => rfl
  | [], y :: k, _, _, h => absurd ((h y).mpr List.mem_cons_self) (by simp)
  | x :: l, [], _, _, h => absurd ((h x).mp List.mem_cons_self) (by simp)
  | x :: l, y :: k, hl, hk, h => by
    have hl' := List.pairwise_cons.mp hl
    have hk' := List.pairwise_cons.mp hk
    have exy : x = y := by
      rcases List.mem_cons.mp ((h x).mp List.mem_cons_self) with e | e
      · exact e
      · rcases List.mem_cons.mp ((h y).mpr List.mem_cons_self) with e2 | e2
        · exact e2.symm
        · have := hl'.1 y e2
          have := hk'.1 x e
          omega
    subst exy
    rw [asc_eq hl'.2 hk'.2 fun z => ?_]
    constructor
    · intro hz
      rcases List.mem_cons.mp ((h z).mp (List.mem_cons_of_mem _ hz)) with e | e
      · have := hl'.1 z hz
        omega
      · exact e
    · intro hz
      rcases List.mem_cons.mp ((h z).mpr (List.mem_cons_of_mem _ hz)) with e | e
      · have := hk'.1 z hz
        omega
      · exact e
def mtI (x : Nat × Nat × Nat) : List Int := [(x.1 : Int), (x.2.1 : Int), (x.2.2 : Int)]
theorem mtI_v (x : Nat × Nat × Nat) : (mtI x).map V.int = mt3 x := rfl
end K7
/-! text K7Rg -/
set_option maxHeartbeats 4000000
/-! sorted(set(..)) of an ascending list is the list -/
namespace K7
open PySem PySem.Spec PySem.Calls PyProof.Rows L2
theorem code_mtI (x : Nat × Nat × Nat) : TS.code 8 (mtI x) = ((code3 x : Nat) : Int) := by
  obtain ⟨r, a, b⟩ := x
  show (r : Int) * 8 ^ 2 + ((a : Int) * 8 ^ 1 + ((b : Int) * 8 ^ 0 + 0)) = (((r * 8 + a) * 8 + b : Nat) : Int)
  omega
theorem mtI_inj {x y : Nat × Nat × Nat} (h : mtI x = mtI y) : x = y := by
  obtain ⟨r, a, b⟩ := x
  obtain ⟨r', a', b'⟩ := y
  unfold mtI at h
  injection h with h1 h
  injection h with h2 h
  injection h with h3 _
  have e1 : r = r' := Int.ofNat.inj h1
  have e2 : a = a' := Int.ofNat.inj h2
  have e3 : b = b' := Int.ofNat.inj h3
  rw [e1, e2, e3]
theorem code3_inj {x y : Nat × Nat × Nat} (hx : x.2.1 < 8 ∧ x.2.2 < 8) (hy : y.2.1 < 8 ∧ y.2.2 < 8) (h : code3 x = code3 y) : x = y := by
  obtain ⟨r, a, b⟩ := x
  obtain ⟨r', a', b'⟩ := y
  obtain ⟨hx1, hx2⟩ := hx
  obtain ⟨hy1, hy2⟩ := hy
  have hx1 : a < 8 := hx1
  have hx2 : b < 8 := hx2
  have hy1 : a' < 8 := hy1
  have hy2 : b' < 8 := hy2
  have h : (r * 8 + a) * 8 + b = (r' * 8 + a') * 8 + b' := h
  have e1 : r = r' := by omega
  have e2 : a = a' := by omega
  have e3 : b = b' := by omega
  rw [e1, e2, e3]
theorem map_inj_on {α β : Type} (f : α → β) : ∀ {l k : List α}, l.map f = k.map f → (∀ a ∈ l, ∀ b ∈ k, f a = f b → a = b) → l = k
  | [], [], _, _ => rfl
  | [], _ :: _, h, _ => by cases h
  | _ :: _, [], h, _ => by cases h
  | a :: l, b :: k, h, i => by
    rw [List.map_cons, List.map_cons] at h
    injection h with h1 h2
    rw [i a List.mem_cons_self b List.mem_cons_self h1, map_inj_on f h2 fun x hx y hy => i x (List.mem_cons_of_mem _ hx) y (List.mem_cons_of_mem _ hy)]
theorem sorted_same {A : List (List Int)} {ts : List (Nat × Nat × Nat)} (hb : ∀ x ∈ ts, x.2.1 < 8 ∧ x.2.2 < 8) (hasc : ts.Pairwise fun x y => code3 x < code3 y) (hn : A.Nodup) (hs : A.Pairwise fun q r => TS.code 8 q ≤ TS.code 8 r)
    (h1 : ∀ q ∈ A, q ∈ ts.map mtI) (h2 : ∀ q ∈ ts.map mtI, q ∈ A) : A = ts.map mtI := by
  have inj : ∀ q ∈ ts.map mtI, ∀ r ∈ ts.map mtI, TS.code 8 q = TS.code 8 r → q = r := fun q hq r hr e => by
    obtain ⟨x, hx, rfl⟩ := List.mem_map.mp hq
    obtain ⟨y, hy, rfl⟩ := List.mem_map.mp hr
    rw [code_mtI, code_mtI] at e
    rw [code3_inj (hb x hx) (hb y hy) (Int.ofNat.inj e)]
  have s1 : (A.map (TS.code 8)).Pairwise (· < ·) := by
    refine List.pairwise_map.mpr ?_
    refine List.Pairwise.imp_of_mem (fun {a b} ha hb' hab => ?_) (List.Pairwise.and hs hn)
    have := hab.2
    have h := hab.1
    have : TS.code 8 a ≠ TS.code 8 b := fun e => hab.2 (inj a (h1 a ha) b (h1 b hb') e)
    omega
  have s2 : ((ts.map mtI).map (TS.code 8)).Pairwise (· < ·) := by
    rw [List.map_map]
    refine List.pairwise_map.mpr (List.Pairwise.imp (fun {a b} hab => ?_) hasc)
    show TS.code 8 (mtI a) < TS.code 8 (mtI b)
    rw [code_mtI, code_mtI]
    omega
  have e := asc_eq s1 s2 fun z => by
    constructor
    · intro hz
      obtain ⟨q, hq, rfl⟩ := List.mem_map.mp hz
      exact List.mem_map.mpr ⟨q, h1 q hq, rfl⟩
    · intro hz
      obtain ⟨q, hq, rfl⟩ := List.mem_map.mp hz
      exact List.mem_map.mpr ⟨q, h2 q hq, rfl⟩
  exact map_inj_on _ e fun a ha b hb' e => inj a (h1 a ha) b hb' e
theorem eqv_same (ts : List (Nat × Nat × Nat)) : PyData.eqv (.list (ts.map mtD)) (.list (ts.map mtD)) = true := SeqAt.eqv_refl _ (by
  rw [PyData.canLay0]
  exact canLayAll_mt ts)
/-- a thing told by pairs of places and meetings -/
theorem ThingAt.zip {H : Hp} {a : Addr} {ts : List (Nat × Nat × Nat)} (h : ThingAt H a ts) : ∃ z : List (Addr × (Nat × Nat × Nat)), H a = some (.lst (z.map fun p => V.ref p.1)) ∧ z.map (·.2) = ts ∧ ∀ p ∈ z, H p.1 = some (.tup (mt3 p.2)) := by
  obtain ⟨as, h1, h2, h3⟩ := h
  refine ⟨as.zip ts, ?_, ?_, fun p hp => ?_⟩
  · rw [h1]
    congr 2
    rw [show (fun p : Addr × (Nat × Nat × Nat) => V.ref p.1) = V.ref ∘ Prod.fst from rfl, ← List.map_map, List.map_fst_zip (by omega)]
  · rw [List.map_snd_zip (by omega)]
  · obtain ⟨i, hi, e⟩ := List.mem_iff_getElem.mp hp
    rw [List.length_zip] at hi
    rw [List.getElem_zip] at e
    rw [← e]
    exact h3 i _ _ (List.getElem?_eq_getElem (by omega)) (List.getElem?_eq_getElem (by omega))
theorem ThingAt.ofZip {H : Hp} {a : Addr} {z : List (Addr × (Nat × Nat × Nat))} (h1 : H a = some (.lst (z.map fun p => V.ref p.1))) (h3 : ∀ p ∈ z, H p.1 = some (.tup (mt3 p.2))) : ThingAt H a (z.map (·.2)) := by
  refine ⟨z.map (·.1), by rw [h1, List.map_map] <;> rfl, by rw [List.length_map, List.length_map], fun i p x e1 e2 => ?_⟩
  rw [List.getElem?_map] at e1 e2
  cases e : z[i]? with
  | none => rw [e] at e1; cases e1
  | some q =>
    rw [e] at e1 e2
    cases e1
    cases e2
    exact h3 q (List.mem_of_getElem? e)
end K7
/-! text K7V1 -/
set_option maxHeartbeats 4000000
namespace K7
open PySem PySem.Spec PySem.Calls PyProof.Rows L2
section
variable {P : Program} {w : World} {K : PySem.W.Frag} {mg : PySem.Str → Option Value} {base : Heap}
def spRefusal (K : PySem.W.Frag) : Sp := fun vs H Q _ => ∃ (a b : Addr) (n m R : Nat) (tr : Nat → Bool) (fs : List Fm), vs = [.ref a, .ref b] ∧ ClothAt H a n m R tr ∧ FormsAt H b fs ∧ FmOk fs ∧ fsize fs ≤ 40 ∧
  (∀ rs H', Same H H' → SumsInv (fsize fs) (fun i => mskOf n m fs (dec n m i)) tr (R * n * m) rs → Q .non H') ∧
  (∀ D (t : Nat) H', Same H H' → H D = none → Refuses (fun i => mskOf n m fs (dec n m i)) tr (R * n * m) (fsize fs) t → ThingAt H' D (picked 0 (meets n m (R * n * m)) t) → Q (.ref D) H')
theorem sc_refusal : FnScope ["crossings", "forms", "refused", "suns", "moons", "rounds", "every", "place", "meeting"] ["crossings", "forms"] (defScope s_refusal) := ⟨rfl, rfl, rfl, by decide +kernel, rfl, by decide +kernel, by decide +kernel⟩
theorem ok_refusal (T : Txt K mg) : OkF P w K mg base 4 (He.ga K "refusal") ["crossings", "forms"] (spRefusal K) := by
  obtain ⟨fd, F⟩ := T.fn 14 (st := s_refusal)
  obtain ⟨f1, G1, b1, k1⟩ := ok_numbers_of (P := P) (w := w) (base := base) T
  obtain ⟨f2, G2, b2, k2⟩ := ok_sums_of (P := P) (w := w) (base := base) T
  obtain ⟨f3, G3, b3, k3⟩ := ok_every_meeting (P := P) (w := w) (base := base) T
  refine ⟨fd, F.ok sc_refusal (fun vs H Q E h => ?_) (fun cdv A outer s H vs Q E hr h => ?_), F.binds (fun _ _ _ _ _ _ us hl => match us, hl with | [_, _], _ => rfl), F.kp⟩
  · obtain ⟨_, _, _, _, _, _, _, rfl, _⟩ := h
    rfl
  · obtain ⟨a, b, n, m, R, tr, fs, rfl, hC, hf, ho, hsz, kA, kB⟩ := h
    have nd := sc_refusal.nd
    obtain ⟨kvs, ha, hCl⟩ := id hC
    have c1 := hCl.ln
    have c2 := hCl.lm
    have c3 := hCl.lR
    refine ⟨_, pss_cons (ps_set (i := 2) nd rfl (Or.inr rfl) (pe_ix ix_tup (pe_call G2 hr (by rfl) T.g_sums_of k2 b2 .nil pass0 (pa_cons (pv 0) (pa_cons (pv 1) pa_nil))) pe_int (fun _ _ => rfl)))
      (pss_cons (ps_if (pt_cmpR op_eq (pv 2) pe_int (nomark _)) (pss_one (ps_ret pe_non)) pss_nil)
      (pss_cons (ps_asg (pe_call G1 (hr.mono (by decide)) (by rfl) T.g_numbers_of k1 b1 .nil pass0 (pa_cons (pv 0) pa_nil)) (pg_tup (by rfl) (pgs_cons (pg_name (i := 3) nd rfl (Or.inl rfl)) (pgs_cons (pg_name (i := 4) nd rfl (Or.inl rfl)) (pgs_cons (pg_name (i := 5) nd rfl (Or.inl rfl)) pgs_nil)))))
      (pss_cons (ps_set (i := 6) nd rfl (Or.inl rfl) (pe_call G3 (hr.mono (by decide)) (by rfl) T.g_every_meeting k3 b3 .nil pass0 (pa_cons (pv 3) (pa_cons (pv 4) (pa_cons (pv 5) pa_nil)))))
      (pss_one (ps_ret (pe_lc (own := [("place", 7), ("meeting", 8)]) (g := gTup K 2 (gCons (gName 7) (gCons (gName 8) gNil))) (by rfl) nd (pi_enum (by rfl) T.m_enumerate (pa_cons (pv 6) pa_nil)) (blkOk_by (N := ["crossings", "forms", "refused", "suns", "moons", "rounds", "every", "place", "meeting"]) (sc := defScope s_refusal) (by decide +kernel))
        (fun _ _ _ _ _ => pg_tup (by rfl) (pgs_cons (pg_name (i := 7) nd rfl (Or.inl rfl)) (pgs_cons (pg_name (i := 8) nd rfl (Or.inl rfl)) pgs_nil)))
        (fun _ _ _ _ _ => pts_one (pt_cmpR op_eq (pe_op op_and (pe_op op_shr (pv 2) (pv 7)) pe_int) pe_int (nomark _))) (fun _ _ _ _ _ => pv 8))))))), ?_⟩
    refine ⟨_, rfl, _, rfl, a, b, n, m, R, tr, fs, rfl, hC, hf, ho, hsz, fun u p d rs H1 s1 hd hS hI hu1 => ?_, fun u p t H1 s1 hRf ht hu1 => ?_⟩
    · refine ⟨_, _, _, _, rfl, rfl, SqT.of hu1, rfl, ?_⟩
      refine ⟨_, rfl, rfl, _, rfl, ?_⟩
      refine iteT (kA rs H1 s1 hI)
    · refine ⟨_, _, _, _, rfl, rfl, SqT.of hu1, rfl, ?_⟩
      refine ⟨_, rfl, rfl, _, rfl, ?_⟩
      rw [decide_eq_false (show V.int ((t : Nat) : Int) ≠ V.int 0 from fun e => by injection e with e; omega)]
      refine iteF ?_
      refine ⟨_, rfl, a, n, m, R, tr, rfl, hC.nl (Nl.of s1), fun t2 H2 s2 ht2 => ?_⟩
      refine ⟨t2, _, rfl, SqT.of ht2, rfl, _, _, rfl, _, _, rfl, _, _, rfl, rfl, ?_⟩
      refine ⟨_, rfl, _, rfl, _, rfl, n, m, R, rfl, by omega, by omega, by omega, hCl.hn, hCl.hm, fun L H3 s3 hL hM => ?_⟩
      obtain ⟨as, hL1, hL2, hL3⟩ := id hM
      refine ⟨_, rfl, L, _, rfl, SqL.of hL1, fun D hD => ?_⟩
      have s03 : Same H H3 := (s1.trans s2).trans s3
      have hDL : D ≠ L := fun e => by rw [e, hL1] at hD; cases hD
      have hMl : (meets n m (R * n * m)).length = R * n * m := meets_len _ _ _
      have hbig : R * n * m ≤ 6 * 8 * 8 := Nat.mul_le_mul (Nat.mul_le_mul c3 c1) c2
      refine lc_it (walk_enum (K := K) (a := L) (xs := as.map V.ref)) (fun c H' => Same H3 H' ∧ ThingAt H' D (picked 0 ((meets n m (R * n * m)).take c) t)) ⟨same_upd (Same.refl _) hD, [], upd_same, rfl, fun i p x e => by simp at e⟩ (fun c H' _ p => SqL.of (p.1 _ _ hL1)) (fun c x H4 H5 hc p y => ?_) (fun H4 p => ?_)
      · obtain ⟨s4, h4⟩ := p
        obtain ⟨e, x1, y1, rfl, he, rfl, hx1, hy1⟩ := y
        cases hx1
        rw [List.length_map, hL2] at hc
        have hy1 : (as.map V.ref)[c]? = some y1 := hy1
        rw [List.getElem?_map, List.getElem?_eq_getElem (by omega : c < as.length)] at hy1
        cases hy1
        have s5 : Same H4 (upd H4 e (.tup [.int c, .ref as[c]])) := same_upd (Same.refl _) he
        have hmt := (s4.trans s5) _ _ (hL3 c as[c] (List.getElem?_eq_getElem (by omega)))
        have hget : (meets n m (R * n * m))[c]? = some (dec n m c) := meets_get hc
        refine ⟨e, _, rfl, SqT.of upd_same, rfl, _, _, rfl, _, _, rfl, rfl, rfl, ?_⟩
        refine ⟨_, rfl, _, rfl, _, _, rfl, rfl, Int.natCast_nonneg _, _, _, rfl, rfl, rfl, _, rfl, ?_⟩
        rw [shift_bit]
        obtain ⟨acc, hacc, hl, _⟩ := id h4
        have h5 := h4.same s5
        have hpk := picked_take t hget
        cases hb : t.testBit c with
        | true =>
          refine iteT ⟨_, rfl, _, s5 _ _ hacc, ?_, same_upd (s4.trans s5) (by exact hD), ?_⟩
          · rw [List.length_map, hl]
            have q1 := (picked_sub t 0 ((meets n m (R * n * m)).take c)).length_le
            rw [List.length_take] at q1
            have : sizeLine = 16777216 := sizeLine_eq
            omega
          · rw [hpk, hb]
            exact h5.snoc (s5 _ _ hacc) hmt
        | false =>
          refine iteF ⟨s4.trans s5, ?_⟩
          rw [hpk, hb]
          show ThingAt _ D (picked 0 _ t ++ [])
          rw [List.append_nil]
          exact h5
      · obtain ⟨s4, h4⟩ := p
        rw [List.length_map, hL2, List.take_of_length_le (by omega)] at h4
        exact kB D t H4 (s03.trans s4) (s03.free hD) hRf h4
def spManyTold (K : PySem.W.Frag) : Sp := fun vs H Q _ => ∃ (a b : Addr) (n m R : Nat) (tr : Nat → Bool) (fs : List Fm), vs = [.ref a, .ref b] ∧ ClothAt H a n m R tr ∧ FormsAt H b fs ∧ fs.length ≤ 1000 ∧ FmOk fs ∧ fsize fs ≤ 40 ∧
  (∀ rs (k : Nat) H', Same H H' → SumsInv (fsize fs) (fun i => mskOf n m fs (dec n m i)) tr (R * n * m) rs → k ≤ 40 → Q (.int (2 ^ k)) H') ∧
  (∀ (t : Nat) H', Same H H' → Refuses (fun i => mskOf n m fs (dec n m i)) tr (R * n * m) (fsize fs) t → Q (.int 0) H')
theorem sc_many_told : FnScope ["crossings", "forms", "sums", "refused"] ["crossings", "forms"] (defScope s_many_told) := ⟨rfl, rfl, rfl, by decide +kernel, rfl, by decide +kernel, by decide +kernel⟩
theorem ok_many_told (T : Txt K mg) : OkF P w K mg base 4 (He.ga K "many_told") ["crossings", "forms"] (spManyTold K) := by
  obtain ⟨fd, F⟩ := T.fn 17 (st := s_many_told)
  obtain ⟨f2, G2, b2, k2⟩ := ok_sums_of (P := P) (w := w) (base := base) T
  obtain ⟨f3, G3, b3, k3⟩ := ok_many_characters (P := P) (w := w) (base := base) T
  have R4 := (ok_Sums_rank (P := P) (w := w) (base := base) T).raw
  refine ⟨fd, F.ok sc_many_told (fun vs H Q E h => ?_) (fun cdv A outer s H vs Q E hr h => ?_), F.binds (fun _ _ _ _ _ _ us hl => match us, hl with | [_, _], _ => rfl), F.kp⟩
  · obtain ⟨_, _, _, _, _, _, _, rfl, _⟩ := h
    rfl
  · obtain ⟨a, b, n, m, R, tr, fs, rfl, hC, hf, hfl, ho, hsz, kA, kB⟩ := h
    have nd := sc_many_told.nd
    refine ⟨_, pss_cons (ps_asg (pe_call G2 hr (by rfl) T.g_sums_of k2 b2 .nil pass0 (pa_cons (pv 0) (pa_cons (pv 1) pa_nil))) (pg_tup (by rfl) (pgs_cons (pg_name (i := 2) nd rfl (Or.inl rfl)) (pgs_cons (pg_name (i := 3) nd rfl (Or.inl rfl)) pgs_nil))))
      (pss_one (ps_ret (pe_ifExp (pt_cmpR op_gt (pv 3) pe_int (nomark _)) pe_int (pe_op op_oneShl pe_int (pe_op op_sub (pe_call G3 (hr.mono (by decide)) (by rfl) T.g_many_characters k3 b3 .nil pass0 (pa_cons (pv 1) pa_nil))
        (SlX.pe_methSl0 (E := E0) (pv 2) T.s_Sums T.me_rank.1 R4 (hr.mono (by decide)) pass0)))))), ?_⟩
    refine ⟨_, rfl, _, rfl, a, b, n, m, R, tr, fs, rfl, hC, hf, ho, hsz, fun u p d rs H1 s1 hd hS hI hu1 => ?_, fun u p t H1 s1 hRf ht hu1 => ?_⟩
    · refine ⟨u, _, rfl, SqT.of hu1, rfl, _, _, rfl, _, _, rfl, rfl, ?_⟩
      refine ⟨_, rfl, _, _, rfl, rfl, _, rfl, iteF ?_⟩
      refine ⟨_, rfl, b, fs, rfl, hf.same s1, hfl, fun H2 s2 => ?_⟩
      have hS2 := hS.same s2
      obtain ⟨dx, vs, kvs, hs, _⟩ := id hS2
      have hrl : rs.length ≤ fsize fs := rank_le hI.ok fun r hr => (hI.lt r hr).1
      refine ⟨_, rfl, p, dx, vs, rfl, hs, p, d, rs, rfl, hS2, _, _, rfl, rfl, ?_⟩
      refine ⟨fsize fs - rs.length, rfl, congrArg V.int (by omega), by omega, kA rs _ H2 (s1.trans s2) hI (by omega)⟩
    · refine ⟨u, _, rfl, SqT.of hu1, rfl, _, _, rfl, _, _, rfl, rfl, ?_⟩
      refine ⟨_, rfl, _, _, rfl, rfl, _, rfl, ?_⟩
      rw [decide_eq_true (show ((t : Nat) : Int) > 0 by omega)]
      exact iteT (kB t H1 s1 hRf)
end
end K7
/-! text K7V2 -/
set_option maxHeartbeats 4000000
namespace K7
open PySem PySem.Spec PySem.Calls PyProof.Rows L2
section
variable {P : Program} {w : World} {K : PySem.W.Frag} {mg : PySem.Str → Option Value} {base : Heap}
def spIsRefusal : Sp := fun vs H Q _ => ∃ (a b c : Addr) (n m R : Nat) (tr : Nat → Bool) (fs : List Fm) (ts : List (Nat × Nat × Nat)), vs = [.ref a, .ref b, .ref c] ∧ ClothAt H a n m R tr ∧ FormsAt H b fs ∧ FmOk fs ∧ fsize fs ≤ 40 ∧ ThingAt H c ts ∧ ts.Nodup ∧ ts.length ≤ 1000 ∧
  (∀ x ∈ ts, x.1 < R ∧ x.2.1 < n ∧ x.2.2 < m) ∧ ∀ H', Same H H' → Q (.bl (decide (sumMask (fun x => places n m x fs) ts = 0) && par (ts.map (trAt n m tr)))) H'
theorem sc_is_refusal : FnScope ["crossings", "forms", "thing", "suns", "moons", "rounds", "left", "odd", "place", "one"] ["crossings", "forms", "thing"] (defScope s_is_refusal) := ⟨rfl, rfl, rfl, by decide +kernel, rfl, by decide +kernel, by decide +kernel⟩
theorem ok_is_refusal (T : Txt K mg) : OkF P w K mg base 4 (He.ga K "is_refusal") ["crossings", "forms", "thing"] spIsRefusal := by
  obtain ⟨fd, F⟩ := T.fn 15 (st := s_is_refusal)
  obtain ⟨f1, G1, b1, k1⟩ := ok_numbers_of (P := P) (w := w) (base := base) T
  obtain ⟨f2, G2, b2, k2⟩ := ok_is_meeting_of (P := P) (w := w) (base := base) T
  obtain ⟨f3, G3, b3, k3⟩ := ok_mask_at (P := P) (w := w) (base := base) T
  refine ⟨fd, F.ok sc_is_refusal (fun vs H Q E h => ?_) (fun cdv A outer s H vs Q E hr h => ?_), F.binds (fun _ _ _ _ _ _ us hl => match us, hl with | [_, _, _], _ => rfl), F.kp⟩
  · obtain ⟨_, _, _, _, _, _, _, _, _, rfl, _⟩ := h
    rfl
  · obtain ⟨a, b, c, n, m, R, tr, fs, ts, rfl, hC, hf, ho, hsz, hT, hnd, hl, hin, k⟩ := h
    have nd := sc_is_refusal.nd
    have hu := hu_of hr
    obtain ⟨kvs, ha, hCl⟩ := id hC
    have c3 := hCl.lR
    refine ⟨_, pss_cons (ps_asg (pe_call G1 (hr.mono (by decide)) (by rfl) T.g_numbers_of k1 b1 .nil pass0 (pa_cons (pv 0) pa_nil)) (pg_tup (by rfl) (pgs_cons (pg_name (i := 3) nd rfl (Or.inl rfl)) (pgs_cons (pg_name (i := 4) nd rfl (Or.inl rfl)) (pgs_cons (pg_name (i := 5) nd rfl (Or.inl rfl)) pgs_nil)))))
      (pss_cons (ps_if (pt_not (pt_val (pe_callB call_isi (by rfl) T.m_isinstance (by decide +kernel) (pa_cons (pv 2) (pa_cons (pe_bltn (v := .ty "list") (by rfl) T.m_list (by decide +kernel) rfl) pa_nil))))) (pss_one (ps_ret pe_bl)) pss_nil)
      (pss_cons (ps_asg (pe_tup (pa_cons pe_int (pa_cons pe_int pa_nil))) (pg_tup (by rfl) (pgs_cons (pg_name (i := 6) nd rfl (Or.inl rfl)) (pgs_cons (pg_name (i := 7) nd rfl (Or.inl rfl)) pgs_nil))))
      (pss_cons (ps_for PassesOwn.never rfl (pi_enum (by rfl) T.m_enumerate (pa_cons (pv 2) pa_nil)) (pg_tup (by rfl) (pgs_cons (pg_name (i := 8) nd rfl (Or.inl rfl)) (pgs_cons (pg_name (i := 9) nd rfl (Or.inl rfl)) pgs_nil)))
        (pss_cons (ps_if (PW.pt (pw_or (pt_not (pt_val (pe_call G2 hr (by rfl) T.g_is_meeting_of k2 b2 .nil pass0 (pa_cons (pv 3) (pa_cons (pv 4) (pa_cons (pv 5) (pa_cons (pv 9) pa_nil)))))))
            (pw_or1 (pt_cmpR (op_inD (u65 hr)) (pv 9) (pe_slice sl_list (pv 2) po_none (po_some (pv 8))) (by rfl))))) (pss_one (ps_ret pe_bl)) pss_nil)
        (pss_cons (ps_aug (i := 6) nd rfl (Or.inl rfl) (pe_call G3 (hr.mono (by decide)) (by rfl) T.g_mask_at k3 b3 .nil pass0 (pa_cons (pv 1) (pa_cons (pv 9) (pa_cons (pv 3) (pa_cons (pv 4) pa_nil))))) iop_xor)
        (pss_one (ps_aug (i := 7) nd rfl (Or.inl rfl) (pe_callTy call_int_str (by rfl) T.m_int (by decide +kernel) (pa_cons (pe_item_str (pe_dget hu (pv 0) (pe_slice sl_tup (pv 9) (po_some pe_int) po_none) (fun _ _ => rfl)) (pe_ix ix_tup (pv 9) pe_int (fun _ _ => rfl)) (fun _ _ => rfl)) pa_nil)) iop_xor)))))
      (pss_one (ps_ret (pe_and (pe_cmpR op_eq (pv 6) pe_int (nomark _)) (pe_one (pe_cmpR op_eq (pv 7) pe_int (nomark _))))))))), ?_⟩
    obtain ⟨as, hT1, hT2, hT3⟩ := id hT
    refine ⟨_, rfl, a, n, m, R, tr, rfl, hC, fun t H1 s1 ht => ?_⟩
    refine ⟨t, _, rfl, SqT.of ht, rfl, _, _, rfl, _, _, rfl, _, _, rfl, rfl, ?_⟩
    refine ⟨_, rfl, .ref c, .ty "list", .type "list", .type "list", true, rfl, .ty _, .base (.lst (s1 _ _ hT1)), kit_ty (by decide +kernel), true, rfl, iteF ?_⟩
    refine ⟨(by show 2 ≤ sizeLine; decide), fun t2 ht2 => ?_⟩
    refine ⟨t2, _, rfl, SqT.of upd_same, rfl, _, _, rfl, _, _, rfl, rfl, ?_⟩
    have s2 := s1.trans (same_upd (D := t2) (o := .tup [.int 0, .int 0]) (Same.refl _) ht2)
    refine ⟨_, rfl, c, _, rfl, SqL.of (s2 _ _ hT1), ?_⟩
    refine for_it (walk_enum (K := K) (a := c) (xs := as.map V.ref)) (fun i σ H' => ∃ v1 v2 : Option V, σ = [some (.ref a), some (.ref b), some (.ref c), some (.int n), some (.int m), some (.int R), some (.int (sumMask (fun x => places n m x fs) (ts.take i) : Nat)), some (.int ((par ((ts.take i).map (trAt n m tr))).toNat : Nat)), v1, v2] ∧ Same H H')
      ⟨none, none, rfl, s2⟩ (fun i σ H' _ ⟨_, _, _, s'⟩ => SqL.of (s' _ _ hT1)) (fun i y σ H' H4 hi ⟨v1, v2, e, s'⟩ y => ?_) (fun σ H' ⟨v1, v2, e, s'⟩ => ?_)
    · subst e
      obtain ⟨e, x1, y1, rfl, he, rfl, hx1, hy1⟩ := y
      cases hx1
      rw [List.length_map] at hi
      have hi2 : i < ts.length := by omega
      have hy1 : (as.map V.ref)[i]? = some y1 := hy1
      rw [List.getElem?_map, List.getElem?_eq_getElem hi] at hy1
      cases hy1
      have s4 : Same H (upd H' e (.tup [.int i, .ref as[i]])) := s'.trans (same_upd (Same.refl _) he)
      have hti : ts[i]? = some ts[i] := List.getElem?_eq_getElem hi2
      have htup0 := hT3 i as[i] ts[i] (List.getElem?_eq_getElem hi) hti
      obtain ⟨hr1, hi1, hj1⟩ := hin _ (List.getElem_mem hi2)
      have hnin : ts[i] ∉ ts.take i := fun hm => by
        have h1 : (ts.take (i + 1)).Nodup := hnd.sublist (List.take_sublist _ _)
        rw [take_snoc hti] at h1
        exact (List.pairwise_append.mp h1).2.2 _ hm _ (List.mem_singleton.mpr rfl) rfl
      have hstep1 : sumMask (fun x => places n m x fs) (ts.take (i + 1)) = sumMask (fun x => places n m x fs) (ts.take i) ^^^ mskOf n m fs ts[i] := by
        rw [take_snoc hti, sumMask_snoc]
        rfl
      have hstep2 : par ((ts.take (i + 1)).map (trAt n m tr)) = Bool.xor (par ((ts.take i).map (trAt n m tr))) (trAt n m tr ts[i]) := by rw [take_snoc hti, List.map_append]; exact par_snoc _ _
      generalize hx : ts[i] = x at htup0 hr1 hi1 hj1 hnin hstep1 hstep2
      obtain ⟨r, ii, jj⟩ := x
      have hr1 : r < R := hr1
      have hi1 : ii < n := hi1
      have hj1 : jj < m := hj1
      have htup := s4 _ _ htup0
      refine ⟨e, _, rfl, SqT.of upd_same, rfl, _, _, rfl, _, _, rfl, rfl, ?_⟩
      refine ⟨_, rfl, _, rfl, _, rfl, _, rfl, as[i], n, m, R, (r, ii, jj), rfl, htup, hr1, hi1, hj1, fun H5 s5 => ⟨true, rfl, iteF ?_⟩⟩
      have s6 := s4.trans s5
      refine ⟨_, rfl, _, rfl, _, rfl, _, rfl, c, _, rfl, SqL.of (s6 _ _ hT1), fun p hp => ?_⟩
      have ecut : cutV (as.map V.ref) none (some (i : Int)) = (as.take i).map V.ref := by
        unfold cutV
        rw [HT.sIx_none, HT.sIx_nat, List.length_map, Nat.min_eq_left (by omega), Nat.sub_zero, List.drop_zero, List.map_take]
      rw [ecut]
      have s7 : Same H (upd H5 p (.lst ((as.take i).map V.ref))) := s6.trans (same_upd (Same.refl _) hp)
      have htup7 := (s5.trans (same_upd (D := p) (o := .lst ((as.take i).map V.ref)) (Same.refl _) hp)) _ _ htup
      refine ⟨mtD (r, ii, jj), (ts.take i).map mtD, dp_mt htup7, .lst (SqL.of upd_same) (dpAll_mt (by rw [List.length_take, List.length_take, hT2]) fun j q x e1 e2 => ?_), rfl, list_shaped _ (by rw [List.length_take]; omega), _, rfl, ?_⟩
      · rw [List.getElem?_take] at e1 e2
        split at e1
        · rename_i hj
          rw [if_pos hj] at e2
          exact s7 _ _ (hT3 j q x e1 e2)
        · cases e1
      · rw [any_mtD, decide_eq_false hnin]
        refine iteF ?_
        refine ⟨_, rfl, _, rfl, _, rfl, _, rfl, _, rfl, b, as[i], fs, n, m, (r, ii, jj), rfl, hf.same s7, htup7, ho, by omega, by show r ≤ 100; omega, fun H8 s8 => ?_⟩
        have htup8 := s8 _ _ htup7
        have s18 := s7.trans s8
        refine ⟨_, _, rfl, rfl, ?_⟩
        refine ⟨_, rfl, _, rfl, _, rfl, _, rfl, as[i], _, rfl, SqT.of htup8, (by show ¬ (HT.sIx 3 0 (some 1) = 0 ∧ _); exact fun h => absurd h.1 (by decide)), fun q hq => ?_⟩
        have g : DGet (upd H8 q (.tup (cutV (mt3 (r, ii, jj)) (some 1) none))) a (.ref q) (some (.str (bt (cellBits n m R tr (ii * m + jj))))) := by
          rw [← hCl.at_ hi1 hj1]
          exact DGet.t (k := [.inl (ii : Nat), .inl (jj : Nat)]) ((s18.trans (same_upd (Same.refl _) hq)) _ _ ha) (by rw [upd_same] <;> rfl)
        have cb : (cellBits n m R tr (ii * m + jj))[r]? = some (tr ((r * n + ii) * m + jj)) := cell_bit hr1
        refine ⟨a, _, rfl, g, _, rfl, _, _, _, _, rfl, rfl, SqT.of ((same_upd (Same.refl _) hq) _ _ htup8), rfl, _, _, sgn (tr ((r * n + ii) * m + jj)), rfl, rfl, by omega, by show (r : Int) < 2 ^ 63; omega, by rw [bt_len, cell_len]; show (r : Int) < (R : Int); omega, by show _[(r : Int).toNat]? = _; rw [Int.toNat_natCast]; exact bt_get cb, ?_⟩
        refine ⟨_, _, rfl, intText_bit (tr ((r * n + ii) * m + jj)), (by rw [bt_one, bt_len]; show 1 ≤ 640; decide), _, _, rfl, rfl, ?_⟩
        refine ⟨some (.int i), some (.ref as[i]), ?_, s18.trans (same_upd (Same.refl _) hq)⟩
        rw [hstep1, hstep2, ← xor_pp, ← xor_bits]
        rfl
    · subst e
      rw [List.length_map, hT2, List.take_length]
      refine ⟨_, rfl, rfl, _, rfl, ?_⟩
      have z := k H' s'
      have e1 : decide (V.int ((sumMask (fun x => places n m x fs) ts : Nat) : Int) = V.int 0) = decide (sumMask (fun x => places n m x fs) ts = 0) := by
        rw [Bool.eq_iff_iff, decide_eq_true_iff, decide_eq_true_iff]
        constructor
        · intro h
          injection h with h
          omega
        · intro h
          rw [h]
          rfl
      rw [e1]
      cases hm : decide (sumMask (fun x => places n m x fs) ts = 0) with
      | false =>
        rw [hm] at z
        exact iteF z
      | true =>
        rw [hm] at z
        refine iteT ⟨_, rfl, rfl, ?_⟩
        show Q (.bl (decide (V.int (((par (ts.map (trAt n m tr))).toNat : Nat) : Int) = V.int 1))) H'
        rw [dec_bit]
        exact z
end
end K7
/-! text K7LF -/
set_option maxHeartbeats 4000000
namespace K7
open PySem PySem.Spec PySem.Calls PyProof.Rows L2
section
variable {P : Program} {w : World} {K : PySem.W.Frag} {mg : PySem.Str → Option Value} {base : Heap}
def spRefRight : Sp := fun vs H Q _ => ∃ (b c a f d : Addr) (n m R : Nat) (tr : Nat → Bool) (fs : List Fm) (ts : List (Nat × Nat × Nat)), vs = [.ref b, .ref a, .ref f, .int n, .int m, .ref d] ∧ BagAt H b c ∧ ClothAt H a n m R tr ∧ FormsAt H f fs ∧ FmOk fs ∧ fsize fs ≤ 40 ∧ fs.length ≤ 40 ∧ f ≠ b ∧ ThingAt H d ts ∧ d ≠ b ∧ RefOk n m R tr fs ts ∧
  ∀ H', Bd b H H' → BagAt H' b c → Q (.bl true) H'
theorem sc_law_refusal_right : FnScope ["_law_bag_here", "_law_cloth", "_law_forms", "_law_n", "_law_m", "_law_thing", "_law_at", "_law_less"] ["_law_bag_here", "_law_cloth", "_law_forms", "_law_n", "_law_m", "_law_thing"] (defScope s_law_refusal_right) := ⟨rfl, rfl, rfl, by decide +kernel, rfl, by decide +kernel, by decide +kernel⟩
theorem ok_law_refusal_right (T : Txt K mg) : OkF P w K mg base 5 (He.ga K "_law_refusal_right") ["_law_bag_here", "_law_cloth", "_law_forms", "_law_n", "_law_m", "_law_thing"] spRefRight := by
  obtain ⟨fd, F⟩ := T.fn 34 (st := s_law_refusal_right)
  obtain ⟨f1, G1, b1, k1⟩ := ok_law_my_refuses (P := P) (w := w) (base := base) T
  obtain ⟨f2, G2, b2, k2⟩ := ok_law_take (P := P) (w := w) (base := base) T
  obtain ⟨f3, G3, b3, k3⟩ := ok_law_mixed (P := P) (w := w) (base := base) T
  obtain ⟨f4, G4, b4, k4⟩ := ok_is_refusal (P := P) (w := w) (base := base) T
  obtain ⟨f5, G5, b5, k5⟩ := ok_law_alike (P := P) (w := w) (base := base) T
  refine ⟨fd, F.ok sc_law_refusal_right (fun vs H Q E h => ?_) (fun cdv A outer s H vs Q E hr h => ?_), F.binds (fun _ _ _ _ _ _ us hl => match us, hl with | [_, _, _, _, _, _], _ => rfl), F.kp⟩
  · obtain ⟨_, _, _, _, _, _, _, _, _, _, _, rfl, _⟩ := h
    rfl
  · obtain ⟨b, c, a, f, d, n, m, R, tr, fs, ts, rfl, hB, hC, hf, ho, hsz, hfl, nfb, hT, ndb, hR, k⟩ := h
    have nd := sc_law_refusal_right.nd
    have sz : sizeLine = 16777216 := sizeLine_eq
    obtain ⟨kvs, ha, hCl⟩ := id hC
    have ln := hCl.ln
    have lm := hCl.lm
    have lR := hCl.lR
    obtain ⟨as, hT1, hT2, hT3⟩ := id hT
    refine ⟨_, pss_cons (ps_if (PW.pt (pw_or (pt_not (pt_val (pe_callB call_isi (by rfl) T.m_isinstance (by decide +kernel) (pa_cons (pv 5) (pa_cons (pe_bltn (v := .ty "list") (by rfl) T.m_list (by decide +kernel) rfl) pa_nil)))))
        (pw_or (pt_cmpR (op_neD hr.units) (pv 5) (pe_callB (cr_sortedT (by rfl)) (by rfl) T.m_sorted (by decide +kernel) (pa_cons (pe_callTy (cr_setOfT (by rfl) hr.units) (by rfl) T.m_set (by decide +kernel) (pa_cons (pv 5) pa_nil)) pa_nil)) (nomark _))
          (pw_or1 (pt_not (pt_val (pe_call G1 (hr.mono (by decide)) (by rfl) T.g__law_my_refuses k1 b1 .nil pass0 (pa_cons (pv 1) (pa_cons (pv 2) (pa_cons (pv 3) (pa_cons (pv 4) (pa_cons (pv 5) pa_nil)))))))))))) (pss_one (ps_ret pe_bl)) pss_nil)
      (pss_cons (ps_set (i := 6) nd rfl (Or.inl rfl) (pe_call G2 (hr.mono (by decide)) (by rfl) T.g__law_take k2 b2 .nil pass0 (pa_cons (pv 0) (pa_cons (pe_callB call_len_seq (by rfl) T.m_len boot_len (pa_cons (pv 5) pa_nil)) pa_nil))))
      (pss_cons (ps_if (pt_cmpR op_notBl (pe_call G4 hr (by rfl) T.g_is_refusal k4 b4 .nil pass0 (pa_cons (pv 1) (pa_cons (pv 2) (pa_cons (pe_call G3 (hr.mono (by decide)) (by rfl) T.g__law_mixed k3 b3 .nil pass0 (pa_cons (pv 0) (pa_cons (pv 5) pa_nil))) pa_nil)))) pe_bl (nomark _)) (pss_one (ps_ret pe_bl)) pss_nil)
      (pss_cons (ps_set (i := 7) nd rfl (Or.inl rfl) (pe_op op_cat (pe_slice sl_list (pv 5) po_none (po_some (pv 6))) (pe_slice sl_list (pv 5) (po_some (pe_op op_add (pv 6) pe_int)) po_none)))
      (pss_one (ps_ret (pe_call G5 (hr.mono (by decide)) (by rfl) T.g__law_alike k5 b5 .nil pass0 (pa_cons (pe_call G4 hr (by rfl) T.g_is_refusal k4 b4 .nil pass0 (pa_cons (pv 1) (pa_cons (pv 2) (pa_cons (pv 7) pa_nil))))
        (pa_cons (pe_call G1 (hr.mono (by decide)) (by rfl) T.g__law_my_refuses k1 b1 .nil pass0 (pa_cons (pv 1) (pa_cons (pv 2) (pa_cons (pv 3) (pa_cons (pv 4) (pa_cons (pv 7) pa_nil)))))) pa_nil)))))))), ?_⟩
    refine ⟨_, rfl, .ref d, .ty "list", .type "list", .type "list", true, rfl, .ty _, .base (.lst hT1), kit_ty (by decide +kernel), true, rfl, iteF ?_⟩
    -- sorted(set(thing))
    obtain ⟨z, z1, z2, z3⟩ := hT.zip
    have hzl : z.length = ts.length := by rw [← z2, List.length_map]
    have bnd : ∀ x ∈ ts, x.2.1 < 8 ∧ x.2.2 < 8 := fun x hx => by
      have := hR.bd x hx
      omega
    refine ⟨_, rfl, _, rfl, d, z.map (fun p => (p.1, mtI p.2)), rfl, SqL.of (by rw [z1, List.map_map] <;> rfl), fun p hp => ?_, by rw [List.length_map, hzl]; have := hR.few; omega, fun S L hS hL1 hL2 => ?_⟩
    · obtain ⟨q, hq, rfl⟩ := List.mem_map.mp hp
      exact SqT.of (z3 q hq)
    have sS : Same H (upd H S (SetTO P w S L)) := same_upd (Same.refl _) hS
    refine ⟨S, L, 3, 8, rfl, upd_same, fun p hp => ?_, by decide, fun p hp => ?_, fun L' p hpm hnd h64 hpw hp => ?_⟩
    · obtain ⟨q, hq, rfl⟩ := List.mem_map.mp (hL1 p hp)
      exact SqT.of (sS _ _ (z3 q hq))
    · obtain ⟨q, hq, rfl⟩ := List.mem_map.mp (hL1 p hp)
      refine ⟨rfl, fun v hv => ?_⟩
      have hqt : q.2 ∈ ts := by rw [← z2]; exact List.mem_map.mpr ⟨q, hq, rfl⟩
      have h3 := hR.bd _ hqt
      have hv : v ∈ [(q.2.1 : Int), (q.2.2.1 : Int), (q.2.2.2 : Int)] := hv
      simp only [List.mem_cons, List.not_mem_nil, or_false] at hv
      rcases hv with rfl | rfl | rfl <;> omega
    have hA : L'.map (·.2) = ts.map mtI := by
      refine sorted_same bnd hR.asc hnd (List.pairwise_map.mpr hpw) (fun q hq => ?_) (fun q hq => ?_)
      · obtain ⟨u, hu, rfl⟩ := List.mem_map.mp hq
        obtain ⟨v, hv, e⟩ := List.mem_map.mp (hL1 u (hpm.mem_iff.mp hu))
        rw [← e, ← z2, List.map_map]
        exact List.mem_map.mpr ⟨v, hv, rfl⟩
      · obtain ⟨x, hx, rfl⟩ := List.mem_map.mp hq
        rw [← z2] at hx
        obtain ⟨v, hv, rfl⟩ := List.mem_map.mp hx
        have := hL2 (v.1, mtI v.2) (List.mem_map.mpr ⟨v, hv, rfl⟩)
        exact (hpm.map (·.2)).mem_iff.mpr this
    have sP : Same H (upd (upd H S (SetTO P w S L)) p (.lst (L'.map fun q => V.ref q.1))) := sS.trans (same_upd (Same.refl _) hp)
    have hll : L'.length = ts.length := by
      have := congrArg List.length hA
      rw [List.length_map, List.length_map] at this
      exact this
    refine ⟨.list (ts.map mtD), .list (ts.map mtD), .lst (SqL.of (sP _ _ hT1)) (dpAll_mt hT2 fun i q x e1 e2 => sP _ _ (hT3 i q x e1 e2)), .lst (xs := (L'.map (·.1)).map V.ref) (SqL.of (by rw [upd_same, List.map_map] <;> rfl)) (dpAll_mt (by rw [List.length_map]; exact hll) fun i q x e1 e2 => ?_), list_shaped _ (by have := hR.few; omega), list_shaped _ (by have := hR.few; omega), false, ?_, iteF ?_⟩
    · rw [List.getElem?_map] at e1
      cases e : L'[i]? with
      | none => rw [e] at e1; cases e1
      | some u =>
        rw [e] at e1
        cases e1
        have e3 : (L'.map (·.2))[i]? = (ts.map mtI)[i]? := by rw [hA]
        rw [List.getElem?_map, List.getElem?_map, e, e2] at e3
        have e3 : u.2 = mtI x := Option.some.inj e3
        obtain ⟨v, hv, ev⟩ := List.mem_map.mp (hL1 u (hpm.mem_iff.mp (List.mem_of_getElem? e)))
        have e4 : v.2 = x := mtI_inj (by rw [← e3, ← ev])
        rw [← ev, ← e4]
        exact sP _ _ (z3 v hv)
    · rw [eqv_same]
      rfl
    -- the law's own look at it
    refine ⟨_, rfl, _, rfl, _, rfl, _, rfl, _, rfl, a, f, d, n, m, R, tr, fs, ts, rfl, hC.nl (Nl.of sP), hf.same sP, ho, hsz, hfl, hT.same sP, by have := hR.few; omega, hR.bd, fun H1 s1 => ?_⟩
    rw [hR.odd, decide_eq_true hR.even]
    refine ⟨true, rfl, iteF ?_⟩
    have s01 := sP.trans s1
    have B1 := hB.same s01
    have hT1' := hT.same s01
    refine ⟨_, rfl, _, rfl, d, _, rfl, .inl (SqL.of (s01 _ _ hT1)), b, c, ts.length, (by rw [List.length_map, hT2] <;> rfl), B1, hR.some_, by have := hR.few; omega, fun v H2 hv d2 B2 => ?_⟩
    have d02 : Bd b H H2 := (Bd.of s01).trans d2
    have hT2' := hT1'.bd d2 B1 ndb
    have hf2 := (hf.same s01).bd d2 B1 nfb
    have hC2 := (hC.nl (Nl.of s01)).nl (d2.nl B1)
    obtain ⟨y, y1, y2, y3⟩ := hT2'.zip
    refine ⟨_, rfl, _, rfl, _, rfl, _, rfl, b, c, d, _, rfl, y1, ndb, by rw [List.length_map, ← List.length_map (f := (·.2)), y2]; have := hR.few; omega, B2, fun D ys H3 hperm d3 hD hD3 B3 => ?_⟩
    obtain ⟨y', yp, ey⟩ := perm_map_inv (fun p : Addr × (Nat × Nat × Nat) => V.ref p.1) hperm y rfl
    have nl3 := d3.nl B2
    have hT3' : ThingAt H3 D (y'.map (·.2)) := ThingAt.ofZip (by rw [hD3, ey]) fun p hp => nl3.tup (y3 p (yp.mem_iff.mp hp))
    have hperm2 : (y'.map (·.2)).Perm ts := by rw [← y2]; exact yp.map _
    have hf3 := hf2.bd d3 B2 nfb
    refine ⟨a, f, D, n, m, R, tr, fs, _, rfl, hC2.nl nl3, hf3, ho, hsz, hT3', hperm2.nodup_iff.mpr hR.nd, by rw [hperm2.length_eq]; have := hR.few; omega, fun x hx => hR.bd x (hperm2.mem_iff.mp hx), fun H4 s4 => ?_⟩
    rw [sumMask_perm _ hperm2, par_perm (hperm2.map _), sumMask_flat, hR.odd, decide_eq_true hR.even]
    refine ⟨true, true, rfl, rfl, _, rfl, iteF ?_⟩
    -- with one less
    have B4 := B3.same s4
    have d04 : Bd b H H4 := (d02.trans d3).trans (Bd.of s4)
    have hT4 := (hT2'.bd d3 B2 ndb).same s4
    have hf4 := hf3.same s4
    have hC4 := (hC2.nl nl3).nl (Nl.of s4)
    obtain ⟨x, x1, x2, x3⟩ := hT4.zip
    have hxl : x.length = ts.length := by rw [← x2, List.length_map]
    refine ⟨_, rfl, _, rfl, _, rfl, d, _, rfl, SqL.of x1, fun L1 hL1' => ?_⟩
    have e1 : cutV (x.map fun p => V.ref p.1) none (some (v : Int)) = (x.take v).map fun p => V.ref p.1 := by
      unfold cutV
      rw [HT.sIx_none, HT.sIx_nat, List.length_map, Nat.min_eq_left (by omega), Nat.sub_zero, List.drop_zero, List.map_take]
    rw [e1]
    have s5 : Same H4 (upd H4 L1 (.lst ((x.take v).map fun p => V.ref p.1))) := same_upd (Same.refl _) hL1'
    refine ⟨_, rfl, _, rfl, _, _, rfl, rfl, ((v + 1 : Nat) : Int), congrArg V.int (by omega), d, _, rfl, SqL.of (s5 _ _ x1), fun L2 hL2' => ?_⟩
    have e2 : cutV (x.map fun p => V.ref p.1) (some ((v + 1 : Nat) : Int)) none = (x.drop (v + 1)).map fun p => V.ref p.1 := by
      unfold cutV
      rw [HT.sIx_none, HT.sIx_nat, List.length_map, Nat.min_eq_left (by omega), List.map_drop, List.take_of_length_le (by rw [List.length_drop, List.length_map]; exact Nat.le_refl _)]
    rw [e2]
    have s6 : Same H4 (upd (upd H4 L1 (.lst ((x.take v).map fun p => V.ref p.1))) L2 (.lst ((x.drop (v + 1)).map fun p => V.ref p.1))) := s5.trans (same_upd (Same.refl _) hL2')
    have ne12 : L1 ≠ L2 := fun e => by rw [← e, upd_same] at hL2'; cases hL2'
    refine ⟨L1, L2, _, _, rfl, rfl, by rw [upd_ne ne12, upd_same], upd_same, by rw [List.length_map, List.length_map, List.length_take, List.length_drop]; have := hR.few; omega, fun L3 hL3 => ?_⟩
    have s7 := s6.trans (same_upd (D := L3) (o := .lst (((x.take v).map fun p => V.ref p.1) ++ (x.drop (v + 1)).map fun p => V.ref p.1)) (Same.refl _) hL3)
    have hsub : (x.take v ++ x.drop (v + 1)).Sublist x := by
      have := List.eraseIdx_sublist x v
      rw [List.eraseIdx_eq_take_drop_succ] at this
      exact this
    have hT7 : ThingAt (upd (upd (upd H4 L1 (.lst ((x.take v).map fun p => V.ref p.1))) L2 (.lst ((x.drop (v + 1)).map fun p => V.ref p.1))) L3 (.lst (((x.take v).map fun p => V.ref p.1) ++ (x.drop (v + 1)).map fun p => V.ref p.1))) L3 ((x.take v ++ x.drop (v + 1)).map (·.2)) :=
      ThingAt.ofZip (by rw [upd_same, List.map_append]) fun p hp => s7 _ _ (x3 p (hsub.mem hp))
    have hsub2 : ((x.take v ++ x.drop (v + 1)).map (·.2)).Sublist ts := by rw [← x2]; exact hsub.map _
    have hl2 : ((x.take v ++ x.drop (v + 1)).map (·.2)).length ≤ 41 := Nat.le_trans hsub2.length_le hR.few
    refine ⟨_, rfl, _, rfl, _, rfl, a, f, L3, n, m, R, tr, fs, _, rfl, hC4.nl (Nl.of s7), hf4.same s7, ho, hsz, hT7, hR.nd.sublist hsub2, by omega, fun q hq => hR.bd q (hsub2.mem hq), fun H5 s8 => ?_⟩
    refine ⟨_, rfl, _, rfl, _, rfl, _, rfl, _, rfl, a, f, L3, n, m, R, tr, fs, _, rfl, (hC4.nl (Nl.of s7)).nl (Nl.of s8), (hf4.same s7).same s8, ho, hsz, hfl, hT7.same s8, by omega, fun q hq => hR.bd q (hsub2.mem hq), fun H6 s9 => ?_⟩
    rw [sumMask_flat]
    exact ⟨_, rfl, k H6 (d04.trans (Bd.of ((s7.trans s8).trans s9))) (B4.same ((s7.trans s8).trans s9))⟩
end
end K7
/-! text K7Wm -/
set_option maxHeartbeats 4000000
/-! told words make the rule -/
namespace K7
open PySem PySem.Spec PySem.Calls PyProof.Rows L2
theorem places_get {n m : Nat} {t : Nat × Nat × Nat} : ∀ {fs : List Fm} {i : Nat} {f : Fm}, fs[i]? = some f → (places n m t fs)[i]? = some (fsize (fs.take i) + f.at_ n m t) := by
  intro fs
  induction fs using snocInd with
  | h0 => intro i f h; simp at h
  | h1 l a ih =>
    intro i f h
    rw [places_snoc]
    by_cases hi : i < l.length
    · rw [List.getElem?_append_left hi] at h
      rw [List.getElem?_append_left (by rw [places_len]; exact hi), List.take_append_of_le_length (by omega)]
      exact ih h
    · have hi2 : i = l.length := by
        have := (List.getElem?_eq_some_iff.mp h).1
        rw [List.length_append, List.length_singleton] at this
        omega
      subst hi2
      rw [List.getElem?_append_right (Nat.le_refl _), Nat.sub_self] at h
      have h : a = f := Option.some.inj h
      subst h
      rw [List.getElem?_append_right (by rw [places_len]; exact Nat.le_refl _), places_len, Nat.sub_self, List.take_left']
      · rfl
      · rfl
theorem xor_fold (l : List Bool) : ∀ b : Bool, l.foldl Bool.xor b = Bool.xor b (par l) := by
  induction l using snocInd with
  | h0 => intro b; cases b <;> rfl
  | h1 l a ih => intro b; rw [List.foldl_append, par_snoc, ih b]; show Bool.xor (Bool.xor b (par l)) a = _; rw [Bool.xor_assoc]
theorem un_fold (num : Rd → Nat) : ∀ (r : List Rt) (x : Rt), (r.foldl .un x).val num = (r.map (·.val num)).foldl Bool.xor (x.val num)
  | [], _ => rfl
  | y :: r, x => by
    rw [List.foldl_cons, un_fold num r]
    rfl
theorem joinT_val (num : Rd → Nat) (l : List Rt) : (joinT l).val num = par (l.map (·.val num)) := by
  cases l with
  | nil => rfl
  | cons x r =>
    show (r.foldl .un x).val num = _
    rw [un_fold, List.map_cons]
    show _ = (x.val num :: r.map (·.val num)).foldl Bool.xor false
    rw [List.foldl_cons, Bool.false_xor]
theorem un_height : ∀ (r : List Rt) (x : Rt), (∀ t ∈ r, t.height = 0) → (r.foldl .un x).height ≤ x.height + r.length
  | [], _, _ => Nat.le_refl _
  | y :: r, x, h => by
    rw [List.foldl_cons]
    have := un_height r (.un x y) fun t ht => h t (List.mem_cons_of_mem _ ht)
    have e : (Rt.un x y).height = max x.height y.height + 1 := rfl
    have e2 := h y List.mem_cons_self
    rw [List.length_cons]
    omega
theorem joinT_height (l : List Rt) (h : ∀ t ∈ l, t.height = 0) : (joinT l).height ≤ l.length := by
  cases l with
  | nil => exact Nat.le_refl _
  | cons x r =>
    have := un_height r x fun t ht => h t (List.mem_cons_of_mem _ ht)
    have e := h x List.mem_cons_self
    show (r.foldl .un x).height ≤ _
    rw [List.length_cons]
    omega
theorem getBit_cut {bs : List Bool} {a l p : Nat} (hp : 0 < p) (h : a + l + p ≤ bs.length) (x : Nat) : getBit (cutB bs a l) (cutB bs (a + l) p) x = bs.getD (a + idx l p x) false := by
  unfold getBit
  rw [cutB_len bs a l (by omega), cutB_len bs (a + l) p h]
  unfold idx
  by_cases hx : x < l
  · rw [if_pos hx, if_pos hx]
    unfold cutB
    rw [List.getD_eq_getElem?_getD, List.getD_eq_getElem?_getD, List.getElem?_take, if_pos hx, List.getElem?_drop]
  · rw [if_neg hx, if_neg hx]
    unfold cutB
    have hm : (x - l) % p < p := Nat.mod_lt _ hp
    rw [List.getD_eq_getElem?_getD, List.getD_eq_getElem?_getD, List.getElem?_take, if_pos hm, List.getElem?_drop, ← Nat.add_assoc]
def wordsOf (fs : List Fm) (bs : List Bool) : List (List Bool × List Bool) := (List.range fs.length).map (wordAt fs bs)
theorem fits {fs : List Fm} {i : Nat} {f : Fm} (h : fs[i]? = some f) : fsize (fs.take i) + f.lead + f.per ≤ fsize fs := by
  have q1 := fsize_take_le (fs := fs) (i + 1)
  rw [take_snoc h, fsize_snoc] at q1
  unfold Fm.len at q1
  omega
theorem leaves_get {fs : List Fm} {bs : List Bool} {i : Nat} {f : Fm} (h : fs[i]? = some f) : (leaves fs (wordsOf fs bs))[i]? = some (.rd f.rd (cutB bs (fsize (fs.take i)) f.lead) (cutB bs (fsize (fs.take i) + f.lead) f.per)) := by
  unfold leaves wordsOf
  have hi := (List.getElem?_eq_some_iff.mp h).1
  rw [List.getElem?_zipWith, h, List.getElem?_map, List.getElem?_range hi]
  show some (Rt.rd f.rd (wordAt fs bs i).1 (wordAt fs bs i).2) = _
  unfold wordAt
  rw [h]
theorem leaves_len {fs : List Fm} {bs : List Bool} : (leaves fs (wordsOf fs bs)).length = fs.length := by
  unfold leaves wordsOf
  rw [List.length_zipWith, List.length_map, List.length_range, Nat.min_self]
theorem rule_truth {n m : Nat} {fs : List Fm} {bs : List Bool} (ho : FmOk fs) (hl : bs.length = fsize fs) (t : Nat × Nat × Nat) : ((joinT (leaves fs (wordsOf fs bs))).val fun rd => rd.num n m t) = truBy n m fs bs t := by
  rw [joinT_val]
  unfold truBy
  congr 1
  refine List.ext_getElem? fun i => ?_
  rw [List.getElem?_map, List.getElem?_map]
  cases h : fs[i]? with
  | none =>
    have hi := List.getElem?_eq_none_iff.mp h
    rw [List.getElem?_eq_none_iff.mpr (by rw [leaves_len]; exact hi), List.getElem?_eq_none_iff.mpr (by rw [places_len]; exact hi)]
    rfl
  | some f =>
    rw [leaves_get h, places_get h]
    have hf := fits h
    have hper : 0 < f.per := ho f (List.mem_of_getElem? h)
    show some (getBit _ _ (f.rd.num n m t)) = some (bs.getD (fsize (fs.take i) + f.at_ n m t) false)
    rw [getBit_cut hper (by omega)]
    rfl
theorem rule_height {fs : List Fm} {bs : List Bool} : (joinT (leaves fs (wordsOf fs bs))).height ≤ fs.length := by
  have h := joinT_height (leaves fs (wordsOf fs bs)) fun t ht => by
    obtain ⟨i, hi, rfl⟩ := List.mem_iff_getElem.mp ht
    rw [leaves_len] at hi
    have e := leaves_get (bs := bs) (List.getElem?_eq_getElem hi)
    rw [List.getElem?_eq_getElem (by rw [leaves_len]; exact hi)] at e
    rw [Option.some.inj e]
    rfl
  rw [leaves_len] at h
  exact h
theorem wordAt_get {fs : List Fm} {bs : List Bool} {i : Nat} {f : Fm} (h : fs[i]? = some f) : wordAt fs bs i = (cutB bs (fsize (fs.take i)) f.lead, cutB bs (fsize (fs.take i) + f.lead) f.per) := by
  unfold wordAt
  rw [h]
theorem words_flat {fs : List Fm} {bs : List Bool} (hl : bs.length = fsize fs) : ∀ k, k ≤ fs.length → ((List.range k).map fun i => (wordAt fs bs i).1 ++ (wordAt fs bs i).2).flatten = bs.take (fsize (fs.take k))
  | 0, _ => by
    show [] = bs.take (fsize (fs.take 0))
    rw [List.take_zero]
    rfl
  | k + 1, h => by
    have hk : fs[k]? = some fs[k] := List.getElem?_eq_getElem h
    have hf := fits hk
    rw [List.range_succ, List.map_append, List.flatten_append, words_flat hl k (by omega), take_snoc hk, fsize_snoc]
    show _ ++ ([_] : List (List Bool)).flatten = _
    rw [List.flatten_cons, List.flatten_nil, List.append_nil]
    show _ ++ ((wordAt fs bs k).1 ++ (wordAt fs bs k).2) = _
    rw [wordAt_get hk]
    unfold cutB Fm.len
    rw [← List.append_assoc, ← List.take_add, ← List.take_add, Nat.add_assoc]
theorem canon_congr {n m R : Nat} {tr tr' : Nat → Bool} (h : ∀ k, k < R * n * m → tr k = tr' k) : canon n m R tr = canon n m R tr' := by
  unfold canon
  refine List.map_congr_left fun c hc => ?_
  have hc := List.mem_range.mp hc
  congr 2
  unfold cellBits
  congr 1
  refine List.map_congr_left fun r hr => h _ ?_
  have hr := List.mem_range.mp hr
  have := Nat.mul_le_mul_right (n * m) (show r + 1 ≤ R from hr)
  rw [Nat.add_mul, Nat.one_mul] at this
  have e : R * n * m = R * (n * m) := Nat.mul_assoc _ _ _
  omega
theorem woven_eq {n m R : Nat} {fs : List Fm} {bs : List Bool} {tr : Nat → Bool} (ho : FmOk fs) (h : ∀ i, i < R * n * m → dot (fsize fs) (mskOf n m fs (dec n m i)) (fun p => bs.getD p false) = tr i) : wovenBits n m R fs bs = (List.range (R * n * m)).map tr := by
  unfold wovenBits
  refine List.map_congr_left fun k hk => ?_
  rw [← truBy_dot ho, h k (List.mem_range.mp hk)]
theorem cloth_same {kvs : List (List Key × V)} {n m R : Nat} {tr : Nat → Bool} (h : Cloth kvs n m R tr) : (canon n m R tr).length = kvs.length ∧ ∀ k v, (k, v) ∈ canon n m R tr → (k, v) ∈ kvs ∧ ∃ z, v = V.str z := by
  refine ⟨h.perm.length_eq.symm, fun k v hk => ⟨h.perm.mem_iff.mpr hk, ?_⟩⟩
  obtain ⟨c, _, e⟩ := List.mem_map.mp hk
  injection e with _ e2
  exact ⟨_, e2.symm⟩
end K7
/-! text K7LG -/
set_option maxHeartbeats 4000000
namespace K7
open PySem PySem.Spec PySem.Calls PyProof.Rows L2
section
variable {P : Program} {w : World} {K : PySem.W.Frag} {mg : PySem.Str → Option Value} {base : Heap}
theorem sl_tupK {X : Cx} {K : PySem.W.Frag} (h : X.K = K := by rfl) : SlR X (rSlT K) := by
  subst h
  exact sl_tup
/-- a pair of numbers as data -/
def prD (p : Nat × Nat) : PyData := .tuple [.int p.1, .int p.2]
theorem canLayAll_pr : ∀ ts : List (Nat × Nat), PyData.canLayAll0 (ts.map prD) = true
  | [] => rfl
  | t :: ts => by
    rw [List.map_cons, PyData.canLayAll0, canLayAll_pr ts]
    rfl
theorem depthAll_pr : ∀ ts : List (Nat × Nat), PyData.depthAll (ts.map prD) ≤ 3
  | [] => by decide
  | t :: ts => by
    rw [List.map_cons, PyData.depthAll]
    have := depthAll_pr ts
    have e : (prD t).depth ≤ 3 := by
      show PyData.depth (.tuple [.int t.1, .int t.2]) ≤ 3
      simp [PyData.depth, PyData.depthAll]
    omega
theorem pr_shaped (ts : List (Nat × Nat)) : SeqAt.shaped (.list (ts.map prD)) = true := by
  unfold SeqAt.shaped
  rw [Bool.and_eq_true]
  constructor
  · show PyData.canLay0 (.list (ts.map prD)) = true
    rw [PyData.canLay0]
    exact canLayAll_pr ts
  · rw [decide_eq_true_iff]
    have := depthAll_pr ts
    show PyData.depth (.list (ts.map prD)) ≤ 64
    rw [PyData.depth]
    omega
theorem pr_eqv (ts : List (Nat × Nat)) : PyData.eqv (.list (ts.map prD)) (.list (ts.map prD)) = true := SeqAt.eqv_refl _ (by
  rw [PyData.canLay0]
  exact canLayAll_pr ts)
theorem dpAll_pr {K : PySem.W.Frag} {H : Hp} : ∀ {as : List Addr} {ts : List (Nat × Nat)}, as.length = ts.length → (∀ (i : Nat) (p : Addr) (x : Nat × Nat), as[i]? = some p → ts[i]? = some x → H p = some (.tup [.int x.1, .int x.2])) → DpAll K H (as.map V.ref) (ts.map prD)
  | [], [], _, _ => .nil
  | [], _ :: _, h, _ => by cases h
  | _ :: _, [], h, _ => by cases h
  | a :: as, t :: ts, h, k => .cons (.tup (SqT.of (k 0 a t rfl rfl)) (.cons (.int _) (.cons (.int _) .nil))) (dpAll_pr (Nat.succ.inj h) fun i p x e1 e2 => k (i + 1) p x (by rw [List.getElem?_cons_succ]; exact e1) (by rw [List.getElem?_cons_succ]; exact e2))
def shapeOf (fs : List Fm) : List (Nat × Nat) := fs.map fun f => (f.lead, f.per)
def shapeAt (fs : List Fm) (i : Nat) : Nat × Nat := match fs[i]? with
  | some f => (f.lead, f.per)
  | none => (0, 0)
def spWordsRight (K : PySem.W.Frag) : Sp := fun vs H Q _ => ∃ (a f g : Addr) (n m R : Nat) (tr : Nat → Bool) (fs : List Fm) (bs : List Bool), vs = [.ref a, .ref f, .int n, .int m, .int R, .ref g] ∧ ClothAt H a n m R tr ∧ FormsAt H f fs ∧ FmOk fs ∧ fsize fs ≤ 40 ∧ fs.length ≤ 4 ∧ RefsAt (WRel K fs bs) H g fs.length ∧ bs.length = fsize fs ∧
  (∀ i, i < R * n * m → dot (fsize fs) (mskOf n m fs (dec n m i)) (fun p => bs.getD p false) = tr i) ∧ ∀ H', Same H H' → Q (.bl true) H'
theorem sc_law_words_right : FnScope ["_law_cloth", "_law_forms", "_law_n", "_law_m", "_law_rounds", "_law_words", "_law_bits", "_law_word", "_law_form"] ["_law_cloth", "_law_forms", "_law_n", "_law_m", "_law_rounds", "_law_words"] (defScope s_law_words_right) := ⟨rfl, rfl, rfl, by decide +kernel, rfl, by decide +kernel, by decide +kernel⟩
theorem ok_law_words_right (T : Txt K mg) : OkF P w K mg base 14 (He.ga K "_law_words_right") ["_law_cloth", "_law_forms", "_law_n", "_law_m", "_law_rounds", "_law_words"] (spWordsRight K) := by
  obtain ⟨fd, F⟩ := T.fn 35 (st := s_law_words_right)
  have R1 := (ok_Word_lead (P := P) (w := w) (base := base) T).raw
  have R2 := (ok_Word_period (P := P) (w := w) (base := base) T).raw
  have R3 := (ok_Word_early (P := P) (w := w) (base := base) T).raw
  have R4 := (ok_Word_again (P := P) (w := w) (base := base) T).raw
  have R5 := (ok_Dance_init (P := P) (w := w) (base := base) T).raw
  obtain ⟨f6, G6, b6, k6⟩ := ok_law_my_woven (P := P) (w := w) (base := base) T
  obtain ⟨f7, G7, b7, k7⟩ := ok_law_my_crossings (P := P) (w := w) (base := base) T
  obtain ⟨f8, G8, b8, k8⟩ := ok_joined_rule (P := P) (w := w) (base := base) T
  obtain ⟨f9, G9, b9, k9⟩ := ok_crossings (P := P) (w := w) (base := base) T
  obtain ⟨l1, l2, l3, l4⟩ := T.p_lead
  obtain ⟨p1, p2, p3, p4⟩ := T.p_period
  obtain ⟨e1, e2, e3, e4⟩ := T.p_early
  obtain ⟨a1, a2, a3, a4⟩ := T.p_again
  refine ⟨fd, F.ok sc_law_words_right (fun vs H Q E h => ?_) (fun cdv A outer s H vs Q E hr h => ?_), F.binds (fun _ _ _ _ _ _ us hl => match us, hl with | [_, _, _, _, _, _], _ => rfl), F.kp⟩
  · obtain ⟨_, _, _, _, _, _, _, _, _, rfl, _⟩ := h
    rfl
  · obtain ⟨a, f, g, n, m, R, tr, fs, bs, rfl, hC, hf, ho, hsz, hfl, hW, hbl, htold, k⟩ := h
    have nd := sc_law_words_right.nd
    have hu := hu_of hr
    have sz : sizeLine = 16777216 := sizeLine_eq
    have hr2 := hr.mono (show 2 ≤ 13 by decide)
    obtain ⟨kvs, ha, hCl⟩ := id hC
    obtain ⟨ga, hW1, hW2, hW3⟩ := id hW
    obtain ⟨fa, hf1, hf2, hf3⟩ := id hf
    refine ⟨_, pss_cons (ps_if (pt_cmpR (op_neD hr.units)
        (pe_lc (own := [("_law_word", 7)]) (g := gName 7) (tt := tYes) (by rfl) nd (pi_list (pv 5)) (blkOk_by (N := ["_law_cloth", "_law_forms", "_law_n", "_law_m", "_law_rounds", "_law_words", "_law_bits", "_law_word", "_law_form"]) (sc := defScope s_law_words_right) (by decide +kernel))
          (fun _ _ _ _ _ => pg_name (i := 7) nd rfl (Or.inl rfl)) (fun _ _ _ _ _ => pts_nil) (fun _ _ _ _ _ => pe_tup (pa_cons (SlX.pe_propSl (E := E0) (pv 7) T.s_Word l1 l2 l3 l4 R1 hr2 (fun _ _ _ _ z => z)) (pa_cons (SlX.pe_propSl (E := E0) (pv 7) T.s_Word p1 p2 p3 p4 R2 hr2 (fun _ _ _ _ z => z)) pa_nil))))
        (pe_lc (own := [("_law_form", 8)]) (g := gName 8) (tt := tYes) (by rfl) nd (pi_list (pv 1)) (blkOk_by (N := ["_law_cloth", "_law_forms", "_law_n", "_law_m", "_law_rounds", "_law_words", "_law_bits", "_law_word", "_law_form"]) (sc := defScope s_law_words_right) (by decide +kernel))
          (fun _ _ _ _ _ => pg_name (i := 8) nd rfl (Or.inl rfl)) (fun _ _ _ _ _ => pts_nil) (fun _ _ _ _ _ => pe_slice (sl_tupK (K := K)) (pv 8) (po_some pe_int) po_none)) (nomark _)) (pss_one (ps_ret pe_bl)) pss_nil)
      (pss_cons (ps_set (i := 6) nd rfl (Or.inl rfl) (pe_join pe_str (pe_lc (own := [("_law_word", 7)]) (g := gName 7) (tt := tYes) (by rfl) nd (pi_list (pv 5)) (blkOk_by (N := ["_law_cloth", "_law_forms", "_law_n", "_law_m", "_law_rounds", "_law_words", "_law_bits", "_law_word", "_law_form"]) (sc := defScope s_law_words_right) (by decide +kernel))
          (fun _ _ _ _ _ => pg_name (i := 7) nd rfl (Or.inl rfl)) (fun _ _ _ _ _ => pts_nil) (fun _ _ _ _ _ => pe_op op_add_str (SlX.pe_propSl (E := E0) (pv 7) T.s_Word e1 e2 e3 e4 R3 hr2 (fun _ _ _ _ z => z)) (SlX.pe_propSl (E := E0) (pv 7) T.s_Word a1 a2 a3 a4 R4 hr2 (fun _ _ _ _ z => z))))))
      (pss_cons (ps_if (pt_cmpR (op_neT hu) (pe_call G7 (hr.mono (by decide)) (by rfl) T.g__law_my_crossings k7 b7 .nil pass0 (pa_cons (pe_call G6 (hr.mono (by decide)) (by rfl) T.g__law_my_woven k6 b6 .nil pass0 (pa_cons (pv 1) (pa_cons (pv 6) (pa_cons (pv 2) (pa_cons (pv 3) (pa_cons (pv 4) pa_nil)))))) (pa_cons (pv 2) (pa_cons (pv 3) (pa_cons (pv 4) pa_nil))))) (pv 0) (nomark _)) (pss_one (ps_ret pe_bl)) pss_nil)
      (pss_one (ps_ret (pe_cmpR (op_eqT hu) (pe_call G9 hr (by rfl) T.g_crossings k9 b9 .nil pass0 (pa_cons (StX.pe_makeR (E := E0) T.kDance R5 (hr.mono (by decide)) (by rfl) T.g_Dance pass0 (pa_cons (pv 2) (pa_cons (pv 3) (pa_cons (pv 4) (pa_cons (pe_call G8 (hr.mono (by decide)) (by rfl) T.g_joined_rule k8 b8 .nil pass0 (pa_cons (pv 1) (pa_cons (pv 5) pa_nil))) pa_nil))))) pa_nil)) (pv 0) (nomark _)))))), ?_⟩
    have wl : ∀ {i : Nat} {q : Fm}, fs[i]? = some q → (wordAt fs bs i).1.length = q.lead ∧ (wordAt fs bs i).2.length = q.per ∧ 0 < q.per ∧ q.lead + q.per ≤ 40 := fun {i q} h => by
      have hf := fits h
      rw [wordAt_get h]
      exact ⟨cutB_len _ _ _ (by omega), cutB_len _ _ _ (by omega), ho q (List.mem_of_getElem? h), by omega⟩
    -- the words' shapes
    refine ⟨_, rfl, g, rfl, ⟨_, SqL.of hW1⟩, fun D1 hD1 => ?_⟩
    refine lc_tups (walk_list (K := K) (a := g) (xs := ga.map V.ref)) (fun i => [.int ((shapeAt fs i).1 : Nat), .int ((shapeAt fs i).2 : Nat)]) hD1 (by rw [List.length_map, hW2]; omega) (fun H1 s1 => SqL.of (s1 _ _ hW1)) (fun i x H1 H2 Kt hi s1 y q => ?_) (fun i H1 x H2 y => by rw [y.1]; exact Same.refl _) (fun H1 xs1 s1 x1 x2 x3 => ?_)
    · obtain ⟨rfl, hx⟩ := y
      rw [List.length_map, hW2] at hi
      rw [List.getElem?_map, List.getElem?_eq_getElem (by omega : i < ga.length)] at hx
      cases hx
      have hfi : fs[i]? = some fs[i] := List.getElem?_eq_getElem hi
      obtain ⟨w1, w2, w3, w4⟩ := wl hfi
      have hw := WordAt.nl (hW3 i ga[i] (List.getElem?_eq_getElem (by omega))) (Nl.of s1)
      obtain ⟨dx, vs, hs, _, _⟩ := id hw
      refine ⟨rfl, _, rfl, ga[i], dx, vs, rfl, hs, ga[i], _, _, rfl, hw, by omega, _, rfl, ga[i], dx, vs, rfl, hs, ga[i], _, _, rfl, hw, by omega, (by show 2 ≤ sizeLine; decide), fun t ht => ?_⟩
      refine q t _ (same_upd (Same.refl _) ht) ?_
      rw [upd_same, w1, w2]
      unfold shapeAt
      rw [hfi]
    have hW4 := s1 _ _ hW1
    refine ⟨_, rfl, f, rfl, ⟨_, SqL.of (s1 _ _ hf1)⟩, fun D2 hD2 => ?_⟩
    refine lc_tups (walk_list (K := K) (a := f) (xs := fa.map V.ref)) (fun i => [.int ((shapeAt fs i).1 : Nat), .int ((shapeAt fs i).2 : Nat)]) hD2 (by rw [List.length_map, hf2]; omega) (fun H2 s2 => SqL.of ((s1.trans s2) _ _ hf1)) (fun i x H2 H3 Kt hi s2 y q => ?_) (fun i H1 x H2 y => by rw [y.1]; exact Same.refl _) (fun H2 xs2 s2 y1 y2 y3 => ?_)
    · obtain ⟨rfl, hx⟩ := y
      rw [List.length_map, hf2] at hi
      rw [List.getElem?_map, List.getElem?_eq_getElem (by omega : i < fa.length)] at hx
      cases hx
      have hfi : fs[i]? = some fs[i] := List.getElem?_eq_getElem hi
      have htup := (s1.trans s2) _ _ (hf3 i fa[i] fs[i] (List.getElem?_eq_getElem (by omega)) hfi)
      refine ⟨rfl, _, rfl, _, rfl, fa[i], _, rfl, SqT.of htup, (by show ¬ (HT.sIx 3 0 (some 1) = 0 ∧ _); exact fun h => absurd h.1 (by decide)), fun t ht => ?_⟩
      refine q t _ (same_upd (Same.refl _) ht) ?_
      rw [upd_same]
      unfold shapeAt
      rw [hfi]
      rfl
    have s02 := s1.trans s2
    have sh : ∀ {i : Nat} {x : Nat × Nat}, (shapeOf fs)[i]? = some x → shapeAt fs i = x := fun {i x} h => by
      unfold shapeOf at h
      unfold shapeAt
      rw [List.getElem?_map] at h
      cases e : fs[i]? with
      | none => rw [e] at h; cases h
      | some q => rw [e] at h; cases h; rfl
    have shl : (shapeOf fs).length = fs.length := by unfold shapeOf; rw [List.length_map]
    refine ⟨.list ((shapeOf fs).map prD), .list ((shapeOf fs).map prD), .lst (SqL.of (s2 _ _ x3)) (dpAll_pr (by rw [x1, List.length_map, hW2, shl]) fun i p x q1 q2 => ?_), .lst (SqL.of y3) (dpAll_pr (by rw [y1, List.length_map, hf2, shl]) fun i p x q1 q2 => ?_), pr_shaped _, pr_shaped _, false, by rw [pr_eqv] <;> rfl, iteF ?_⟩
    · rw [s2 _ _ (x2 i p q1), sh q2]
    · rw [y2 i p q1, sh q2]
    -- the bits
    refine ⟨⟨_, rfl⟩, _, rfl, g, rfl, ⟨_, SqL.of (s02 _ _ hW1)⟩, fun D3 hD3 => ?_⟩
    refine lc_flat (walk_list (K := K) (a := g) (xs := ga.map V.ref)) (fun i => .str (bt ((wordAt fs bs i).1 ++ (wordAt fs bs i).2))) hD3 (by rw [List.length_map, hW2]; omega) (fun H3 s3 => SqL.of ((s02.trans s3) _ _ hW1)) (fun i x H3 H4 Kt hi s3 y q => ?_) (fun i H1 x H2 y => by rw [y.1]; exact Same.refl _) (fun H3 s3 eD => ?_)
    · obtain ⟨rfl, hx⟩ := y
      rw [List.length_map, hW2] at hi
      rw [List.getElem?_map, List.getElem?_eq_getElem (by omega : i < ga.length)] at hx
      cases hx
      have hfi : fs[i]? = some fs[i] := List.getElem?_eq_getElem hi
      obtain ⟨w1, w2, w3, w4⟩ := wl hfi
      have hw := WordAt.nl (hW3 i ga[i] (List.getElem?_eq_getElem (by omega))) (Nl.of (s02.trans s3))
      obtain ⟨dx, vs, hs, _, _⟩ := id hw
      refine ⟨rfl, _, rfl, ga[i], dx, vs, rfl, hs, ga[i], _, _, rfl, hw, _, rfl, ga[i], dx, vs, rfl, hs, ga[i], _, _, rfl, hw, _, _, rfl, rfl, by rw [bt_len, bt_len]; omega, ?_⟩
      rw [bt_app]
      exact q _ (Same.refl _)
    rw [List.length_map, hW2] at eD
    have hflat := words_flat hbl fs.length (Nat.le_refl _)
    rw [List.take_length, List.take_of_length_le (by omega)] at hflat
    have hsum : ∀ l : List (List Bool), ((l.map bt).map (·.length)).sum = l.flatten.length := by
      intro l
      induction l with
      | nil => rfl
      | cons x l ih => rw [List.map_cons, List.map_cons, List.sum_cons, ih, List.flatten_cons, List.length_append, bt_len]
    refine ⟨_, D3, ((List.range fs.length).map fun i => (wordAt fs bs i).1 ++ (wordAt fs bs i).2).map bt, rfl, rfl, .inl (SqL.of (by rw [eD, List.map_map, List.map_map] <;> rfl)), ?_, ?_⟩
    · rw [hsum, hflat]
      show bs.length + _ * 0 ≤ 16777216
      omega
    show (fun (x : V) (H1 : Hp) => _) (V.str (Txt.join ("" : PySem.Str) (((List.range fs.length).map fun i => (wordAt fs bs i).1 ++ (wordAt fs bs i).2).map bt))) H3
    rw [tjoin, hflat]
    have s03 := s02.trans s3
    have hM := woven_eq ho htold
    obtain ⟨c1, c2⟩ := cloth_same hCl
    -- by the law's own weaving
    refine ⟨_, rfl, _, rfl, _, rfl, _, rfl, _, rfl, f, fs, bs, n, m, R, rfl, hf.same s03, ho, hbl.symm, hsz, by omega, hCl.hn, hCl.hm, hCl.ln, hCl.lm, hCl.lR, fun H4 s4 => ?_⟩
    rw [hM]
    refine ⟨_, rfl, _, rfl, _, rfl, n, m, R, tr, rfl, hCl.hn, hCl.hm, hCl.hR, hCl.ln, hCl.lm, hCl.lR, fun D5 H5 s5 hD5 => ?_⟩
    have s05 := (s03.trans s4).trans s5
    refine ⟨_, rfl, D5, a, _, _, rfl, rfl, hD5, s05 _ _ ha, c1, c2, false, rfl, iteF ?_⟩
    -- by a dance
    have hW5 : WordsAt K H5 g (wordsOf fs bs) := ⟨ga, s05 _ _ hW1, by unfold wordsOf; rw [List.length_map, List.length_range, hW2], fun i p x q1 q2 => by
      unfold wordsOf at q2
      rw [List.getElem?_map] at q2
      have hi : i < ga.length := (List.getElem?_eq_some_iff.mp q1).1
      rw [List.getElem?_range (by omega)] at q2
      cases q2
      exact WordAt.nl (hW3 i p q1) (Nl.of s05)⟩
    refine ⟨_, rfl, _, rfl, _, rfl, _, rfl, _, rfl, f, g, fs, wordsOf fs bs, rfl, hf.same s05, hW5, by unfold wordsOf; rw [List.length_map, List.length_range], by omega, fun x hx => ?_, fun ru H6 s6 hRu => ?_⟩
    · obtain ⟨i, hi, rfl⟩ := List.mem_map.mp hx
      have hi := List.mem_range.mp hi
      obtain ⟨w1, w2, w3, w4⟩ := wl (List.getElem?_eq_getElem hi)
      omega
    refine fun x dx hx hdx ne => ⟨_, x, dx, ru, n, m, R, _, rfl, hx, hdx, ne, rfl, hCl.hn, hCl.hm, hCl.hR, hRu, fun H7 s7 hDc => ⟨rfl, ?_⟩⟩
    have hht : (joinT (leaves fs (wordsOf fs bs))).height < 8 := Nat.lt_of_le_of_lt rule_height (by omega)
    refine ⟨x, n, m, R, _, rfl, hDc, hCl.hn, hCl.hm, hCl.ln, hCl.lm, hCl.lR, hht, fun D8 H8 s8 hD8 => ?_⟩
    have s08 := ((s05.trans s6).trans s7).trans s8
    rw [canon_congr (tr' := tr) fun k hk => ?_] at hD8
    · exact ⟨_, rfl, D8, a, _, _, rfl, rfl, hD8, s08 _ _ ha, c1, c2, k _ s08⟩
    · unfold trRule
      rw [rule_truth ho hbl, ← truBy_dot ho, htold k hk]
end
end K7
/-! text K7LH -/
set_option maxHeartbeats 4000000
namespace K7
open PySem PySem.Spec PySem.Calls PyProof.Rows L2
section
variable {P : Program} {w : World} {K : PySem.W.Frag} {mg : PySem.Str → Option Value} {base : Heap}
theorem isNon_ref (D : Addr) : decide (V.ref D = V.non) = false := decide_eq_false fun e => by cases e
theorem pow_in {k : Nat} (h : k < 50) : inV (.int (2 ^ k)) ((List.range 50).map fun i => V.int (2 ^ i)) = true := by
  unfold inV
  rw [List.any_eq_true]
  refine ⟨V.int (2 ^ k), List.mem_map.mpr ⟨k, List.mem_range.mpr h, rfl⟩, ?_⟩
  show eqV (.int (2 ^ k)) (.int (2 ^ k)) = true
  simp [eqV]
def spRight : Sp := fun vs H Q _ => ∃ (b c a f : Addr) (n m R : Nat) (tr : Nat → Bool) (fs : List Fm), vs = [.ref b, .ref a, .ref f, .int n, .int m, .int R] ∧ BagAt H b c ∧ ClothAt H a n m R tr ∧ FormsAt H f fs ∧ FmOk fs ∧ fsize fs ≤ 40 ∧ fs.length ≤ 4 ∧ f ≠ b ∧ ∀ H', Bd b H H' → BagAt H' b c → Q (.bl true) H'
theorem sc_law_right : FnScope ["_law_bag_here", "_law_cloth", "_law_forms", "_law_n", "_law_m", "_law_rounds", "_law_words", "_law_many", "_law_again", "_law_thing", "_law_k"] ["_law_bag_here", "_law_cloth", "_law_forms", "_law_n", "_law_m", "_law_rounds"] (defScope s_law_right) := ⟨rfl, rfl, rfl, by decide +kernel, rfl, by decide +kernel, by decide +kernel⟩
theorem ok_law_right (T : Txt K mg) : OkF P w K mg base 15 (He.ga K "_law_right") ["_law_bag_here", "_law_cloth", "_law_forms", "_law_n", "_law_m", "_law_rounds"] spRight := by
  obtain ⟨fd, F⟩ := T.fn 36 (st := s_law_right)
  obtain ⟨f1, G1, b1, k1⟩ := ok_told_back (P := P) (w := w) (base := base) T
  obtain ⟨f2, G2, b2, k2⟩ := ok_many_told (P := P) (w := w) (base := base) T
  obtain ⟨f3, G3, b3, k3⟩ := ok_refusal (P := P) (w := w) (base := base) T
  obtain ⟨f4, G4, b4, k4⟩ := ok_law_refusal_right (P := P) (w := w) (base := base) T
  obtain ⟨f5, G5, b5, k5⟩ := ok_law_words_right (P := P) (w := w) (base := base) T
  obtain ⟨f6, G6, b6, k6⟩ := ok_law_my_two (P := P) (w := w) (base := base) T
  refine ⟨fd, F.ok sc_law_right (fun vs H Q E h => ?_) (fun cdv A outer s H vs Q E hr h => ?_), F.binds (fun _ _ _ _ _ _ us hl => match us, hl with | [_, _, _, _, _, _], _ => rfl), F.kp⟩
  · obtain ⟨_, _, _, _, _, _, _, _, _, rfl, _⟩ := h
    rfl
  · obtain ⟨b, c, a, f, n, m, R, tr, fs, rfl, hB, hC, hf, ho, hsz, hfl, nfb, k⟩ := h
    have nd := sc_law_right.nd
    have sz : sizeLine = 16777216 := sizeLine_eq
    obtain ⟨kvs, ha, hCl⟩ := id hC
    refine ⟨_, pss_cons (ps_par (i := 6) (j := 7) (by rfl) nd rfl rfl (by decide) rfl rfl
        (pa_cons (pe_call G1 (hr.mono (by decide)) (by rfl) T.g_told_back k1 b1 .nil pass0 (pa_cons (pv 1) (pa_cons (pv 2) pa_nil))) (pa_cons (pe_call G2 (hr.mono (by decide)) (by rfl) T.g_many_told k2 b2 .nil pass0 (pa_cons (pv 1) (pa_cons (pv 2) pa_nil))) pa_nil)) (by rfl))
      (pss_cons (ps_for PassesOwn.never rfl (pi_range1 (by rfl) T.m_range (pa_cons pe_int pa_nil)) (pg_name (i := 8) nd rfl (Or.inl rfl))
        (pss_cons (ps_set (i := 9) nd rfl (Or.inl rfl) (pe_call G3 (hr.mono (by decide)) (by rfl) T.g_refusal k3 b3 .nil pass0 (pa_cons (pv 1) (pa_cons (pv 2) pa_nil))))
        (pss_cons (ps_if (PW.pt (pw_or (pt_cmpR op_ne (pe_cmpR op_isN (pv 9) pe_non (nomark _)) (pe_cmpR op_notN (pv 6) pe_non (nomark _)) (nomark _)) (pw_or1 (pt_cmpR op_ne (pe_cmpR op_eq (pv 7) pe_int (nomark _)) (pe_cmpR op_isN (pv 6) pe_non (nomark _)) (nomark _))))) (pss_one (ps_ret pe_bl)) pss_nil)
        (pss_one (ps_if (pt_cmpR op_notN (pv 9) pe_non (nomark _))
          (pss_cons (ps_if (pt_not (pt_val (pe_call G4 (hr.mono (by decide)) (by rfl) T.g__law_refusal_right k4 b4 .nil pass0 (pa_cons (pv 0) (pa_cons (pv 1) (pa_cons (pv 2) (pa_cons (pv 3) (pa_cons (pv 4) (pa_cons (pv 9) pa_nil))))))))) (pss_one (ps_ret pe_bl)) pss_nil)
          (pss_one (ps_expr (pe_bm PySem.F.plainAttrs_list PySem.F.slot_list_append PySem.F.type_list_append mt_append (pv 9) (pa_cons pe_non pa_nil))))) pss_nil)))))
      (pss_cons (ps_if (pt_cmpR op_isN (pv 6) pe_non (nomark _)) (pss_one (ps_ret pe_bl)) pss_nil)
      (pss_one (ps_ret (pe_and (pe_call G5 hr (by rfl) T.g__law_words_right k5 b5 .nil pass0 (pa_cons (pv 1) (pa_cons (pv 2) (pa_cons (pv 3) (pa_cons (pv 4) (pa_cons (pv 5) (pa_cons (pv 6) pa_nil)))))))
        (pe_one (pe_cmpR op_in_seq (pv 7) (pe_lc (own := [("_law_k", 10)]) (g := gName 10) (tt := tYes) (by rfl) nd (pi_range1 (by rfl) T.m_range (pa_cons pe_int pa_nil)) (blkOk_by (N := ["_law_bag_here", "_law_cloth", "_law_forms", "_law_n", "_law_m", "_law_rounds", "_law_words", "_law_many", "_law_again", "_law_thing", "_law_k"]) (sc := defScope s_law_right) (by decide +kernel))
          (fun _ _ _ _ _ => pg_name (i := 10) nd rfl (Or.inl rfl)) (fun _ _ _ _ _ => pts_nil) (fun _ _ _ _ _ => pe_call G6 (hr.mono (by decide)) (by rfl) T.g__law_my_two k6 b6 .nil pass0 (pa_cons (pv 10) pa_nil))) (by rfl)))))))), ?_⟩
    refine ⟨_, rfl, _, rfl, a, f, n, m, R, tr, fs, rfl, hC, hf, by omega, ho, hsz, fun W bs rs H1 s1 hW0 hW hbl hI htold => ?_, fun t H1 s1 hRf => ?_⟩
    · -- words are told
      refine ⟨_, rfl, _, rfl, a, f, n, m, R, tr, fs, rfl, hC.nl (Nl.of s1), hf.same s1, by omega, ho, hsz, fun rs2 e H2 s2 _ he => ⟨_, _, rfl, ?_⟩, fun t H2 s2 hRf => (not_both hI hRf).elim⟩
      have s02 := s1.trans s2
      refine ⟨2, rfl, by decide, by decide, ?_⟩
      refine for_it (walk_range (lo := 0) (n := 2)) (fun i σ H' => ∃ v8 v9 : Option V, σ = [some (.ref b), some (.ref a), some (.ref f), some (.int n), some (.int m), some (.int R), some (.ref W), some (.int (2 ^ e)), v8, v9, none] ∧ Same H2 H') ⟨none, none, rfl, Same.refl _⟩ (fun _ _ _ _ _ => trivial) (fun i x σ H3 H4 hi ⟨v8, v9, q, s3⟩ y => ?_) (fun σ H3 ⟨v8, v9, q, s3⟩ => ?_)
      · obtain ⟨rfl, rfl⟩ := y
        subst q
        have s03 := s02.trans s3
        refine ⟨_, rfl, _, rfl, a, f, n, m, R, tr, fs, rfl, hC.nl (Nl.of s03), hf.same s03, ho, hsz, fun rs3 H5 s5 _ => ?_, fun D t H5 s5 _ hRf _ => (not_both hI hRf).elim⟩
        refine ⟨_, rfl, rfl, _, rfl, rfl, rfl, _, rfl, ?_⟩
        rw [isNon_ref]
        refine iteF ?_
        refine ⟨_, rfl, rfl, _, rfl, rfl, rfl, _, rfl, ?_⟩
        rw [isNon_ref, decide_eq_false (show V.int (2 ^ e) ≠ V.int 0 from fun z => by
          injection z with z
          have : (0 : Int) < 2 ^ e := Int.pow_pos (by decide)
          omega)]
        refine iteF ?_
        refine ⟨_, rfl, rfl, _, rfl, iteF ?_⟩
        exact ⟨_, _, rfl, s3.trans s5⟩
      · subst q
        have s03 := s02.trans s3
        refine ⟨_, rfl, rfl, _, rfl, ?_⟩
        rw [isNon_ref]
        refine iteF ?_
        refine ⟨_, rfl, _, rfl, _, rfl, _, rfl, _, rfl, _, rfl, a, f, W, n, m, R, tr, fs, bs, rfl, hC.nl (Nl.of s03), hf.same s03, ho, hsz, hfl, hW.same (WRel.nl K fs bs) (s2.trans s3), hbl, htold, fun H4 s4 => ⟨true, rfl, iteT ?_⟩⟩
        refine ⟨_, rfl, 50, rfl, by decide, by decide, fun D hD => ?_⟩
        refine lc_flat (walk_range (lo := 0) (n := 50)) (fun i => .int (2 ^ i)) hD (by omega) (fun _ _ => trivial) (fun i x H5 H6 Kt hi s5 y q => ?_) (fun i H1 x H2 y => by rw [y.1]; exact Same.refl _) (fun H5 s5 eD => ?_)
        · obtain ⟨rfl, rfl⟩ := y
          exact ⟨rfl, _, rfl, i, (by show [V.int (0 + (i : Nat))] = [V.int (i : Nat)]; rw [Int.zero_add]), by omega, q _ (Same.refl _)⟩
        · refine ⟨D, _, rfl, .inl (SqL.of eD), rfl, ?_, ?_⟩
          · rw [List.all_eq_true]
            intro v hv
            obtain ⟨i, _, rfl⟩ := List.mem_map.mp hv
            rfl
          · show Q (.bl (inV (.int (2 ^ e)) ((List.range 50).map fun i => V.int (2 ^ i)))) H5
            rw [pow_in (by omega)]
            have sA := (s03.trans s4).trans s5
            exact k H5 (Bd.of sA) (hB.same sA)
    · -- they are refused
      refine ⟨_, rfl, _, rfl, a, f, n, m, R, tr, fs, rfl, hC.nl (Nl.of s1), hf.same s1, by omega, ho, hsz, fun rs2 e H2 s2 hI _ => (not_both hI hRf).elim, fun t2 H2 s2 _ => ⟨_, _, rfl, ?_⟩⟩
      have s02 := s1.trans s2
      refine ⟨2, rfl, by decide, by decide, ?_⟩
      refine for_it (walk_range (lo := 0) (n := 2)) (fun i σ H' => ∃ v8 v9 : Option V, σ = [some (.ref b), some (.ref a), some (.ref f), some (.int n), some (.int m), some (.int R), some .non, some (.int 0), v8, v9, none] ∧ Bd b H H' ∧ BagAt H' b c ∧ ClothAt H' a n m R tr ∧ FormsAt H' f fs) ⟨none, none, rfl, Bd.of s02, hB.same s02, hC.nl (Nl.of s02), hf.same s02⟩ (fun _ _ _ _ _ => trivial) (fun i x σ H3 H4 hi ⟨v8, v9, q, d3, B3, hC3, hf3⟩ y => ?_) (fun σ H3 ⟨v8, v9, q, d3, B3, hC3, hf3⟩ => ?_)
      · obtain ⟨rfl, rfl⟩ := y
        subst q
        refine ⟨_, rfl, _, rfl, a, f, n, m, R, tr, fs, rfl, hC3, hf3, ho, hsz, fun rs3 H5 s5 hI => (not_both hI hRf).elim, fun D t3 H5 s5 hD hR3 hT => ?_⟩
        obtain ⟨nDb, nDc⟩ := B3.new hD
        have hRO := refusal_ok hCl.hn hCl.hm hCl.ln hCl.lm hsz hR3
        refine ⟨_, rfl, rfl, _, rfl, rfl, rfl, _, rfl, ?_⟩
        rw [isNon_ref]
        refine iteF ?_
        refine ⟨_, rfl, rfl, _, rfl, rfl, rfl, _, rfl, iteF ?_⟩
        refine ⟨_, rfl, rfl, _, rfl, ?_⟩
        rw [isNon_ref]
        refine iteT ?_
        refine ⟨_, rfl, _, rfl, _, rfl, _, rfl, _, rfl, _, rfl, b, c, a, f, D, n, m, R, tr, fs, _, rfl, B3.same s5, hC3.nl (Nl.of s5), hf3.same s5, ho, hsz, by omega, nfb, hT, nDb, hRO, fun H6 d6 B6 => ⟨true, rfl, iteF ?_⟩⟩
        have hT6 := hT.bd d6 (B3.same s5) nDb
        have hf6 := (hf3.same s5).bd d6 (B3.same s5) nfb
        have hC6 := (hC3.nl (Nl.of s5)).nl (d6.nl (B3.same s5))
        obtain ⟨as, hD6, hal, _⟩ := id hT6
        refine ⟨_, rfl, .inl ⟨rfl, _, SqL.of hD6⟩, D, _, _, rfl, rfl, hD6, by rw [List.length_map, hal]; have := hRO.few; omega, ?_⟩
        have dAll := (((Bd.of s5).trans d6).updN (o := .lst (as.map V.ref ++ [V.non])) hD)
        refine ⟨_, _, rfl, d3.trans dAll, B6.updL nDb nDc, hC3.nl (dAll.nl B3), hf3.bd dAll B3 nfb⟩
      · subst q
        refine ⟨_, rfl, rfl, _, rfl, iteT ?_⟩
        exact k H3 d3 B3
end
end K7
/-! text K7LI -/
set_option maxHeartbeats 4000000
namespace K7
open PySem PySem.Spec PySem.Calls PyProof.Rows L2
section
variable {P : Program} {w : World} {K : PySem.W.Frag} {mg : PySem.Str → Option Value} {base : Heap}
def swapKvs : List (Key × V) := [(Sum.inr "0", .str "1"), (Sum.inr "1", .str "0")]
theorem swap_at (b : Bool) : valV (mergeK [] swapKvs) (Sum.inr (bt [b])) = some (.str (bt [!b])) := by cases b <;> decide +kernel
theorem zero_one {v : Nat} (h : v < 2) : ("01" : PySem.Str).cps[v]? = some (sgn (decide (v = 1))) := by
  have h : v = 0 ∨ v = 1 := by omega
  rcases h with rfl | rfl <;> decide +kernel
theorem range_getD (ts : List Bool) : (List.range ts.length).map (fun k => ts.getD k false) = ts := by
  have := map_range_getD (fun b => b) ts
  rw [List.map_id'] at this
  exact this
def spLaw (K : PySem.W.Frag) : Sp := fun vs H Q _ => ∃ (a : Addr) (ns : List Int), vs = [.ref a] ∧ SqL K H a (ns.map V.int) ∧ ∀ H', Q (.bl true) H'
theorem sc_law : FnScope ["_law_script", "_law_bag_here", "_law_turn", "_law_n", "_law_m", "_law_rounds", "_law_forms", "_law_k", "_law_bits", "_law_text", "_law_at", "_law_cloth"] ["_law_script"] (defScope s_law) := ⟨rfl, rfl, rfl, by decide +kernel, rfl, by decide +kernel, by decide +kernel⟩
theorem ok_law (T : Txt K mg) {fd : FuncData} (F : Fun K "law" "law" s_law (He.ga K "law") fd) : FnOk P w K mg base CX0 16 (He.ga K "law") fd ["_law_script"] (spLaw K) := by
  obtain ⟨f1, G1, b1, k1⟩ := ok_law_bag (P := P) (w := w) (base := base) T
  obtain ⟨f2, G2, b2, k2⟩ := ok_law_take (P := P) (w := w) (base := base) T
  obtain ⟨f3, G3, b3, k3⟩ := ok_law_my_forms (P := P) (w := w) (base := base) T
  obtain ⟨f4, G4, b4, k4⟩ := ok_law_my_size (P := P) (w := w) (base := base) T
  obtain ⟨f5, G5, b5, k5⟩ := ok_law_my_woven (P := P) (w := w) (base := base) T
  obtain ⟨f6, G6, b6, k6⟩ := ok_law_my_crossings (P := P) (w := w) (base := base) T
  obtain ⟨f7, G7, b7, k7⟩ := ok_law_my_shuffled (P := P) (w := w) (base := base) T
  obtain ⟨f8, G8, b8, k8⟩ := ok_law_right (P := P) (w := w) (base := base) T
  refine F.ok sc_law (fun vs H Q E h => ?_) (fun cdv A outer s H vs Q E hr h => ?_)
  · obtain ⟨_, _, rfl, _⟩ := h
    rfl
  · obtain ⟨a, ns, rfl, ha, k⟩ := h
    have nd := sc_law.nd
    have hu := hu_of hr
    have hr1 := hr.mono (show 1 ≤ 15 by decide)
    have sz : sizeLine = 16777216 := sizeLine_eq
    refine ⟨_, pss_cons (ps_set (i := 1) nd rfl (Or.inr rfl) (pe_call G1 hr1 (by rfl) T.g__law_bag k1 b1 .nil pass0 (pa_cons (pv 0) pa_nil)))
      (pss_cons (ps_for PassesOwn.never rfl (pi_range1 (by rfl) T.m_range (pa_cons pe_int pa_nil)) (pg_name (i := 2) nd rfl (Or.inl rfl))
        (pss_cons (ps_par3 (i := 3) (j := 4) (l := 5) (by rfl) nd rfl rfl rfl (by decide) (by decide) (by decide) rfl rfl rfl
            (pa_cons (pe_op op_add pe_int (pe_call G2 hr1 (by rfl) T.g__law_take k2 b2 .nil pass0 (pa_cons (pv 1) (pa_cons pe_int pa_nil)))) (pa_cons (pe_op op_add pe_int (pe_call G2 hr1 (by rfl) T.g__law_take k2 b2 .nil pass0 (pa_cons (pv 1) (pa_cons pe_int pa_nil)))) (pa_cons (pe_op op_add pe_int (pe_call G2 hr1 (by rfl) T.g__law_take k2 b2 .nil pass0 (pa_cons (pv 1) (pa_cons pe_int pa_nil)))) pa_nil))) (by rfl))
        (pss_cons (ps_set (i := 6) nd rfl (Or.inl rfl) (pe_call G3 (hr.mono (by decide)) (by rfl) T.g__law_my_forms k3 b3 .nil pass0 (pa_cons (pv 1) (pa_cons pe_int (pa_cons pe_int pa_nil)))))
        (pss_cons (ps_set (i := 8) nd rfl (Or.inl rfl) (pe_join pe_str (pe_lc (own := [("_law_k", 7)]) (g := gName 7) (tt := tYes) (by rfl) nd (pi_range1 (by rfl) T.m_range (pa_cons (pe_call G4 hr1 (by rfl) T.g__law_my_size k4 b4 .nil pass0 (pa_cons (pv 6) pa_nil)) pa_nil))
            (blkOk_by (N := ["_law_script", "_law_bag_here", "_law_turn", "_law_n", "_law_m", "_law_rounds", "_law_forms", "_law_k", "_law_bits", "_law_text", "_law_at", "_law_cloth"]) (sc := defScope s_law) (by decide +kernel))
            (fun _ _ _ _ _ => pg_name (i := 7) nd rfl (Or.inl rfl)) (fun _ _ _ _ _ => pts_nil) (fun _ _ _ _ _ => pe_item_str pe_str (pe_call G2 hr1 (by rfl) T.g__law_take k2 b2 .nil pass0 (pa_cons (pv 1) (pa_cons pe_int pa_nil))) (fun _ _ => rfl)))))
        (pss_cons (ps_set (i := 9) nd rfl (Or.inl rfl) (pe_call G5 (hr.mono (by decide)) (by rfl) T.g__law_my_woven k5 b5 .nil pass0 (pa_cons (pv 6) (pa_cons (pv 8) (pa_cons (pv 3) (pa_cons (pv 4) (pa_cons (pv 5) pa_nil)))))))
        (pss_cons (ps_for PassesOwn.never rfl (pi_range1 (by rfl) T.m_range (pa_cons (pe_call G2 hr1 (by rfl) T.g__law_take k2 b2 .nil pass0 (pa_cons (pv 1) (pa_cons pe_int pa_nil))) pa_nil)) (pg_name (i := 7) nd rfl (Or.inl rfl))
            (pss_cons (ps_set (i := 10) nd rfl (Or.inl rfl) (pe_call G2 hr1 (by rfl) T.g__law_take k2 b2 .nil pass0 (pa_cons (pv 1) (pa_cons (pe_callB call_len_str (by rfl) T.m_len boot_len (pa_cons (pv 9) pa_nil)) pa_nil))))
            (pss_one (ps_set (i := 9) nd rfl (Or.inl rfl) (pe_op op_add_str (pe_op op_add_str (pe_slice sl_str (pv 9) po_none (po_some (pv 10))) (pe_dget hu (pe_disp (pps_cons pe_str pe_str (pps_cons pe_str pe_str pps_nil)) (by rfl) (by rfl) (fun z => by cases z) (by decide)) (pe_item_str (pv 9) (pv 10) (fun _ _ => rfl)) (fun _ _ => rfl))) (pe_slice sl_str (pv 9) (po_some (pe_op op_add (pv 10) pe_int)) po_none))))))
        (C8.pss_cut (ps_if (pt_cmpR op_eq (pe_call G2 hr1 (by rfl) T.g__law_take k2 b2 .nil pass0 (pa_cons (pv 1) (pa_cons pe_int pa_nil))) pe_int (nomark _))
            (pss_one (ps_set (i := 9) nd rfl (Or.inl rfl) (pe_join pe_str (pe_lc (own := [("_law_k", 7)]) (g := gName 7) (tt := tYes) (by rfl) nd (pi_range1 (by rfl) T.m_range (pa_cons (pe_callB call_len_str (by rfl) T.m_len boot_len (pa_cons (pv 9) pa_nil)) pa_nil))
              (blkOk_by (N := ["_law_script", "_law_bag_here", "_law_turn", "_law_n", "_law_m", "_law_rounds", "_law_forms", "_law_k", "_law_bits", "_law_text", "_law_at", "_law_cloth"]) (sc := defScope s_law) (by decide +kernel))
              (fun _ _ _ _ _ => pg_name (i := 7) nd rfl (Or.inl rfl)) (fun _ _ _ _ _ => pts_nil) (fun _ _ _ _ _ => pe_item_str pe_str (pe_call G2 hr1 (by rfl) T.g__law_take k2 b2 .nil pass0 (pa_cons (pv 1) (pa_cons pe_int pa_nil))) (fun _ _ => rfl)))))) pss_nil)
        (pss_cons (ps_set (i := 11) nd rfl (Or.inl rfl) (pe_call G7 (hr.mono (by decide)) (by rfl) T.g__law_my_shuffled k7 b7 .nil pass0 (pa_cons (pv 1) (pa_cons (pe_call G6 hr1 (by rfl) T.g__law_my_crossings k6 b6 .nil pass0 (pa_cons (pv 9) (pa_cons (pv 3) (pa_cons (pv 4) (pa_cons (pv 5) pa_nil))))) pa_nil))))
        (pss_one (ps_if (pt_not (pt_val (pe_call G8 hr (by rfl) T.g__law_right k8 b8 .nil pass0 (pa_cons (pv 1) (pa_cons (pv 11) (pa_cons (pv 6) (pa_cons (pv 3) (pa_cons (pv 4) (pa_cons (pv 5) pa_nil))))))))) (pss_one (ps_ret pe_bl)) pss_nil))))))))))
      (pss_one (ps_ret pe_bl))), ?_⟩
    refine ⟨_, rfl, a, ns, rfl, ha, fun b c H1 s1 hb0 B1 => ?_⟩
    refine ⟨2, rfl, by decide, by decide, ?_⟩
    refine for_it (walk_range (lo := 0) (n := 2)) (fun i σ H' => ∃ v2 v3 v4 v5 v6 v7 v8 v9 v10 v11 : Option V, σ = [some (.ref a), some (.ref b), v2, v3, v4, v5, v6, v7, v8, v9, v10, v11] ∧ BagAt H' b c) ⟨none, none, none, none, none, none, none, none, none, none, rfl, B1⟩ (fun _ _ _ _ _ => trivial) (fun i x σ H2 H3 hi ⟨v2, v3, v4, v5, v6, v7, v8, v9, v10, v11, q, B2⟩ y => ?_) (fun σ H2 ⟨v2, v3, v4, v5, v6, v7, v8, v9, v10, v11, q, B2⟩ => ?_)
    · obtain ⟨rfl, rfl⟩ := y
      subst q
      refine ⟨_, rfl, b, c, 8, rfl, B2, by decide, by decide, fun n0 H4 hn0 d4 B4 => ⟨_, _, rfl, rfl, ?_⟩⟩
      refine ⟨_, rfl, b, c, 8, rfl, B4, by decide, by decide, fun m0 H5 hm0 d5 B5 => ⟨_, _, rfl, rfl, ?_⟩⟩
      refine ⟨_, rfl, b, c, 6, rfl, B5, by decide, by decide, fun R0 H6 hR0 d6 B6 => ⟨_, _, rfl, rfl, _, _, _, rfl, ?_⟩⟩
      obtain ⟨n, hn⟩ : ∃ n : Nat, n = 1 + n0 := ⟨_, rfl⟩
      obtain ⟨m, hm⟩ : ∃ m : Nat, m = 1 + m0 := ⟨_, rfl⟩
      obtain ⟨R, hR⟩ : ∃ R : Nat, R = 1 + R0 := ⟨_, rfl⟩
      have en : (1 : Int) + (n0 : Int) = (n : Int) := by omega
      have em : (1 : Int) + (m0 : Int) = (m : Int) := by omega
      have eR : (1 : Int) + (R0 : Int) = (R : Int) := by omega
      refine ⟨_, rfl, b, c, rfl, B6, fun f fs H7 d7 hf0 B7 hf ho hsz hfl => ?_⟩
      have nfb : f ≠ b := (B6.new hf0).1
      have hM : R * n * m ≤ 6 * 8 * 8 := Nat.mul_le_mul (Nat.mul_le_mul (by omega) (by omega)) (by omega)
      have hMp : 1 ≤ R * n * m := Nat.mul_pos (Nat.mul_pos (by omega) (by omega)) (by omega)
      -- the bits
      refine ⟨⟨_, rfl⟩, _, rfl, f, fs, rfl, hf, by omega, fun H8 s8 => ⟨(fsize fs : Nat), rfl, by omega, by omega, fun D hD => ?_⟩⟩
      have B8 := B7.same s8
      have hf8 := hf.same s8
      obtain ⟨nDb, nDc⟩ := B8.new hD
      have nDf : f ≠ D := fun e => by
        obtain ⟨_, h, _⟩ := hf8
        rw [e, hD] at h
        cases h
      refine lc_it (walk_range (lo := 0) (n := fsize fs)) (fun j H' => ∃ bs : List Bool, bs.length = j ∧ H' D = some (.lst (bs.map fun b => .str (bt [b]))) ∧ Bd b H8 H' ∧ BagAt H' b c) ⟨[], rfl, upd_same, (Bd.refl b H8).updN hD, B8.same (same_upd (Same.refl _) hD)⟩ (fun _ _ _ _ => trivial) (fun j x H9 H10 hj ⟨bs, hl, hD9, d9, B9⟩ y => ?_) (fun H9 ⟨bs, hl, hD9, d9, B9⟩ => ?_)
      · obtain ⟨rfl, rfl⟩ := y
        refine ⟨rfl, tYes_of ?_⟩
        refine ⟨_, rfl, b, c, 2, rfl, B9, by decide, by decide, fun v H11 hv d11 B11 => ?_⟩
        have l01 : ("01" : PySem.Str).length = 2 := by decide +kernel
        refine ⟨_, _, _, rfl, rfl, by omega, by omega, by rw [l01]; omega, by rw [Int.toNat_natCast]; exact zero_one hv, ?_⟩
        have hD11 := d11 _ _ nDb hD9
        refine ⟨_, hD11, by rw [List.length_map]; omega, bs ++ [decide (v = 1)], by rw [List.length_append, hl] <;> rfl, ?_, (d9.trans d11).updN hD, B11.updL nDb nDc⟩
        rw [upd_same, List.map_append]
        rfl
      have ebits : (bs.map fun b => V.str (bt [b])) = (bs.map fun b => bt [b]).map V.str := by rw [List.map_map] <;> rfl
      refine ⟨_, D, bs.map fun b => bt [b], rfl, rfl, .inl (SqL.of (by rw [hD9, ebits])), by rw [sum_ones, List.length_map]; show bs.length + bs.length * 0 ≤ 16777216; omega, ?_⟩
      show (fun (x : V) (H1 : Hp) => _) (V.str (Txt.join ("" : PySem.Str) (bs.map fun b => bt [b]))) H9
      rw [tjoin1]
      have hf9 := hf8.bd d9 B8 nfb
      -- woven
      refine ⟨_, rfl, _, rfl, _, rfl, _, rfl, _, rfl, f, fs, bs, n, m, R, by rw [← en, ← em, ← eR] <;> rfl, hf9, ho, hl.symm, hsz, by omega, by omega, by omega, by omega, by omega, by omega, fun H12 s12 => ?_⟩
      have hw : (wovenBits n m R fs bs).length = R * n * m := by unfold wovenBits; rw [List.length_map, List.length_range]
      have B12 := B9.same s12
      have hf12 := hf9.same s12
      -- some truths turned about
      refine ⟨_, rfl, b, c, 3, rfl, B12, by decide, by decide, fun N H13 hN d13 B13 => ⟨(N : Nat), rfl, by omega, by omega, ?_⟩⟩
      refine for_it (walk_range (lo := 0) (n := N)) (fun j σ H' => ∃ (ts : List Bool) (v7 v10 : Option V), σ = [some (.ref a), some (.ref b), some (.int (0 + (i : Nat))), some (.int n), some (.int m), some (.int R), some (.ref f), v7, some (.str (bt bs)), some (.str (bt ts)), v10, v11] ∧ ts.length = R * n * m ∧ BagAt H' b c ∧ FormsAt H' f fs) ⟨wovenBits n m R fs bs, v7, v10, by rw [← en, ← em, ← eR] <;> rfl, hw, B13, hf12.bd d13 B12 nfb⟩ (fun _ _ _ _ _ => trivial) (fun j x σ H14 H15 hj ⟨ts, v7, v10, q, htl, B14, hf14⟩ y => ?_) (fun σ H14 ⟨ts, v7, v10, q, htl, B14, hf14⟩ => ?_)
      · obtain ⟨rfl, rfl⟩ := y
        subst q
        refine ⟨_, rfl, _, rfl, _, rfl, by rw [bt_len]; omega, b, c, ts.length, by rw [bt_len] <;> rfl, B14, by omega, by omega, fun v H16 hv d16 B16 => ?_⟩
        refine ⟨_, rfl, _, rfl, _, rfl, _, rfl, by rw [bt_len]; omega, fun d hd => ⟨upd_same, swapKvs, rfl, (by show 2 ≤ 15; decide), ?_⟩⟩
        have hvt : ts[v]? = some (ts.getD v false) := by rw [List.getD_eq_getElem?_getD, List.getElem?_eq_getElem hv] <;> rfl
        refine ⟨_, rfl, _, rfl, _, _, sgn (ts.getD v false), rfl, rfl, by omega, by omega, by rw [bt_len]; omega, by rw [Int.toNat_natCast]; exact bt_get hvt, ?_⟩
        refine ⟨d, .str (bt [!ts.getD v false]), rfl, by rw [← swap_at]; exact DGet.k (k := Sum.inr (bt [ts.getD v false])) upd_same, ?_⟩
        have e1 : cutS (bt ts) none (some (v : Int)) = bt (ts.take v) := by
          rw [bt_cut, HT.sIx_none, HT.sIx_nat, Nat.min_eq_left (by omega), List.drop_zero, Nat.sub_zero]
        have e2 : cutS (bt ts) (some ((v + 1 : Nat) : Int)) none = bt (ts.drop (v + 1)) := by
          rw [bt_cut, HT.sIx_none, HT.sIx_nat, Nat.min_eq_left (by omega), List.take_of_length_le (by rw [List.length_drop]; exact Nat.le_refl _)]
        rw [e1]
        refine ⟨_, _, rfl, rfl, by rw [bt_len, bt_len, List.length_take]; show min v ts.length + 1 ≤ sizeLine; omega, ?_⟩
        rw [bt_app]
        refine ⟨_, rfl, _, rfl, _, _, rfl, rfl, ((v + 1 : Nat) : Int), congrArg V.int (by omega), _, rfl, by rw [bt_len]; omega, ?_⟩
        rw [e2]
        refine ⟨_, _, rfl, rfl, by rw [bt_len, bt_len, List.length_append, List.length_take, List.length_drop]; show min v ts.length + 1 + (ts.length - (v + 1)) ≤ sizeLine; omega, ?_⟩
        rw [bt_app]
        have sd : Same H16 (upd (upd H16 d (.dK [])) d (.dK (mergeK [] swapKvs))) := same_upd (same_upd (Same.refl _) hd) hd
        refine ⟨ts.take v ++ [!ts.getD v false] ++ ts.drop (v + 1), _, _, rfl, ?_, B16.same sd, (hf14.bd d16 B14 nfb).same sd⟩
        rw [List.length_append, List.length_append, List.length_take, List.length_drop]
        show min v ts.length + 1 + (ts.length - (v + 1)) = _
        omega
      · subst q
        refine ⟨fun σ H' => ∃ (ts : List Bool) (v7 v10 : Option V), σ = [some (.ref a), some (.ref b), some (.int (0 + (i : Nat))), some (.int n), some (.int m), some (.int R), some (.ref f), v7, some (.str (bt bs)), some (.str (bt ts)), v10, v11] ∧ ts.length = R * n * m ∧ BagAt H' b c ∧ FormsAt H' f fs, ?_, ?_⟩
        · refine ⟨_, rfl, b, c, 6, rfl, B14, by decide, by decide, fun v H16 hv d16 B16 => ⟨rfl, _, rfl, ?_⟩⟩
          have hf16 := hf14.bd d16 B14 nfb
          refine ite2 (fun _ => ?_) (fun _ => ⟨ts, v7, v10, rfl, htl, B16, hf16⟩)
          refine ⟨⟨_, rfl⟩, _, rfl, _, rfl, by rw [bt_len]; omega, ?_⟩
          rw [bt_len]
          refine ⟨(ts.length : Nat), rfl, by omega, by omega, fun D2 hD2 => ?_⟩
          obtain ⟨nDb2, nDc2⟩ := B16.new hD2
          refine lc_it (walk_range (lo := 0) (n := ts.length)) (fun j H' => ∃ bs : List Bool, bs.length = j ∧ H' D2 = some (.lst (bs.map fun b => .str (bt [b]))) ∧ Bd b H16 H' ∧ BagAt H' b c) ⟨[], rfl, upd_same, (Bd.refl b H16).updN hD2, B16.same (same_upd (Same.refl _) hD2)⟩ (fun _ _ _ _ => trivial) (fun j x H17 H18 hj ⟨us, hl2, hD17, d17, B17⟩ y => ?_) (fun H17 ⟨us, hl2, hD17, d17, B17⟩ => ?_)
          · obtain ⟨rfl, rfl⟩ := y
            refine ⟨rfl, tYes_of ?_⟩
            refine ⟨_, rfl, b, c, 2, rfl, B17, by decide, by decide, fun v H19 hv d19 B19 => ?_⟩
            have l01 : ("01" : PySem.Str).length = 2 := by decide +kernel
            refine ⟨_, _, _, rfl, rfl, by omega, by omega, by rw [l01]; omega, by rw [Int.toNat_natCast]; exact zero_one hv, ?_⟩
            have hD19 := d19 _ _ nDb2 hD17
            refine ⟨_, hD19, by rw [List.length_map]; omega, us ++ [decide (v = 1)], by rw [List.length_append, hl2] <;> rfl, ?_, (d17.trans d19).updN hD2, B19.updL nDb2 nDc2⟩
            rw [upd_same, List.map_append]
            rfl
          have eus : (us.map fun b => V.str (bt [b])) = (us.map fun b => bt [b]).map V.str := by rw [List.map_map] <;> rfl
          refine ⟨_, D2, us.map fun b => bt [b], rfl, rfl, .inl (SqL.of (by rw [hD17, eus])), by rw [sum_ones, List.length_map]; show us.length + us.length * 0 ≤ 16777216; omega, ?_⟩
          show (fun (x : V) (H1 : Hp) => _) (V.str (Txt.join ("" : PySem.Str) (us.map fun b => bt [b]))) H17
          rw [tjoin1]
          exact ⟨us, v7, v10, rfl, by omega, B17, hf16.bd d17 B16 nfb⟩
        · rintro σ H20 ⟨us, v7, v10, rfl, hul, B20, hf20⟩
          have etr : bt us = bt ((List.range (R * n * m)).map fun k => us.getD k false) := by rw [← hul, range_getD]
          refine ⟨_, rfl, _, rfl, _, rfl, _, rfl, _, rfl, n, m, R, fun k => us.getD k false, by rw [← etr] <;> rfl, by omega, by omega, by omega, by omega, by omega, by omega, fun D3 H21 s21 hD3 => ?_⟩
          refine ⟨b, c, D3, n, m, R, fun k => us.getD k false, rfl, B20.same s21, ⟨_, hD3, List.Perm.refl _, by omega, by omega, by omega, by omega, by omega, by omega⟩, fun D4 H22 d22 B22 hC22 => ?_⟩
          have hf22 := (hf20.same s21).bd d22 (B20.same s21) nfb
          refine ⟨_, rfl, _, rfl, _, rfl, _, rfl, _, rfl, _, rfl, b, c, D4, f, n, m, R, fun k => us.getD k false, fs, rfl, B22, hC22, hf22, ho, hsz, hfl, nfb, fun H23 d23 B23 => ⟨true, rfl, iteF ?_⟩⟩
          exact ⟨_, _, _, _, _, _, _, _, _, _, rfl, B23⟩
    · subst q
      exact k H2
end
end K7
/-! text K7Run -/
set_option maxHeartbeats 0
namespace K7
open PySem PySem.W PySem.Calls PyProof.Rows L2
abbrev R : OpenRow := OpenLaw.row PySem.Challenge.rw_poleribbons_k71_whole_words_or_a_refusal
abbrev qv : Program := view R.prog [62]
def names1 : List PySem.Str := ["_wall", "READERS", "is_integer", "is_count", "is_number", "are_bits", "is_reader", "RibbonError", "Wrong", "NoRule", "NoMeeting", "common_multiple", "bit_at", "text_of", "put_together", "turned_about", "Word", "PAIRS", "are_parts", "truth_of", "words_in", "size_of", "Rule", "joined_rule", "numbers_of", "every_meeting", "mask_at", "many_characters", "Sums"]
def names2 : List PySem.Str := ["sums_of", "refusal", "is_refusal", "is_meeting_of", "many_told", "told_back", "Dance", "crossings", "_law_bag", "_law_take", "_law_alike", "_law_mixed", "_law_pick", "_law_my_forms", "_law_my_places", "_law_my_size", "_law_my_meetings", "_law_my_woven", "_law_my_crossings", "_law_my_refuses", "_law_my_two", "_law_my_shuffled", "_law_refusal_right", "_law_words_right", "_law_right"]
def names : List PySem.Str := names1 ++ names2
abbrev hk : PySem.W.Hook := hookK 5 facts defs
def ob (s : PySem.W.SharedT) : He.AlD := obsKG 5 facts defs (HandSHeadRun.getT s)
theorem ob_eq (s : PySem.W.SharedT) : ob s = hk.obs s.abs := obsKG_eq (HandSHeadRun.getT_eq s)
theorem run (w : World) : HandSHeadRun.RunEq R qv hk ob 12000 names w := by
  intro os
  kernel_rfl
end K7
/-! text K7Z -/
set_option maxHeartbeats 0
namespace K7
open PySem PySem.W PySem.Calls PyProof.Rows L2
theorem factsZ {P : Program} {w : World} {K : PySem.W.Frag} {h : Heap} {mg : PySem.Str → Option Value} {f : Addr} (X : K.In h) (G : h.Ns mainGlobals mg) (hfa : mg ("law" : PySem.Str) = some (.ref f)) (c : SaysK facts defs K) :
    ∃ fd : FuncData, (∀ (s : Shared) (v : Value), BindsTo s fd ⟨[v], []⟩ [("_law_script", v)]) ∧ ∀ base : Heap, K.In base → base.Ns mainGlobals mg → FnOk P w K mg base CX0 16 f fd ["_law_script"] (spLaw K) := by
  have T := Txt.mk' c X G
  have e := hfa.symm.trans T.g_law
  cases e
  obtain ⟨fd, F⟩ := c.def_ 37
  have b := FunD.bindsA (ps := ["_law_script"]) F fun _ _ _ _ _ _ us hl => match us, hl with | [_], _ => rfl
  exact ⟨fd, fun s v => b s [v] rfl, fun base _ _ => ok_law T (He5.fun_of (st := s_law) F)⟩
end K7
open PySem PySem.W PySem.Calls PyProof.Rows
theorem PySem.Challenge.cw_poleribbons_k71_whole_words_or_a_refusal_holds : PySem.Challenge.rw_poleribbons_k71_whole_words_or_a_refusal.Holds := by
  w_on; o_law
  refine HandSHeadRun.head_any (r := OpenLaw.row PySem.Challenge.rw_poleribbons_k71_whole_words_or_a_refusal) (q := view (OpenLaw.row PySem.Challenge.rw_poleribbons_k71_whole_words_or_a_refusal).prog [62]) (H := K7.hk) (ob := K7.ob) (M := 12000) (loose := K7.names) (d := HandSHeadRun.topDef (OpenLaw.row PySem.Challenge.rw_poleribbons_k71_whole_words_or_a_refusal).prog 62) (kwd := []) K7.ob_eq
    (by kernel_rfl) (fun s => by kernel_rfl) K7.run (by kernel_rfl) (by kernel_rfl) (by kernel_rfl) (by rfl) (by first | assumption | decide +kernel) (by decide +kernel) ⟨rfl, rfl, rfl, rfl, rfl, by decide +kernel⟩ ?hw ?hc
  case hw => w_witness2
  case hc =>
    refine L2.walk_ofE (l := PySem.Challenge.rw_poleribbons_k71_whole_words_or_a_refusal) (n := 63) (k := 16) (x := "_law_script") (CX := L2.CX0) rfl (by decide) (by kernel_rfl) ⟨rfl, by decide, by decide⟩ ?F (fun _ _ _ _ z => z)
    intro w mg fa h Y G hmg0
    obtain ⟨K, KX, c⟩ := Y
    have hmg : mg ("law" : PySem.Str) = some (.ref fa) := by
      have e : (HandSHeadRun.topDef (OpenLaw.row PySem.Challenge.rw_poleribbons_k71_whole_words_or_a_refusal).prog 62).name = ("law" : PySem.Str) := by kernel_rfl
      rw [← e]
      exact hmg0
    obtain ⟨fd, hb, hF⟩ := K7.factsZ (P := (PySem.Challenge.rw_poleribbons_k71_whole_words_or_a_refusal).prog) (w := w) KX G hmg c
    exact ⟨K, fd, K7.spLaw K, KX, hb, fun H a ns hl _ hS => ⟨a, ns, rfl, hS, fun _ => rfl⟩, hF⟩
