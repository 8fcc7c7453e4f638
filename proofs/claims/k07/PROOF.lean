import PyProof.Rows.All
import Wide.All
import OpenK.AllK
import Wide.FinOn
import HandS.ForMost
import HandS.ReplaceList
import KE.IntTextLaws
import HandS.Walk
import HandS.Zip
import KE.GoesEnum
import HandS.Deep
import KE.DatumOrd
import KE.KDictPairs
import HandS.Codes
import HandS.IsInst
import HandS.RaiseMore
import HandS.TupAny
import HandS.CallLocal
import PySem.Challenge.RW_doorhouse_k07_whole_a_word_for_a_hole
import HandS.ReplaceLit
import HandS.Defaults
set_option Elab.async false
set_option linter.all false
set_option maxRecDepth 100000
set_option maxHeartbeats 4000000
/-! K7A: the texts of this law: words, holes, patterns, paths; what the program's text operations give on them. -/
namespace K7
open PySem L2

/-! ### words, names, parts -/
def wS : Fin 10 → Str
  | 0 => "a" | 1 => "b" | 2 => "7" | 3 => "no" | 4 => "0" | 5 => "12" | 6 => "9999" | 7 => "00" | 8 => "10000" | 9 => "x-9"
def nS : Fin 6 → Str
  | 0 => "a" | 1 => "id" | 2 => "x" | 3 => "eighteen" | 4 => "n" | 5 => "xx"
inductive Pt where
  | w (i : Fin 10) | h (n : Fin 6) (b : Bool)
  deriving DecidableEq
/-- a part's text: b for a number's hole -/
def ptS : Pt → Str
  | .w i => wS i
  | .h n true => (("{" : Str) ++ nS n) ++ (":n}" : Str)
  | .h n false => (("{" : Str) ++ nS n) ++ ("}" : Str)
abbrev LET : Str := "abcdefghijklmnopqrstuvwxyz"
abbrev FIG : Str := "0123456789"
def madeOf (s signs : Str) (most : Int) : Bool :=
  (decide ((1 : Int) ≤ (s.length : Int)) && decide ((s.length : Int) ≤ most)) && s.cps.toList.all fun c => decide (c ∈ signs.cps.toList)
def WSIG : Str := ((LET ++ FIG) ++ ("-" : Str))

/-- every part, listed -/
def allPt : List Pt := (List.finRange 10).map .w ++ (List.finRange 6).flatMap fun n => [.h n true, .h n false]
theorem mem_allPt (p : Pt) : p ∈ allPt := by
  cases p with
  | w i => exact List.mem_append_left _ (List.mem_map.mpr ⟨i, List.mem_finRange i, rfl⟩)
  | h n b =>
    refine List.mem_append_right _ (List.mem_flatMap.mpr ⟨n, List.mem_finRange n, ?_⟩)
    cases b <;> simp
theorem all_pt {P : Pt → Bool} (h : allPt.all P = true) (p : Pt) : P p = true := List.all_eq_true.mp h p (mem_allPt p)

theorem word_ok (i : Fin 10) : madeOf (wS i) WSIG 8 = true := by revert i; decide +kernel
theorem name_ok (n : Fin 6) : madeOf (nS n) LET 8 = true := by revert n; decide +kernel
def figN : Fin 10 → Option Int
  | 2 => some 7 | 4 => some 0 | 5 => some 12 | 6 => some 9999 | 7 => some 0 | _ => none
def numW : Fin 10 → Option Int
  | 2 => some 7 | 4 => some 0 | 5 => some 12 | 6 => some 9999 | _ => none
theorem fig_no (i : Fin 10) (h : figN i = none) : madeOf (wS i) FIG 4 = false := by revert i; decide +kernel
theorem fig_yes (i : Fin 10) (n : Int) (h : figN i = some n) : madeOf (wS i) FIG 4 = true ∧ PySem.intText? (wS i) = some n ∧ (wS i).length ≤ 640 := by
  have key : ∀ i : Fin 10, match figN i with | some n => madeOf (wS i) FIG 4 = true ∧ PySem.intText? (wS i) = some n ∧ (wS i).length ≤ 640 | none => True := by
    intro i
    have : i = 0 ∨ i = 1 ∨ i = 2 ∨ i = 3 ∨ i = 4 ∨ i = 5 ∨ i = 6 ∨ i = 7 ∨ i = 8 ∨ i = 9 := by revert i; decide
    rcases this with e | e | e | e | e | e | e | e | e | e <;> subst e <;> (first | trivial | (refine ⟨by decide +kernel, by decide +kernel, by decide +kernel⟩))
  have k := key i
  rw [h] at k
  exact k

/-! ### patterns and paths -/
def sl : Str := "/"
def patS (ps : List Pt) : Str := sl ++ Txt.join sl (ps.map ptS)
theorem pt_noslash (p : Pt) : 47 ∉ TL.tl (ptS p) := by
  have h := all_pt (P := fun p => !decide (47 ∈ TL.tl (ptS p))) (by decide +kernel) p
  simpa using h
theorem pt_len (p : Pt) : 1 ≤ (ptS p).length ∧ (ptS p).length ≤ 12 := by
  have h := all_pt (P := fun p => decide (1 ≤ (ptS p).length) && decide ((ptS p).length ≤ 12)) (by decide +kernel) p
  simpa using h
theorem tl_sl : TL.tl sl = [47] := by decide +kernel
theorem tl_patS (ps : List Pt) : TL.tl (patS ps) = 47 :: TL.joinL [47] (ps.map fun p => TL.tl (ptS p)) := by
  unfold patS
  rw [TL.tl_append, tl_sl, TL.join_eq, TL.tl_join, tl_sl, List.map_map]
  rfl
theorem patS_nil : patS [] = sl := by decide +kernel
theorem joinL_len : ∀ ps : List Pt, (TL.joinL [47] (ps.map fun p => TL.tl (ptS p))).length ≤ 13 * ps.length
  | [] => Nat.zero_le _
  | [p] => by
    have h := pt_len p
    show (TL.tl (ptS p)).length ≤ 13
    rw [← TL.len_tl]
    omega
  | p :: q :: r => by
    have h := pt_len p
    have ih := joinL_len (q :: r)
    show (TL.tl (ptS p) ++ ([47] ++ TL.joinL [47] ((q :: r).map fun p => TL.tl (ptS p)))).length ≤ 13 * (r.length + 1 + 1)
    rw [List.length_append, List.length_append, ← TL.len_tl]
    simp only [List.length_cons, List.length_nil] at ih ⊢
    omega
theorem patS_len (ps : List Pt) (h : ps.length ≤ 5) : (patS ps).length ≤ 100 := by
  rw [TL.len_tl, tl_patS, List.length_cons]
  have := joinL_len ps
  omega
theorem joinL_ne (p : Pt) (ps : List Pt) : 1 ≤ (TL.joinL [47] ((p :: ps).map fun p => TL.tl (ptS p))).length := by
  have h := (pt_len p).1
  rw [TL.len_tl] at h
  cases ps with
  | nil => exact h
  | cons q r =>
    show 1 ≤ (TL.tl (ptS p) ++ _).length
    rw [List.length_append]
    omega
theorem patS_ne {ps : List Pt} (h : ps ≠ []) : patS ps ≠ sl := by
  cases ps with
  | nil => exact absurd rfl h
  | cons p ps =>
    intro e
    have e2 := congrArg (fun s => (TL.tl s).length) e
    simp only [tl_patS, tl_sl, List.length_cons, List.length_nil] at e2
    have := joinL_ne p ps
    omega
theorem cut_head (ps : List Pt) : cutS (patS ps) none (some 1) = sl := by
  refine TL.ext_tl ?_
  have hl : 1 ≤ (patS ps).length := by rw [TL.len_tl, tl_patS, List.length_cons]; omega
  show ((TL.tl (patS ps)).drop (HT.sIx _ 0 none)).take (HT.sIx (patS ps).length (patS ps).length (some ((1 : Nat) : Int)) - HT.sIx (patS ps).length 0 none) = TL.tl sl
  rw [HT.sIx_none, HT.sIx_nat, List.drop_zero, Nat.min_eq_left hl, tl_patS, tl_sl]
  rfl
theorem cut_tail (ps : List Pt) : cutS (patS ps) (some 1) none = Txt.join sl (ps.map ptS) := by
  refine TL.ext_tl ?_
  have hl : 1 ≤ (patS ps).length := by rw [TL.len_tl, tl_patS, List.length_cons]; omega
  show ((TL.tl (patS ps)).drop (HT.sIx (patS ps).length 0 (some ((1 : Nat) : Int)))).take (HT.sIx (patS ps).length (patS ps).length none - HT.sIx (patS ps).length 0 (some ((1 : Nat) : Int))) = TL.tl (Txt.join sl (ps.map ptS))
  rw [HT.sIx_none, HT.sIx_nat, Nat.min_eq_left hl, TL.len_tl, tl_patS, TL.join_eq, TL.tl_join, tl_sl, List.map_map]
  simp only [List.drop_succ_cons, List.drop_zero, List.length_cons, Nat.add_sub_cancel]
  exact List.take_of_length_le (Nat.le_refl _)
theorem split_pat {ps : List Pt} (h : ps ≠ []) : Txt.split (Txt.join sl (ps.map ptS)) sl = ps.map ptS :=
  TL.split_join (y := sl) (s := 47) (S := []) tl_sl (by decide +kernel) (by intro e; exact h (List.map_eq_nil_iff.mp e)) fun s hs => by
    obtain ⟨p, _, rfl⟩ := List.mem_map.mp hs
    exact pt_noslash p
theorem patS_split (ps : List Pt) (h : ps ≠ []) : Txt.split (patS ps) sl = (Str.empty : Str) :: ps.map ptS := by
  refine TL.map_tl_inj ?_
  rw [TL.split_spl _ sl (by rw [tl_sl]; simp) (TL.kind_ok (by decide +kernel)), tl_patS, tl_sl]
  have e := TL.spl_join (s := 47) (S := []) (parts := [] :: ps.map fun p => TL.tl (ptS p)) (by simp) fun z hz => by
    rcases List.mem_cons.mp hz with rfl | hz
    · simp
    · obtain ⟨p, _, rfl⟩ := List.mem_map.mp hz
      exact pt_noslash p
  cases ps with
  | nil => exact absurd rfl h
  | cons p r =>
    have e2 : List.map TL.tl (Str.empty :: List.map ptS (p :: r)) = [] :: List.map (fun p => TL.tl (ptS p)) (p :: r) := by
      rw [List.map_cons, List.map_map]
      rfl
    rw [e2]
    exact e

/-! ### holes in parts -/
def isH : Pt → Bool
  | .w _ => false
  | .h _ _ => true
def knd : Pt → Int
  | .w _ => 0
  | .h _ true => 1
  | .h _ false => 2
def inS : Pt → Str
  | .w _ => "?"
  | .h n true => nS n ++ (":n" : Str)
  | .h n false => nS n
theorem hole_facts (p : Pt) : decide (V.str (cutS (ptS p) none (some 1)) = V.str "{") = isH p ∧
    (isH p = true → cutS (ptS p) (some (-1)) none = "}" ∧ cutS (ptS p) (some 1) (some (-1)) = inS p ∧ Txt.endswith (inS p) ":n" = decide (knd p = 1) ∧ (inS p).length ≤ 12) := by
  have h := all_pt (P := fun p => decide (decide (V.str (cutS (ptS p) none (some 1)) = V.str "{") = isH p ∧
    (isH p = true → cutS (ptS p) (some (-1)) none = "}" ∧ cutS (ptS p) (some 1) (some (-1)) = inS p ∧ Txt.endswith (inS p) ":n" = decide (knd p = 1) ∧ (inS p).length ≤ 12))) (by decide +kernel) p
  exact of_decide_eq_true h
theorem inS_cut (n : Fin 6) : cutS (inS (.h n true)) none (some (-2)) = nS n := by revert n; decide +kernel
theorem name_len (n : Fin 6) : (nS n).length ≤ 12 := by revert n; decide +kernel
theorem word_len (i : Fin 10) : (wS i).length ≤ 12 := by revert i; decide +kernel
end K7

set_option maxRecDepth 100000
set_option maxHeartbeats 4000000
/-! K7R1: enumerate over a tuple; zip of a list and a tuple; walks of zip over tuples. -/
namespace K7
open PySem PySem.Spec PyProof.Rows L2

/-! ### enumerate(v) without a start -/
theorem meets_enum1 {v : Value} {o : Obj} {G : Heap → Prop} (B : Begins v o G) :
    Meets (Builtin.«enumerate.__new__» ⟨[.type "enumerate", v], []⟩) (fun _ R s => G s.heap ∧
      R (.ok (.ret (.ref (s.heap.push o).objs.size))) { s with heap := (s.heap.push o).push { cls := .type "enumerate", data := .fields #[.none, .bool false, .ref s.heap.objs.size, rawInt 0, .none, .none] } }) :=
  .of_wp fun prog w A R s h => by
    obtain ⟨hp, g, d, tk, os⟩ := s
    obtain ⟨h1, h⟩ := h
    have hsub := sub_enumerate
    have q1 : ∀ {A' : Around} {E : Value → Shared → Prop} {Q : Value → Shared → Prop}, Q (.ref hp.objs.size) ⟨hp.push o, g, d, tk, os⟩ → wpAny (model prog w) A' (pyIter v) Q E ⟨hp, g, d, tk, os⟩ :=
      fun q => B.iter prog w _ _ ⟨hp, g, d, tk, os⟩ _ h1 q
    wp_walk using q1
    refine wpAny_stack_any fun st => wpAny_pure ?_
    split
    · rename_i c _ _ _ _ _
      cases (c == Value.type "enumerate")
      · wp_walk using q1
        exact ⟨_, rfl, h⟩
      · wp_walk using q1
        exact ⟨_, rfl, h⟩
    · wp_walk using q1
      exact ⟨_, rfl, h⟩
theorem enum_begins1 {prog : Program} {w : World} {A : Around} {E : Value → Shared → Prop} {s : Shared} {v : Value} {o : Obj} {G : Heap → Prop} {Q : Value → Shared → Prop} (B : Begins v o G) (h1 : G s.heap)
    (h : ∀ h', IsEnum h' (s.heap.objs.size + 1) s.heap.objs.size 0 .none → h'.get? s.heap.objs.size = some o → (∀ b o, s.heap.get? b = some o → h'.get? b = some o) → Q (.ref (s.heap.objs.size + 1)) { s with heap := h' }) :
    wpAny (model prog w) A (call (.type "enumerate") [v]) Q E s := by
  refine callType_new F.called_enumerate (by decide) (F.typeCall_enumerate_1 _) (F.newCall_enumerate_1 _) (fun obj => F.args_object_init_2 obj _) F.entry_enumerate_new (meets_enum1 B) ⟨h1, ?_⟩
  have hz : (s.heap.push o).objs.size = s.heap.objs.size + 1 := Heap.size_push ..
  show _ ∧ _
  rw [hz]
  have he := Heap.get?_push_size (s.heap.push o) (o := { cls := .type "enumerate", data := .fields #[.none, .bool false, .ref s.heap.objs.size, rawInt 0, .none, .none] }) rfl
  rw [hz] at he
  exact ⟨⟨_, he, rfl⟩, h _ he (Heap.get?_push_of_some _ (Heap.get?_push_size _ B.free)) fun b o x => Heap.get?_push_of_some _ (Heap.get?_push_of_some _ x)⟩

/-! ### enumerate(tuple) as a walk -/
def IteT (K : PySem.W.Frag) (a : Addr) : It :=
  ⟨fun i H => ∃ (xs : List V) (x : V), SqT K H a xs ∧ xs[i]? = some x,
   fun i H v H' => ∃ T x, v = .ref T ∧ H T = none ∧ H' = upd H T (.tup [.int (i : Nat), x]) ∧ ∀ xs, SqT K H a xs → xs[i]? = some x,
   fun i H => ∃ xs : List V, SqT K H a xs ∧ xs.length = i⟩
theorem turn_enumT {P : Program} {w : World} {K : PySem.W.Frag} {elts : List Expr} {kk : Nat} {tpos : Pos} (a e it : Addr) :
    Turn P w K (.Tuple elts kk tpos) (IteT K a) [e, it] e (fun i h => (∃ old, IsEnum h e it ((i : Nat) : Int) old) ∧ h.IsTupleIter it a i ∧ e ≠ it ∧ a ≠ it ∧ a ≠ e) where
  mem := by simp
  obj := fun i h st b hb => by
    obtain ⟨⟨old, he⟩, ⟨o, ho, hc, hd⟩, _⟩ := st
    rcases (by simpa using hb : b = e ∨ b = it) with z | z
    · rw [z]; exact ⟨_, he, fun v q => nomatch q⟩
    · rw [z]; exact ⟨o, ho, fun v q => by rw [hd] at q; cases q⟩
  keep := fun i h h' st k => let ⟨⟨old, he⟩, hi, hne⟩ := st; ⟨⟨old, k e (by simp) _ he⟩, hi.at fun o q => k it (by simp) o q, hne⟩
  item := by
    intro X hP hw hK hc i pins s σ H E I hf st hg
    subst hP hw hK
    obtain ⟨⟨old, he⟩, hit, hne, hai, hae⟩ := st
    obtain ⟨xs, x, hq, hx⟩ := hg
    obtain ⟨its, rv, p, hz⟩ := I.tuple hq
    obtain ⟨u, hu, ru⟩ := rv.get hx
    have hel : e < s.heap.objs.size := Heap.lt_size he
    have hil : it < s.heap.objs.size := by obtain ⟨_, q, _⟩ := hit; exact Heap.lt_size q
    have hlt : i < its.toArray.size := by
      have z : i < its.length := (List.getElem?_eq_some_iff.mp hu).1
      simpa using z
    have hef : e ∉ [it, a] := by simp only [List.mem_cons, List.not_mem_nil, or_false, not_or]; exact ⟨hne, hae.symm⟩
    refine wpAny_pyNext_enum_itemD (Draws.tuple (prog := X.prog) (w := X.w) (A := X.A.in1) (show X.A.handled = none from I.ok.hd hc) it a hai its.toArray) he ⟨hit, p⟩ hlt hne hef fun y h' tk hy ho hst hT hsz hk => ?_
    obtain ⟨hit', _⟩ := hst
    have ey : y = u := by
      have z : its[i]? = some y := by simpa using hy
      exact Option.some.inj (z.symm.trans hu)
    subst ey
    refine ⟨_, rfl, wpAny_letOwnedTupleGo_enum (s := { s with heap := h', toks := tk + 1 }) ho fun h'' he' sb => ?_⟩
    have hT2 : h''.get? s.heap.objs.size = some { cls := .type "tuple", data := .seq #[.int i tk, y] } := (sb.2 _ (Nat.ne_of_gt hel)).trans hT
    have new : ObjOk X.prog X.w (upd H s.heap.objs.size (.tup [.int (i : Nat), x])) h'' s.heap.objs.size (.tup [.int (i : Nat), x]) :=
      ⟨by show 2 ≤ sizeLine; decide, [.int i tk, y], .cons ⟨_, rfl⟩ (.cons ru .nil), ⟨_, hT2, rfl, _, rfl⟩⟩
    have I1 : Inv X pins σ (upd H s.heap.objs.size (.tup [.int (i : Nat), x])) { s with heap := h'', toks := tk + 1 } :=
      I.turnedNew (ch := [e, it]) (fun b ob hb q => (sb.2 b (fun z => hb (by simp [z]))).trans (hk b ob (fun z => hb (by simp [z])) (fun z => hb (by simp [z])) q)) hf (Nat.le_refl _) new
    refine ⟨.ref s.heap.objs.size, _, I1, rfl, ⟨_, x, rfl, I.hok.fresh (Nat.le_refl _), rfl, fun ys hy => by rw [I.tuple_inj hy hq]; exact hx⟩, ⟨⟨y, ?_⟩, hit'.at fun o q => (sb.2 it (Ne.symm hne)).trans q, hne, hai, hae⟩, fun b hb => ?_⟩
    · have e1 : ((i + 1 : Nat) : Int) = (i : Int) + 1 := by omega
      rw [e1]; exact he'
    · have hb' : b < s.heap.objs.size := by
        rcases (by simpa using hb : b = e ∨ b = it) with z | z
        · rw [z]; exact hel
        · rw [z]; exact hil
      rw [upd_ne (Nat.ne_of_lt hb')]
      exact (hf b hb).1
  done := by
    intro X hP hw hK hc i pins s σ H E I hf st hg
    subst hP hw hK
    obtain ⟨⟨old, he⟩, hit, hne, hai, hae⟩ := st
    obtain ⟨xs, hq, hx⟩ := hg
    obtain ⟨its, rv, p, hz⟩ := I.tuple hq
    obtain ⟨f0, f1, f2, f3, f4, f5⟩ := hf it (by simp)
    have hl := rv.length
    have hi : its.toArray.size = i := by simp; omega
    have D := Draws.tuple (prog := X.prog) (w := X.w) (A := X.A.in1) (show X.A.handled = none from I.ok.hd hc) it a hai its.toArray
    rw [hi] at D
    exact wpAny_pyNext_enum_endD D he ⟨hit, p⟩ fun h' eb => ⟨rfl, I.turned (t' := s.toks) (fun b o hb q => eb b o hb q) f0 f1 f3 f4 f5⟩
  self := fun A i s Q E st h => let ⟨⟨_, he⟩, _⟩ := st; wpAny_pyIter_enum he h
def iEnumT (K : PySem.W.Frag) (ta : TA) : TI := fun σ H R => ta σ H fun vs H1 => ∃ a xs, vs = [.ref a] ∧ SqT K H1 a xs ∧ R (IteT K a) H1
theorem pi_enumT {X : Cx} {e : Expr} {ta : TA} {p pos tpos : Pos} {elts : List Expr} {kk : Nat} (hg : Gl X "enumerate") (hm : X.mg "enumerate" = none) (ha : PA X [e] ta) (hs : starEach [e] X.env = [(false, eval e X.env)] := by rfl) :
    PI X (.Tuple elts kk tpos) (.Call (.Name "enumerate" p) [e] [] pos) (iEnumT X.K ta) := by
  refine ⟨fun pins s σ H R I h => ?_⟩
  refine Call_ (ld_blt I hg hm boot_enumerate (PyProof.Rows.callWith_type1 (thn (ha.run pos pins s σ H _ I h) fun us s1 ⟨vs, H1, I1, r1, q1⟩ => ?_) hs rfl))
  obtain ⟨a, xs, ex, hq, q⟩ := q1
  subst ex
  cases r1 with
  | cons r rr =>
    cases rr
    cases r
    obtain ⟨its, rv, p', hz⟩ := I1.tuple hq
    have hal : a < s1.heap.objs.size := p'.lt
    refine enum_begins1 (begins_tuple a its.toArray) (show s1.heap.IsTuple a its.toArray from p') fun h' he hit hk => wpAny_pyIter_enum he ?_
    have I2 : Inv X pins σ H1 { s1 with heap := h' } := I1.kept (t' := s1.toks) hk
    refine ⟨s1.heap.objs.size + 1, [s1.heap.objs.size + 1, s1.heap.objs.size], _, _, H1, rfl, I2, turn_enumT a (s1.heap.objs.size + 1) s1.heap.objs.size,
      ⟨⟨.none, he⟩, ⟨_, hit, rfl, rfl⟩, Nat.succ_ne_self _, Nat.ne_of_lt hal, Nat.ne_of_lt (Nat.lt_succ_of_lt hal)⟩, fun b hb => ?_, q⟩
    have hle : s1.heap.objs.size ≤ b := by
      rcases (by simpa using hb : b = s1.heap.objs.size + 1 ∨ b = s1.heap.objs.size) with z | z
      · rw [z]; exact Nat.le_add_right _ _
      · rw [z]; exact Nat.le_refl _
    exact I1.fpOk hle (I1.hok.fresh hle)
theorem walk_enumT {K : PySem.W.Frag} {a : Addr} {xs : List V} : Walk (IteT K a) xs.length (fun H => SqT K H a xs) (YPair (fun i => some (.int (i : Nat))) (fun i => xs[i]?)) := by
  refine ⟨fun i _ hi q => ⟨xs, xs[i], q, by simp [hi]⟩, fun _ q => ⟨xs, q, rfl⟩, fun i H v H' _ q y => ?_⟩
  obtain ⟨T, x, h1, h2, h3, h4⟩ := y
  exact ⟨T, .int (i : Nat), x, h1, h2, h3, rfl, h4 xs q⟩
theorem walk_zipT {K : PySem.W.Frag} {a b : Addr} {xs ys : List V} {n : Nat} (hn : n = min xs.length ys.length) : Walk (RZ.ItzT K a b) n (fun H => SqT K H a xs ∧ SqT K H b ys) (YPair (fun i => xs[i]?) (fun i => ys[i]?)) := by
  subst hn
  refine ⟨fun i _ hi q => ?_, fun _ q => ⟨xs, ys, q.1, q.2, by omega⟩, fun i H v H' _ q y => ?_⟩
  · have h1 : i < xs.length := by omega
    have h2 : i < ys.length := by omega
    exact ⟨xs, ys, xs[i], ys[i], q.1, q.2, by simp [h1], by simp [h2]⟩
  · obtain ⟨T, x, z, h1, h2, h3, h4, h5⟩ := y
    exact ⟨T, x, z, h1, h2, h3, h4 xs q.1, h5 ys q.2⟩

/-! ### zip(list, tuple) -/
def ItzM (K : PySem.W.Frag) (a b : Addr) : It :=
  ⟨fun i H => ∃ (xs ys : List V) (x y : V), SqL K H a xs ∧ SqT K H b ys ∧ xs[i]? = some x ∧ ys[i]? = some y,
   fun i H v H' => ∃ T x y, v = .ref T ∧ H T = none ∧ H' = upd H T (.tup [x, y]) ∧ (∀ xs, SqL K H a xs → xs[i]? = some x) ∧ ∀ ys, SqT K H b ys → ys[i]? = some y,
   fun i H => ∃ xs ys : List V, SqL K H a xs ∧ SqT K H b ys ∧ xs.length = i ∧ ys.length = i⟩
theorem turn_zipM {P : Program} {w : World} {K : PySem.W.Frag} {elts : List Expr} {kk : Nat} {tpos : Pos} {a b z TI TO i1 i2 : Addr} (S : ZipSep2 z TI TO i1 i2 [i1, a] [i2, b]) (ha : a ≠ i1) (hb2 : b ≠ i2) :
    Turn P w K (.Tuple elts kk tpos) (ItzM K a b) [z, TI, TO, i1, i2] z (fun i h => IsZip h z TI TO .none ∧ IsTupOf2 h TI (.ref i1) (.ref i2) ∧ (∃ x y, IsTupOf2 h TO x y) ∧ h.IsListIter i1 a i ∧ h.IsTupleIter i2 b i) where
  mem := by simp
  obj := fun i h st c hc => by
    obtain ⟨hz, hTI, ⟨x, y, hTO⟩, ⟨o1, e1, _, d1⟩, ⟨o2, e2, _, d2⟩⟩ := st
    rcases (by simpa using hc : c = z ∨ c = TI ∨ c = TO ∨ c = i1 ∨ c = i2) with q | q | q | q | q
    · rw [q]; exact ⟨_, hz, fun v q => nomatch q⟩
    · rw [q]; exact ⟨_, hTI, fun v q => nomatch q⟩
    · rw [q]; exact ⟨_, hTO, fun v q => nomatch q⟩
    · rw [q]; exact ⟨o1, e1, fun v q => by rw [d1] at q; cases q⟩
    · rw [q]; exact ⟨o2, e2, fun v q => by rw [d2] at q; cases q⟩
  keep := fun i h h' st k => by
    obtain ⟨hz, hTI, ⟨x, y, hTO⟩, h1, h2⟩ := st
    exact ⟨k z (by simp) _ hz, k TI (by simp) _ hTI, ⟨x, y, k TO (by simp) _ hTO⟩, h1.at fun o q => k i1 (by simp) o q, h2.at fun o q => k i2 (by simp) o q⟩
  item := by
    intro X hP hw hK hc i pins s σ H E I hf st hg
    subst hP hw hK
    obtain ⟨hz, hTI, ⟨x0, y0, hTO⟩, h1, h2⟩ := st
    obtain ⟨xs, ys, x, y, hqx, hqy, hx, hy⟩ := hg
    obtain ⟨its, rv, p, _⟩ := I.list hqx
    obtain ⟨its2, rv2, p2, _⟩ := I.tuple hqy
    obtain ⟨u, hu, ru⟩ := rv.get hx
    obtain ⟨u2, hu2, ru2⟩ := rv2.get hy
    have hzl : z < s.heap.objs.size := Heap.lt_size hz
    have hh : X.A.in1.handled = none := I.ok.hd hc
    have l1 : i < its.toArray.size := by simpa using (List.getElem?_eq_some_iff.mp hu).1
    have l2 : i < its2.toArray.size := by simpa using (List.getElem?_eq_some_iff.mp hu2).1
    refine wpAny_pyNext_zipD2_item S (Draws.list (prog := X.prog) (w := X.w) (A := X.A.in1) hh i1 a ha its.toArray) (Draws.tuple (prog := X.prog) (w := X.w) (A := X.A.in1) hh i2 b hb2 its2.toArray) hz hTI hTO ⟨h1, p.isList⟩ ⟨h2, p2⟩ l1 l2
      fun v1 v2 h' tk y1 y2 b1 b2 d1 d2 b5 b6 hk => ?_
    have e1 : v1 = u := by
      have q : its[i]? = some v1 := by simpa using y1
      exact Option.some.inj (q.symm.trans hu)
    have e2 : v2 = u2 := by
      have q : its2[i]? = some v2 := by simpa using y2
      exact Option.some.inj (q.symm.trans hu2)
    subst e1 e2
    refine ⟨_, rfl, wpAny_letOwnedTupleGo_zip (s := { s with heap := h', toks := tk }) b1 fun h'' z'' sb => ?_⟩
    have hT2 : h''.get? s.heap.objs.size = some { cls := .type "tuple", data := .seq #[v1, v2] } := (sb.2 _ (Nat.ne_of_gt hzl)).trans b5
    have new : ObjOk X.prog X.w (upd H s.heap.objs.size (.tup [x, y])) h'' s.heap.objs.size (.tup [x, y]) :=
      ⟨by show 2 ≤ sizeLine; decide, [v1, v2], .cons ru (.cons ru2 .nil), ⟨_, hT2, rfl, _, rfl⟩⟩
    have I1 : Inv X pins σ (upd H s.heap.objs.size (.tup [x, y])) { s with heap := h'', toks := tk } :=
      I.turnedNew (t' := tk) (ch := [z, TI, TO, i1, i2]) (fun c o hb q => (sb.2 c (fun q' => hb (by simp [q']))).trans (hk c o (fun q' => hb (by simp [q'])) (fun q' => hb (by simp [q'])) (fun q' => hb (by simp [q'])) (fun q' => hb (by simp [q'])) q)) hf (Nat.le_refl _) new
    refine ⟨.ref s.heap.objs.size, _, I1, rfl, ⟨_, x, y, rfl, I.hok.fresh (Nat.le_refl _), rfl, fun l hl => by rw [I.list_inj hl hqx]; exact hx, fun l hl => by rw [I.tuple_inj hl hqy]; exact hy⟩, ⟨z'', ?_, ⟨v1, v2, ?_⟩, ?_, ?_⟩, fun c hcm => ?_⟩
    · exact (sb.2 _ S.TIz).trans (hk _ _ S.TIz S.TITO S.TIi1 S.TIi2 hTI)
    · exact (sb.2 _ S.TOz).trans b2
    · exact d1.1.at fun o q => (sb.2 _ (fun e => S.zi1 e.symm)).trans q
    · exact d2.1.at fun o q => (sb.2 _ (fun e => S.zi2 e.symm)).trans q
    · have hlt : c < s.heap.objs.size := by
        rcases (by simpa using hcm : c = z ∨ c = TI ∨ c = TO ∨ c = i1 ∨ c = i2) with q | q | q | q | q
        · rw [q]; exact hzl
        · rw [q]; exact Heap.lt_size hTI
        · rw [q]; exact Heap.lt_size hTO
        · rw [q]; obtain ⟨_, e1, _⟩ := h1; exact Heap.lt_size e1
        · rw [q]; obtain ⟨_, e2, _⟩ := h2; exact Heap.lt_size e2
      rw [upd_ne (Nat.ne_of_lt hlt)]
      exact (hf c hcm).1
  done := by
    intro X hP hw hK hc i pins s σ H E I hf st hg
    subst hP hw hK
    obtain ⟨hz, hTI, ⟨x0, y0, hTO⟩, h1, h2⟩ := st
    obtain ⟨xs, ys, hqx, hqy, g1, g2⟩ := hg
    obtain ⟨its, rv, p, _⟩ := I.list hqx
    obtain ⟨its2, rv2, p2, _⟩ := I.tuple hqy
    have m1 := rv.length
    have m2 := rv2.length
    have s1 : its.toArray.size = i := by simp; omega
    have s2 : its2.toArray.size = i := by simp; omega
    have hh : X.A.in1.handled = none := I.ok.hd hc
    have D1 := Draws.list (prog := X.prog) (w := X.w) (A := X.A.in1) hh i1 a ha its.toArray
    have D2 := Draws.tuple (prog := X.prog) (w := X.w) (A := X.A.in1) hh i2 b hb2 its2.toArray
    rw [s1] at D1
    rw [s2] at D2
    exact wpAny_pyNext_zipD2_end S D1 D2 hz hTI hTO ⟨h1, p.isList⟩ ⟨h2, p2⟩ (by omega) (by omega) (by omega) fun h' tk hk => ⟨rfl, I.turnedL (t' := tk) (ch := [z, TI, TO, i1, i2]) (fun c o hb q =>
      hk c o (fun q' => hb (by simp [q'])) (fun q' => hb (by simp [q'])) (fun q' => hb (by simp [q'])) (fun q' => hb (by simp [q'])) q) hf⟩
  self := fun A i s Q E st h => wpAny_pyIter_zip st.1 h
def iZipM (K : PySem.W.Frag) (ta : TA) : TI := fun σ H R => ta σ H fun vs H1 => ∃ a b xs ys, vs = [.ref a, .ref b] ∧ SqL K H1 a xs ∧ SqT K H1 b ys ∧ R (ItzM K a b) H1
theorem pi_zipM {X : Cx} {e e2 : Expr} {ta : TA} {p pos tpos : Pos} {elts : List Expr} {kk : Nat} (hg : Gl X "zip") (hm : X.mg "zip" = none) (ha : PA X [e, e2] ta)
    (hs : starEach [e, e2] X.env = (false, eval e X.env) :: starEach [e2] X.env := by rfl) (hpl : (backTo pos (starEach [e2] X.env)).any (·.1) = false := by rfl) :
    PI X (.Tuple elts kk tpos) (.Call (.Name "zip" p) [e, e2] [] pos) (iZipM X.K ta) := by
  refine ⟨fun pins s σ H R I h => ?_⟩
  refine Call_ (ld_blt I hg hm PyProof.Rows.boot_zip (PyProof.Rows.callWith_type1 (thn (ha.run pos pins s σ H _ I h) fun us s1 ⟨vs, H1, I1, r1, q1⟩ => ?_) hs hpl))
  obtain ⟨a, b, xs, ys, ex, hqx, hqy, q⟩ := q1
  subst ex
  cases r1 with
  | cons r rr =>
    cases rr with
    | cons r' rr =>
      cases rr
      cases r
      cases r'
      obtain ⟨its, rv, p1, _⟩ := I1.list hqx
      obtain ⟨its2, rv2, p2, _⟩ := I1.tuple hqy
      have la : a < s1.heap.objs.size := p1.lt
      have lb : b < s1.heap.objs.size := p2.lt
      refine zip_begins2 (begins_list a its.toArray) (begins_tuple b its2.toArray) p1.isList (show s1.heap.IsTuple b its2.toArray from p2) fun h' hz hTI hTO h1 h2 hsz hk => wpAny_pyIter_zip hz ?_
      have I2 : Inv X pins σ H1 { s1 with heap := h' } := I1.kept (t' := s1.toks) hk
      refine ⟨s1.heap.objs.size + 4, [s1.heap.objs.size + 4, s1.heap.objs.size + 2, s1.heap.objs.size + 3, s1.heap.objs.size, s1.heap.objs.size + 1], _, _, H1, rfl, I2,
        turn_zipM (zip_sep2 (fun c hc => by rw [List.mem_singleton.mp hc]; exact la) (fun c hc => by rw [List.mem_singleton.mp hc]; exact lb)) (Nat.ne_of_lt la) (Nat.ne_of_lt (Nat.lt_succ_of_lt lb)),
        ⟨hz, hTI, ⟨_, _, hTO⟩, ⟨_, h1, rfl, rfl⟩, ⟨_, h2, rfl, rfl⟩⟩, fun c hcm => ?_, q⟩
      have hle : s1.heap.objs.size ≤ c := by
        rcases (by simpa using hcm : c = s1.heap.objs.size + 4 ∨ c = s1.heap.objs.size + 2 ∨ c = s1.heap.objs.size + 3 ∨ c = s1.heap.objs.size ∨ c = s1.heap.objs.size + 1) with z | z | z | z | z
        · rw [z]; exact Nat.le_add_right _ _
        · rw [z]; exact Nat.le_add_right _ _
        · rw [z]; exact Nat.le_add_right _ _
        · rw [z]; exact Nat.le_refl _
        · rw [z]; exact Nat.le_add_right _ _
      exact I1.fpOk hle (I1.hok.fresh hle)
theorem walk_zipM {K : PySem.W.Frag} {a b : Addr} {xs ys : List V} (hn : xs.length = ys.length) : Walk (ItzM K a b) xs.length (fun H => SqL K H a xs ∧ SqT K H b ys) (YPair (fun i => xs[i]?) (fun i => ys[i]?)) := by
  refine ⟨fun i _ hi q => ?_, fun _ q => ⟨xs, ys, q.1, q.2, rfl, hn.symm⟩, fun i H v H' _ q y => ?_⟩
  · have h2 : i < ys.length := by omega
    exact ⟨xs, ys, xs[i], ys[i], q.1, q.2, by simp [hi], by simp [h2]⟩
  · obtain ⟨T, x, z, h1, h2, h3, h4, h5⟩ := y
    exact ⟨T, x, z, h1, h2, h3, h4 xs q.1, h5 ys q.2⟩
end K7

set_option maxRecDepth 100000
set_option maxHeartbeats 4000000
/-! K7R2: data of the heap (Dp) carried over; min of pairs (list of ints, int); tuple(list) with its object known; dict(tuple of pairs). -/
namespace K7
open PySem PySem.Spec PyProof.Rows L2
open PySem.W (Datum DatumOrd minOf HoldAll)

/-! ### Dp -/
theorem Same.tup {K : PySem.W.Frag} {H H' : Hp} {a : Addr} {xs : List V} (e : Same H H') (h : SqT K H a xs) : SqT K H' a xs := by
  rcases h with (h | ⟨o, h⟩) | h
  · exact .inl (.inl (e _ _ h))
  · exact .inl (.inr ⟨o, e _ _ h⟩)
  · exact .inr h
mutual
theorem dp_same {K : PySem.W.Frag} {H H' : Hp} (e : Same H H') : ∀ (d : PyData) (v : V), Dp K H v d → Dp K H' v d
  | .none, _, h => by cases h; exact .non
  | .bool b, _, h => by cases h; exact .bl b
  | .int i, _, h => by cases h; exact .int i
  | .str x, _, h => by cases h; exact .str x
  | .list ds, _, h => by
    cases h with
    | lst hs ha => exact .lst (e.seq hs) (dps_same e ds _ ha)
  | .tuple ds, _, h => by
    cases h with
    | tup hs ha => exact .tup (Same.tup e hs) (dps_same e ds _ ha)
  | .dict _, _, h => by cases h
theorem dps_same {K : PySem.W.Frag} {H H' : Hp} (e : Same H H') : ∀ (ds : List PyData) (vs : List V), DpAll K H vs ds → DpAll K H' vs ds
  | [], _, h => by cases h; exact .nil
  | d :: ds, _, h => by
    cases h with
    | cons h1 h2 => exact .cons (dp_same e d _ h1) (dps_same e ds _ h2)
end
-- no list within
mutual
def noL : PyData → Bool
  | .list _ => false
  | .tuple ds => noLs ds
  | _ => true
def noLs : List PyData → Bool
  | [] => true
  | d :: ds => noL d && noLs ds
end
/-- all but the list at p stands -/
def But (p : Addr) (H H' : Hp) : Prop := ∀ b o, H b = some o → b ≠ p → H' b = some o
theorem But.refl (p : Addr) (H : Hp) : But p H H := fun _ _ h _ => h
theorem But.trans {p : Addr} {H H1 H2 : Hp} (a : But p H H1) (b : But p H1 H2) : But p H H2 := fun c o h n => b c o (a c o h n) n
theorem But.same {p : Addr} {H H1 H2 : Hp} (a : But p H H1) (b : Same H1 H2) : But p H H2 := fun c o h n => b c o (a c o h n)
theorem Same.but {p : Addr} {H H1 : Hp} (a : Same H H1) : But p H H1 := fun c o h _ => a c o h
theorem Same.thenBut {p : Addr} {H H1 H2 : Hp} (a : Same H H1) (b : But p H1 H2) : But p H H2 := fun c o h n => b c o (a c o h) n
theorem But.tup {K : PySem.W.Frag} {p : Addr} {H H' : Hp} {a : Addr} {xs ps : List V} (e : But p H H') (hp : H p = some (.lst ps)) (h : SqT K H a xs) : SqT K H' a xs := by
  rcases h with (h | ⟨o, h⟩) | h
  · exact .inl (.inl (e _ _ h fun z => by rw [z, hp] at h; cases h))
  · exact .inl (.inr ⟨o, e _ _ h fun z => by rw [z, hp] at h; cases h⟩)
  · exact .inr h
mutual
theorem dp_but {K : PySem.W.Frag} {p : Addr} {H H' : Hp} {ps : List V} (e : But p H H') (hp : H p = some (.lst ps)) : ∀ (d : PyData) (v : V), noL d = true → Dp K H v d → Dp K H' v d
  | .none, _, _, h => by cases h; exact .non
  | .bool b, _, _, h => by cases h; exact .bl b
  | .int i, _, _, h => by cases h; exact .int i
  | .str x, _, _, h => by cases h; exact .str x
  | .list ds, _, n, h => by unfold noL at n; cases n
  | .tuple ds, _, n, h => by
    cases h with
    | tup hs ha => exact .tup (e.tup hp hs) (dps_but e hp ds _ (by unfold noL at n; exact n) ha)
  | .dict _, _, _, h => by cases h
theorem dps_but {K : PySem.W.Frag} {p : Addr} {H H' : Hp} {ps : List V} (e : But p H H') (hp : H p = some (.lst ps)) : ∀ (ds : List PyData) (vs : List V), noLs ds = true → DpAll K H vs ds → DpAll K H' vs ds
  | [], _, _, h => by cases h; exact .nil
  | d :: ds, _, n, h => by
    unfold noLs at n
    rw [Bool.and_eq_true] at n
    cases h with
    | cons h1 h2 => exact .cons (dp_but e hp d _ n.1 h1) (dps_but e hp ds _ n.2 h2)
end
section
variable {K : PySem.W.Frag} {H : Hp}
theorem dps_len : ∀ {vs : List V} {ds : List PyData}, DpAll K H vs ds → vs.length = ds.length
  | _, _, .nil => rfl
  | _, _, .cons _ t => congrArg Nat.succ (dps_len t)
theorem dps_at : ∀ {vs : List V} {ds : List PyData} {i : Nat} {v : V}, DpAll K H vs ds → vs[i]? = some v → ∃ d, ds[i]? = some d ∧ Dp K H v d
  | _, _, _, _, .nil, e => by simp at e
  | _, _, 0, _, .cons r _, e => by simp at e; subst e; exact ⟨_, rfl, r⟩
  | _, _, i + 1, v, .cons _ t, e => by
    obtain ⟨d, h1, h2⟩ := dps_at (i := i) (v := v) t (by simpa using e)
    exact ⟨d, by simpa using h1, h2⟩
theorem dps_of : ∀ {vs : List V} {ds : List PyData} {i : Nat} {d : PyData}, DpAll K H vs ds → ds[i]? = some d → ∃ v, vs[i]? = some v ∧ Dp K H v d
  | _, _, _, _, .nil, e => by simp at e
  | _, _, 0, _, .cons r _, e => by simp at e; subst e; exact ⟨_, rfl, r⟩
  | _, _, i + 1, v, .cons _ t, e => by
    obtain ⟨d, h1, h2⟩ := dps_of (i := i) (d := v) t (by simpa using e)
    exact ⟨d, by simpa using h1, h2⟩
theorem dps_app : ∀ {vs ws : List V} {ds es : List PyData}, DpAll K H vs ds → DpAll K H ws es → DpAll K H (vs ++ ws) (ds ++ es)
  | _, _, _, _, .nil, s => s
  | _, _, _, _, .cons r t, s => .cons r (dps_app t s)
theorem dps_strs : ∀ xs : List Str, DpAll K H (xs.map V.str) (xs.map PyData.str)
  | [] => .nil
  | x :: xs => .cons (.str x) (dps_strs xs)
theorem dps_ints : ∀ xs : List Int, DpAll K H (xs.map V.int) (xs.map PyData.int)
  | [] => .nil
  | x :: xs => .cons (.int x) (dps_ints xs)
theorem strs_dps : ∀ {xs : List Str} {vs : List V}, DpAll K H vs (xs.map PyData.str) → vs = xs.map V.str
  | [], _, h => by cases h; rfl
  | x :: xs, _, h => by
    cases h with
    | cons h1 h2 => cases h1; rw [strs_dps h2]; rfl
theorem tup_dp {v : V} {ds : List PyData} (h : Dp K H v (.tuple ds)) : ∃ a xs, v = .ref a ∧ SqT K H a xs ∧ DpAll K H xs ds := by
  cases h with
  | tup hs ha => exact ⟨_, _, rfl, hs, ha⟩
theorem lst_dp {v : V} {ds : List PyData} (h : Dp K H v (.list ds)) : ∃ a xs, v = .ref a ∧ SqL K H a xs ∧ DpAll K H xs ds := by
  cases h with
  | lst hs ha => exact ⟨_, _, rfl, hs, ha⟩
/-- a tuple of texts -/
theorem tup_strs {v : V} {xs : List Str} (h : Dp K H v (.tuple (xs.map PyData.str))) : ∃ a, v = .ref a ∧ SqT K H a (xs.map V.str) := by
  obtain ⟨a, ys, e, h1, h2⟩ := tup_dp h
  rw [strs_dps h2] at h1
  exact ⟨a, e, h1⟩
theorem same_new {p : Addr} {o : HO} (h : H p = none) : Same H (upd H p o) := fun b u e => by
  rw [upd_ne (ne_of_none e h)]
  exact e
end

/-! ### min of a list of pairs (a list of ints, an int) -/
abbrev Ky := List Int × Int
section
variable {X : Cx}
def rMinK (K : PySem.W.Frag) : List V → Hp → VK → Prop := fun vs H Q => ∃ (v : V) (x : Ky) (xs : List Ky), vs = [v] ∧ Dp K H v (Datum.toD (x :: xs)) ∧ ∀ u, Dp K H u (Datum.toD (minOf x xs)) → Q u H
theorem minOf_mem (x : Ky) : ∀ xs : List Ky, minOf x xs ∈ x :: xs := by
  intro xs
  unfold minOf
  induction xs generalizing x with
  | nil => exact List.mem_singleton.mpr rfl
  | cons y ys ih =>
    rw [List.foldl_cons]
    have z := ih (if DatumOrd.lt y x = true then y else x)
    rcases List.mem_cons.mp z with e | e
    · rw [e]
      by_cases c : DatumOrd.lt y x = true
      · rw [if_pos c]; exact List.mem_cons_of_mem _ List.mem_cons_self
      · rw [if_neg c]; exact List.mem_cons_self
    · exact List.mem_cons_of_mem _ (List.mem_cons_of_mem _ e)
theorem cr_minK {k : Nat} (hc : X.calm = true) (hr : Room k X.A) : CallR X (.builtin "min") (rMinK X.K) := by
  intro pins s σ H vs us Q I r h
  obtain ⟨v, x, xs, rfl, hd, q⟩ := h
  obtain ⟨u, rfl, rx⟩ := vals1 r
  obtain ⟨a, zs, rfl, hs, ha⟩ := lst_dp (show Dp X.K H v (.list ((x :: xs).map Datum.toD)) from hd)
  cases rx
  obtain ⟨its, rv, pl, hz⟩ := I.list hs
  obtain ⟨as, hra⟩ := Dp.readsAll I _ _ its ha rv
  have hu : X.A.units + 1 + Datum.depth Ky < cLine := by
    have := hr.units
    show X.A.units + 1 + 2 < cLine
    omega
  refine PySem.W.min_list_datum (I.ok.hd hc) pl.isList (x := x) (xs := xs) ⟨as, by simpa using hra⟩ hu fun i w h' tk hi hw hk => ?_
  have I' : Inv X pins σ H { s with heap := h', toks := tk } := I.kept hk
  have hi' : its[i]? = some w := by simpa using hi
  have hil : i < zs.length := by
    rw [rv.length]
    exact (List.getElem?_eq_some_iff.mp hi').1
  have hz2 : zs[i]? = some zs[i] := List.getElem?_eq_getElem hil
  obtain ⟨w', e1, e2⟩ := rv.get hz2
  have ew : w' = w := Option.some.inj (e1.symm.trans hi')
  subst ew
  obtain ⟨d, e3, e4⟩ := dps_at ha hz2
  obtain ⟨bs, r1⟩ := Dp.reads I' d _ _ e4 e2
  obtain ⟨cs, r2⟩ := hw
  have hmem : d ∈ (x :: xs).map Datum.toD := List.mem_of_getElem? e3
  obtain ⟨y, _, ey⟩ := List.mem_map.mp hmem
  have ed : d = Datum.toD (minOf x xs) := by
    subst ey
    exact PySem.W.alike_unique _ _ _ _ _ (DatumOrd.alike y (minOf x xs)) r1 r2
  rw [ed] at e4
  exact ⟨zs[i], H, I', e2, q _ e4⟩

/-! ### tuple(list), the new object known -/
def FrzT (H : Hp) (a : Addr) (xs : List V) : Prop := ∃ o : Obj, o.dict = none ∧ H a = some (.frz o (.tup xs))
theorem FrzT.sq {K : PySem.W.Frag} {H : Hp} {a : Addr} {xs : List V} (h : FrzT H a xs) : SqT K H a xs := by
  obtain ⟨o, _, h⟩ := h
  exact .inl (.inr ⟨o, h⟩)
theorem FrzT.same {H H' : Hp} {a : Addr} {xs : List V} (e : Same H H') (h : FrzT H a xs) : FrzT H' a xs := by
  obtain ⟨o, h1, h2⟩ := h
  exact ⟨o, h1, e _ _ h2⟩
theorem FrzT.but {p : Addr} {H H' : Hp} {a : Addr} {xs ps : List V} (e : But p H H') (hp : H p = some (.lst ps)) (h : FrzT H a xs) : FrzT H' a xs := by
  obtain ⟨o, h1, h2⟩ := h
  exact ⟨o, h1, e _ _ h2 fun z => by rw [z, hp] at h2; cases h2⟩
theorem call_tuple_frz : CallR X (.type "tuple") (fun xs H Q => ∃ p ys, xs = [.ref p] ∧ SqL X.K H p ys ∧ ∀ l (o : Obj), H l = none → o.dict = none → Q (.ref l) (upd H l (.frz o (.tup ys)))) := by
  intro pins s σ H xs us Q I r h
  obtain ⟨p, ys, rfl, hq, q⟩ := h
  obtain ⟨u, rfl, rx⟩ := vals1 r
  cases rx
  obtain ⟨its, r', pl, hz⟩ := I.list hq
  have hlen := r'.length
  refine call_tuple_list pl.isList (fun h' kp => ?_) (by simp only [List.size_toArray] <;> omega)
  have I1 : Inv X pins σ H { s with heap := h' } := I.kept (t' := s.toks) kp
  have I2 : Inv X pins σ (upd H h'.objs.size (.frz { cls := .type "tuple", data := .seq its.toArray } (.tup ys))) { s with heap := h'.push { cls := .type "tuple", data := .seq its.toArray } } :=
    I1.laid (t' := s.toks) (fun b o e => Heap.get?_push_of_some _ e) (Nat.le_refl _) (show ObjOk X.prog X.w _ _ _ (.frz _ (.tup ys)) from ⟨Heap.get?_push_size _ rfl, hz, its, r', IsTup.new _ _⟩)
  exact ⟨.ref h'.objs.size, _, I2, rfl, q _ _ (I1.hok.fresh (Nat.le_refl _)) rfl⟩

/-! ### dict(tuple of pairs) -/
theorem refs_at' : ∀ {ps : List Addr} {us : List Value}, Vals (ps.map V.ref) us → us = ps.map Value.ref
  | [], us, r => by
    rw [List.map_nil] at r
    cases r
    rfl
  | p :: ps, us, r => by
    rw [List.map_cons] at r
    cases r with
    | cons h t =>
      cases h
      rw [List.map_cons, ← refs_at' t]
theorem call_dictT (hcalm : X.calm = true) : CallR X (.type "dict") (fun xs H Q => ∃ (a : Addr) (ps : List Addr) (kvs : List (Key × V)), xs = [.ref a] ∧ FrzT H a (ps.map V.ref) ∧ Paired (fun p kv => SqT X.K H p [kV kv.1, kv.2]) ps kvs ∧
    ∀ p, H p = none → Q (.ref p) (upd H p (.dK (mergeK [] kvs)))) := by
  intro pins s σ H xs us Q I r q
  obtain ⟨a, ps, kvs, ex, hq, hp, q⟩ := q
  subst ex
  obtain ⟨u, eu, rx⟩ := vals1 r
  subst eu
  cases rx
  obtain ⟨its, rv, pt, hz⟩ := I.tuple (hq.sq (K := X.K))
  have ei := refs_at' rv
  subst ei
  rw [List.length_map] at hz
  obtain ⟨prs, rel, hl, hpr⟩ := pairs_of I hp
  obtain ⟨o, hod, hof⟩ := hq
  obtain ⟨ho0, _⟩ := I.hok a _ hof
  obtain ⟨o', ho', hc', n, hd'⟩ := pt
  have eo : o' = o := Option.some.inj (ho'.symm.trans ho0)
  subst eo
  -- the keys' own values, by place
  have kex : ∃ kvv : List (Value × Value), kvv.length = prs.length ∧ ∀ (j : Nat) (q : Key × Value), prs[j]? = some q → ∃ (b : Addr) (u : Value), ps[j]? = some b ∧ kvv[j]? = some (u, q.2) ∧ IsTup s.heap b #[u, q.2] ∧ keyIs q.1 u = true := by
    have gen : ∀ (m : Nat), m ≤ prs.length → ∃ kvv : List (Value × Value), kvv.length = m ∧ ∀ (j : Nat) (q : Key × Value), j < m → prs[j]? = some q → ∃ (b : Addr) (u : Value), ps[j]? = some b ∧ kvv[j]? = some (u, q.2) ∧ IsTup s.heap b #[u, q.2] ∧ keyIs q.1 u = true := by
      intro m
      induction m with
      | zero => exact fun _ => ⟨[], rfl, fun j q hj => absurd hj (Nat.not_lt_zero _)⟩
      | succ m ih =>
        intro hm
        obtain ⟨kvv, h1, h2⟩ := ih (by omega)
        have hm' : prs[m]? = some prs[m] := List.getElem?_eq_getElem (by omega)
        obtain ⟨b, u, e1, e2, e3⟩ := hpr m _ hm'
        refine ⟨kvv ++ [(u, prs[m].2)], by simp [h1], fun j q hj e => ?_⟩
        by_cases c : j < m
        · obtain ⟨b', u', f1, f2, f3, f4⟩ := h2 j q c e
          exact ⟨b', u', f1, by rw [List.getElem?_append_left (by omega)]; exact f2, f3, f4⟩
        · have ej : j = m := by omega
          subst ej
          have eq : prs[j] = q := Option.some.inj (hm'.symm.trans e)
          subst eq
          exact ⟨b, u, e1, by rw [List.getElem?_append_right (by omega), h1, Nat.sub_self]; rfl, e2, e3⟩
    obtain ⟨kvv, h1, h2⟩ := gen prs.length (Nat.le_refl _)
    exact ⟨kvv, h1, fun j q e => h2 j q (List.getElem?_eq_some_iff.mp e).1 e⟩
  obtain ⟨kvv, hk1, hk2⟩ := kex
  have hsz : kvv.length ≤ sizeLine := by omega
  refine PySem.call_dict_pairs (knd := mixKind X.prog X.w) (kvs := prs) (PairArg.tuple (prog := X.prog) (w := X.w) a (ps.map Value.ref).toArray (fun j => ps.getD j 0) kvv) (I.ok.hd hcalm)
    ⟨⟨o', n, ho', hc', hod, hd'⟩, by simp; omega, fun j k v e => ?_⟩ ⟨by omega, fun i key v e => ?_⟩ hsz fun h' tk hd2 k => ?_
  · have hj : j < prs.length := by
      have := (List.getElem?_eq_some_iff.mp e).1
      omega
    have e0 : prs[j]? = some prs[j] := List.getElem?_eq_getElem hj
    obtain ⟨b, u, f1, f2, f3, f4⟩ := hk2 j _ e0
    have e2 : (u, prs[j].2) = (k, v) := Option.some.inj (f2.symm.trans e)
    injection e2 with e3 e4
    subst e3 e4
    have eb : ps.getD j 0 = b := by rw [List.getD_eq_getElem?_getD, f1] <;> rfl
    refine ⟨by simp [eb, f1], .inl ?_⟩
    show s.heap.IsTuple (ps.getD j 0) _
    rw [eb]
    exact f3
  · have e : kvv[i]? = some (key, v) := e
    have hj : i < prs.length := by
      have := (List.getElem?_eq_some_iff.mp e).1
      omega
    have e0 : prs[i]? = some prs[i] := List.getElem?_eq_getElem hj
    obtain ⟨b, u, f1, f2, f3, f4⟩ := hk2 i _ e0
    have e2 : (u, prs[i].2) = (key, v) := Option.some.inj (f2.symm.trans e)
    injection e2 with e3 e4
    subst e3 e4
    exact ⟨prs[i].1, e0, f4⟩
  · have hm : (s.heap.objs.size == sysModules) = false := beq_eq_false_iff_ne.mpr (Nat.ne_of_gt I.big)
    have hlen : (mergeK [] kvs).length ≤ sizeLine := by
      refine Nat.le_trans (length_mergeK kvs []) ?_
      rw [List.length_nil, Nat.zero_add, rel.length, hl]
      exact hz
    exact ⟨.ref s.heap.objs.size, upd H s.heap.objs.size (.dK (mergeK [] kvs)), I.laid (t' := tk) (fun b o e => k b o (by simp) e) (Nat.le_refl _) (show ObjOk X.prog X.w _ _ _ (.dK (mergeK [] kvs)) from ⟨hlen, hm, merged [] prs, KV.merge rel .nil, hd2⟩), rfl, q _ (I.hok.fresh (Nat.le_refl _))⟩
end
end K7

set_option maxRecDepth 100000
set_option maxHeartbeats 4000000
/-! K7R3: len(set(xs)), xs a list of texts, no two alike. -/
namespace K7
open PySem PySem.Spec PyProof.Rows L2

/-- the set at S holds the first i of the texts -/
def SetT (P : Program) (w : World) (h : Heap) (S : Addr) (ts : List Str) (i : Nat) : Prop := h.SetOf (PySem.strKind P w) S (fun k => decide (k ∈ ts.take i)) i
theorem SetT.to {P : Program} {w : World} {h h' : Heap} {S : Addr} {ts : List Str} {i : Nat} (x : SetT P w h S ts i) (k : ∀ o, h.get? S = some o → h'.get? S = some o) : SetT P w h' S ts i :=
  let ⟨o, es, ep, t, ho, r⟩ := x; ⟨o, es, ep, t, k _ ho, r⟩
section
variable {prog : Program} {w : World} {A : Around} {R : Result → Shared → Prop} {I : Addr} {fp wr : List Addr} {G : Array GenState → Array GenState → Prop} {P : Nat → Value → Prop} {St : Nat → Shared → Prop} {ts : List Str}
theorem set_loop_strs (W : WalksS prog w A.in1 I fp wr G ts.length P St) (S : Addr) (hSf : S ∉ fp) (hP : ∀ i v, P i v → ∃ x t, ts[i]? = some x ∧ v = .str x t) (nd : ts.Nodup) (few : ts.length + 1 < scanBound) :
    ∀ (m i : Nat) (s : Shared), i + m = ts.length → St i s → SetT prog w s.heap S ts i →
      (∀ s', Moved (S :: wr) G s s' → SetT prog w s'.heap S ts ts.length → R (.ok (.ret .none)) s') →
      codeAny (model prog w) A (.builtin "set.update.loop" ⟨[.ref S, .ref I], []⟩) R s := by
  have hSw : S ∉ wr := fun h => hSf (W.sub _ h)
  have hsub : ∀ b ∈ wr, b ∈ S :: wr := fun b hb => List.mem_cons_of_mem _ hb
  intro m
  induction m with
  | zero =>
    intro i s hm st hS hR
    have e : i = ts.length := by omega
    subst e
    refine codeAny_builtin F.entry_set_update_loop ?_
    rw [Around.under_plainId F.plain_set_update_loop _]
    show wpAny _ A.in1 (pyNext (.ref I) >>= _) _ _ s
    refine wpAny_bind (W.done s _ _ st fun s' hm => ?_)
    show wpAny _ A.in1 (ret Value.none) _ _ s'
    exact wpAny_pure (hR s' (hm.mono hsub) (hS.to fun o e => hm.heap S _ hSw e))
  | succ m ih =>
    intro i s hm st hS hR
    have hlt : i < ts.length := by omega
    refine codeAny_builtin F.entry_set_update_loop ?_
    rw [Around.under_plainId F.plain_set_update_loop _]
    show wpAny _ A.in1 (pyNext (.ref I) >>= _) _ _ s
    refine wpAny_bind (W.item i s _ _ hlt st fun v s' hv st' hm' => ?_)
    obtain ⟨x, t, hx, rfl⟩ := hP i v hv
    have hS' : SetT prog w s'.heap S ts i := hS.to fun o e => hm'.heap S _ hSw e
    have ex : ts[i] = x := by
      rw [List.getElem?_eq_getElem hlt] at hx
      exact Option.some.inj hx
    have new : ¬ x ∈ ts.take i := fun h => by
      obtain ⟨j, hj⟩ := List.mem_iff_getElem?.mp h
      rw [List.getElem?_take] at hj
      by_cases c : j < i
      · rw [if_pos c] at hj
        obtain ⟨hjl, ej⟩ := List.getElem?_eq_some_iff.mp hj
        exact absurd (ej.trans ex.symm) (List.pairwise_iff_getElem.mp nd j i hjl hlt c)
      · rw [if_neg c] at hj
        cases hj
    show wpAny _ A.in1 (holding [Value.str x t] (setAdd S (.str x t)) >>= _) _ _ s'
    refine wpAny_bind (wpAny_holding ?_)
    unfold setAdd
    refine wpAny_holding (wpAny_bind ((PySem.strKind prog w).pyHash (k := x) (by show Value.isStrOf x (.str x t) = true; simp [Value.isStrOf]) ?_))
    refine wpAny_setAddHashed_of (knd := PySem.strKind prog w) (s := { s' with toks := s'.toks + 1 }) (k := x) (by show Value.isStrOf x (.str x t) = true; simp [Value.isStrOf]) rfl hS' (by omega) fun h' hsb hS2 => ?_
    have next : SetT prog w h' S ts (i + 1) := by
      refine SetOf_congr hS2 (fun k => ?_) ?_
      · have e2 : ts.take (i + 1) = ts.take i ++ [x] := by
          rw [List.take_add_one, List.getElem?_eq_getElem hlt, ex]
          rfl
        rw [e2]
        by_cases c : k ∈ ts.take i
        · simp [c]
        · simp [c]
      · rw [if_neg (by simpa using new)]
    refine wpAny_pure ⟨plainId_quiet F.plain_set_update_loop _, ih (i + 1) _ (by omega) (W.frame _ s' _ _ st' (Nat.le_succ _) fun b hb o e => ?_) next fun s'' hm'' hS'' => ?_⟩
    · rw [hsb.2 b (fun q : b = S => hSf (by rw [← q]; exact hb))]
      exact e
    · refine hR s'' (Moved.trans W.gtrans ((hm'.mono hsub).then_heap (Nat.le_succ _) fun b o hb e => ?_) hm'') hS''
      rw [hsb.2 b (fun q : b = S => hb (by rw [q]; exact List.mem_cons_self))]
      exact e
end
section
variable {prog : Program} {w : World} {A : Around} {E : Value → Shared → Prop} {s : Shared}
abbrev setNew (led : Bool) : Obj := { cls := .type "set", dict := none, data := .set #[] 0 (.fresh 0 0 led) }
theorem set_of_strs {l : Addr} {items : Array Value} {ts : List Str} {Q : Value → Shared → Prop} (hh : A.handled = none) (hl : s.heap.IsList l items) (hv : ∀ (i : Nat) (v : Value), items[i]? = some v → ∃ (x : Str) (t : Tok), ts[i]? = some x ∧ v = Value.str x t) (hn : items.size = ts.length)
    (nd : ts.Nodup) (few : ts.length + 1 < scanBound)
    (h : ∀ (h' : Heap) (tk : Nat), SetT prog w h' s.heap.objs.size ts ts.length → (∀ b o, b < s.heap.objs.size → s.heap.get? b = some o → h'.get? b = some o) → Q (.ref s.heap.objs.size) { s with heap := h', toks := tk }) :
    wpAny (model prog w) A (call (.type "set") [.ref l]) Q E s := by
  obtain ⟨c, tl, hmro⟩ := F.called_set.mro
  have hmade := F.called_set.made
  have hsub := F.called_set.sub
  refine wpAny_call (codeAny_of_tree ?_)
  show wpAny _ _ (callAny (.type "set") _) _ _ _
  refine wpAny_pure ⟨Code.quiet_builtin _ (by decide +kernel), codeAny_builtin F.entry_type_call ?_⟩
  rw [Around.under_plain (weight_type_call_type "set" [.ref l] []) rfl]
  have h1 := F.called_set.notType
  have h2 := F.called_set.canCreate
  have hct := F.typeCall_set_1 (.ref l)
  repeat (any_goals (first | assumption | wp_step))
  refine codeAny_mono (code_set_new_1 (.ref l) (E := E) (Q₁ := fun obj s₁ => ∃ led : Bool, obj = .ref s.heap.objs.size ∧ s₁ = { s with heap := s.heap.push (setNew led) }) fun led => ⟨led, rfl, rfl⟩) fun r s₁ hr => ?_
  cases r with
  | error e => exact hr
  | ok fl =>
    cases fl with
    | ret obj =>
      obtain ⟨led, rfl, rfl⟩ := hr
      have hS : (s.heap.push (setNew led)).get? s.heap.objs.size = some (setNew led) := Heap.get?_push_size _ rfl
      have hT : Shared.TypeIs { s with heap := s.heap.push (setNew led) } (.ref s.heap.objs.size) "set" := ⟨_, hS, rfl⟩
      have hli := F.called_set.init.lookup
      have hbi := F.called_set.init.bind (.ref s.heap.objs.size)
      repeat (any_goals (first | assumption | wp_step))
      refine codeAny_mono (codeAny_call_builtin (R := wants (fun r s₂ => r = .none ∧ ∃ h' tk, s₂ = { s with heap := h', toks := tk } ∧ SetT prog w h' s.heap.objs.size ts ts.length ∧
          (∀ b o, b < s.heap.objs.size → s.heap.get? b = some o → h'.get? b = some o)) E) F.called_set.init.plain F.entry_set_init (check_set_init_1 hT ?_)) fun r₂ s₂ hr₂ => ?_
      · obtain ⟨ol, hol, hcl, nl, hdl⟩ := hl
        obtain ⟨ocls, odict, odata, oslots⟩ := ol
        simp only at hcl hdl
        subst hcl; subst hdl
        have hol' : (s.heap.push (setNew led)).get? l = some { cls := .type "list", dict := odict, data := .seq items nl, slots := oslots } := Heap.get?_push_of_some _ hol
        have hsls := F.sub_list_set
        have hslf := F.sub_list_frozenset
        have hne : (Value.type "list" == Value.type "dict") = false := by decide
        have hl1 : (s.heap.push (setNew led)).IsList l items := ⟨_, hol', rfl, nl, rfl⟩
        unfold Builtin.«set.__init__» noKeywords Builtin.Frozenset.updateFrom
        generalize hPI : pyIter = PI
        wp_walk
        subst hPI
        refine wpAny_pyIter_list hl1 ?_
        refine wpAny_bind (wpAny_runValue ?_)
        have hlS : l < s.heap.objs.size := Heap.lt_size hol
        have hh3 : A.in1.in1.in1.handled = none := by simp [hh]
        have hneI : l ≠ (s.heap.push (setNew led)).objs.size := by
          rw [Heap.size_push]; exact Nat.ne_of_lt (Nat.lt_succ_of_lt hlS)
        have hSf : s.heap.objs.size ∉ [(s.heap.push (setNew led)).objs.size, l] := by
          rw [Heap.size_push]; simp only [List.mem_cons, List.mem_singleton, List.not_mem_nil, or_false, not_or]
          exact ⟨Nat.ne_of_lt (Nat.lt_succ_self _), Nat.ne_of_gt hlS⟩
        have W := (Walks.list (prog := prog) (w := w) hh3 (s.heap.push (setNew led)).objs.size l hneI items).toS
        rw [hn] at W
        refine set_loop_strs W s.heap.objs.size hSf hv nd few ts.length 0 _ (Nat.zero_add _) ⟨⟨_, Heap.get?_push_size _ rfl, rfl, rfl⟩, (hl1.push _)⟩ ?hS0 ?hR
        case hS0 =>
          have hget : ((s.heap.push (setNew led)).push { cls := .type "list_iterator", data := .fields #[.ref l, .int 0 0] }).get? s.heap.objs.size = some (setNew led) := Heap.get?_push_of_some _ hS
          exact SetOf_congr ((setObjOf_fresh (knd := PySem.strKind prog w) led).setOf hget (by unfold scanBound; omega)) (fun _ => by simp) rfl
        case hR =>
          intro s' hm hS'
          obtain ⟨h', g', d', tk', os'⟩ := s'
          have eg : g' = s.gens := hm.gens
          have ed : d' = s.drawn := hm.drawn
          have eo : os' = s.os := hm.os
          subst eg; subst ed; subst eo
          show wpAny _ _ _ _ _ _
          refine wpAny_pure ?_
          show wpAny _ _ (ret Value.none) _ _ _
          refine wpAny_pure ⟨rfl, h', tk', rfl, hS', fun b o hb e => ?_⟩
          have hb1 : b ≠ s.heap.objs.size := Nat.ne_of_lt hb
          have hb2 : b ≠ (s.heap.push (setNew led)).objs.size := by
            rw [Heap.size_push]; exact Nat.ne_of_lt (Nat.lt_succ_of_lt hb)
          exact hm.heap b o (by simp only [List.mem_cons, List.mem_singleton, List.not_mem_nil, or_false, not_or]; exact ⟨hb1, hb2⟩) (Heap.get?_push_of_some _ (Heap.get?_push_of_some _ e))
      · cases r₂ with
        | error e => exact hr₂
        | ok fl₂ =>
          cases fl₂ with
          | ret r =>
            obtain ⟨rfl, h', tk, rfl, hS', hk'⟩ := hr₂
            repeat (any_goals (first | assumption | wp_step))
            exact h _ _ hS' hk'
          | _ => exact hr₂.elim
    | _ => exact hr.elim
end
theorem vals_strs : ∀ {ts : List Str} {us : List Value} {i : Nat} {v : Value}, Vals (ts.map V.str) us → us[i]? = some v → ∃ x t, ts[i]? = some x ∧ v = .str x t
  | [], _, _, _, .nil, e => by simp at e
  | x :: ts, _, 0, v, .cons r _, e => by
    obtain ⟨t, rfl⟩ := r
    exact ⟨x, t, rfl, (Option.some.inj e).symm⟩
  | x :: ts, _, i + 1, v, .cons _ t, e => by
    obtain ⟨y, u, h1, h2⟩ := vals_strs (i := i) (v := v) t (by simpa using e)
    exact ⟨y, u, by simpa using h1, h2⟩
/-- len(set(xs)), distinct texts -/
def tLenSetS (K : PySem.W.Frag) (ta : TE) : TE := fun σ H Q => ta σ H fun x H1 => ∃ (l : Addr) (ts : List Str), x = .ref l ∧ SqL K H1 l (ts.map V.str) ∧ ts.Nodup ∧ ts.length ≤ 4000 ∧ Q (.int (ts.length : Nat)) H1
theorem pe_lenSetS {X : Cx} {a : Expr} {ta : TE} {p p2 q pos : Pos} (hg : Gl X "len") (hm : X.mg "len" = none) (hg2 : Gl X "set") (hm2 : X.mg "set" = none) (ha : PE X a ta) (hc : X.calm = true := by rfl)
    (na : starEach [a] X.env = (false, eval a X.env) :: starEach [] X.env := by rfl) : PE X (.Call (.Name "len" p) [.Call (.Name "set" p2) [a] [] q] [] pos) (tLenSetS X.K ta) := by
  refine ⟨fun pins s σ H Q I h => ?_⟩
  refine Call_ (ld_blt I hg hm boot_len ?_)
  refine PyProof.Rows.callWith_builtin1 (PyProof.Rows.args_cons ?_ rfl) rfl rfl
  refine Call_ (ld_blt I hg2 hm2 boot_set ?_)
  refine PyProof.Rows.callWith_type1 (PyProof.Rows.args_cons (thn (ha.run pins s σ H _ I h) fun v s1 ⟨x, H1, I1, r1, q1⟩ => PyProof.Rows.args_nil ?_) na) na rfl
  obtain ⟨l, ts, rfl, hq, hnd, hl, q1⟩ := q1
  cases r1
  obtain ⟨its, r, pl, hz⟩ := I1.list hq
  have hlen : its.toArray.size = ts.length := by rw [List.size_toArray, ← r.length, List.length_map]
  refine set_of_strs (I1.ok.hd hc) pl.isList (fun i v e => vals_strs r (by simpa using e)) hlen hnd (by unfold scanBound; omega) fun h' tk hS hk => ?_
  refine PyProof.Rows.args_nil ?_
  obtain ⟨o, es, ep, t, ho, hex, hd, _, _, _, hf, hn⟩ := hS
  have I2 : Inv X pins σ H1 { s1 with heap := h', toks := tk } := I1.kept fun b o e => hk b o (Heap.lt_size e) e
  exact call_len_set ho hex hd hf (by rw [hn] <;> omega) ⟨.int ts.length, H1, I2.tok _, ⟨_, by rw [hn]⟩, q1⟩
end K7

set_option maxRecDepth 100000
set_option maxHeartbeats 4000000
/-! K7B: the top's facts; the small defs. -/
namespace K7
open PySem PySem.Spec PyProof.Rows L2
open C8 (Def Cal cal0 pe_c pe_gc fnScope fnBody fnArgs)
def tp (i : Nat) : Stmt := PySem.Challenge.pw_doorhouse_k07_whole_a_word_for_a_hole.main.body.getD i (.Pass ⟨0, 0, 0, 0⟩)
abbrev GV (mg : Str → Option Value) (x : Str) (v : V) : Prop := ∃ u, mg x = some u ∧ RelV v u
structure G7 (K : PySem.W.Frag) (mg : Str → Option Value) : Prop where
  isi : mg "isinstance" = none
  len : mg "len" = none
  all : mg "all" = none
  str : mg "str" = none
  int : mg "int" = none
  bool : mg "bool" = none
  tuple : mg "tuple" = none
  set : mg "set" = none
  range : mg "range" = none
  enum : mg "enumerate" = none
  zip : mg "zip" = none
  min : mg "min" = none
  dict : mg "dict" = none
  LETTERS : GV mg "LETTERS" (.str LET)
  FIGURES : GV mg "FIGURES" (.str FIG)
  MS : GV mg "MOST_SIGNS" (.int 8)
  MV : GV mg "MOST_VALUE" (.int 9999)
  VERBS : ∃ a, GV mg "VERBS" (.ref a) ∧ ∀ H, SqT K H a [.str "get", .str "post"]
  MP : GV mg "MOST_PARTS" (.int 5)
  MR : GV mg "MOST_ROUTES" (.int 10)
  MN : GV mg "MOST_NUMBER" (.int 9999)
  ROOT : GV mg "ROOT" (.str "/")
  NUMBERED : GV mg "NUMBERED" (.str ":n")
  WORD : GV mg "WORD" (.int 0)
  NUMBER : GV mg "NUMBER" (.int 1)
  ANY : GV mg "ANY" (.int 2)
theorem ixT {X : Cx} (K : PySem.W.Frag) (h : X.K = K := by rfl) : IxR X (rIxT K) := by
  subst h
  exact ix_tup
theorem ixL {X : Cx} (K : PySem.W.Frag) (h : X.K = K := by rfl) : IxR X (rIxL K) := by
  subst h
  exact ix_list
theorem itT {c : Bool} {A B : Prop} (hc : c = true) (h : A) : if c = true then A else B := by
  rw [if_pos hc]
  exact h
theorem itF {c : Bool} {A B : Prop} (hc : c = false) (h : B) : if c = true then A else B := by
  rw [hc, if_neg Bool.false_ne_true]
  exact h
/-! ### comprehensions: what the new list holds -/
structure LcP (R : Nat → V → Hp → Prop) (c : Nat → Bool) (H1 : Hp) (D : Addr) (i : Nat) (H : Hp) : Prop where
  same : Same H1 H
  lst : ∃ ys, H D = some (.lst ys) ∧ Paired (fun k y => R k y H) ((List.range i).filter c) ys
theorem paired_app {α β : Type} {F : α → β → Prop} : ∀ {a c : List α} {b d : List β}, Paired F a b → Paired F c d → Paired F (a ++ c) (b ++ d)
  | _, _, _, _, .nil, s => s
  | _, _, _, _, .cons r t, s => .cons r (paired_app t s)
theorem filt_succ (c : Nat → Bool) (i : Nat) : (List.range (i + 1)).filter c = (List.range i).filter c ++ (if c i = true then [i] else []) := by
  rw [List.range_succ, List.filter_append]
  congr 1
  by_cases h : c i = true
  · rw [if_pos h, List.filter_cons_of_pos h]; rfl
  · rw [if_neg h, List.filter_cons_of_neg h]; rfl
theorem filt_len (c : Nat → Bool) (i : Nat) : ((List.range i).filter c).length ≤ i := by
  have := List.length_filter_le c (List.range i)
  rwa [List.length_range] at this
/-- told of an item, it stands when the new list grows -/
def Stay (R : Nat → V → Hp → Prop) (D : Addr) : Prop := ∀ k y H H' (ps : List V), H D = some (.lst ps) → But D H H' → R k y H → R k y H'
theorem LcP.start {R : Nat → V → Hp → Prop} {c : Nat → Bool} {H1 : Hp} {D : Addr} (h : H1 D = none) : LcP R c H1 D 0 (upd H1 D (.lst [])) := ⟨same_new h, [], upd_same, .nil⟩
theorem LcP.add {R : Nat → V → Hp → Prop} {c : Nat → Bool} {H1 H H4 : Hp} {D : Addr} {i : Nat} {y : V} (h1 : H1 D = none) (st : Stay R D) (h : LcP R c H1 D i H) (e : Same H H4) (hi : i ≤ 1000) (hc : c i = true) (hy : R i y H4) :
    ∃ acc, H4 D = some (.lst acc) ∧ acc.length < sizeLine ∧ LcP R c H1 D (i + 1) (upd H4 D (.lst (acc ++ [y]))) := by
  obtain ⟨s1, ys, hD, hp⟩ := h
  have hD4 := e _ _ hD
  have bt : But D H4 (upd H4 D (.lst (ys ++ [y]))) := fun b o h n => by rw [upd_ne n]; exact h
  refine ⟨ys, hD4, ?_, ?_, ys ++ [y], upd_same, ?_⟩
  · have l1 := hp.length
    have l2 := filt_len c i
    exact small1000 (by omega)
  · intro b o h
    rw [upd_ne (ne_of_none h h1)]
    exact e _ _ (s1 _ _ h)
  · rw [filt_succ, if_pos hc]
    refine paired_app (Paired.mapP hp fun k z r => ?_) (.cons ?_ .nil)
    · exact st k z H _ ys hD (fun b o h n => bt b o (e _ _ h) n) r
    · exact st i y H4 _ ys hD4 bt hy
theorem LcP.skip {R : Nat → V → Hp → Prop} {c : Nat → Bool} {H1 H H4 : Hp} {D : Addr} {i : Nat} (st : ∀ k y H H', Same H H' → R k y H → R k y H') (h : LcP R c H1 D i H) (e : Same H H4) (hc : c i = false) : LcP R c H1 D (i + 1) H4 := by
  obtain ⟨s1, ys, hD, hp⟩ := h
  refine ⟨s1.trans e, ys, e _ _ hD, ?_⟩
  rw [filt_succ, if_neg (by rw [hc]; exact Bool.false_ne_true), List.append_nil]
  exact Paired.mapP hp fun k z r => st k z H H4 e r
theorem paired_dps {K : PySem.W.Frag} {H : Hp} (d : Nat → PyData) : ∀ {ks : List Nat} {ys : List V}, Paired (fun k y => Dp K H y (d k)) ks ys → DpAll K H ys (ks.map d)
  | _, _, .nil => .nil
  | _, _, .cons r t => .cons r (paired_dps d t)
theorem range_all {n : Nat} : (List.range n).filter (fun _ => true) = List.range n := List.filter_eq_self.mpr fun _ _ => rfl
theorem dp_stay {K : PySem.W.Frag} {D : Addr} {d : Nat → PyData} (h : ∀ k, noL (d k) = true) : Stay (fun k y H => Dp K H y (d k)) D := fun k _ _ _ _ hD b r => dp_but b hD _ _ (h k) r
theorem dp_keep {K : PySem.W.Frag} {d : Nat → PyData} : ∀ k y H H', Same H H' → Dp K H y (d k) → Dp K H' y (d k) := fun _ _ _ _ e r => dp_same e _ _ r
/-- the list that is made, of data -/
theorem LcP.dp {K : PySem.W.Frag} {d : Nat → PyData} {c : Nat → Bool} {H1 H : Hp} {D : Addr} {n : Nat} (h : LcP (fun k y H => Dp K H y (d k)) c H1 D n H) : Dp K H (.ref D) (.list (((List.range n).filter c).map d)) := by
  obtain ⟨_, ys, hD, hp⟩ := h
  exact .lst (SqL.of hD) (paired_dps d hp)
/-- bools -/
theorem bools_dps {K : PySem.W.Frag} {H : Hp} : ∀ {bs : List Bool} {vs : List V}, DpAll K H vs (bs.map PyData.bool) → vs = bs.map V.bl
  | [], _, h => by cases h; rfl
  | b :: bs, _, h => by
    cases h with
    | cons h1 h2 => cases h1; rw [bools_dps h2]; rfl
theorem ints_dps {K : PySem.W.Frag} {H : Hp} : ∀ {bs : List Int} {vs : List V}, DpAll K H vs (bs.map PyData.int) → vs = bs.map V.int
  | [], _, h => by cases h; rfl
  | b :: bs, _, h => by
    cases h with
    | cons h1 h2 => cases h1; rw [ints_dps h2]; rfl
theorem LcP.bools {K : PySem.W.Frag} {b : Nat → Bool} {H1 H : Hp} {D : Addr} {n : Nat} (h : LcP (fun k y H => Dp K H y (.bool (b k))) (fun _ => true) H1 D n H) : SqL K H D (((List.range n).map b).map V.bl) := by
  obtain ⟨_, ys, hD, hp⟩ := h
  have q := paired_dps (K := K) (fun k => PyData.bool (b k)) hp
  rw [range_all] at q
  have e : (List.range n).map (fun k => PyData.bool (b k)) = ((List.range n).map b).map PyData.bool := by rw [List.map_map]; rfl
  rw [e] at q
  rw [bools_dps q] at hD
  exact SqL.of hD
theorem range_get_all {α : Type} (xs : List α) (p : α → Bool) (b : Nat → Bool) (h : ∀ i x, xs[i]? = some x → b i = p x) : ((List.range xs.length).map b).all id = xs.all p := by
  rw [Bool.eq_iff_iff, List.all_eq_true, List.all_eq_true]
  constructor
  · intro q x hx
    obtain ⟨i, hi⟩ := List.mem_iff_getElem?.mp hx
    have hlt := (List.getElem?_eq_some_iff.mp hi).1
    have := q (b i) (List.mem_map.mpr ⟨i, List.mem_range.mpr hlt, rfl⟩)
    rw [← h i x hi]
    exact this
  · intro q y hy
    obtain ⟨i, hi, rfl⟩ := List.mem_map.mp hy
    have hlt := List.mem_range.mp hi
    have hx : xs[i]? = some xs[i] := List.getElem?_eq_getElem hlt
    show b i = true
    rw [h i _ hx]
    exact q _ (List.mem_of_getElem? hx)
section
variable {P : Program} {w : World} {K : PySem.W.Frag} {mg : Str → Option Value} {base : Heap} {f : Addr} {fd : FuncData} {bs : List Value}

/-! ### is_number, is_from -/
def spNumber : Sp := fun vs H Q _ => ∃ i : Int, vs = [.int i] ∧ Q (.bl true) H
theorem scNumber : FnScope ["thing"] ["thing"] (fnScope (tp 12)) := C8.fnScope_by (by decide +kernel)
theorem c_number (T : G7 K mg) (F : Def K mg "is_number" (tp 12) f fd) (b : Binds K fd ["thing"] []) : Cal P w K mg base 1 "is_number" spNumber [] := by
  refine cal0 F b .nil scNumber (fun vs H Q E h => ?_) (fun cdv A outer s H vs Q E hr h => ?_)
  · obtain ⟨i, rfl, _⟩ := h
    rfl
  · obtain ⟨i, rfl, q⟩ := h
    refine ⟨_, pss_one (ps_ret (pe_and (pe_callB call_isi (by rfl) T.isi (by decide +kernel) (pa_cons (pv 0) (pa_cons (pe_bltn (v := .ty "int") (by rfl) T.int boot_int rfl) pa_nil)))
      (pe_one (pe_not (pe_callB call_isi (by rfl) T.isi (by decide +kernel) (pa_cons (pv 0) (pa_cons (pe_bltn (v := .ty "bool") (by rfl) T.bool (by decide +kernel) rfl) pa_nil))))))), ?_⟩
    refine ⟨_, rfl, _, _, _, _, _, rfl, .ty _, .base (.int i), kit_ty (r := true) (by decide +kernel), true, rfl, ?_⟩
    exact ⟨_, rfl, _, _, _, _, _, rfl, .ty _, .base (.int i), kit_ty (r := false) (by decide +kernel), false, rfl, q⟩

def spFrom : Sp := fun vs H Q _ => ∃ i a b : Int, vs = [.int i, .int a, .int b] ∧ Q (.bl (decide (a ≤ i) && decide (i ≤ b))) H
theorem scFrom : FnScope ["thing", "least", "most"] ["thing", "least", "most"] (fnScope (tp 13)) := C8.fnScope_by (by decide +kernel)
theorem c_from (cN : Cal P w K mg base 1 "is_number" spNumber []) (F : Def K mg "is_from" (tp 13) f fd) (b : Binds K fd ["thing", "least", "most"] []) : Cal P w K mg base 2 "is_from" spFrom [] := by
  refine cal0 F b .nil scFrom (fun vs H Q E h => ?_) (fun cdv A outer s H vs Q E hr h => ?_)
  · obtain ⟨i, a, b, rfl, _⟩ := h
    rfl
  · obtain ⟨i, a, b, rfl, q⟩ := h
    refine ⟨_, pss_one (ps_ret (pe_and (pe_c cN hr (by decide) (by rfl) (pa_cons (pv 0) pa_nil)) (pe_one (pe_chain op_le op_le (pv 1) (pv 0) (pv 2))))), ?_⟩
    refine ⟨_, rfl, i, rfl, true, rfl, iteT ⟨_, rfl, _, rfl, _, _, rfl, rfl, decide (a ≤ i), rfl, ?_⟩⟩
    cases e : decide (a ≤ i) with
    | true =>
      refine iteT ⟨_, rfl, _, _, rfl, rfl, ?_⟩
      rw [e, Bool.true_and] at q
      exact q
    | false =>
      refine iteF ?_
      rw [e, Bool.false_and] at q
      exact q

/-! ### is_made_of, is_name, is_word -/
def spMade : Sp := fun vs H Q _ => ∃ (x y : Str) (m : Int), vs = [.str x, .str y, .int m] ∧ x.length ≤ 900 ∧ ∀ H', Same H H' → Q (.bl (madeOf x y m)) H'
theorem scMade : FnScope ["thing", "signs", "most", "sign"] ["thing", "signs", "most"] (fnScope (tp 14)) := C8.fnScope_by (by decide +kernel)
theorem c_made (T : G7 K mg) (F : Def K mg "is_made_of" (tp 14) f fd) (b : Binds K fd ["thing", "signs", "most"] []) : Cal P w K mg base 1 "is_made_of" spMade [] := by
  refine cal0 F b .nil scMade (fun vs H Q E h => ?_) (fun cdv A outer s H vs Q E hr h => ?_)
  · obtain ⟨x, y, m, rfl, _⟩ := h
    rfl
  · obtain ⟨x, y, m, rfl, hx, q⟩ := h
    have hx' : x.length ≤ sizeLine := Nat.le_of_lt (small1000 (by omega))
    refine ⟨_, pss_one (ps_ret (pe_and (pe_callB call_isi (by rfl) T.isi (by decide +kernel) (pa_cons (pv 0) (pa_cons (pe_bltn (v := .ty "str") (by rfl) T.str boot_str rfl) pa_nil)))
      (pe_and (pe_chain op_le op_le pe_int (pe_callB call_len_str (by rfl) T.len boot_len (pa_cons (pv 0) pa_nil)) (pv 2))
      (pe_one (pe_callB (cr_all (by rfl)) (by rfl) T.all (by decide +kernel) (pa_cons (pe_lc (own := [("sign", 3)]) (g := gName 3) (tt := tYes) (by rfl) scMade.nd (pi_str (pv 0)) (blkOk_by (own := [("sign", 3)]) (N := ["thing", "signs", "most", "sign"]) (sc := fnScope (tp 14)) (by decide +kernel))
        (fun _ _ _ _ _ => pg_name (i := 3) scMade.nd rfl (Or.inl rfl)) (fun _ _ _ _ _ => pts_nil) (fun _ _ _ _ _ => pe_cmpR op_in_sign (pv 3) (pv 1) (by rfl))) pa_nil)))))), ?_⟩
    refine ⟨_, rfl, _, _, _, _, _, rfl, .ty _, .base (.str x), kit_ty (r := true) (by decide +kernel), true, rfl, iteT ?_⟩
    refine ⟨_, rfl, _, rfl, hx', 1, _, rfl, rfl, _, rfl, ?_⟩
    cases e1 : decide ((1 : Int) ≤ (x.length : Int)) with
    | false =>
      refine iteF ⟨false, rfl, iteF ?_⟩
      have z := q H (Same.refl H)
      unfold madeOf at z
      rw [e1, Bool.false_and, Bool.false_and] at z
      exact z
    | true =>
      refine iteT ⟨_, rfl, _, _, rfl, rfl, _, rfl, ?_⟩
      cases e2 : decide ((x.length : Int) ≤ m) with
      | false =>
        refine iteF ?_
        have z := q H (Same.refl H)
        unfold madeOf at z
        rw [e1, e2, Bool.true_and, Bool.false_and] at z
        exact z
      | true =>
        refine iteT ⟨_, rfl, x, rfl, fun D hD => ?_⟩
        refine lc_it walk_str (LcP (fun k v H => Dp K H v (.bool (decide (x.cps.toList.getD k 0 ∈ y.cps.toList)))) (fun _ => true) H D) (.start hD) (fun _ _ _ _ => trivial) ?_ ?_
        · rintro i v H2 H3 hi hP ⟨rfl, c, hc, rfl⟩
          refine ⟨rfl, _, rfl, _, rfl, c, y, rfl, rfl, ?_⟩
          have e3 : x.cps.toList.getD i 0 = c := by
            rw [List.getD_eq_getElem?_getD, Array.getElem?_toList, hc] <;> rfl
          have hi2 : i < x.length := hi
          refine LcP.add hD (dp_stay fun _ => by unfold noL; rfl) hP (Same.refl _) (by omega) rfl ?_
          show Dp K H3 _ (.bool (decide (x.cps.toList.getD i 0 ∈ y.cps.toList)))
          rw [e3]
          exact .bl _
        · intro H2 hP
          refine ⟨_, _, rfl, hP.bools, ?_⟩
          have z := q H2 hP.same
          unfold madeOf at z
          rw [e1, e2, Bool.true_and, Bool.true_and] at z
          have e4 : ((List.range x.cps.size).map fun k => decide (x.cps.toList.getD k 0 ∈ y.cps.toList)).all id = x.cps.toList.all fun c => decide (c ∈ y.cps.toList) := by
            have := range_get_all x.cps.toList (fun c => decide (c ∈ y.cps.toList)) (fun k => decide (x.cps.toList.getD k 0 ∈ y.cps.toList)) (fun i c h => by
              show decide (x.cps.toList.getD i 0 ∈ y.cps.toList) = decide (c ∈ y.cps.toList)
              rw [List.getD_eq_getElem?_getD, h] <;> rfl)
            rw [Array.length_toList] at this
            exact this
          rw [e4]
          exact z
end
end K7

set_option maxRecDepth 100000
set_option maxHeartbeats 4000000
/-! K7C: names, words, shapes, numbers, parts, holes. -/
namespace K7
open PySem PySem.Spec PyProof.Rows L2
open C8 (Def Cal cal0 pe_c pe_gc fnScope fnBody fnArgs)
section
variable {P : Program} {w : World} {K : PySem.W.Frag} {mg : Str → Option Value} {base : Heap} {f : Addr} {fd : FuncData} {bs : List Value}
def spName : Sp := fun vs H Q _ => ∃ (x : Str), vs = [.str x] ∧ x.length ≤ 900 ∧ ∀ H', Same H H' → Q (.bl (madeOf x LET 8)) H'
theorem scName : FnScope ["thing"] ["thing"] (fnScope (tp 15)) := C8.fnScope_by (by decide +kernel)
theorem c_name (T : G7 K mg) (cM : Cal P w K mg base 1 "is_made_of" spMade []) (F : Def K mg "is_name" (tp 15) f fd) (b : Binds K fd ["thing"] []) : Cal P w K mg base 2 "is_name" spName [] := by
  refine cal0 F b .nil scName (fun vs H Q E h => ?_) (fun cdv A outer s H vs Q E hr h => ?_)
  · obtain ⟨x, rfl, _⟩ := h
    rfl
  · obtain ⟨x, rfl, hx, q⟩ := h
    refine ⟨_, pss_one (ps_ret (pe_c cM hr (by decide) (by rfl) (pa_cons (pv 0) (pa_cons (pe_gc (by rfl) T.LETTERS) (pa_cons (pe_gc (by rfl) T.MS) pa_nil))))), ?_⟩
    exact ⟨_, rfl, x, LET, 8, rfl, hx, q⟩
def spWord : Sp := fun vs H Q _ => ∃ (x : Str), vs = [.str x] ∧ x.length ≤ 900 ∧ ∀ H', Same H H' → Q (.bl (madeOf x WSIG 8)) H'
theorem scWord : FnScope ["thing"] ["thing"] (fnScope (tp 16)) := C8.fnScope_by (by decide +kernel)
theorem c_word (T : G7 K mg) (cM : Cal P w K mg base 1 "is_made_of" spMade []) (F : Def K mg "is_word" (tp 16) f fd) (b : Binds K fd ["thing"] []) : Cal P w K mg base 2 "is_word" spWord [] := by
  refine cal0 F b .nil scWord (fun vs H Q E h => ?_) (fun cdv A outer s H vs Q E hr h => ?_)
  · obtain ⟨x, rfl, _⟩ := h
    rfl
  · obtain ⟨x, rfl, hx, q⟩ := h
    refine ⟨_, pss_one (ps_ret (pe_c cM hr (by decide) (by rfl) (pa_cons (pv 0) (pa_cons (pe_op op_add_str (pe_op op_add_str (pe_gc (by rfl) T.LETTERS) (pe_gc (by rfl) T.FIGURES)) pe_str) (pa_cons (pe_gc (by rfl) T.MS) pa_nil))))), ?_⟩
    exact ⟨_, rfl, _, _, rfl, rfl, by decide +kernel, _, _, rfl, rfl, by decide +kernel, x, _, 8, rfl, hx, q⟩
theorem tyx_tup {H : Hp} {a : Addr} {xs : List V} (h : SqT K H a xs) : TyX K H (.ref a) (.type "tuple") := by
  rcases h with (h | ⟨o, h⟩) | ⟨o, its, n, h1, h2, _⟩
  · exact .base (.tup h)
  · exact .fTuple h
  · exact .kTuple h1 h2
def spShaped (K : PySem.W.Frag) : Sp := fun vs H Q _ => ∃ (a : Addr) (xs : List V) (m : Int), vs = [.ref a, .int m] ∧ SqT K H a xs ∧ Q (.bl (decide (V.int xs.length = V.int m))) H
theorem scShaped : FnScope ["thing", "many"] ["thing", "many"] (fnScope (tp 17)) := C8.fnScope_by (by decide +kernel)
theorem c_shaped (T : G7 K mg) (F : Def K mg "is_shaped" (tp 17) f fd) (b : Binds K fd ["thing", "many"] []) : Cal P w K mg base 1 "is_shaped" (spShaped K) [] := by
  refine cal0 F b .nil scShaped (fun vs H Q E h => ?_) (fun cdv A outer s H vs Q E hr h => ?_)
  · obtain ⟨a, xs, m, rfl, _⟩ := h
    rfl
  · obtain ⟨a, xs, m, rfl, hx, q⟩ := h
    refine ⟨_, pss_one (ps_ret (pe_and (pe_callB call_isi (by rfl) T.isi (by decide +kernel) (pa_cons (pv 0) (pa_cons (pe_bltn (v := .ty "tuple") (by rfl) T.tuple (by decide +kernel) rfl) pa_nil)))
      (pe_one (pe_cmpR op_eq (pe_callB call_len_seq (by rfl) T.len boot_len (pa_cons (pv 0) pa_nil)) (pv 1) (nomark _))))), ?_⟩
    refine ⟨_, rfl, _, _, _, _, _, rfl, .ty _, tyx_tup hx, kit_ty (r := true) (by decide +kernel), true, rfl, iteT ?_⟩
    exact ⟨_, rfl, a, xs, rfl, .inr hx, _, rfl, rfl, q⟩
def spUnlike (K : PySem.W.Frag) : Sp := fun vs H Q _ => ∃ (a : Addr) (ts : List Str), vs = [.ref a] ∧ SqL K H a (ts.map V.str) ∧ ts.Nodup ∧ ts.length ≤ 1000 ∧ Q (.bl true) H
theorem scUnlike : FnScope ["things"] ["things"] (fnScope (tp 18)) := C8.fnScope_by (by decide +kernel)
theorem c_unlike (T : G7 K mg) (F : Def K mg "are_unlike" (tp 18) f fd) (b : Binds K fd ["things"] []) : Cal P w K mg base 1 "are_unlike" (spUnlike K) [] := by
  refine cal0 F b .nil scUnlike (fun vs H Q E h => ?_) (fun cdv A outer s H vs Q E hr h => ?_)
  · obtain ⟨a, ts, rfl, _⟩ := h
    rfl
  · obtain ⟨a, ts, rfl, hx, nd, hl, q⟩ := h
    refine ⟨_, pss_one (ps_ret (pe_cmpR op_eq (pe_lenSetS (by rfl) T.len (by rfl) T.set (pv 0)) (pe_callB call_len_seq (by rfl) T.len boot_len (pa_cons (pv 0) pa_nil)) (nomark _))), ?_⟩
    refine ⟨_, rfl, a, ts, rfl, hx, nd, by omega, _, rfl, a, _, rfl, .inl hx, rfl, ?_⟩
    rw [List.length_map, decide_eq_true rfl]
    exact q
def numV (i : Fin 10) : V := match numW i with | some n => .int n | none => .non
def spNumIn : Sp := fun vs H Q _ => ∃ (i : Fin 10), vs = [.str (wS i)] ∧ ∀ H', Same H H' → Q (numV i) H'
theorem scNumIn : FnScope ["text"] ["text"] (fnScope (tp 19)) := C8.fnScope_by (by decide +kernel)
theorem mv_len : (PySem.Str.ofString (toString (9999 : Int))).length = 4 := by decide +kernel
theorem fig_cmp (i : Fin 10) (n : Int) (h : figN i = some n) : (n.natAbs.log2 < 1920) ∧ (!decide (V.str (PySem.Str.ofString (toString n)) = V.str (wS i))) = (numW i).isNone ∧ ((numW i).isNone = false → numW i = some n) := by
  have key : ∀ i : Fin 10, match figN i with | some n => (n.natAbs.log2 < 1920) ∧ (!decide (V.str (PySem.Str.ofString (toString n)) = V.str (wS i))) = (numW i).isNone ∧ ((numW i).isNone = false → numW i = some n) | none => True := by
    intro i
    have : i = 0 ∨ i = 1 ∨ i = 2 ∨ i = 3 ∨ i = 4 ∨ i = 5 ∨ i = 6 ∨ i = 7 ∨ i = 8 ∨ i = 9 := by revert i; decide
    rcases this with e | e | e | e | e | e | e | e | e | e <;> subst e <;> (first | trivial | (refine ⟨by decide +kernel, by decide +kernel, by decide +kernel⟩))
  have k := key i
  rw [h] at k
  exact k
theorem num_fig (i : Fin 10) (h : figN i = none) : numV i = .non := by revert i; decide +kernel
theorem c_numIn (T : G7 K mg) (cM : Cal P w K mg base 1 "is_made_of" spMade []) (F : Def K mg "number_in" (tp 19) f fd) (b : Binds K fd ["text"] []) : Cal P w K mg base 2 "number_in" spNumIn [] := by
  refine cal0 F b .nil scNumIn (fun vs H Q E h => ?_) (fun cdv A outer s H vs Q E hr h => ?_)
  · obtain ⟨i, rfl, _⟩ := h
    rfl
  · obtain ⟨i, rfl, q⟩ := h
    refine ⟨_, pss_cons (ps_if (PW.pt (pw_or (pt_not (pt_val (pe_c cM hr (by decide) (by rfl) (pa_cons (pv 0) (pa_cons (pe_gc (by rfl) T.FIGURES) (pa_cons (pe_callB call_len_str (by rfl) T.len boot_len (pa_cons (pe_callTy call_str_int (by rfl) T.str boot_str (pa_cons (pe_gc (by rfl) T.MV) pa_nil)) pa_nil)) pa_nil))))))
        (pw_or1 (pt_cmpR op_ne (pe_callTy call_str_int (by rfl) T.str boot_str (pa_cons (pe_callTy call_int_str (by rfl) T.int boot_int (pa_cons (pv 0) pa_nil)) pa_nil)) (pv 0) (nomark _)))))
      (pss_one (ps_ret pe_non)) pss_nil)
      (pss_one (ps_ret (pe_callTy call_int_str (by rfl) T.int boot_int (pa_cons (pv 0) pa_nil)))), ?_⟩
    have hw := word_len i
    refine ⟨_, rfl, 9999, rfl, by decide +kernel, _, rfl, by decide +kernel, wS i, FIG, _, rfl, by omega, fun H1 s1 => ⟨_, rfl, ?_⟩⟩
    have e0 : (((PySem.Str.ofString (toString (9999 : Int))).length : Nat) : Int) = 4 := by rw [mv_len]; rfl
    rw [e0]
    cases e : figN i with
    | none =>
      rw [fig_no i e]
      refine iteT (iteT ?_)
      have z := q H1 s1
      rw [num_fig i e] at z
      exact z
    | some n =>
      obtain ⟨g1, g2, g3⟩ := fig_yes i n e
      obtain ⟨k1, k2, k3⟩ := fig_cmp i n e
      rw [g1]
      refine iteF ⟨_, rfl, _, n, rfl, g2, g3, n, rfl, k1, _, rfl, rfl, _, rfl, ?_⟩
      show if (!decide (V.str (PySem.Str.ofString (toString n)) = V.str (wS i))) = true then _ else _
      rw [k2]
      have z := q H1 s1
      cases e2 : (numW i).isNone with
      | true =>
        refine iteT ?_
        have e3 : numW i = none := Option.isNone_iff_eq_none.mp e2
        unfold numV at z
        rw [e3] at z
        exact z
      | false =>
        refine iteF ⟨_, rfl, _, n, rfl, g2, g3, ?_⟩
        have e3 := k3 e2
        unfold numV at z
        rw [e3] at z
        exact z
end
end K7

set_option maxRecDepth 100000
set_option maxHeartbeats 4000000
/-! K7D: parts_of, hole_in, is_part, is_divided, is_path, holes_in, is_pattern. -/
namespace K7
open PySem PySem.Spec PyProof.Rows L2
open C8 (Def Cal cal0 pe_c pe_gc fnScope fnBody fnArgs)
section
variable {P : Program} {w : World} {K : PySem.W.Frag} {mg : Str → Option Value} {base : Heap} {f : Addr} {fd : FuncData} {bs : List Value}
def ptsD (ps : List Pt) : PyData := .tuple (ps.map fun p => .str (ptS p))
def spParts (K : PySem.W.Frag) : Sp := fun vs H Q _ => ∃ ps : List Pt, vs = [.str (patS ps)] ∧ ps.length ≤ 5 ∧ ∀ H' v, Same H H' → Dp K H' v (ptsD ps) → Q v H'
theorem scParts : FnScope ["text"] ["text"] (fnScope (tp 30)) := C8.fnScope_by (by decide +kernel)
theorem ptsD_new {H : Hp} {l : Addr} (ps : List Pt) (h : H l = some (.tup (ps.map fun p => V.str (ptS p)))) : Dp K H (.ref l) (ptsD ps) := by
  refine .tup (SqT.of h) ?_
  have e1 : (ps.map fun p => V.str (ptS p)) = (ps.map ptS).map V.str := by rw [List.map_map]; rfl
  have e2 : (ps.map fun p => PyData.str (ptS p)) = (ps.map ptS).map PyData.str := by rw [List.map_map]; rfl
  rw [e1, e2]
  exact dps_strs _
theorem c_parts (T : G7 K mg) (F : Def K mg "parts_of" (tp 30) f fd) (b : Binds K fd ["text"] []) : Cal P w K mg base 1 "parts_of" (spParts K) [] := by
  refine cal0 F b .nil scParts (fun vs H Q E h => ?_) (fun cdv A outer s H vs Q E hr h => ?_)
  · obtain ⟨ps, rfl, _⟩ := h
    rfl
  · obtain ⟨ps, rfl, hl, q⟩ := h
    refine ⟨_, pss_one (ps_ret (pe_ifExp (pt_cmpR op_eq (pv 0) (pe_gc (by rfl) T.ROOT) (nomark _)) (pe_tup pa_nil)
      (pe_callTy call_tuple_of (by rfl) T.tuple (by decide +kernel) (pa_cons (pe_split (pe_slice sl_str (pv 0) (po_some pe_int) po_none) pe_str) pa_nil)))), ?_⟩
    have hlen := patS_len ps hl
    refine ⟨_, rfl, rfl, _, rfl, ?_⟩
    by_cases h0 : ps = []
    · subst h0
      refine itT (decide_eq_true (by rw [patS_nil]; rfl)) ⟨Nat.zero_le _, fun p hp => ?_⟩
      exact q _ _ (same_new hp) (ptsD_new [] upd_same)
    · refine itF (decide_eq_false (fun e => patS_ne h0 (V.str.inj e))) ⟨_, rfl, 1, rfl, patS ps, rfl, Nat.le_of_lt (small1000 (by omega)), ⟨_, rfl⟩, _, sl, rfl, rfl, by decide +kernel, ?_, ?_⟩
      · have := cutS_length (patS ps) (some 1) none
        have := small1000 (n := 500) (by omega)
        omega
      · intro p hp
        rw [cut_tail, split_pat h0]
        refine ⟨p, (ps.map ptS).map V.str, rfl, .inl ⟨SqL.of upd_same, fun l hl2 => ?_⟩⟩
        refine q _ _ ((same_new hp).trans (same_new hl2)) (ptsD_new ps ?_)
        rw [upd_same, List.map_map]
        rfl
def holeD : Pt → PyData
  | .w _ => .none
  | .h n b => .tuple [.str (nS n), .int (knd (.h n b))]
def spHole (K : PySem.W.Frag) : Sp := fun vs H Q _ => ∃ p : Pt, vs = [.str (ptS p)] ∧ ∀ H' v, Same H H' → Dp K H' v (holeD p) → Q v H'
theorem scHole : FnScope ["part", "inner", "kind"] ["part"] (fnScope (tp 33)) := C8.fnScope_by (by decide +kernel)
theorem c_hole (T : G7 K mg) (cN : Cal P w K mg base 2 "is_name" spName []) (F : Def K mg "hole_in" (tp 33) f fd) (b : Binds K fd ["part"] []) : Cal P w K mg base 3 "hole_in" (spHole K) [] := by
  refine cal0 F b .nil scHole (fun vs H Q E h => ?_) (fun cdv A outer s H vs Q E hr h => ?_)
  · obtain ⟨p, rfl, _⟩ := h
    rfl
  · obtain ⟨p, rfl, q⟩ := h
    refine ⟨_, pss_cons (ps_if (PW.pt (pw_or (pt_cmpR op_ne (pe_slice sl_str (pv 0) po_none (po_some pe_int)) pe_str (nomark _)) (pw_or1 (pt_cmpR op_ne (pe_slice sl_str (pv 0) (po_some (pe_un un_neg pe_int)) po_none) pe_str (nomark _))))) (pss_one (ps_ret pe_non)) pss_nil)
      (pss_cons (ps_par (i := 1) (j := 2) (by rfl) scHole.nd rfl rfl (by decide) rfl rfl (pa_cons (pe_slice sl_str (pv 0) (po_some pe_int) (po_some (pe_un un_neg pe_int))) (pa_cons (pe_gc (by rfl) T.ANY) pa_nil)) (by rfl))
      (pss_cons (ps_if (pt_val (pe_m1 PySem.F.slot_str_endswith PySem.F.type_str_endswith mt_endswith (pv 1) (pe_gc (by rfl) T.NUMBERED)))
        (pss_one (ps_par (i := 1) (j := 2) (by rfl) scHole.nd rfl rfl (by decide) rfl rfl (pa_cons (pe_slice sl_str (pv 1) po_none (po_some (pe_un un_neg (pe_callB call_len_str (by rfl) T.len boot_len (pa_cons (pe_gc (by rfl) T.NUMBERED) pa_nil))))) (pa_cons (pe_gc (by rfl) T.NUMBER) pa_nil)) (by rfl))) pss_nil)
      (pss_one (ps_ret (pe_ifExp (pt_val (pe_c cN hr (by decide) (by rfl) (pa_cons (pv 1) pa_nil))) (pe_tup (pa_cons (pv 1) (pa_cons (pv 2) pa_nil))) pe_non))))), ?_⟩
    obtain ⟨g1, g2⟩ := hole_facts p
    have hl := (pt_len p).2
    have hz : (ptS p).length ≤ sizeLine := Nat.le_of_lt (small1000 (by omega))
    refine ⟨_, rfl, 1, rfl, _, rfl, hz, rfl, _, rfl, ?_⟩
    show if (!decide (V.str (cutS (ptS p) none (some 1)) = V.str "{")) = true then _ else _
    rw [g1]
    cases p with
    | w i =>
      refine iteT (iteT ?_)
      exact q H .non (Same.refl H) .non
    | h n bb =>
      obtain ⟨h1, h2, h3, h4⟩ := g2 rfl
      refine iteF ⟨_, rfl, 1, rfl, -1, rfl, _, rfl, hz, rfl, _, rfl, ?_⟩
      rw [h1]
      refine iteF ⟨_, rfl, 1, rfl, 1, rfl, -1, rfl, _, rfl, hz, _, _, rfl, ?_⟩
      rw [h2]
      have hz2 : (inS (.h n bb)).length ≤ sizeLine := Nat.le_of_lt (small1000 (by omega))
      have hnl := name_len n
      refine ⟨_, rfl, ⟨_, rfl⟩, _, ":n", rfl, rfl, _, rfl, ?_⟩
      rw [h3]
      cases bb with
      | true =>
        refine iteT ⟨_, rfl, _, rfl, by decide +kernel, 2, rfl, -2, rfl, _, rfl, hz2, _, _, rfl, ?_⟩
        rw [inS_cut]
        refine ⟨_, rfl, nS n, rfl, by omega, fun H1 s1 => ⟨_, rfl, ?_⟩⟩
        rw [name_ok]
        refine iteT ⟨_, rfl, _, rfl, by show 2 ≤ sizeLine; decide, fun t ht => ?_⟩
        exact q _ _ (s1.trans (same_new ht)) (.tup (SqT.of upd_same) (.cons (.str _) (.cons (.int _) .nil)))
      | false =>
        refine iteF ⟨_, rfl, nS n, rfl, by omega, fun H1 s1 => ⟨_, rfl, ?_⟩⟩
        rw [name_ok]
        refine iteT ⟨_, rfl, _, rfl, by show 2 ≤ sizeLine; decide, fun t ht => ?_⟩
        exact q _ _ (s1.trans (same_new ht)) (.tup (SqT.of upd_same) (.cons (.str _) (.cons (.int _) .nil)))
def spPart : Sp := fun vs H Q _ => ∃ p : Pt, vs = [.str (ptS p)] ∧ ∀ H', Same H H' → Q (.bl true) H'
theorem scPart : FnScope ["part"] ["part"] (fnScope (tp 34)) := C8.fnScope_by (by decide +kernel)
theorem hole_ref {H : Hp} {v : V} {n : Fin 6} {bb : Bool} (h : Dp K H v (holeD (.h n bb))) : ∃ t, v = .ref t ∧ SqT K H t [.str (nS n), .int (knd (.h n bb))] := by
  obtain ⟨a, xs, e, h1, h2⟩ := tup_dp h
  cases h2 with
  | cons k1 k2 =>
    cases k2 with
    | cons k3 k4 =>
      cases k1
      cases k3
      cases k4
      exact ⟨a, e, h1⟩
theorem hole_non {H : Hp} {v : V} {i : Fin 10} (h : Dp K H v (holeD (.w i))) : v = .non := by
  cases h
  rfl
theorem c_part (cW : Cal P w K mg base 2 "is_word" spWord []) (cH : Cal P w K mg base 3 "hole_in" (spHole K) []) (F : Def K mg "is_part" (tp 34) f fd) (b : Binds K fd ["part"] []) : Cal P w K mg base 4 "is_part" spPart [] := by
  refine cal0 F b .nil scPart (fun vs H Q E h => ?_) (fun cdv A outer s H vs Q E hr h => ?_)
  · obtain ⟨p, rfl, _⟩ := h
    rfl
  · obtain ⟨p, rfl, q⟩ := h
    refine ⟨_, pss_one (ps_ret (pe_or (pe_c cW hr (by decide) (by rfl) (pa_cons (pv 0) pa_nil)) (pe_one (pe_cmpR op_notN (pe_c cH hr (by decide) (by rfl) (pa_cons (pv 0) pa_nil)) pe_non (nomark _))))), ?_⟩
    have hl := (pt_len p).2
    refine ⟨_, rfl, ptS p, rfl, by omega, fun H1 s1 => ⟨_, rfl, ?_⟩⟩
    cases e : madeOf (ptS p) WSIG 8 with
    | true => exact iteT (q _ s1)
    | false =>
      refine iteF ⟨_, rfl, p, rfl, fun H2 v s2 hv => ?_⟩
      cases p with
      | w i =>
        have z := word_ok i
        rw [show ptS (.w i) = wS i from rfl] at e
        rw [z] at e
        cases e
      | h n bb =>
        obtain ⟨t, rfl, _⟩ := hole_ref hv
        exact ⟨rfl, q _ (s1.trans s2)⟩
end
end K7

set_option maxRecDepth 100000
set_option maxHeartbeats 4000000
/-! K7E: is_divided, is_path, holes_in, is_pattern. -/
namespace K7
open PySem PySem.Spec PyProof.Rows L2
open C8 (Def Cal CalAt cal0 pe_c pe_gc fnScope fnBody fnArgs)
section
variable {P : Program} {w : World} {K : PySem.W.Frag} {mg : Str → Option Value} {base : Heap} {f : Addr} {fd : FuncData} {bs : List Value}
/-- a def that says True of a part's text -/
def spYes (R : Pt → Prop) : Sp := fun vs H Q _ => ∃ p : Pt, R p ∧ vs = [.str (ptS p)] ∧ ∀ H', Same H H' → Q (.bl true) H'
def spDiv (R : Pt → Prop) (g : Addr) : Sp := fun vs H Q _ => ∃ ps : List Pt, vs = [.str (patS ps), .ref g] ∧ ps.length ≤ 5 ∧ (∀ p ∈ ps, R p) ∧ ∀ H', Same H H' → Q (.bl true) H'
theorem scDiv : FnScope ["thing", "is_part", "parts", "part"] ["thing", "is_part"] (fnScope (tp 31)) := C8.fnScope_by (by decide +kernel)
theorem c_div (T : G7 K mg) {R : Pt → Prop} {g : Addr} (cP : Cal P w K mg base 1 "parts_of" (spParts K) []) (cG : CalAt P w K mg base 4 g (spYes R)) (F : Def K mg "is_divided" (tp 31) f fd) (b : Binds K fd ["thing", "is_part"] []) : Cal P w K mg base 5 "is_divided" (spDiv R g) [] := by
  obtain ⟨fg, pg, Fg, kg, bg⟩ := cG.ex
  refine cal0 F b .nil scDiv (fun vs H Q E h => ?_) (fun cdv A outer s H vs Q E hr h => ?_)
  · obtain ⟨ps, rfl, _⟩ := h
    rfl
  · obtain ⟨ps, rfl, hl, hR, q⟩ := h
    refine ⟨_, pss_cons (ps_if (PW.pt (pw_or (pt_not (pt_val (pe_callB call_isi (by rfl) T.isi (by decide +kernel) (pa_cons (pv 0) (pa_cons (pe_bltn (v := .ty "str") (by rfl) T.str boot_str rfl) pa_nil)))))
        (pw_or1 (pt_cmpR op_ne (pe_slice sl_str (pv 0) po_none (po_some pe_int)) (pe_gc (by rfl) T.ROOT) (nomark _))))) (pss_one (ps_ret pe_bl)) pss_nil)
      (pss_cons (ps_set (i := 2) scDiv.nd rfl (.inl rfl) (pe_c cP hr (by decide) (by rfl) (pa_cons (pv 0) pa_nil)))
      (pss_one (ps_ret (pe_and (pe_cmpR op_le (pe_callB call_len_seq (by rfl) T.len boot_len (pa_cons (pv 2) pa_nil)) (pe_gc (by rfl) T.MP) (nomark _))
        (pe_one (pe_callB (cr_all (by rfl)) (by rfl) T.all (by decide +kernel) (pa_cons (pe_lc (own := [("part", 3)]) (g := gName 3) (tt := tYes) (by rfl) scDiv.nd (pi_tup (pv 2)) (blkOk_by (own := [("part", 3)]) (N := ["thing", "is_part", "parts", "part"]) (sc := fnScope (tp 31)) (by decide +kernel))
          (fun _ _ _ _ _ => pg_name (i := 3) scDiv.nd rfl (Or.inl rfl)) (fun _ _ _ _ _ => pts_nil) (fun _ _ _ _ _ => pe_callL (i := 1) (f := g) (dvs := []) (E := C8.E0) Fg hr rfl (by first | exact .inl rfl | exact .inr (.inl rfl) | exact .inr (.inr rfl)) kg bg .nil C8.pass0 (pa_cons (pv 3) pa_nil))) pa_nil))))))), ?_⟩
    have hlen := patS_len ps hl
    have hz : (patS ps).length ≤ sizeLine := Nat.le_of_lt (small1000 (by omega))
    refine ⟨_, rfl, _, _, _, _, _, rfl, .ty _, .base (.str _), kit_ty (r := true) (by decide +kernel), true, rfl, iteF ?_⟩
    refine ⟨_, rfl, 1, rfl, _, rfl, hz, rfl, _, rfl, ?_⟩
    rw [cut_head]
    refine itF (by show (!decide (V.str sl = V.str sl)) = false; rw [decide_eq_true rfl]; rfl) ?_
    refine ⟨_, rfl, ps, rfl, hl, fun H1 v s1 hv => ?_⟩
    obtain ⟨a, xs, rfl, hs, hd⟩ := tup_dp hv
    have hxl : xs.length = ps.length := by
      have := dps_len hd
      rw [List.length_map] at this
      exact this
    have exs : xs = ps.map fun p => V.str (ptS p) := by
      have e : (ps.map fun p => PyData.str (ptS p)) = (ps.map ptS).map PyData.str := by rw [List.map_map]; rfl
      rw [e] at hd
      rw [strs_dps hd, List.map_map]
      rfl
    refine ⟨_, rfl, a, xs, rfl, .inr hs, _, _, rfl, rfl, _, rfl, itT (decide_eq_true (by omega)) ?_⟩
    refine ⟨_, rfl, a, rfl, ⟨_, hs⟩, fun D hD => ?_⟩
    refine lc_it walk_tup (LcP (fun k v H => Dp K H v (.bool true)) (fun _ => true) H1 D) (.start hD) (fun i H hi hP => Same.tup hP.same hs) ?_ ?_
    · rintro i v H2 H3 hi hP ⟨rfl, hx⟩
      rw [exs, List.getElem?_map] at hx
      obtain ⟨p, hp, rfl⟩ : ∃ p, ps[i]? = some p ∧ V.str (ptS p) = v := by
        cases e : ps[i]? with
        | none => rw [e] at hx; cases hx
        | some p => rw [e] at hx; exact ⟨p, rfl, Option.some.inj hx⟩
      refine ⟨rfl, rfl, _, rfl, p, hR p (List.mem_of_getElem? hp), rfl, fun H4 s4 => ?_⟩
      exact LcP.add hD (dp_stay fun _ => by unfold noL; rfl) hP s4 (by omega) rfl (.bl true)
    · intro H2 hP
      refine ⟨D, _, rfl, LcP.bools (b := fun _ => true) hP, ?_⟩
      have e4 : ((List.range xs.length).map fun _ => true).all id = true := by
        rw [List.all_eq_true]
        intro y hy
        obtain ⟨_, _, rfl⟩ := List.mem_map.mp hy
        rfl
      rw [e4]
      exact q _ (s1.trans hP.same)
def pW (ws : List (Fin 10)) : List Pt := ws.map Pt.w
def pthS (ws : List (Fin 10)) : Str := patS (pW ws)
def spPath : Sp := fun vs H Q _ => ∃ ws : List (Fin 10), vs = [.str (pthS ws)] ∧ ws.length ≤ 5 ∧ ∀ H', Same H H' → Q (.bl true) H'
theorem scPath : FnScope ["thing"] ["thing"] (fnScope (tp 32)) := C8.fnScope_by (by decide +kernel)
theorem c_path {g : Addr} (gv : GV mg "is_word" (.ref g)) (cD : Cal P w K mg base 5 "is_divided" (spDiv (fun p => ∃ i, p = .w i) g) []) (F : Def K mg "is_path" (tp 32) f fd) (b : Binds K fd ["thing"] []) : Cal P w K mg base 6 "is_path" spPath [] := by
  refine cal0 F b .nil scPath (fun vs H Q E h => ?_) (fun cdv A outer s H vs Q E hr h => ?_)
  · obtain ⟨ps, rfl, _⟩ := h
    rfl
  · obtain ⟨ws, rfl, hl, q⟩ := h
    refine ⟨_, pss_one (ps_ret (pe_c cD hr (by decide) (by rfl) (pa_cons (pv 0) (pa_cons (pe_gc (by rfl) gv) pa_nil)))), ?_⟩
    exact ⟨_, rfl, pW ws, rfl, by unfold pW; rw [List.length_map]; exact hl, fun p hp => by
      obtain ⟨i, _, rfl⟩ := List.mem_map.mp hp
      exact ⟨i, rfl⟩, q⟩
/-- is_word, is_part as defs that say True -/
theorem yes_word {g : Addr} (c : CalAt P w K mg base 2 g spWord) : CalAt P w K mg base 4 g (spYes fun p => ∃ i, p = .w i) := by
  obtain ⟨fd, ps, F, kp, b⟩ := c.ex
  refine ⟨fd, ps, (F.mono (by decide)).imp (fun vs H Q E h => ?_), kp, b⟩
  obtain ⟨p, ⟨i, rfl⟩, rfl, q⟩ := h
  refine ⟨wS i, rfl, by have := word_len i; omega, fun H' s => ?_⟩
  rw [word_ok]
  exact q H' s
theorem yes_part {g : Addr} (c : CalAt P w K mg base 4 g spPart) : CalAt P w K mg base 4 g (spYes fun _ => True) := by
  obtain ⟨fd, ps, F, kp, b⟩ := c.ex
  refine ⟨fd, ps, F.imp (fun vs H Q E h => ?_), kp, b⟩
  obtain ⟨p, _, rfl, q⟩ := h
  exact ⟨p, rfl, q⟩
/-- the holes of a pattern -/
def hols (ps : List Pt) : List Pt := ps.filter isH
def spHoles (K : PySem.W.Frag) : Sp := fun vs H Q _ => ∃ ps : List Pt, vs = [.str (patS ps)] ∧ ps.length ≤ 5 ∧ ∀ H' v, Same H H' → Dp K H' v (.list ((hols ps).map holeD)) → Q v H'
theorem scHoles : FnScope ["pattern", "part"] ["pattern"] (fnScope (tp 35)) := C8.fnScope_by (by decide +kernel)
theorem holeD_noL (p : Pt) : noL (holeD p) = true := by
  cases p <;> simp [holeD, noL, noLs]
theorem holeD_non {H : Hp} {v : V} {p : Pt} (h : Dp K H v (holeD p)) : decide (v = .non) = !isH p := by
  cases p with
  | w i => rw [hole_non h]; rfl
  | h n b =>
    obtain ⟨t, rfl, _⟩ := hole_ref h
    rfl
theorem filt_get {α : Type} (xs : List Pt) (g : Pt → α) (d : Nat → α) (c : Nat → Bool) (hc : ∀ i p, xs[i]? = some p → c i = isH p ∧ d i = g p) : ((List.range xs.length).filter c).map d = (xs.filter isH).map g := by
  have key : ∀ n, n ≤ xs.length → ((List.range n).filter c).map d = ((xs.take n).filter isH).map g := by
    intro n
    induction n with
    | zero => intro _; rfl
    | succ n ih =>
      intro hn
      have hlt : n < xs.length := hn
      have hx : xs[n]? = some xs[n] := List.getElem?_eq_getElem hlt
      obtain ⟨h1, h2⟩ := hc n _ hx
      rw [filt_succ, List.map_append, ih (Nat.le_of_lt hlt), List.take_add_one, hx, List.filter_append, List.map_append, h1]
      congr 1
      show List.map d (if isH xs[n] = true then [n] else []) = List.map g (List.filter isH [xs[n]])
      cases e : isH xs[n] with
      | true => rw [if_pos rfl, List.filter_cons_of_pos e]; simp [h2]
      | false => rw [if_neg Bool.false_ne_true, List.filter_cons_of_neg (by rw [e]; exact Bool.false_ne_true)]; rfl
  have := key xs.length (Nat.le_refl _)
  rw [List.take_length] at this
  exact this
theorem c_holes (cP : Cal P w K mg base 1 "parts_of" (spParts K) []) (cH : Cal P w K mg base 3 "hole_in" (spHole K) []) (F : Def K mg "holes_in" (tp 35) f fd) (b : Binds K fd ["pattern"] []) : Cal P w K mg base 4 "holes_in" (spHoles K) [] := by
  refine cal0 F b .nil scHoles (fun vs H Q E h => ?_) (fun cdv A outer s H vs Q E hr h => ?_)
  · obtain ⟨ps, rfl, _⟩ := h
    rfl
  · obtain ⟨ps, rfl, hl, q⟩ := h
    refine ⟨_, pss_one (ps_ret (pe_lc (own := [("part", 1)]) (g := gName 1) (by rfl) scHoles.nd (pi_tup (pe_c cP hr (by decide) (by rfl) (pa_cons (pv 0) pa_nil))) (blkOk_by (own := [("part", 1)]) (N := ["pattern", "part"]) (sc := fnScope (tp 35)) (by decide +kernel))
      (fun _ _ _ _ _ => pg_name (i := 1) scHoles.nd rfl (Or.inl rfl)) (fun _ _ _ _ _ => pts_one (pt_cmpR op_notN (pe_c cH hr (by decide) (by rfl) (pa_cons (pv 1) pa_nil)) pe_non (nomark _)))
      (fun _ _ _ _ _ => pe_c cH hr (by decide) (by rfl) (pa_cons (pv 1) pa_nil)))), ?_⟩
    refine ⟨_, rfl, ps, rfl, hl, fun H1 v s1 hv => ?_⟩
    obtain ⟨a, xs, rfl, hs, hd⟩ := tup_dp hv
    refine ⟨a, rfl, ⟨_, hs⟩, fun D hD => ?_⟩
    have hxl : xs.length = ps.length := by
      have := dps_len hd
      rw [List.length_map] at this
      exact this
    refine lc_it walk_tup (LcP (fun k v H => Dp K H v (holeD (ps.getD k (.w 0)))) (fun k => isH (ps.getD k (.w 0))) H1 D) (.start hD) (fun i H hi hP => Same.tup hP.same hs) ?_ ?_
    · rintro i v H2 H3 hi hP ⟨rfl, hx⟩
      obtain ⟨d, hd1, hd2⟩ := dps_at hd hx
      obtain ⟨p, hp, rfl⟩ : ∃ p, ps[i]? = some p ∧ PyData.str (ptS p) = d := by
        rw [List.getElem?_map] at hd1
        cases e : ps[i]? with
        | none => rw [e] at hd1; cases hd1
        | some p => rw [e] at hd1; exact ⟨p, rfl, Option.some.inj hd1⟩
      cases hd2
      have ep : ps.getD i (.w 0) = p := by rw [List.getD_eq_getElem?_getD, hp] <;> rfl
      refine ⟨rfl, _, rfl, p, rfl, fun H4 v s4 hv4 => ⟨rfl, _, rfl, ?_⟩⟩
      rw [holeD_non hv4, Bool.not_not]
      cases e : isH p with
      | true =>
        refine iteT ⟨_, rfl, p, rfl, fun H5 v5 s5 hv5 => ?_⟩
        exact LcP.add hD (dp_stay fun _ => holeD_noL _) hP (s4.trans s5) (by omega) (by rw [ep]; exact e) (by rw [ep]; exact hv5)
      | false => exact iteF (hP.skip dp_keep s4 (by rw [ep]; exact e))
    · intro H2 hP
      have z := hP.dp
      rw [hxl, filt_get ps holeD _ _ (fun i p hp => by
        have ep : ps.getD i (.w 0) = p := by rw [List.getD_eq_getElem?_getD, hp] <;> rfl
        exact ⟨by rw [ep], by rw [ep]⟩)] at z
      exact q _ _ (s1.trans hP.same) z
end
end K7

set_option maxRecDepth 100000
set_option maxHeartbeats 4000000
/-! K7F: is_pattern, is_route, are_routes, need_routes, need_verb, need_path. -/
namespace K7
open PySem PySem.Spec PyProof.Rows L2
open C8 (Def Cal CalAt cal0 pe_c pe_gc fnScope fnBody fnArgs)
/-- what `for a, b in ..` asks of a pair, of a triple -/
abbrev g2 (K : PySem.W.Frag) (i j : Nat) : TG := gTup K 2 (gCons (gName i) (gCons (gName j) gNil))
abbrev g3 (K : PySem.W.Frag) (i j k : Nat) : TG := gTup K 3 (gCons (gName i) (gCons (gName j) (gCons (gName k) gNil)))
def nmS : Pt → Str
  | .w _ => ""
  | .h n _ => nS n
def OkPat (ps : List Pt) : Prop := ps.length ≤ 5 ∧ ((hols ps).map nmS).Nodup
def rS : Fin 11 → Str
  | 0 => "one" | 1 => "two" | 2 => "three" | 3 => "four" | 4 => "five" | 5 => "six" | 6 => "seven" | 7 => "eight" | 8 => "nine" | 9 => "ten" | 10 => "fresh"
def vS : Bool → Str
  | true => "get"
  | false => "post"
structure Rt where
  nm : Fin 11
  get : Bool
  pat : List Pt
def rtD (r : Rt) : PyData := .tuple [.str (rS r.nm), .str (vS r.get), .str (patS r.pat)]
def rtsD (rs : List Rt) : PyData := .tuple (rs.map rtD)
structure OkRts (rs : List Rt) : Prop where
  pos : 1 ≤ rs.length
  few : rs.length ≤ 10
  pat : ∀ r ∈ rs, OkPat r.pat
  nd : (rs.map (·.nm)).Nodup
theorem rS_inj {a b : Fin 11} (h : rS a = rS b) : a = b := by revert a b; decide +kernel
theorem rS_name (a : Fin 11) : madeOf (rS a) LET 8 = true := by revert a; decide +kernel
theorem rS_len (a : Fin 11) : (rS a).length ≤ 12 := by revert a; decide +kernel
theorem rS_nd {l : List (Fin 11)} (h : l.Nodup) : (l.map rS).Nodup := by
  induction l with
  | nil => exact List.nodup_nil
  | cons a l ih =>
    rw [List.nodup_cons] at h
    rw [List.map_cons, List.nodup_cons]
    refine ⟨fun m => ?_, ih h.2⟩
    obtain ⟨b, hb, e⟩ := List.mem_map.mp m
    rw [rS_inj e] at hb
    exact h.1 hb
theorem verb_in (b : Bool) : inV (V.str (vS b)) [.str "get", .str "post"] = true := by cases b <;> decide +kernel
section
variable {P : Program} {w : World} {K : PySem.W.Frag} {mg : Str → Option Value} {base : Heap} {f : Addr} {fd : FuncData} {bs : List Value}
theorem rt_dp {H : Hp} {v : V} {r : Rt} (h : Dp K H v (rtD r)) : ∃ a, v = .ref a ∧ SqT K H a [.str (rS r.nm), .str (vS r.get), .str (patS r.pat)] := by
  obtain ⟨a, xs, e, h1, h2⟩ := tup_dp h
  cases h2 with
  | cons k1 k2 =>
    cases k2 with
    | cons k3 k4 =>
      cases k4 with
      | cons k5 k6 =>
        cases k1
        cases k3
        cases k5
        cases k6
        exact ⟨a, e, h1⟩
theorem rts_at {H : Hp} {xs : List V} {rs : List Rt} {i : Nat} {x : V} (hd : DpAll K H xs (rs.map rtD)) (hx : xs[i]? = some x) : ∃ r, rs[i]? = some r ∧ Dp K H x (rtD r) := by
  obtain ⟨d, h1, h2⟩ := dps_at hd hx
  rw [List.getElem?_map] at h1
  cases e : rs[i]? with
  | none => rw [e] at h1; cases h1
  | some r =>
    rw [e] at h1
    have h1 := Option.some.inj h1
    exact ⟨r, rfl, h1 ▸ h2⟩
theorem getD_of {α : Type} {xs : List α} {i : Nat} {x d : α} (h : xs[i]? = some x) : xs.getD i d = x := by rw [List.getD_eq_getElem?_getD, h] <;> rfl
theorem map_range {α β : Type} (xs : List α) (g : α → β) (d : α) : (List.range xs.length).map (fun k => g (xs.getD k d)) = xs.map g := by
  refine List.ext_getElem? fun i => ?_
  rw [List.getElem?_map, List.getElem?_map]
  by_cases h : i < xs.length
  · rw [List.getElem?_range h, List.getElem?_eq_getElem h]
    show some (g (xs.getD i d)) = some (g xs[i])
    rw [getD_of (List.getElem?_eq_getElem h)]
  · rw [List.getElem?_eq_none (by rw [List.length_range]; omega), List.getElem?_eq_none (by omega)]
    rfl
/-- a list of texts that a comprehension made -/
theorem LcP.strs {t : Nat → Str} {H1 H : Hp} {D : Addr} {n : Nat} (h : LcP (fun k y H => Dp K H y (.str (t k))) (fun _ => true) H1 D n H) : SqL K H D (((List.range n).map t).map V.str) := by
  obtain ⟨_, ys, hD, hp⟩ := h
  have q := paired_dps (K := K) (fun k => PyData.str (t k)) hp
  rw [range_all] at q
  have e : (List.range n).map (fun k => PyData.str (t k)) = ((List.range n).map t).map PyData.str := by rw [List.map_map]; rfl
  rw [e] at q
  rw [strs_dps q] at hD
  exact SqL.of hD
theorem hol_is {ps : List Pt} {p : Pt} (h : p ∈ hols ps) : ∃ n b, p = .h n b := by
  have := (List.mem_filter.mp h).2
  cases p with
  | w i => cases this
  | h n b => exact ⟨n, b, rfl⟩
theorem hols_len (ps : List Pt) : (hols ps).length ≤ ps.length := List.length_filter_le _ _
def spPat : Sp := fun vs H Q _ => ∃ ps : List Pt, vs = [.str (patS ps)] ∧ OkPat ps ∧ ∀ H', Same H H' → Q (.bl true) H'
theorem scPat : FnScope ["thing", "name", "kind"] ["thing"] (fnScope (tp 36)) := C8.fnScope_by (by decide +kernel)
theorem c_pat {g : Addr} (gv : GV mg "is_part" (.ref g)) (cD : Cal P w K mg base 5 "is_divided" (spDiv (fun _ => True) g) []) (cU : Cal P w K mg base 1 "are_unlike" (spUnlike K) []) (cH : Cal P w K mg base 4 "holes_in" (spHoles K) [])
    (F : Def K mg "is_pattern" (tp 36) f fd) (b : Binds K fd ["thing"] []) : Cal P w K mg base 6 "is_pattern" spPat [] := by
  refine cal0 F b .nil scPat (fun vs H Q E h => ?_) (fun cdv A outer s H vs Q E hr h => ?_)
  · obtain ⟨ps, rfl, _⟩ := h
    rfl
  · obtain ⟨ps, rfl, ⟨hl, nd⟩, q⟩ := h
    refine ⟨_, pss_one (ps_ret (pe_and (pe_c cD hr (by decide) (by rfl) (pa_cons (pv 0) (pa_cons (pe_gc (by rfl) gv) pa_nil)))
      (pe_one (pe_c cU hr (by decide) (by rfl) (pa_cons (pe_lc (own := [("name", 1), ("kind", 2)]) (g := g2 K 1 2) (tt := tYes) (by rfl) scPat.nd (pi_list (pe_c cH hr (by decide) (by rfl) (pa_cons (pv 0) pa_nil))) (blkOk_by (own := [("name", 1), ("kind", 2)]) (N := ["thing", "name", "kind"]) (sc := fnScope (tp 36)) (by decide +kernel))
        (fun _ _ _ _ _ => pg_tup (by rfl) (pgs_cons (pg_name (i := 1) scPat.nd rfl (Or.inl rfl)) (pgs_cons (pg_name (i := 2) scPat.nd rfl (Or.inl rfl)) pgs_nil))) (fun _ _ _ _ _ => pts_nil) (fun _ _ _ _ _ => pv 1)) pa_nil))))), ?_⟩
    refine ⟨_, rfl, ps, rfl, hl, fun _ _ => trivial, fun H1 s1 => ⟨true, rfl, iteT ?_⟩⟩
    refine ⟨_, rfl, ps, rfl, hl, fun H2 v s2 hv => ?_⟩
    obtain ⟨a, xs, rfl, hs, hd⟩ := lst_dp hv
    have hxl : xs.length = (hols ps).length := by
      have := dps_len hd
      rw [List.length_map] at this
      exact this
    have hhl := hols_len ps
    refine ⟨a, rfl, ⟨_, hs⟩, fun D hD => ?_⟩
    refine lc_it walk_list (LcP (fun k v H => Dp K H v (.str (nmS ((hols ps).getD k (.w 0))))) (fun _ => true) H2 D) (.start hD) (fun i H hi hP => hP.same.seq hs) ?_ ?_
    · rintro i v H3 H4 hi hP ⟨rfl, hx⟩
      obtain ⟨d, hd1, hd2⟩ := dps_at hd hx
      rw [List.getElem?_map] at hd1
      obtain ⟨p, hp, rfl⟩ : ∃ p, (hols ps)[i]? = some p ∧ holeD p = d := by
        cases e : (hols ps)[i]? with
        | none => rw [e] at hd1; cases hd1
        | some p => rw [e] at hd1; exact ⟨p, rfl, Option.some.inj hd1⟩
      obtain ⟨n, bb, rfl⟩ := hol_is (List.mem_of_getElem? hp)
      obtain ⟨t, rfl, ht⟩ := hole_ref (dp_same hP.same _ _ hd2)
      refine ⟨t, _, rfl, ht, rfl, _, _, rfl, _, _, rfl, rfl, rfl, _, rfl, ?_⟩
      refine LcP.add hD (dp_stay fun _ => by unfold noL; rfl) hP (Same.refl _) (by omega) rfl ?_
      show Dp K H4 _ (.str (nmS ((hols ps).getD i (.w 0))))
      rw [getD_of hp]
      exact .str _
    · intro H3 hP
      have e : (List.range xs.length).map (fun k => nmS ((hols ps).getD k (.w 0))) = (hols ps).map nmS := by rw [hxl, map_range]
      refine ⟨D, _, rfl, hP.strs, ?_, ?_, ?_⟩
      · rw [e]; exact nd
      · rw [e, List.length_map]; omega
      · exact q _ (s1.trans (s2.trans hP.same))
def spRoute (K : PySem.W.Frag) : Sp := fun vs H Q _ => ∃ (v : V) (r : Rt), vs = [v] ∧ Dp K H v (rtD r) ∧ OkPat r.pat ∧ ∀ H', Same H H' → Q (.bl true) H'
theorem scRoute : FnScope ["thing"] ["thing"] (fnScope (tp 37)) := C8.fnScope_by (by decide +kernel)
theorem c_route (T : G7 K mg) (cS : Cal P w K mg base 1 "is_shaped" (spShaped K) []) (cN : Cal P w K mg base 2 "is_name" spName []) (cP : Cal P w K mg base 6 "is_pattern" spPat [])
    (F : Def K mg "is_route" (tp 37) f fd) (b : Binds K fd ["thing"] []) : Cal P w K mg base 7 "is_route" (spRoute K) [] := by
  refine cal0 F b .nil scRoute (fun vs H Q E h => ?_) (fun cdv A outer s H vs Q E hr h => ?_)
  · obtain ⟨v, r, rfl, _⟩ := h
    rfl
  · obtain ⟨v, r, rfl, hv, ok, q⟩ := h
    obtain ⟨av, gV, hV⟩ := T.VERBS
    refine ⟨_, pss_cons (ps_if (PW.pt (pw_or (pt_not (pt_val (pe_c cS hr (by decide) (by rfl) (pa_cons (pv 0) (pa_cons pe_int pa_nil)))))
        (pw_or (pt_not (pt_val (pe_c cN hr (by decide) (by rfl) (pa_cons (pe_ix ix_tup (pv 0) pe_int (fun _ _ => rfl)) pa_nil))))
        (pw_or1 (pt_not (pt_val (pe_callB call_isi (by rfl) T.isi (by decide +kernel) (pa_cons (pe_ix ix_tup (pv 0) pe_int (fun _ _ => rfl)) (pa_cons (pe_bltn (v := .ty "str") (by rfl) T.str boot_str rfl) pa_nil))))))))) (pss_one (ps_ret pe_bl)) pss_nil)
      (pss_one (ps_ret (pe_and (pe_cmpR op_in_seq (pe_ix ix_tup (pv 0) pe_int (fun _ _ => rfl)) (pe_gc (by rfl) gV) (by rfl)) (pe_one (pe_c cP hr (by decide) (by rfl) (pa_cons (pe_ix ix_tup (pv 0) pe_int (fun _ _ => rfl)) pa_nil)))))), ?_⟩
    obtain ⟨a, rfl, hs⟩ := rt_dp hv
    have hnl := rS_len r.nm
    refine ⟨_, rfl, a, _, 3, rfl, hs, _, rfl, iteF ?_⟩
    refine ⟨_, rfl, a, _, 0, _, rfl, rfl, hs, rfl, rS r.nm, rfl, by omega, fun H1 s1 => ⟨_, rfl, itF (by rw [rS_name]; rfl) ?_⟩⟩
    refine ⟨_, rfl, a, _, 1, _, rfl, rfl, Same.tup s1 hs, rfl, _, _, _, _, _, rfl, .ty _, .base (.str _), kit_ty (r := true) (by decide +kernel), true, rfl, iteF ?_⟩
    refine ⟨_, rfl, a, _, 1, _, rfl, rfl, Same.tup s1 hs, rfl, av, _, rfl, .inr (hV H1), rfl, rfl, _, rfl, ?_⟩
    refine itT (verb_in r.get) ⟨_, rfl, a, _, 2, _, rfl, rfl, Same.tup s1 hs, rfl, r.pat, rfl, ok, fun H2 s2 => q _ (s1.trans s2)⟩
def spAre (K : PySem.W.Frag) : Sp := fun vs H Q _ => ∃ (v : V) (rs : List Rt), vs = [v] ∧ Dp K H v (rtsD rs) ∧ OkRts rs ∧ ∀ H', Same H H' → Q (.bl true) H'
theorem scAre : FnScope ["thing", "one", "name", "verb", "pattern"] ["thing"] (fnScope (tp 38)) := C8.fnScope_by (by decide +kernel)
theorem c_are (T : G7 K mg) (cR : Cal P w K mg base 7 "is_route" (spRoute K) []) (cU : Cal P w K mg base 1 "are_unlike" (spUnlike K) [])
    (F : Def K mg "are_routes" (tp 38) f fd) (b : Binds K fd ["thing"] []) : Cal P w K mg base 8 "are_routes" (spAre K) [] := by
  refine cal0 F b .nil scAre (fun vs H Q E h => ?_) (fun cdv A outer s H vs Q E hr h => ?_)
  · obtain ⟨v, r, rfl, _⟩ := h
    rfl
  · obtain ⟨v, rs, rfl, hv, ok, q⟩ := h
    refine ⟨_, pss_cons (ps_if (PW.pt (pw_or (pt_not (pt_val (pe_callB call_isi (by rfl) T.isi (by decide +kernel) (pa_cons (pv 0) (pa_cons (pe_bltn (v := .ty "tuple") (by rfl) T.tuple (by decide +kernel) rfl) pa_nil)))))
        (pw_or (pt_not (pt_chain op_le op_le pe_int (pe_callB call_len_seq (by rfl) T.len boot_len (pa_cons (pv 0) pa_nil)) (pe_gc (by rfl) T.MR)))
        (pw_or1 (pt_not (pt_val (pe_callB (cr_all (by rfl)) (by rfl) T.all (by decide +kernel) (pa_cons (pe_lc (own := [("one", 1)]) (g := gName 1) (tt := tYes) (by rfl) scAre.nd (pi_tup (pv 0)) (blkOk_by (own := [("one", 1)]) (N := ["thing", "one", "name", "verb", "pattern"]) (sc := fnScope (tp 38)) (by decide +kernel))
          (fun _ _ _ _ _ => pg_name (i := 1) scAre.nd rfl (Or.inl rfl)) (fun _ _ _ _ _ => pts_nil) (fun _ _ _ _ _ => pe_c cR hr (by decide) (by rfl) (pa_cons (pv 1) pa_nil))) pa_nil)))))))) (pss_one (ps_ret pe_bl)) pss_nil)
      (pss_one (ps_ret (pe_c cU hr (by decide) (by rfl) (pa_cons (pe_lc (own := [("name", 2), ("verb", 3), ("pattern", 4)]) (g := g3 K 2 3 4) (tt := tYes) (by rfl) scAre.nd (pi_tup (pv 0)) (blkOk_by (own := [("name", 2), ("verb", 3), ("pattern", 4)]) (N := ["thing", "one", "name", "verb", "pattern"]) (sc := fnScope (tp 38)) (by decide +kernel))
          (fun _ _ _ _ _ => pg_tup (by rfl) (pgs_cons (pg_name (i := 2) scAre.nd rfl (Or.inl rfl)) (pgs_cons (pg_name (i := 3) scAre.nd rfl (Or.inl rfl)) (pgs_cons (pg_name (i := 4) scAre.nd rfl (Or.inl rfl)) pgs_nil)))) (fun _ _ _ _ _ => pts_nil) (fun _ _ _ _ _ => pv 2)) pa_nil)))), ?_⟩
    obtain ⟨a, xs, rfl, hs, hd⟩ := tup_dp hv
    have hxl : xs.length = rs.length := by
      have := dps_len hd
      rw [List.length_map] at this
      exact this
    have p1 := ok.pos
    have p2 := ok.few
    refine ⟨_, rfl, _, _, _, _, _, rfl, .ty _, tyx_tup hs, kit_ty (r := true) (by decide +kernel), true, rfl, iteF ?_⟩
    refine ⟨_, rfl, a, xs, rfl, .inr hs, 1, _, rfl, rfl, _, rfl, itT (decide_eq_true (by omega)) ⟨_, _, rfl, rfl, _, rfl, itF (by rw [decide_eq_true (by omega)]; rfl) ?_⟩⟩
    refine ⟨_, rfl, a, rfl, ⟨_, hs⟩, fun D hD => ?_⟩
    refine lc_it walk_tup (LcP (fun k v H => Dp K H v (.bool true)) (fun _ => true) H D) (.start hD) (fun i H hi hP => Same.tup hP.same hs) ?_ ?_
    · rintro i v H2 H3 hi hP ⟨rfl, hx⟩
      obtain ⟨r, h1, h2⟩ := rts_at hd hx
      refine ⟨rfl, _, rfl, v, r, rfl, dp_same hP.same _ _ h2, ok.pat r (List.mem_of_getElem? h1), fun H4 s4 => ?_⟩
      exact LcP.add hD (dp_stay fun _ => by unfold noL; rfl) hP s4 (by omega) rfl (.bl true)
    · intro H2 hP
      refine ⟨D, _, rfl, LcP.bools (b := fun _ => true) hP, ?_⟩
      have e4 : ((List.range xs.length).map fun _ => true).all id = true := by
        rw [List.all_eq_true]
        intro y hy
        obtain ⟨_, _, rfl⟩ := List.mem_map.mp hy
        rfl
      rw [e4]
      refine ⟨true, rfl, iteF ?_⟩
      have hs2 : SqT K H2 a xs := Same.tup hP.same hs
      have hd2 : DpAll K H2 xs (rs.map rtD) := dps_same hP.same _ _ hd
      refine ⟨_, rfl, a, rfl, ⟨_, hs2⟩, fun D2 hD2 => ?_⟩
      refine lc_it walk_tup (LcP (fun k v H => Dp K H v (.str (rS (rs.getD k ⟨0, true, []⟩).nm))) (fun _ => true) H2 D2) (.start hD2) (fun i H hi hP => Same.tup hP.same hs2) ?_ ?_
      · rintro i v H3 H4 hi hP3 ⟨rfl, hx⟩
        obtain ⟨r, h1, h2⟩ := rts_at hd2 hx
        obtain ⟨t, rfl, ht⟩ := rt_dp (dp_same hP3.same _ _ h2)
        refine ⟨t, _, rfl, ht, rfl, _, _, rfl, _, _, rfl, _, _, rfl, rfl, rfl, _, rfl, ?_⟩
        refine LcP.add hD2 (dp_stay fun _ => by unfold noL; rfl) hP3 (Same.refl _) (by omega) rfl ?_
        show Dp K H4 _ (.str (rS (rs.getD i ⟨0, true, []⟩).nm))
        rw [getD_of h1]
        exact .str _
      · intro H3 hP3
        have e : (List.range xs.length).map (fun k => rS (rs.getD k ⟨0, true, []⟩).nm) = (rs.map (·.nm)).map rS := by rw [hxl, map_range rs (fun r => rS r.nm), List.map_map]; rfl
        refine ⟨D2, _, rfl, hP3.strs, ?_, ?_, ?_⟩
        · rw [e]; exact rS_nd ok.nd
        · rw [e, List.length_map, List.length_map]; omega
        · exact q _ (hP.same.trans hP3.same)
def spNeedR (K : PySem.W.Frag) : Sp := fun vs H Q _ => ∃ (v : V) (rs : List Rt), vs = [v] ∧ Dp K H v (rtsD rs) ∧ OkRts rs ∧ ∀ H', Same H H' → Q .non H'
theorem scNeedR : FnScope ["thing"] ["thing"] (fnScope (tp 39)) := C8.fnScope_by (by decide +kernel)
theorem c_needR (cA : Cal P w K mg base 8 "are_routes" (spAre K) []) (F : Def K mg "need_routes" (tp 39) f fd) (b : Binds K fd ["thing"] []) : Cal P w K mg base 9 "need_routes" (spNeedR K) [] := by
  refine cal0 F b .nil scNeedR (fun vs H Q E h => ?_) (fun cdv A outer s H vs Q E hr h => ?_)
  · obtain ⟨v, r, rfl, _⟩ := h
    rfl
  · obtain ⟨v, rs, rfl, hv, ok, q⟩ := h
    refine ⟨_, pss_one (ps_if (pt_not (pt_val (pe_c cA hr (by decide) (by rfl) (pa_cons (pv 0) pa_nil)))) (pss_one ps_never) pss_nil), ?_⟩
    exact ⟨_, rfl, v, rs, rfl, hv, ok, fun H1 s1 => ⟨true, rfl, iteF (q _ s1)⟩⟩
def spNeedV : Sp := fun vs H Q _ => ∃ (b : Bool), vs = [.str (vS b)] ∧ Q .non H
theorem scNeedV : FnScope ["thing"] ["thing"] (fnScope (tp 40)) := C8.fnScope_by (by decide +kernel)
theorem c_needV (T : G7 K mg) (F : Def K mg "need_verb" (tp 40) f fd) (b : Binds K fd ["thing"] []) : Cal P w K mg base 1 "need_verb" spNeedV [] := by
  refine cal0 F b .nil scNeedV (fun vs H Q E h => ?_) (fun cdv A outer s H vs Q E hr h => ?_)
  · obtain ⟨v, rfl, _⟩ := h
    rfl
  · obtain ⟨b, rfl, q⟩ := h
    obtain ⟨av, gV, hV⟩ := T.VERBS
    refine ⟨_, pss_one (ps_if (PW.pt (pw_or (pt_not (pt_val (pe_callB call_isi (by rfl) T.isi (by decide +kernel) (pa_cons (pv 0) (pa_cons (pe_bltn (v := .ty "str") (by rfl) T.str boot_str rfl) pa_nil)))))
      (pw_or1 (pt_cmpR op_notIn_seq (pv 0) (pe_gc (by rfl) gV) (by rfl))))) (pss_one ps_never) pss_nil), ?_⟩
    refine ⟨_, rfl, _, _, _, _, _, rfl, .ty _, .base (.str _), kit_ty (r := true) (by decide +kernel), true, rfl, iteF ?_⟩
    exact ⟨_, rfl, av, _, rfl, .inr (hV H), rfl, rfl, _, rfl, itF (by show (!inV (V.str (vS b)) _) = false; rw [verb_in]; rfl) q⟩
def spNeedP : Sp := fun vs H Q _ => ∃ ws : List (Fin 10), vs = [.str (pthS ws)] ∧ ws.length ≤ 5 ∧ ∀ H', Same H H' → Q .non H'
theorem scNeedP : FnScope ["thing"] ["thing"] (fnScope (tp 41)) := C8.fnScope_by (by decide +kernel)
theorem c_needP (cA : Cal P w K mg base 6 "is_path" spPath []) (F : Def K mg "need_path" (tp 41) f fd) (b : Binds K fd ["thing"] []) : Cal P w K mg base 7 "need_path" spNeedP [] := by
  refine cal0 F b .nil scNeedP (fun vs H Q E h => ?_) (fun cdv A outer s H vs Q E hr h => ?_)
  · obtain ⟨v, rfl, _⟩ := h
    rfl
  · obtain ⟨ws, rfl, hl, q⟩ := h
    refine ⟨_, pss_one (ps_if (pt_not (pt_val (pe_c cA hr (by decide) (by rfl) (pa_cons (pv 0) pa_nil)))) (pss_one ps_never) pss_nil), ?_⟩
    exact ⟨_, rfl, ws, rfl, hl, fun H1 s1 => ⟨true, rfl, iteF (q _ s1)⟩⟩
end
end K7

set_option maxRecDepth 100000
set_option maxHeartbeats 4000000
/-! K7G: kinds_of, is_met_part, is_met, values_in. -/
namespace K7
open PySem PySem.Spec PyProof.Rows L2
open C8 (Def Cal CalAt cal0 pe_c pe_gc fnScope fnBody fnArgs)
def metP : Pt → Fin 10 → Bool
  | .w j, i => decide (j = i)
  | .h _ false, _ => true
  | .h _ true, i => (numW i).isSome
def met (ps : List Pt) (ws : List (Fin 10)) : Bool := decide (ps.length = ws.length) && (ps.zip ws).all fun q => metP q.1 q.2
theorem wS_inj {a b : Fin 10} (h : wS a = wS b) : a = b := by revert a b; decide +kernel
theorem numV_some (i : Fin 10) : (!decide (numV i = V.non)) = (numW i).isSome := by revert i; decide +kernel
def numD (i : Fin 10) : PyData := match numW i with | some n => .int n | none => .none
theorem numV_dp {K : PySem.W.Frag} {H : Hp} (i : Fin 10) : Dp K H (numV i) (numD i) := by
  unfold numV numD
  cases numW i with
  | none => exact .non
  | some n => exact .int n
/-- a hole's name, whether it is a number's, the word -/
abbrev Vl := Fin 6 × Bool × Fin 10
def valsL (ps : List Pt) (ws : List (Fin 10)) : List Vl := (ps.zip ws).filterMap fun q => match q.1 with | .w _ => none | .h n b => some (n, b, q.2)
def vlD (x : Vl) : PyData := .tuple [.str (nS x.1), if x.2.1 = true then numD x.2.2 else .str (wS x.2.2)]
section
variable {P : Program} {w : World} {K : PySem.W.Frag} {mg : Str → Option Value} {base : Heap} {f : Addr} {fd : FuncData} {bs : List Value}
theorem pts_dp {H : Hp} {v : V} {ps : List Pt} (h : Dp K H v (ptsD ps)) : ∃ a, v = .ref a ∧ SqT K H a (ps.map fun p => V.str (ptS p)) := by
  have e : ptsD ps = .tuple ((ps.map ptS).map PyData.str) := by unfold ptsD; rw [List.map_map]; rfl
  rw [e] at h
  obtain ⟨a, e2, h2⟩ := tup_strs h
  rw [List.map_map] at h2
  exact ⟨a, e2, h2⟩
theorem map_at {α : Type} {ps : List α} {g : α → V} {i : Nat} {v : V} (h : (ps.map g)[i]? = some v) : ∃ p, ps[i]? = some p ∧ v = g p := by
  rw [List.getElem?_map] at h
  cases e : ps[i]? with
  | none => rw [e] at h; cases h
  | some p => rw [e] at h; exact ⟨p, rfl, (Option.some.inj h).symm⟩
theorem take_snoc {α : Type} {ps : List α} {i : Nat} {p : α} (h : ps[i]? = some p) : ps.take (i + 1) = ps.take i ++ [p] := by rw [List.take_add_one, h] <;> rfl
theorem but_upd {H : Hp} {o : Addr} {u : HO} : But o H (upd H o u) := fun b x h n => by rw [upd_ne n]; exact h
theorem pW_len (ws : List (Fin 10)) : (pW ws).length = ws.length := List.length_map ..
def spKinds : Sp := fun vs H Q _ => ∃ ps : List Pt, vs = [.str (patS ps)] ∧ ps.length ≤ 5 ∧ ∀ H' p, Same H H' → H p = none → H' p = some (.lst ((ps.map knd).map V.int)) → Q (.ref p) H'
theorem scKinds : FnScope ["pattern", "found", "part", "hole"] ["pattern"] (fnScope (tp 42)) := C8.fnScope_by (by decide +kernel)
theorem c_kinds (T : G7 K mg) (cP : Cal P w K mg base 1 "parts_of" (spParts K) []) (cH : Cal P w K mg base 3 "hole_in" (spHole K) [])
    (F : Def K mg "kinds_of" (tp 42) f fd) (b : Binds K fd ["pattern"] []) : Cal P w K mg base 4 "kinds_of" spKinds [] := by
  refine cal0 F b .nil scKinds (fun vs H Q E h => ?_) (fun cdv A outer s H vs Q E hr h => ?_)
  · obtain ⟨ps, rfl, _⟩ := h
    rfl
  · obtain ⟨ps, rfl, hl, q⟩ := h
    refine ⟨_, pss_cons (ps_set (i := 1) scKinds.nd rfl (.inl rfl) (pe_lst pa_nil))
      (pss_cons (ps_for PassesOwn.never rfl (pi_tup (pe_c cP hr (by decide) (by rfl) (pa_cons (pv 0) pa_nil))) (pg_name (i := 2) scKinds.nd rfl (.inl rfl))
        (pss_cons (ps_set (i := 3) scKinds.nd rfl (.inl rfl) (pe_c cH hr (by decide) (by rfl) (pa_cons (pv 2) pa_nil)))
        (pss_one (ps_expr (pe_bm PySem.F.plainAttrs_list PySem.F.slot_list_append PySem.F.type_list_append mt_append (pv 1) (pa_cons (pe_ifExp (pt_cmpR op_isN (pv 3) pe_non (nomark _)) (pe_gc (by rfl) T.WORD) (pe_ix ix_tup (pv 3) pe_int (fun _ _ => rfl))) pa_nil))))))
      (pss_one (ps_ret (pv 1)))), ?_⟩
    refine ⟨Nat.zero_le _, fun o no => ?_⟩
    refine ⟨_, rfl, ps, rfl, hl, fun H1 v s1 hv => ?_⟩
    obtain ⟨a, rfl, hs⟩ := pts_dp hv
    have so : Same H H1 := (same_new no).trans s1
    have h1o : H1 o = some (.lst []) := s1 _ _ upd_same
    refine ⟨a, rfl, ⟨_, hs⟩, for_it walk_tup (fun i σ H2 => ∃ v2 v3, σ = [some (.str (patS ps)), some (.ref o), v2, v3] ∧ Same H H2 ∧ SqT K H2 a (ps.map fun p => V.str (ptS p)) ∧ H2 o = some (.lst (((ps.take i).map knd).map V.int)))
      ⟨none, none, rfl, so, hs, h1o⟩ (fun i σ H2 _ ⟨_, _, _, _, q, _⟩ => q) ?_ ?_⟩
    · rintro i v σ H2 H3 hi ⟨v2, v3, rfl, s2, hs2, ho⟩ ⟨rfl, hx⟩
      obtain ⟨p, hp, rfl⟩ := map_at hx
      refine ⟨_, rfl, p, rfl, fun H4 v4 s4 hv4 => ?_⟩
      have ho4 := s4 _ _ ho
      have step : ∀ z : Int, z = knd p → (∃ l xs y, V.ref o = V.ref l ∧ [V.int z] = [y] ∧ H4 l = some (.lst xs) ∧ xs.length < sizeLine ∧ ∃ v2 v3, [some (V.str (patS ps)), some (V.ref o), some (V.str (ptS p)), some v4] = [some (.str (patS ps)), some (.ref o), v2, v3] ∧ Same H (upd H4 l (.lst (xs ++ [y]))) ∧ SqT K (upd H4 l (.lst (xs ++ [y]))) a (ps.map fun p => V.str (ptS p)) ∧ (upd H4 l (.lst (xs ++ [y]))) o = some (.lst (((ps.take (i + 1)).map knd).map V.int))) := by
        intro z hz
        refine ⟨o, _, _, rfl, rfl, ho4, ?_, _, _, rfl, ?_, ?_, ?_⟩
        · rw [List.length_map, List.length_map, List.length_take]
          exact small1000 (by omega)
        · intro b u e
          rw [upd_ne (ne_of_none e no)]
          exact s4 _ _ (s2 _ _ e)
        · exact But.tup but_upd ho4 (Same.tup s4 hs2)
        · rw [upd_same, take_snoc hp, List.map_append, List.map_append, hz]
          rfl
      refine ⟨_, rfl, .inl ⟨rfl, _, SqL.of ho4⟩, _, rfl, rfl, _, rfl, ?_⟩
      cases p with
      | w j =>
        rw [hole_non hv4]
        exact iteT (by
          have := step 0 rfl
          rw [hole_non hv4] at this
          exact this)
      | h n bb =>
        obtain ⟨t, rfl, ht⟩ := hole_ref hv4
        exact iteF ⟨_, rfl, t, _, 1, _, rfl, rfl, ht, rfl, step _ rfl⟩
    · rintro σ H2 ⟨v2, v3, rfl, s2, hs2, ho⟩
      refine ⟨_, rfl, ?_⟩
      rw [List.length_map, List.take_length] at ho
      exact q H2 o s2 no ho
def spMetP : Sp := fun vs H Q _ => ∃ (p : Pt) (i : Fin 10), vs = [.str (ptS p), .str (wS i)] ∧ ∀ H', Same H H' → Q (.bl (metP p i)) H'
theorem scMetP : FnScope ["part", "word", "hole"] ["part", "word"] (fnScope (tp 43)) := C8.fnScope_by (by decide +kernel)
theorem c_metP (T : G7 K mg) (cH : Cal P w K mg base 3 "hole_in" (spHole K) []) (cN : Cal P w K mg base 2 "number_in" spNumIn [])
    (F : Def K mg "is_met_part" (tp 43) f fd) (b : Binds K fd ["part", "word"] []) : Cal P w K mg base 4 "is_met_part" spMetP [] := by
  refine cal0 F b .nil scMetP (fun vs H Q E h => ?_) (fun cdv A outer s H vs Q E hr h => ?_)
  · obtain ⟨p, i, rfl, _⟩ := h
    rfl
  · obtain ⟨p, i, rfl, q⟩ := h
    refine ⟨_, pss_cons (ps_set (i := 2) scMetP.nd rfl (.inl rfl) (pe_c cH hr (by decide) (by rfl) (pa_cons (pv 0) pa_nil)))
      (pss_cons (ps_if (pt_cmpR op_isN (pv 2) pe_non (nomark _)) (pss_one (ps_ret (pe_cmpR op_eq (pv 0) (pv 1) (nomark _)))) pss_nil)
      (pss_one (ps_ret (pe_or (pe_cmpR op_eq (pe_ix ix_tup (pv 2) pe_int (fun _ _ => rfl)) (pe_gc (by rfl) T.ANY) (nomark _)) (pe_one (pe_cmpR op_notN (pe_c cN hr (by decide) (by rfl) (pa_cons (pv 1) pa_nil)) pe_non (nomark _))))))), ?_⟩
    refine ⟨_, rfl, p, rfl, fun H1 v s1 hv => ?_⟩
    refine ⟨_, rfl, rfl, _, rfl, ?_⟩
    cases p with
    | w j =>
      rw [hole_non hv]
      refine iteT ⟨_, rfl, _, rfl, rfl, ?_⟩
      have e : decide (V.str (ptS (.w j)) = V.str (wS i)) = metP (.w j) i := decide_eq_decide.mpr ⟨fun e => wS_inj (V.str.inj e), fun e => by rw [e]; rfl⟩
      rw [e]
      exact q _ s1
    | h n bb =>
      obtain ⟨t, rfl, ht⟩ := hole_ref hv
      refine iteF ⟨_, rfl, t, _, 1, _, rfl, rfl, ht, rfl, rfl, _, rfl, ?_⟩
      cases bb with
      | false => exact iteT (q _ s1)
      | true =>
        refine iteF ⟨_, rfl, i, rfl, fun H2 s2 => ⟨rfl, ?_⟩⟩
        rw [numV_some]
        exact q _ (s1.trans s2)
def spMet : Sp := fun vs H Q _ => ∃ (ps : List Pt) (ws : List (Fin 10)), vs = [.str (patS ps), .str (pthS ws)] ∧ ps.length ≤ 5 ∧ ws.length ≤ 5 ∧ ∀ H', Same H H' → Q (.bl (met ps ws)) H'
theorem scMet : FnScope ["pattern", "path", "parts", "words", "part", "word"] ["pattern", "path"] (fnScope (tp 44)) := C8.fnScope_by (by decide +kernel)
theorem zip_all {ps : List Pt} {ws : List (Fin 10)} {n : Nat} (hn : n = min ps.length ws.length) : ((List.range n).map fun k => metP (ps.getD k (.w 0)) (ws.getD k 0)).all id = (ps.zip ws).all fun q => metP q.1 q.2 := by
  have hz : n = (ps.zip ws).length := by rw [List.length_zip]; exact hn
  rw [hz]
  refine range_get_all (ps.zip ws) (fun q => metP q.1 q.2) _ fun i x hx => ?_
  rw [List.getElem?_zip_eq_some] at hx
  rw [getD_of hx.1, getD_of hx.2]
theorem c_met (T : G7 K mg) (cP : Cal P w K mg base 1 "parts_of" (spParts K) []) (cM : Cal P w K mg base 4 "is_met_part" spMetP [])
    (F : Def K mg "is_met" (tp 44) f fd) (b : Binds K fd ["pattern", "path"] []) : Cal P w K mg base 5 "is_met" spMet [] := by
  refine cal0 F b .nil scMet (fun vs H Q E h => ?_) (fun cdv A outer s H vs Q E hr h => ?_)
  · obtain ⟨p, i, rfl, _⟩ := h
    rfl
  · obtain ⟨ps, ws, rfl, hl, hw, q⟩ := h
    refine ⟨_, pss_cons (ps_par (i := 2) (j := 3) (by rfl) scMet.nd rfl rfl (by decide) rfl rfl (pa_cons (pe_c cP hr (by decide) (by rfl) (pa_cons (pv 0) pa_nil)) (pa_cons (pe_c cP hr (by decide) (by rfl) (pa_cons (pv 1) pa_nil)) pa_nil)) (by rfl))
      (pss_one (ps_ret (pe_and (pe_cmpR op_eq (pe_callB call_len_seq (by rfl) T.len boot_len (pa_cons (pv 2) pa_nil)) (pe_callB call_len_seq (by rfl) T.len boot_len (pa_cons (pv 3) pa_nil)) (nomark _))
        (pe_one (pe_callB (cr_all (by rfl)) (by rfl) T.all (by decide +kernel) (pa_cons (pe_lc (own := [("part", 4), ("word", 5)]) (g := g2 K 4 5) (tt := tYes) (by rfl) scMet.nd (RZ.pi_zipA (by rfl) T.zip (pa_cons (pv 2) (pa_cons (pv 3) pa_nil)))
          (blkOk_by (own := [("part", 4), ("word", 5)]) (N := ["pattern", "path", "parts", "words", "part", "word"]) (sc := fnScope (tp 44)) (by decide +kernel))
          (fun _ _ _ _ _ => pg_tup (by rfl) (pgs_cons (pg_name (i := 4) scMet.nd rfl (Or.inl rfl)) (pgs_cons (pg_name (i := 5) scMet.nd rfl (Or.inl rfl)) pgs_nil))) (fun _ _ _ _ _ => pts_nil) (fun _ _ _ _ _ => pe_c cM hr (by decide) (by rfl) (pa_cons (pv 4) (pa_cons (pv 5) pa_nil)))) pa_nil)))))), ?_⟩
    refine ⟨_, rfl, ps, rfl, hl, fun H1 v1 s1 hv1 => ⟨_, rfl, pW ws, rfl, by rw [pW_len]; exact hw, fun H2 v2 s2 hv2 => ⟨_, _, rfl, ?_⟩⟩⟩
    obtain ⟨a, rfl, ha⟩ := pts_dp (dp_same s2 _ _ hv1)
    obtain ⟨c, rfl, hc⟩ := pts_dp hv2
    refine ⟨_, rfl, a, _, rfl, .inr ha, _, rfl, c, _, rfl, .inr hc, rfl, _, rfl, ?_⟩
    have e1 : decide (V.int ((ps.map fun p => V.str (ptS p)).length : Nat) = V.int (((pW ws).map fun p => V.str (ptS p)).length : Nat)) = decide (ps.length = ws.length) := by
      rw [List.length_map, List.length_map, pW_len]
      exact decide_eq_decide.mpr ⟨fun e => by have := V.int.inj e; omega, fun e => by rw [e]⟩
    have qq := q
    unfold met at qq
    show if decide (V.int ((ps.map fun p => V.str (ptS p)).length : Nat) = V.int (((pW ws).map fun p => V.str (ptS p)).length : Nat)) = true then _ else _
    rw [e1]
    cases e : decide (ps.length = ws.length) with
    | false =>
      refine iteF ?_
      have z := qq H2 (s1.trans s2)
      rw [e, Bool.false_and] at z
      exact z
    | true =>
      refine iteT ⟨_, rfl, _, rfl, a, c, _, _, rfl, .inr ⟨ha, hc, fun D hD => ?_⟩⟩
      have hn : ps.length = min (ps.map fun p => V.str (ptS p)).length ((pW ws).map fun p => V.str (ptS p)).length := by
        have := of_decide_eq_true e
        rw [List.length_map, List.length_map, pW_len]
        omega
      refine lc_it (walk_zipT hn) (LcP (fun k v H => Dp K H v (.bool (metP (ps.getD k (.w 0)) (ws.getD k 0)))) (fun _ => true) H2 D) (.start hD) (fun i H hi hP => ⟨Same.tup hP.same ha, Same.tup hP.same hc⟩) ?_ ?_
      · rintro i v H3 H4 hi hP ⟨t, x, y, rfl, hT, rfl, hx, hy⟩
        obtain ⟨p, hp, rfl⟩ := map_at hx
        obtain ⟨r, hr2, rfl⟩ := map_at hy
        obtain ⟨j, hj, rfl⟩ : ∃ j, ws[i]? = some j ∧ r = .w j := by
          unfold pW at hr2
          rw [List.getElem?_map] at hr2
          cases e : ws[i]? with
          | none => rw [e] at hr2; cases hr2
          | some j => rw [e] at hr2; exact ⟨j, rfl, (Option.some.inj hr2).symm⟩
        refine ⟨t, _, rfl, SqT.of upd_same, rfl, _, _, rfl, _, _, rfl, rfl, rfl, ?_⟩
        refine ⟨_, rfl, _, rfl, p, j, rfl, fun H5 s5 => ?_⟩
        refine LcP.add hD (dp_stay fun _ => by unfold noL; rfl) hP ((same_new hT).trans s5) (by omega) rfl ?_
        show Dp K H5 _ (.bool (metP (ps.getD i (.w 0)) (ws.getD i 0)))
        rw [getD_of hp, getD_of hj]
        exact .bl _
      · intro H3 hP
        refine ⟨D, _, rfl, LcP.bools (b := fun k => metP (ps.getD k (.w 0)) (ws.getD k 0)) hP, ?_⟩
        have z := qq H3 (s1.trans (s2.trans hP.same))
        rw [e, Bool.true_and, ← zip_all (n := ps.length) (by have := of_decide_eq_true e; omega)] at z
        exact z
theorem vlD_noL (x : Vl) : noL (vlD x) = true := by
  obtain ⟨n, b, i⟩ := x
  cases b with
  | false => simp [vlD, noL, noLs]
  | true =>
    simp only [vlD, if_true, noL, noLs, numD]
    cases numW i <;> simp [noL]
theorem vls_noL : ∀ l : List Vl, noLs (l.map vlD) = true
  | [] => by simp [noLs]
  | x :: l => by rw [List.map_cons, noLs, vlD_noL, vls_noL l]; rfl
def spVals (K : PySem.W.Frag) : Sp := fun vs H Q _ => ∃ (ps : List Pt) (ws : List (Fin 10)), vs = [.str (patS ps), .str (pthS ws)] ∧ ps.length ≤ 5 ∧ ws.length ≤ 5 ∧
  ∀ H' l ys, Same H H' → FrzT H' l ys → DpAll K H' ys ((valsL ps ws).map vlD) → Q (.ref l) H'
theorem scVals : FnScope ["pattern", "path", "found", "part", "word", "hole"] ["pattern", "path"] (fnScope (tp 45)) := C8.fnScope_by (by decide +kernel)
theorem vals_take {ps : List Pt} {ws : List (Fin 10)} {i : Nat} {p : Pt} {j : Fin 10} (hp : ps[i]? = some p) (hj : ws[i]? = some j) :
    valsL (ps.take (i + 1)) (ws.take (i + 1)) = valsL (ps.take i) (ws.take i) ++ (match p with | .w _ => [] | .h n b => [(n, b, j)]) := by
  unfold valsL
  have e : (ps.take (i + 1)).zip (ws.take (i + 1)) = (ps.take i).zip (ws.take i) ++ [(p, j)] := by
    rw [take_snoc hp, take_snoc hj, List.zip_append]
    · rfl
    · have h1 := (List.getElem?_eq_some_iff.mp hp).1
      have h2 := (List.getElem?_eq_some_iff.mp hj).1
      rw [List.length_take, List.length_take]
      omega
  rw [e, List.filterMap_append]
  cases p <;> rfl
theorem c_vals (T : G7 K mg) (cP : Cal P w K mg base 1 "parts_of" (spParts K) []) (cH : Cal P w K mg base 3 "hole_in" (spHole K) []) (cN : Cal P w K mg base 2 "number_in" spNumIn [])
    (F : Def K mg "values_in" (tp 45) f fd) (b : Binds K fd ["pattern", "path"] []) : Cal P w K mg base 4 "values_in" (spVals K) [] := by
  refine cal0 F b .nil scVals (fun vs H Q E h => ?_) (fun cdv A outer s H vs Q E hr h => ?_)
  · obtain ⟨p, i, rfl, _⟩ := h
    rfl
  · obtain ⟨ps, ws, rfl, hl, hw, q⟩ := h
    refine ⟨_, pss_cons (ps_set (i := 2) scVals.nd rfl (.inl rfl) (pe_lst pa_nil))
      (pss_cons (ps_for PassesOwn.never rfl (RZ.pi_zipA (by rfl) T.zip (pa_cons (pe_c cP hr (by decide) (by rfl) (pa_cons (pv 0) pa_nil)) (pa_cons (pe_c cP hr (by decide) (by rfl) (pa_cons (pv 1) pa_nil)) pa_nil)))
          (pg_tup (by rfl) (pgs_cons (pg_name (i := 3) scVals.nd rfl (.inl rfl)) (pgs_cons (pg_name (i := 4) scVals.nd rfl (.inl rfl)) pgs_nil)))
        (pss_cons (ps_set (i := 5) scVals.nd rfl (.inl rfl) (pe_c cH hr (by decide) (by rfl) (pa_cons (pv 3) pa_nil)))
        (pss_one (ps_if (pt_cmpR op_notN (pv 5) pe_non (nomark _))
          (pss_one (ps_expr (pe_bm PySem.F.plainAttrs_list PySem.F.slot_list_append PySem.F.type_list_append mt_append (pv 2) (pa_cons (pe_tup (pa_cons (pe_ix ix_tup (pv 5) pe_int (fun _ _ => rfl))
            (pa_cons (pe_ifExp (pt_cmpR op_eq (pe_ix ix_tup (pv 5) pe_int (fun _ _ => rfl)) (pe_gc (by rfl) T.NUMBER) (nomark _)) (pe_c cN hr (by decide) (by rfl) (pa_cons (pv 4) pa_nil)) (pv 4)) pa_nil))) pa_nil)))) pss_nil))))
      (pss_one (ps_ret (pe_callTy call_tuple_frz (by rfl) T.tuple (by decide +kernel) (pa_cons (pv 2) pa_nil))))), ?_⟩
    refine ⟨Nat.zero_le _, fun o no => ?_⟩
    refine ⟨_, rfl, ps, rfl, hl, fun H1 v1 s1 hv1 => ⟨_, rfl, pW ws, rfl, by rw [pW_len]; exact hw, fun H2 v2 s2 hv2 => ?_⟩⟩
    obtain ⟨a, rfl, ha⟩ := pts_dp (dp_same s2 _ _ hv1)
    obtain ⟨c, rfl, hc⟩ := pts_dp hv2
    have so : Same H H2 := (same_new no).trans (s1.trans s2)
    have h2o : H2 o = some (.lst []) := s2 _ _ (s1 _ _ upd_same)
    have hn : min ps.length ws.length = min (ps.map fun p => V.str (ptS p)).length ((pW ws).map fun p => V.str (ptS p)).length := by rw [List.length_map, List.length_map, pW_len]
    refine ⟨a, c, _, _, rfl, .inr ⟨ha, hc, for_it (walk_zipT hn) (fun i σ H3 => ∃ v3 v4 v5 ys, σ = [some (.str (patS ps)), some (.str (pthS ws)), some (.ref o), v3, v4, v5] ∧ Same H H3 ∧ SqT K H3 a (ps.map fun p => V.str (ptS p)) ∧ SqT K H3 c ((pW ws).map fun p => V.str (ptS p)) ∧
        H3 o = some (.lst ys) ∧ DpAll K H3 ys ((valsL (ps.take i) (ws.take i)).map vlD))
      ⟨none, none, none, [], rfl, so, ha, hc, h2o, .nil⟩ (fun i σ H3 _ ⟨_, _, _, _, _, _, q1, q2, _⟩ => ⟨q1, q2⟩) ?_ ?_⟩⟩
    · rintro i v σ H3 H4 hi ⟨v3, v4, v5, ys, rfl, s3, ha3, hc3, ho, hd⟩ ⟨t, x, y, rfl, hT, rfl, hx, hy⟩
      obtain ⟨p, hp, rfl⟩ := map_at hx
      obtain ⟨r, hr2, rfl⟩ := map_at hy
      obtain ⟨j, hj, rfl⟩ : ∃ j, ws[i]? = some j ∧ r = .w j := by
        unfold pW at hr2
        rw [List.getElem?_map] at hr2
        cases e : ws[i]? with
        | none => rw [e] at hr2; cases hr2
        | some j => rw [e] at hr2; exact ⟨j, rfl, (Option.some.inj hr2).symm⟩
      have st : Same H3 (upd H3 t (.tup [V.str (ptS p), V.str (ptS (.w j))])) := same_new hT
      refine ⟨t, _, rfl, SqT.of upd_same, rfl, _, _, rfl, _, _, rfl, rfl, ?_⟩
      refine ⟨_, rfl, p, rfl, fun H5 v6 s5 hv6 => ?_⟩
      have s35 := st.trans s5
      have ho5 := s35 _ _ ho
      have ha5 := Same.tup s35 ha3
      have hc5 := Same.tup s35 hc3
      have hd5 := dps_same s35 _ _ hd
      have tk := vals_take hp hj
      refine ⟨_, rfl, rfl, _, rfl, ?_⟩
      have hyl : ys.length ≤ 5 := by
        have e1 := dps_len hd
        rw [List.length_map] at e1
        have e2 : (valsL (ps.take i) (ws.take i)).length ≤ ((ps.take i).zip (ws.take i)).length := List.length_filterMap_le _ _
        rw [List.length_zip, List.length_take, List.length_take] at e2
        omega
      cases p with
      | w k =>
        rw [hole_non hv6]
        refine iteF ⟨_, _, _, ys, rfl, s3.trans s35, ha5, hc5, ho5, ?_⟩
        rw [tk, List.append_nil]
        exact hd5
      | h n bb =>
        obtain ⟨t2, rfl, ht2⟩ := hole_ref hv6
        have fin : ∀ (z : V) (d : PyData) (H6 : Hp), Same H5 H6 → Dp K H6 z d → vlD (n, bb, j) = .tuple [.str (nS n), d] → ∀ p2, H6 p2 = none → ∃ l xs y, V.ref o = V.ref l ∧ [V.ref p2] = [y] ∧ (upd H6 p2 (.tup [.str (nS n), z])) l = some (.lst xs) ∧ xs.length < sizeLine ∧
            ∃ v3 v4 v5 ys, [some (V.str (patS ps)), some (V.str (pthS ws)), some (V.ref o), some (V.str (ptS (.h n bb))), some (V.str (ptS (.w j))), some (V.ref t2)] = [some (.str (patS ps)), some (.str (pthS ws)), some (.ref o), v3, v4, v5] ∧ Same H (upd (upd H6 p2 (.tup [.str (nS n), z])) l (.lst (xs ++ [y]))) ∧
              SqT K (upd (upd H6 p2 (.tup [.str (nS n), z])) l (.lst (xs ++ [y]))) a (ps.map fun p => V.str (ptS p)) ∧ SqT K (upd (upd H6 p2 (.tup [.str (nS n), z])) l (.lst (xs ++ [y]))) c ((pW ws).map fun p => V.str (ptS p)) ∧
              (upd (upd H6 p2 (.tup [.str (nS n), z])) l (.lst (xs ++ [y]))) o = some (.lst ys) ∧ DpAll K (upd (upd H6 p2 (.tup [.str (nS n), z])) l (.lst (xs ++ [y]))) ys ((valsL (ps.take (i + 1)) (ws.take (i + 1))).map vlD) := by
          intro z d H6 s6 hz ev p2 hp2
          have s7 : Same H6 (upd H6 p2 (.tup [.str (nS n), z])) := same_new hp2
          have s57 := s6.trans s7
          have ho7 := s57 _ _ ho5
          refine ⟨o, ys, _, rfl, rfl, ho7, small1000 (by omega), _, _, _, ys ++ [.ref p2], rfl, ?_, ?_, ?_, upd_same, ?_⟩
          · intro b u e
            rw [upd_ne (ne_of_none e no)]
            exact s57 _ _ (s35 _ _ (s3 _ _ e))
          · exact But.tup but_upd ho7 (Same.tup s57 ha5)
          · exact But.tup but_upd ho7 (Same.tup s57 hc5)
          · rw [tk, List.map_append]
            refine dps_app (dps_but but_upd ho7 _ _ (vls_noL _) (dps_same s57 _ _ hd5)) (.cons ?_ .nil)
            refine dp_but but_upd ho7 _ _ (vlD_noL _) ?_
            rw [ev]
            exact .tup (SqT.of upd_same) (.cons (.str _) (.cons (dp_same s7 _ _ hz) .nil))
        refine iteT ⟨_, rfl, .inl ⟨rfl, _, SqL.of ho5⟩, _, rfl, t2, _, 0, _, rfl, rfl, ht2, rfl, _, rfl, t2, _, 1, _, rfl, rfl, ht2, rfl, rfl, _, rfl, ?_⟩
        cases bb with
        | true =>
          refine iteT ⟨_, rfl, j, rfl, fun H6 s6 => ⟨by show 2 ≤ sizeLine; decide, fun p2 hp2 => ?_⟩⟩
          exact fin _ (numD j) H6 s6 (numV_dp j) rfl p2 hp2
        | false =>
          refine iteF ⟨_, rfl, by show 2 ≤ sizeLine; decide, fun p2 hp2 => ?_⟩
          exact fin _ (.str (wS j)) H5 (Same.refl _) (.str _) rfl p2 hp2
    · rintro σ H3 ⟨v3, v4, v5, ys, rfl, s3, ha3, hc3, ho, hd⟩
      refine ⟨_, rfl, o, ys, rfl, SqL.of ho, fun l ob hl2 hob => ?_⟩
      have hd' : DpAll K H3 ys ((valsL ps ws).map vlD) := by
        have e : valsL (ps.take (min ps.length ws.length)) (ws.take (min ps.length ws.length)) = valsL ps ws := by
          unfold valsL
          rw [← List.zip_eq_zip_take_min]
        rw [e] at hd
        exact hd
      exact q _ l ys (s3.trans (same_new hl2)) ⟨ob, hob, upd_same⟩ (dps_same (same_new hl2) _ _ hd')
end
end K7

set_option maxRecDepth 100000
set_option maxHeartbeats 4000000
/-! K7H: found_in, found. -/
namespace K7
open PySem PySem.Spec PyProof.Rows L2
open PySem.W (Datum DatumOrd minOf)
open C8 (Def Cal CalAt cal0 pe_c pe_gc fnScope fnBody fnArgs)
abbrev r0 : Rt := ⟨0, true, []⟩
/-- the places of the routes of a verb that a path meets -/
def candB (rs : List Rt) (vb : Bool) (ws : List (Fin 10)) (k : Nat) : Bool := decide (V.str (vS (rs.getD k r0).get) = V.str (vS vb)) && met (rs.getD k r0).pat ws
def keyK (rs : List Rt) (k : Nat) : Ky := ((rs.getD k r0).pat.map knd, (k : Int))
def candK (rs : List Rt) (vb : Bool) (ws : List (Fin 10)) : List Ky := ((List.range rs.length).filter (candB rs vb ws)).map (keyK rs)
abbrev Fd := Option (Fin 11 × List Vl)
def fdAt (rs : List Rt) (ws : List (Fin 10)) (k : Nat) : Fin 11 × List Vl := ((rs.getD k r0).nm, valsL (rs.getD k r0).pat ws)
def foundA (rs : List Rt) (vb : Bool) (ws : List (Fin 10)) : Fd := match candK rs vb ws with
  | [] => none
  | x :: xs => some (fdAt rs ws (minOf x xs).2.toNat)
def fdD : Fd → PyData
  | none => .none
  | some (n, l) => .tuple [.str (rS n), .tuple (l.map vlD)]
/-- what found hands back -/
def FdAt (K : PySem.W.Frag) (H : Hp) (v : V) : Fd → Prop
  | none => v = .non
  | some (n, l) => ∃ t a ys, v = .ref t ∧ SqT K H t [.str (rS n), .ref a] ∧ FrzT H a ys ∧ DpAll K H ys (l.map vlD)
section
variable {P : Program} {w : World} {K : PySem.W.Frag} {mg : Str → Option Value} {base : Heap} {f : Addr} {fd : FuncData} {bs : List Value}
theorem FdAt.dp {H : Hp} {v : V} {x : Fd} (h : FdAt K H v x) : Dp K H v (fdD x) := by
  cases x with
  | none => rw [show v = .non from h]; exact .non
  | some q =>
    obtain ⟨n, l⟩ := q
    obtain ⟨t, a, ys, rfl, h1, h2, h3⟩ := h
    exact .tup h1 (.cons (.str _) (.cons (.tup h2.sq h3) .nil))
theorem FdAt.same {H H' : Hp} {v : V} {x : Fd} (e : Same H H') (h : FdAt K H v x) : FdAt K H' v x := by
  cases x with
  | none => exact h
  | some q =>
    obtain ⟨n, l⟩ := q
    obtain ⟨t, a, ys, e1, h1, h2, h3⟩ := h
    exact ⟨t, a, ys, e1, Same.tup e h1, h2.same e, dps_same e _ _ h3⟩
theorem FdAt.but {p : Addr} {ps : List V} {H H' : Hp} {v : V} {x : Fd} (e : But p H H') (hp : H p = some (.lst ps)) (h : FdAt K H v x) : FdAt K H' v x := by
  cases x with
  | none => exact h
  | some q =>
    obtain ⟨n, l⟩ := q
    obtain ⟨t, a, ys, e1, h1, h2, h3⟩ := h
    exact ⟨t, a, ys, e1, e.tup hp h1, h2.but e hp, dps_but e hp _ _ (vls_noL l) h3⟩
def spFoundIn (K : PySem.W.Frag) : Sp := fun vs H Q _ => ∃ (v : V) (rs : List Rt) (vb : Bool) (ws : List (Fin 10)), vs = [v, .str (vS vb), .str (pthS ws)] ∧ Dp K H v (rtsD rs) ∧ OkRts rs ∧ ws.length ≤ 5 ∧
  ∀ H' u, Same H H' → FdAt K H' u (foundA rs vb ws) → Q u H'
theorem scFoundIn : FnScope ["routes", "verb", "path", "at", "some", "kinds", "route"] ["routes", "verb", "path"] (fnScope (tp 46)) := C8.fnScope_by (by decide +kernel)
/-- an item of the comprehension: (kinds, place) -/
def KeyAt (rs : List Rt) (D : Addr) (k : Nat) (y : V) (H : Hp) : Prop := ∃ t p, y = .ref t ∧ H t = some (.tup [.ref p, .int (k : Int)]) ∧ H p = some (.lst (((rs.getD k r0).pat.map knd).map V.int)) ∧ p ≠ D
theorem keyAt_stay (rs : List Rt) (D : Addr) : Stay (KeyAt rs D) D := fun k y H H' ps hD b ⟨t, p, e, h1, h2, h3⟩ =>
  ⟨t, p, e, b _ _ h1 (fun z => by rw [z, hD] at h1; cases h1), b _ _ h2 h3, h3⟩
theorem keyAt_keep (rs : List Rt) (D : Addr) : ∀ k y H H', Same H H' → KeyAt rs D k y H → KeyAt rs D k y H' := fun k y H H' e ⟨t, p, e1, h1, h2, h3⟩ => ⟨t, p, e1, e _ _ h1, e _ _ h2, h3⟩
theorem keys_dps {H : Hp} {rs : List Rt} {D : Addr} : ∀ {ks : List Nat} {ys : List V}, Paired (fun k y => KeyAt rs D k y H) ks ys → DpAll K H ys ((ks.map (keyK rs)).map Datum.toD)
  | _, _, .nil => .nil
  | _, _, .cons ⟨t, p, e, h1, h2, _⟩ r => by
    subst e
    exact .cons (.tup (SqT.of h1) (.cons (.lst (SqL.of h2) (dps_ints _)) (.cons (.int _) .nil))) (keys_dps r)
theorem ints_lay : ∀ l : List Int, PyData.canLayAll0 (l.map Datum.toD) = true
  | [] => by simp [PyData.canLayAll0]
  | x :: l => by
    rw [List.map_cons, PyData.canLayAll0, ints_lay l, Bool.and_true]
    show PyData.canLay0 (.int x) = true
    simp [PyData.canLay0]
theorem keys_lay : ∀ l : List Ky, PyData.canLayAll0 (l.map Datum.toD) = true
  | [] => by simp [PyData.canLayAll0]
  | x :: l => by
    rw [List.map_cons, PyData.canLayAll0, keys_lay l, Bool.and_true]
    show PyData.canLay0 (.tuple [.list (x.1.map Datum.toD), .int x.2]) = true
    simp [PyData.canLay0, PyData.canLayAll0, ints_lay]
theorem keys_shaped (l : List Ky) : SeqAt.shaped (Datum.toD l) = true := by
  show (PyData.canLay0 (Datum.toD l) && decide ((Datum.toD l).depth ≤ 64)) = true
  rw [Bool.and_eq_true]
  refine ⟨?_, decide_eq_true (Nat.le_trans (Datum.depth_le l) (by decide))⟩
  show PyData.canLay0 (.list (l.map Datum.toD)) = true
  simp [PyData.canLay0, keys_lay]
theorem c_foundIn (T : G7 K mg) (cK : Cal P w K mg base 4 "kinds_of" spKinds []) (cM : Cal P w K mg base 5 "is_met" spMet []) (cV : Cal P w K mg base 4 "values_in" (spVals K) [])
    (F : Def K mg "found_in" (tp 46) f fd) (b : Binds K fd ["routes", "verb", "path"] []) : Cal P w K mg base 6 "found_in" (spFoundIn K) [] := by
  refine cal0 F b .nil scFoundIn (fun vs H Q E h => ?_) (fun cdv A outer s H vs Q E hr h => ?_)
  · obtain ⟨v, rs, vb, ws, rfl, _⟩ := h
    rfl
  · obtain ⟨v, rs, vb, ws, rfl, hv, ok, hw, q⟩ := h
    refine ⟨_, pss_cons (ps_setLc (i := 4) (own := [("at", 3), ("route", 6)]) (g := g2 K 3 6) (by rfl) scFoundIn.nd rfl rfl (sw_true rfl rfl rfl (by decide +kernel)) (pi_enumT (by rfl) T.enum (pa_cons (pv 0) pa_nil))
        (blkOk_by (own := [("at", 3), ("route", 6)]) (N := ["routes", "verb", "path", "at", "some", "kinds", "route"]) (sc := fnScope (tp 46)) (by decide +kernel))
        (fun _ _ _ _ _ => pg_tup (by rfl) (pgs_cons (pg_name (i := 3) scFoundIn.nd rfl (Or.inl rfl)) (pgs_cons (pg_name (i := 6) scFoundIn.nd rfl (Or.inl rfl)) pgs_nil)))
        (fun _ _ _ _ _ => pts_one (PW.pt (pw_and (pt_cmpR op_eq (pe_ix (ixT K) (pv 6) pe_int (fun _ _ => rfl)) (pv 1) (nomark _)) (pw_and1 (pt_val (pe_c cM hr (by decide) (by rfl) (pa_cons (pe_ix (ixT K) (pv 6) pe_int (fun _ _ => rfl)) (pa_cons (pv 2) pa_nil))))))))
        (fun _ _ _ _ _ => pe_tup (pa_cons (pe_c cK hr (by decide) (by rfl) (pa_cons (pe_ix (ixT K) (pv 6) pe_int (fun _ _ => rfl)) pa_nil)) (pa_cons (pv 3) pa_nil))))
      (pss_cons (ps_if (pt_cmpR (op_eqD hr.units) (pv 4) (pe_lst pa_nil) (nomark _)) (pss_one (ps_ret pe_non)) pss_nil)
      (pss_cons (ps_asg (pe_callB (cr_minK (by rfl) hr) (by rfl) T.min (by decide +kernel) (pa_cons (pv 4) pa_nil)) (pg_tup (by rfl) (pgs_cons (pg_name (i := 5) scFoundIn.nd rfl (Or.inl rfl)) (pgs_cons (pg_name (i := 3) scFoundIn.nd rfl (Or.inl rfl)) pgs_nil))))
      (pss_one (ps_ret (pe_tup (pa_cons (pe_ix ix_tup (pe_ix ix_tup (pv 0) (pv 3) (fun _ _ => rfl)) pe_int (fun _ _ => rfl)) (pa_cons (pe_c cV hr (by decide) (by rfl) (pa_cons (pe_ix ix_tup (pe_ix ix_tup (pv 0) (pv 3) (fun _ _ => rfl)) pe_int (fun _ _ => rfl)) (pa_cons (pv 2) pa_nil))) pa_nil))))))), ?_⟩
    obtain ⟨a, xs, rfl, hs, hd⟩ := tup_dp hv
    have hxl : xs.length = rs.length := by
      have := dps_len hd
      rw [List.length_map] at this
      exact this
    have p2 := ok.few
    refine ⟨_, rfl, a, xs, rfl, hs, fun D hD => ?_⟩
    refine lc_it walk_enumT (LcP (KeyAt rs D) (candB rs vb ws) H D) (.start hD) (fun i H hi hP => Same.tup hP.same hs) ?_ ?_
    · rintro i v H2 H3 hi hP ⟨t, x, y, rfl, hT, rfl, hx, hy⟩
      have hx : some (V.int (i : Int)) = some x := hx
      obtain rfl := Option.some.inj hx
      obtain ⟨r, h1, h2⟩ := rts_at hd hy
      have st : Same H2 (upd H2 t (.tup [V.int (i : Int), y])) := same_new hT
      obtain ⟨tr, rfl, hr3⟩ := rt_dp (dp_same (hP.same.trans st) _ _ h2)
      have okp := (ok.pat r (List.mem_of_getElem? h1)).1
      have eg : rs.getD i r0 = r := getD_of h1
      refine ⟨t, _, rfl, SqT.of upd_same, rfl, _, _, rfl, _, _, rfl, rfl, rfl, ?_⟩
      refine ⟨_, rfl, tr, _, 1, _, rfl, rfl, hr3, rfl, _, rfl, rfl, _, rfl, ?_⟩
      cases e1 : decide (V.str (vS r.get) = V.str (vS vb)) with
      | false =>
        refine iteF (iteF (hP.skip (keyAt_keep rs D) st ?_))
        unfold candB
        rw [eg, e1, Bool.false_and]
      | true =>
        refine iteT ⟨_, rfl, tr, _, 2, _, rfl, rfl, hr3, rfl, _, rfl, r.pat, ws, rfl, okp, hw, fun H4 s4 => ⟨_, rfl, ?_⟩⟩
        have ec : candB rs vb ws i = met r.pat ws := by
          unfold candB
          rw [eg, e1, Bool.true_and]
        cases e2 : met r.pat ws with
        | false => exact iteF (hP.skip (keyAt_keep rs D) (st.trans s4) (ec.trans e2))
        | true =>
          refine iteT ⟨_, rfl, tr, _, 2, _, rfl, rfl, Same.tup s4 hr3, rfl, r.pat, rfl, okp, fun H5 p s5 hp0 hp => ⟨_, rfl, by show 2 ≤ sizeLine; decide, fun t2 ht2 => ?_⟩⟩
          have s25 := st.trans (s4.trans s5)
          have s6 : Same H5 (upd H5 t2 (.tup [.ref p, .int (i : Int)])) := same_new ht2
          obtain ⟨_, ys0, hD2, _⟩ := hP
          refine LcP.add hD (keyAt_stay rs D) ⟨by assumption, ys0, hD2, by assumption⟩ (s25.trans s6) (by omega) (ec.trans e2) ⟨t2, p, rfl, upd_same, ?_, ?_⟩
          · rw [eg]
            exact s6 _ _ hp
          · exact fun z => by
              have := (st.trans s4) _ _ hD2
              rw [← z, hp0] at this
              cases this
    · intro H2 hP
      obtain ⟨s2, ys, hD2, hpr⟩ := hP
      rw [hxl] at hpr
      have hk : Dp K H2 (.ref D) (Datum.toD (candK rs vb ws)) := .lst (SqL.of hD2) (keys_dps hpr)
      refine ⟨_, rfl, Nat.zero_le _, fun e0 he0 => ⟨Datum.toD (candK rs vb ws), Datum.toD ([] : List Ky), dp_same (same_new he0) _ _ hk, .lst (SqL.of upd_same) .nil, keys_shaped _, keys_shaped _, _, rfl, ?_⟩⟩
      have s3 : Same H2 (upd H2 e0 (.lst [])) := same_new he0
      rw [Datum.eqv]
      have qq := q
      unfold foundA at qq
      cases ek : candK rs vb ws with
      | nil =>
        rw [ek] at qq
        exact itT (decide_eq_true rfl) (qq _ .non (s2.trans s3) rfl)
      | cons x xs2 =>
        rw [ek] at qq hk
        have qq2 : ∀ H' u, Same H H' → FdAt K H' u (some (fdAt rs ws (minOf x xs2).2.toNat)) → Q u H' := qq
        clear qq
        refine itF (decide_eq_false (by simp)) ⟨_, rfl, _, x, xs2, rfl, dp_same s3 _ _ hk, fun u hu => ?_⟩
        obtain ⟨au, xu, rfl, hu1, hu2⟩ := tup_dp (show Dp K _ u (.tuple [Datum.toD (minOf x xs2).1, Datum.toD (minOf x xs2).2]) from hu)
        cases hu2 with
        | cons k1 k2 =>
          cases k2 with
          | cons k3 k4 =>
            cases k4
            cases (show Dp K _ _ (.int (minOf x xs2).2) from k3)
            rename_i vk
            have hmem := minOf_mem x xs2
            rw [← ek] at hmem
            obtain ⟨k, hk1, hk2⟩ := List.mem_map.mp hmem
            have hkl : k < rs.length := List.mem_range.mp (List.mem_filter.mp hk1).1
            have e2 : (minOf x xs2).2 = (k : Int) := by rw [← hk2]; rfl
            rw [e2] at qq2
            have hrk : rs[k]? = some rs[k] := List.getElem?_eq_getElem hkl
            have eg : rs.getD k r0 = rs[k] := getD_of hrk
            have hxk : xs[k]? = some xs[k] := List.getElem?_eq_getElem (by omega)
            obtain ⟨r, h1, h2⟩ := rts_at hd hxk
            have er : r = rs[k] := Option.some.inj (h1.symm.trans hrk)
            subst er
            have s4 := s2.trans s3
            obtain ⟨tr, etr, htr⟩ := rt_dp (dp_same s4 _ _ h2)
            have hs4 := Same.tup s4 hs
            rw [e2] at hu1
            have hxk' : xs[k]? = some (.ref tr) := by rw [hxk, etr]
            refine ⟨au, _, rfl, hu1, rfl, _, _, rfl, _, _, rfl, rfl, ?_⟩
            refine ⟨_, rfl, _, rfl, a, _, (k : Int), _, rfl, rfl, hs4, atI_nat hxk', tr, _, 0, _, rfl, rfl, htr, rfl, _, rfl, _, rfl, a, _, (k : Int), _, rfl, rfl, hs4, atI_nat hxk', tr, _, 2, _, rfl, rfl, htr, rfl, _, rfl, rs[k].pat, ws, rfl, (ok.pat _ (List.mem_of_getElem? hrk)).1, hw,
              fun H5 l ys5 s5 hl5 hd5 => ⟨by show 2 ≤ sizeLine; decide, fun t5 ht5 => ?_⟩⟩
            have s6 : Same H5 (upd H5 t5 (.tup [.str (rS rs[k].nm), .ref l])) := same_new ht5
            refine qq2 _ _ (s4.trans (s5.trans s6)) ?_
            show FdAt K _ _ (some (fdAt rs ws (k : Int).toNat))
            rw [Int.toNat_natCast]
            unfold fdAt
            rw [eg]
            exact ⟨t5, l, ys5, rfl, SqT.of upd_same, hl5.same s6, dps_same s6 _ _ hd5⟩
def spFound (K : PySem.W.Frag) : Sp := spFoundIn K
theorem scFound : FnScope ["routes", "verb", "path"] ["routes", "verb", "path"] (fnScope (tp 47)) := C8.fnScope_by (by decide +kernel)
theorem c_found (cR : Cal P w K mg base 9 "need_routes" (spNeedR K) []) (cV : Cal P w K mg base 1 "need_verb" spNeedV []) (cP : Cal P w K mg base 7 "need_path" spNeedP []) (cF : Cal P w K mg base 6 "found_in" (spFoundIn K) [])
    (F : Def K mg "found" (tp 47) f fd) (b : Binds K fd ["routes", "verb", "path"] []) : Cal P w K mg base 10 "found" (spFound K) [] := by
  refine cal0 F b .nil scFound (fun vs H Q E h => ?_) (fun cdv A outer s H vs Q E hr h => ?_)
  · obtain ⟨v, rs, vb, ws, rfl, _⟩ := h
    rfl
  · obtain ⟨v, rs, vb, ws, rfl, hv, ok, hw, q⟩ := h
    refine ⟨_, pss_cons (ps_expr (pe_c cR hr (by decide) (by rfl) (pa_cons (pv 0) pa_nil)))
      (pss_cons (ps_expr (pe_c cV hr (by decide) (by rfl) (pa_cons (pv 1) pa_nil)))
      (pss_cons (ps_expr (pe_c cP hr (by decide) (by rfl) (pa_cons (pv 2) pa_nil)))
      (pss_one (ps_ret (pe_c cF hr (by decide) (by rfl) (pa_cons (pv 0) (pa_cons (pv 1) (pa_cons (pv 2) pa_nil)))))))), ?_⟩
    refine ⟨_, rfl, v, rs, rfl, hv, ok, fun H1 s1 => ?_⟩
    refine ⟨_, rfl, vb, rfl, ?_⟩
    refine ⟨_, rfl, ws, rfl, hw, fun H2 s2 => ?_⟩
    have s12 := s1.trans s2
    exact ⟨_, rfl, _, rfl, _, rfl, v, rs, vb, ws, rfl, dp_same s12 _ _ hv, ok, hw, fun H3 u s3 hu => q _ _ (s12.trans s3) hu⟩
end
end K7

set_option maxRecDepth 100000
set_option maxHeartbeats 4000000
/-! K7I: pattern_of, is_given, are_given, path_by, path_of. -/
namespace K7
open PySem PySem.Spec PyProof.Rows L2
open C8 (Def Cal CalAt cal0 pe_c pe_gc fnScope fnBody fnArgs)
theorem nS_inj {a b : Fin 6} (h : nS a = nS b) : a = b := by revert a b; decide +kernel
theorem nS_nd {l : List (Fin 6)} (h : (l.map nS).Nodup) : l.Nodup := by
  induction l with
  | nil => exact List.nodup_nil
  | cons a l ih =>
    rw [List.map_cons, List.nodup_cons] at h
    rw [List.nodup_cons]
    exact ⟨fun m => h.1 (List.mem_map.mpr ⟨a, m, rfl⟩), ih h.2⟩
theorem num_range (i : Fin 10) (n : Int) (h : numW i = some n) : 0 ≤ n ∧ n ≤ 9999 ∧ n.natAbs.log2 < 1920 ∧ PySem.Str.ofString (toString n) = wS i := by
  have key : ∀ i : Fin 10, match numW i with | some n => 0 ≤ n ∧ n ≤ 9999 ∧ n.natAbs.log2 < 1920 ∧ PySem.Str.ofString (toString n) = wS i | none => True := by
    intro i
    have : i = 0 ∨ i = 1 ∨ i = 2 ∨ i = 3 ∨ i = 4 ∨ i = 5 ∨ i = 6 ∨ i = 7 ∨ i = 8 ∨ i = 9 := by revert i; decide
    rcases this with e | e | e | e | e | e | e | e | e | e <;> subst e <;> (first | trivial | (refine ⟨by decide +kernel, by decide +kernel, by decide +kernel, by decide +kernel⟩))
  have k := key i
  rw [h] at k
  exact k
/-- a value told: an item of the dict -/
def kvOf (x : Vl) : Key × V := (.inr (nS x.1), if x.2.1 = true then numV x.2.2 else .str (wS x.2.2))
theorem vals_hols : ∀ (ps : List Pt) (ws : List (Fin 10)), ps.length = ws.length → (valsL ps ws).map (fun x => Pt.h x.1 x.2.1) = hols ps
  | [], [], _ => rfl
  | [], _ :: _, h => by simp at h
  | _ :: _, [], h => by simp at h
  | .w i :: ps, j :: ws, h => vals_hols ps ws (by simpa using h)
  | .h n b :: ps, j :: ws, h => by
    have ih := vals_hols ps ws (by simpa using h)
    show Pt.h n b :: (valsL ps ws).map (fun x => Pt.h x.1 x.2.1) = Pt.h n b :: hols ps
    rw [ih]
theorem met_len {ps : List Pt} {ws : List (Fin 10)} (h : met ps ws = true) : ps.length = ws.length := by
  unfold met at h
  rw [Bool.and_eq_true] at h
  exact of_decide_eq_true h.1
theorem met_at {ps : List Pt} {ws : List (Fin 10)} (h : met ps ws = true) {i : Nat} {p : Pt} {j : Fin 10} (hp : ps[i]? = some p) (hj : ws[i]? = some j) : metP p j = true := by
  unfold met at h
  rw [Bool.and_eq_true, List.all_eq_true] at h
  have hm : (ps.zip ws)[i]? = some (p, j) := List.getElem?_zip_eq_some.mpr ⟨hp, hj⟩
  exact h.2 _ (List.mem_of_getElem? hm)
theorem vals_mem {ps : List Pt} {ws : List (Fin 10)} {x : Vl} (h : x ∈ valsL ps ws) : ∃ i : Nat, ps[i]? = some (.h x.1 x.2.1) ∧ ws[i]? = some x.2.2 := by
  obtain ⟨q, hq, e⟩ := List.mem_filterMap.mp h
  obtain ⟨i, hi⟩ := List.mem_iff_getElem?.mp hq
  obtain ⟨h1, h2⟩ := List.getElem?_zip_eq_some.mp hi
  obtain ⟨p, j⟩ := q
  cases p with
  | w k => cases e
  | h n b =>
    have e := Option.some.inj e
    subst e
    exact ⟨i, h1, h2⟩
theorem mem_vals {ps : List Pt} {ws : List (Fin 10)} {i : Nat} {n : Fin 6} {b : Bool} {j : Fin 10} (h1 : ps[i]? = some (.h n b)) (h2 : ws[i]? = some j) : (n, b, j) ∈ valsL ps ws :=
  List.mem_filterMap.mpr ⟨(.h n b, j), List.mem_of_getElem? (List.getElem?_zip_eq_some.mpr ⟨h1, h2⟩), rfl⟩
theorem vals_num {ps : List Pt} {ws : List (Fin 10)} (h : met ps ws = true) {x : Vl} (hx : x ∈ valsL ps ws) : x.2.1 = true → (numW x.2.2).isSome = true := by
  obtain ⟨i, h1, h2⟩ := vals_mem hx
  have z := met_at h h1 h2
  intro e
  rw [e] at z
  exact z
theorem vals_len (ps : List Pt) (ws : List (Fin 10)) : (valsL ps ws).length ≤ ps.length := by
  have e2 : (valsL ps ws).length ≤ (ps.zip ws).length := List.length_filterMap_le _ _
  rw [List.length_zip] at e2
  omega
theorem vals_nd {ps : List Pt} {ws : List (Fin 10)} (h : ps.length = ws.length) (nd : ((hols ps).map nmS).Nodup) : ((valsL ps ws).map kvOf |>.map (·.1)).Nodup := by
  rw [← vals_hols ps ws h, List.map_map] at nd
  have nd2 : (((valsL ps ws).map (·.1)).map nS).Nodup := by rw [List.map_map]; exact nd
  rw [List.map_map]
  have e : (fun x : Vl => (kvOf x).1) = (fun s : Str => (Sum.inr s : Key)) ∘ (fun x : Vl => nS x.1) := rfl
  show (List.map (fun x : Vl => (kvOf x).1) (valsL ps ws)).Nodup
  rw [e, ← List.map_map]
  have nd3 : ((valsL ps ws).map fun x => nS x.1).Nodup := nd
  generalize (valsL ps ws).map (fun x => nS x.1) = l at nd3
  clear e nd2 nd
  induction l with
  | nil => exact List.nodup_nil
  | cons a l ih =>
    rw [List.nodup_cons] at nd3
    rw [List.map_cons, List.nodup_cons]
    refine ⟨fun m => ?_, ih nd3.2⟩
    obtain ⟨b, hb, e⟩ := List.mem_map.mp m
    injection e with e
    rw [e] at hb
    exact nd3.1 hb
theorem merge_not {k : Key} : ∀ (more acc : List (Key × V)), k ∉ more.map (·.1) → valV (mergeK acc more) k = valV acc k
  | [], _, _ => rfl
  | p :: r, acc, h => by
    rw [List.map_cons, List.mem_cons, not_or] at h
    show valV (mergeK (putK acc p.1 p.2) r) k = _
    rw [merge_not r _ h.2, valV_put, if_neg h.1]
theorem merge_get {k : Key} {v : V} : ∀ (more acc : List (Key × V)), (more.map (·.1)).Nodup → (k, v) ∈ more → valV (mergeK acc more) k = some v
  | [], _, _, h => by cases h
  | p :: r, acc, nd, h => by
    rw [List.map_cons, List.nodup_cons] at nd
    show valV (mergeK (putK acc p.1 p.2) r) k = _
    rcases List.mem_cons.mp h with e | e
    · subst e
      rw [merge_not r _ nd.1, valV_put, if_pos rfl]
    · exact merge_get r _ nd.2 e
theorem pth_eq (ws : List (Fin 10)) : pthS ws = sl ++ Txt.join sl (ws.map wS) := by
  unfold pthS patS pW
  rw [List.map_map]
  rfl
theorem words_sum (ws : List (Fin 10)) : ((ws.map wS).map (·.length)).sum ≤ 12 * ws.length := by
  induction ws with
  | nil => exact Nat.zero_le _
  | cons i ws ih =>
    have := word_len i
    simp only [List.map_cons, List.sum_cons, List.length_cons] at ih ⊢
    omega
section
variable {P : Program} {w : World} {K : PySem.W.Frag} {mg : Str → Option Value} {base : Heap} {f : Addr} {fd : FuncData} {bs : List Value}
theorem vl_dp {H : Hp} {v : V} {x : Vl} (h : Dp K H v (vlD x)) : ∃ p, v = .ref p ∧ SqT K H p [kV (kvOf x).1, (kvOf x).2] := by
  obtain ⟨n, b, i⟩ := x
  obtain ⟨a, xs, rfl, h1, h2⟩ := tup_dp h
  cases h2 with
  | cons k1 k2 =>
    cases k2 with
    | cons k3 k4 =>
      cases k4
      cases k1
      refine ⟨a, rfl, ?_⟩
      cases b with
      | false =>
        cases (show Dp K H _ (.str (wS i)) from k3)
        exact h1
      | true =>
        have k3 : Dp K H _ (numD i) := k3
        unfold kvOf
        simp only [if_true]
        unfold numV
        unfold numD at k3
        cases e : numW i with
        | none => rw [e] at k3; cases k3; exact h1
        | some n => rw [e] at k3; cases k3; exact h1
theorem vls_dps {H : Hp} : ∀ {ys : List V} {l : List Vl}, DpAll K H ys (l.map vlD) → ∃ ps : List Addr, ys = ps.map V.ref ∧ Paired (fun p kv => SqT K H p [kV kv.1, kv.2]) ps (l.map kvOf)
  | _, [], h => by cases h; exact ⟨[], rfl, .nil⟩
  | _, x :: l, h => by
    cases h with
    | cons h1 h2 =>
      obtain ⟨p, rfl, hp⟩ := vl_dp h1
      obtain ⟨ps, rfl, hps⟩ := vls_dps h2
      exact ⟨p :: ps, rfl, .cons hp hps⟩
def spPatOf (K : PySem.W.Frag) : Sp := fun vs H Q _ => ∃ (v : V) (rs : List Rt) (k : Nat) (r : Rt), vs = [v, .str (rS r.nm)] ∧ Dp K H v (rtsD rs) ∧ OkRts rs ∧ rs[k]? = some r ∧ ∀ H', Same H H' → Q (.str (patS r.pat)) H'
theorem scPatOf : FnScope ["routes", "name", "pattern", "own", "verb"] ["routes", "name"] (fnScope (tp 48)) := C8.fnScope_by (by decide +kernel)
theorem nd_at {rs : List Rt} (nd : (rs.map (·.nm)).Nodup) {i k : Nat} {r r' : Rt} (h1 : rs[i]? = some r) (h2 : rs[k]? = some r') (e : r.nm = r'.nm) : r = r' := by
  have n := List.pairwise_iff_getElem.mp nd
  have l1 := (List.getElem?_eq_some_iff.mp h1).1
  have l2 := (List.getElem?_eq_some_iff.mp h2).1
  have m1 : i < (rs.map (·.nm)).length := by rw [List.length_map]; exact l1
  have m2 : k < (rs.map (·.nm)).length := by rw [List.length_map]; exact l2
  by_cases c : i = k
  · subst c; exact Option.some.inj (h1.symm.trans h2)
  · exfalso
    have e1 : (rs.map (·.nm))[i] = r.nm := by rw [List.getElem_map, (List.getElem?_eq_some_iff.mp h1).2]
    have e2 : (rs.map (·.nm))[k] = r'.nm := by rw [List.getElem_map, (List.getElem?_eq_some_iff.mp h2).2]
    rcases Nat.lt_or_gt_of_ne c with c | c
    · exact n i k m1 m2 c (by rw [e1, e2, e])
    · exact n k i m2 m1 c (by rw [e1, e2, e])
/-- the patterns of the routes of a name: the first of them -/
theorem first_pat {H1 H : Hp} {D : Addr} {rs : List Rt} {n : Fin 11} {k : Nat} {r : Rt} (nd : (rs.map (·.nm)).Nodup) (hk : rs[k]? = some r) (hn : r.nm = n)
    (h : LcP (fun k v H => Dp K H v (.str (patS (rs.getD k r0).pat))) (fun k => decide (V.str (rS (rs.getD k r0).nm) = V.str (rS n))) H1 D rs.length H) : ∃ ys, SqL K H D ys ∧ atI ys 0 = some (V.str (patS r.pat)) := by
  obtain ⟨_, ys, hD, hp⟩ := h
  refine ⟨ys, SqL.of hD, ?_⟩
  have hkl := (List.getElem?_eq_some_iff.mp hk).1
  have hmem : k ∈ (List.range rs.length).filter (fun k => decide (V.str (rS (rs.getD k r0).nm) = V.str (rS n))) := List.mem_filter.mpr ⟨List.mem_range.mpr hkl, by
    rw [getD_of hk, hn]; exact decide_eq_true rfl⟩
  cases e : (List.range rs.length).filter (fun k => decide (V.str (rS (rs.getD k r0).nm) = V.str (rS n))) with
  | nil => rw [e] at hmem; cases hmem
  | cons i l =>
    rw [e] at hp
    cases hp with
    | cons q _ =>
      have hi := List.mem_filter.mp (show i ∈ (List.range rs.length).filter (fun k => decide (V.str (rS (rs.getD k r0).nm) = V.str (rS n))) by rw [e]; exact List.mem_cons_self)
      have hil := List.mem_range.mp hi.1
      have hx : rs[i]? = some rs[i] := List.getElem?_eq_getElem hil
      have e2 := V.str.inj (of_decide_eq_true hi.2)
      rw [getD_of hx] at e2
      have e3 : rs[i] = r := nd_at nd hx hk ((rS_inj e2).trans hn.symm)
      have q : Dp K H _ (.str (patS (rs.getD i r0).pat)) := q
      rw [getD_of hx, e3] at q
      cases q
      exact atI_nat rfl
theorem c_patOf (F : Def K mg "pattern_of" (tp 48) f fd) (b : Binds K fd ["routes", "name"] []) : Cal P w K mg base 1 "pattern_of" (spPatOf K) [] := by
  refine cal0 F b .nil scPatOf (fun vs H Q E h => ?_) (fun cdv A outer s H vs Q E hr h => ?_)
  · obtain ⟨v, rs, k, r, rfl, _⟩ := h
    rfl
  · obtain ⟨v, rs, k, r, rfl, hv, ok, hk, q⟩ := h
    refine ⟨_, pss_one (ps_ret (pe_ix ix_list (pe_lc (own := [("own", 3), ("verb", 4), ("pattern", 2)]) (g := g3 K 3 4 2) (by rfl) scPatOf.nd (pi_tup (pv 0)) (blkOk_by (own := [("own", 3), ("verb", 4), ("pattern", 2)]) (N := ["routes", "name", "pattern", "own", "verb"]) (sc := fnScope (tp 48)) (by decide +kernel))
          (fun _ _ _ _ _ => pg_tup (by rfl) (pgs_cons (pg_name (i := 3) scPatOf.nd rfl (Or.inl rfl)) (pgs_cons (pg_name (i := 4) scPatOf.nd rfl (Or.inl rfl)) (pgs_cons (pg_name (i := 2) scPatOf.nd rfl (Or.inl rfl)) pgs_nil)))) (fun _ _ _ _ _ => pts_one (pt_cmpR op_eq (pv 3) (pv 1) (nomark _))) (fun _ _ _ _ _ => pv 2)) pe_int (fun _ _ => rfl))), ?_⟩
    obtain ⟨a, xs, rfl, hs, hd⟩ := tup_dp hv
    have hxl : xs.length = rs.length := by
      have := dps_len hd
      rw [List.length_map] at this
      exact this
    have p2 := ok.few
    refine ⟨_, rfl, a, rfl, ⟨_, hs⟩, fun D hD => ?_⟩
    refine lc_it walk_tup (LcP (fun k v H => Dp K H v (.str (patS (rs.getD k r0).pat))) (fun k => decide (V.str (rS (rs.getD k r0).nm) = V.str (rS r.nm))) H D) (.start hD) (fun i H hi hP => Same.tup hP.same hs) ?_ ?_
    · rintro i v H2 H3 hi hP ⟨rfl, hx⟩
      obtain ⟨r2, h1, h2⟩ := rts_at hd hx
      obtain ⟨t, rfl, ht⟩ := rt_dp (dp_same hP.same _ _ h2)
      refine ⟨t, _, rfl, ht, rfl, _, _, rfl, _, _, rfl, _, _, rfl, rfl, rfl, ?_⟩
      refine ⟨_, rfl, _, rfl, rfl, _, rfl, ?_⟩
      cases e : decide (V.str (rS r2.nm) = V.str (rS r.nm)) with
      | false => exact iteF (hP.skip dp_keep (Same.refl _) (by rw [getD_of h1]; exact e))
      | true =>
        refine iteT ⟨_, rfl, ?_⟩
        refine LcP.add hD (dp_stay fun _ => by unfold noL; rfl) hP (Same.refl _) (by omega) (by rw [getD_of h1]; exact e) ?_
        show Dp K H3 _ (.str (patS (rs.getD i r0).pat))
        rw [getD_of h1]
        exact .str _
    · intro H2 hP
      rw [hxl] at hP
      obtain ⟨ys, hy, ha⟩ := first_pat ok.nd hk rfl hP
      exact ⟨D, ys, 0, _, rfl, rfl, hy, ha, q _ hP.same⟩
def spGiven (K : PySem.W.Frag) : Sp := fun vs H Q _ => ∃ (v u : V) (x : Vl), vs = [v, u] ∧ Dp K H v (holeD (.h x.1 x.2.1)) ∧ Dp K H u (vlD x) ∧ (x.2.1 = true → (numW x.2.2).isSome = true) ∧ ∀ H', Same H H' → Q (.bl true) H'
theorem scGiven : FnScope ["hole", "thing"] ["hole", "thing"] (fnScope (tp 49)) := C8.fnScope_by (by decide +kernel)
theorem c_given (T : G7 K mg) (cS : Cal P w K mg base 1 "is_shaped" (spShaped K) []) (cF : Cal P w K mg base 2 "is_from" spFrom []) (cW : Cal P w K mg base 2 "is_word" spWord [])
    (F : Def K mg "is_given" (tp 49) f fd) (b : Binds K fd ["hole", "thing"] []) : Cal P w K mg base 3 "is_given" (spGiven K) [] := by
  refine cal0 F b .nil scGiven (fun vs H Q E h => ?_) (fun cdv A outer s H vs Q E hr h => ?_)
  · obtain ⟨v, u, x, rfl, _⟩ := h
    rfl
  · obtain ⟨v, u, ⟨n, bb, i⟩, rfl, hv, hu, hn, q⟩ := h
    refine ⟨_, pss_cons (ps_if (PW.pt (pw_or (pt_not (pt_val (pe_c cS hr (by decide) (by rfl) (pa_cons (pv 1) (pa_cons pe_int pa_nil)))))
        (pw_or (pt_not (pt_val (pe_callB call_isi (by rfl) T.isi (by decide +kernel) (pa_cons (pe_ix ix_tup (pv 1) pe_int (fun _ _ => rfl)) (pa_cons (pe_bltn (v := .ty "str") (by rfl) T.str boot_str rfl) pa_nil)))))
        (pw_or1 (pt_cmpR op_ne (pe_ix ix_tup (pv 1) pe_int (fun _ _ => rfl)) (pe_ix ix_tup (pv 0) pe_int (fun _ _ => rfl)) (nomark _)))))) (pss_one (ps_ret pe_bl)) pss_nil)
      (pss_one (ps_ret (pe_ifExp (pt_cmpR op_eq (pe_ix ix_tup (pv 0) pe_int (fun _ _ => rfl)) (pe_gc (by rfl) T.NUMBER) (nomark _))
        (pe_c cF hr (by decide) (by rfl) (pa_cons (pe_ix ix_tup (pv 1) pe_int (fun _ _ => rfl)) (pa_cons pe_int (pa_cons (pe_gc (by rfl) T.MN) pa_nil))))
        (pe_c cW hr (by decide) (by rfl) (pa_cons (pe_ix ix_tup (pv 1) pe_int (fun _ _ => rfl)) pa_nil))))), ?_⟩
    obtain ⟨t, rfl, ht⟩ := hole_ref hv
    obtain ⟨p, rfl, hp⟩ := vl_dp hu
    refine ⟨_, rfl, p, _, 2, rfl, hp, _, rfl, iteF ?_⟩
    refine ⟨_, rfl, p, _, 0, _, rfl, rfl, hp, rfl, _, _, _, _, _, rfl, .ty _, .base (.str _), kit_ty (r := true) (by decide +kernel), true, rfl, iteF ?_⟩
    refine ⟨_, rfl, p, _, 0, _, rfl, rfl, hp, rfl, _, rfl, t, _, 0, _, rfl, rfl, ht, rfl, rfl, _, rfl, itF (by rw [Bool.not_eq_false']; exact decide_eq_true rfl) ?_⟩
    refine ⟨_, rfl, t, _, 1, _, rfl, rfl, ht, rfl, rfl, _, rfl, ?_⟩
    cases bb with
    | true =>
      have hi := hn rfl
      cases e : numW i with
      | none => rw [show numW (n, true, i).2.2 = none from e] at hi; cases hi
      | some m =>
        obtain ⟨g1, g2, _⟩ := num_range i m e
        have ev : (kvOf (n, true, i)).2 = V.int m := by
          show numV i = _
          unfold numV
          rw [e]
        rw [ev] at hp
        refine itT rfl ⟨_, rfl, p, _, 1, _, rfl, rfl, hp, rfl, m, 0, 9999, rfl, ?_⟩
        rw [decide_eq_true g1, decide_eq_true g2]
        exact q _ (Same.refl _)
    | false =>
      refine itF rfl ⟨_, rfl, p, _, 1, _, rfl, rfl, hp, rfl, wS i, rfl, by have := word_len i; omega, fun H1 s1 => ?_⟩
      rw [word_ok]
      exact q _ s1
def spGivens (K : PySem.W.Frag) : Sp := fun vs H Q _ => ∃ (ps : List Pt) (ws : List (Fin 10)) (a : Addr) (ys : List V), vs = [.str (patS ps), .ref a] ∧ SqT K H a ys ∧ DpAll K H ys ((valsL ps ws).map vlD) ∧ ps.length ≤ 5 ∧ met ps ws = true ∧ ∀ H', Same H H' → Q (.bl true) H'
theorem scGivens : FnScope ["pattern", "thing", "holes", "hole", "one"] ["pattern", "thing"] (fnScope (tp 50)) := C8.fnScope_by (by decide +kernel)
theorem c_givens (T : G7 K mg) (cH : Cal P w K mg base 4 "holes_in" (spHoles K) []) (cS : Cal P w K mg base 1 "is_shaped" (spShaped K) []) (cG : Cal P w K mg base 3 "is_given" (spGiven K) [])
    (F : Def K mg "are_given" (tp 50) f fd) (b : Binds K fd ["pattern", "thing"] []) : Cal P w K mg base 5 "are_given" (spGivens K) [] := by
  refine cal0 F b .nil scGivens (fun vs H Q E h => ?_) (fun cdv A outer s H vs Q E hr h => ?_)
  · obtain ⟨_, _, _, _, rfl, _⟩ := h
    rfl
  · obtain ⟨ps, ws, a, ys, rfl, ha, hd, hl, hm, q⟩ := h
    refine ⟨_, pss_cons (ps_set (i := 2) scGivens.nd rfl (.inl rfl) (pe_c cH hr (by decide) (by rfl) (pa_cons (pv 0) pa_nil)))
      (pss_cons (ps_if (pt_not (pt_val (pe_c cS hr (by decide) (by rfl) (pa_cons (pv 1) (pa_cons (pe_callB call_len_seq (by rfl) T.len boot_len (pa_cons (pv 2) pa_nil)) pa_nil))))) (pss_one (ps_ret pe_bl)) pss_nil)
      (pss_one (ps_ret (pe_callB (cr_all (by rfl)) (by rfl) T.all (by decide +kernel) (pa_cons (pe_lc (own := [("hole", 3), ("one", 4)]) (g := g2 K 3 4) (tt := tYes) (by rfl) scGivens.nd (pi_zipM (by rfl) T.zip (pa_cons (pv 2) (pa_cons (pv 1) pa_nil)))
          (blkOk_by (own := [("hole", 3), ("one", 4)]) (N := ["pattern", "thing", "holes", "hole", "one"]) (sc := fnScope (tp 50)) (by decide +kernel))
          (fun _ _ _ _ _ => pg_tup (by rfl) (pgs_cons (pg_name (i := 3) scGivens.nd rfl (Or.inl rfl)) (pgs_cons (pg_name (i := 4) scGivens.nd rfl (Or.inl rfl)) pgs_nil))) (fun _ _ _ _ _ => pts_nil) (fun _ _ _ _ _ => pe_c cG hr (by decide) (by rfl) (pa_cons (pv 3) (pa_cons (pv 4) pa_nil)))) pa_nil))))), ?_⟩
    refine ⟨_, rfl, ps, rfl, hl, fun H1 v s1 hv => ?_⟩
    obtain ⟨o, hs, rfl, ho, hdo⟩ := lst_dp hv
    have ha1 := Same.tup s1 ha
    have hd1 := dps_same s1 _ _ hd
    have hvh := vals_hols ps ws (met_len hm)
    have l1 : hs.length = (hols ps).length := by
      have := dps_len hdo
      rw [List.length_map] at this
      exact this
    have l2 : ys.length = (valsL ps ws).length := by
      have := dps_len hd
      rw [List.length_map] at this
      exact this
    have l3 : hs.length = ys.length := by rw [l1, l2, ← hvh, List.length_map]
    have l4 := vals_len ps ws
    refine ⟨_, rfl, _, rfl, o, _, rfl, .inl ho, a, _, _, rfl, ha1, _, rfl, itF (by rw [l3]; exact (by rw [decide_eq_true rfl]; rfl)) ?_⟩
    refine ⟨_, rfl, _, rfl, o, a, hs, ys, rfl, ho, ha1, fun D hD => ?_⟩
    refine lc_it (walk_zipM l3) (LcP (fun k v H => Dp K H v (.bool true)) (fun _ => true) H1 D) (.start hD) (fun i H hi hP => ⟨hP.same.seq ho, Same.tup hP.same ha1⟩) ?_ ?_
    · rintro i v H2 H3 hi hP ⟨t, x, y, rfl, hT, rfl, hx, hy⟩
      obtain ⟨d, hd2, hd3⟩ := dps_at hdo hx
      obtain ⟨e, he2, he3⟩ := dps_at hd1 hy
      rw [List.getElem?_map] at he2
      obtain ⟨z, hz, rfl⟩ : ∃ z, (valsL ps ws)[i]? = some z ∧ vlD z = e := by
        cases e2 : (valsL ps ws)[i]? with
        | none => rw [e2] at he2; cases he2
        | some z => rw [e2] at he2; exact ⟨z, rfl, Option.some.inj he2⟩
      rw [← hvh, List.map_map, List.getElem?_map, hz] at hd2
      have hd2 := Option.some.inj hd2
      subst hd2
      have st := hP.same.trans (same_new (o := .tup [x, y]) hT)
      refine ⟨t, _, rfl, SqT.of upd_same, rfl, _, _, rfl, _, _, rfl, rfl, rfl, ?_⟩
      refine ⟨_, rfl, _, rfl, x, y, z, rfl, dp_same st _ _ hd3, dp_same st _ _ he3, vals_num hm (List.mem_of_getElem? hz), fun H4 s4 => ?_⟩
      exact LcP.add hD (dp_stay fun _ => by unfold noL; rfl) hP ((same_new hT).trans s4) (by omega) rfl (.bl true)
    · intro H2 hP
      refine ⟨D, _, rfl, LcP.bools (b := fun _ => true) hP, ?_⟩
      have e4 : ((List.range hs.length).map fun _ => true).all id = true := by
        rw [List.all_eq_true]
        intro y hy
        obtain ⟨_, _, rfl⟩ := List.mem_map.mp hy
        rfl
      rw [e4]
      exact q _ (s1.trans hP.same)
end
end K7

set_option maxRecDepth 100000
set_option maxHeartbeats 4000000
/-! K7J: path_by, path_of. -/
namespace K7
open PySem PySem.Spec PyProof.Rows L2
open C8 (Def Cal CalAt cal0 pe_c pe_gc fnScope fnBody fnArgs)
theorem u1 {k : Nat} {A : Around} (r : Room k A) : A.units + 1 < cLine := by have := r.un; omega
theorem u65 {k : Nat} {A : Around} (r : Room k A) : A.units + 65 < cLine := by have := r.un; omega
section
variable {P : Program} {w : World} {K : PySem.W.Frag} {mg : Str → Option Value} {base : Heap} {f : Addr} {fd : FuncData} {bs : List Value}
def spPathBy (K : PySem.W.Frag) : Sp := fun vs H Q _ => ∃ (ps : List Pt) (ws : List (Fin 10)) (a : Addr) (ys : List V), vs = [.str (patS ps), .ref a] ∧ FrzT H a ys ∧ DpAll K H ys ((valsL ps ws).map vlD) ∧ OkPat ps ∧ met ps ws = true ∧ ∀ H', Same H H' → Q (.str (pthS ws)) H'
theorem scPathBy : FnScope ["pattern", "values", "given", "words", "part", "hole"] ["pattern", "values"] (fnScope (tp 51)) := C8.fnScope_by (by decide +kernel)
theorem c_pathBy (T : G7 K mg) (cP : Cal P w K mg base 1 "parts_of" (spParts K) []) (cH : Cal P w K mg base 3 "hole_in" (spHole K) [])
    (F : Def K mg "path_by" (tp 51) f fd) (b : Binds K fd ["pattern", "values"] []) : Cal P w K mg base 4 "path_by" (spPathBy K) [] := by
  refine cal0 F b .nil scPathBy (fun vs H Q E h => ?_) (fun cdv A outer s H vs Q E hr h => ?_)
  · obtain ⟨_, _, _, _, rfl, _⟩ := h
    rfl
  · obtain ⟨ps, ws, a, ys, rfl, ha, hd, ⟨hl, nd⟩, hm, q⟩ := h
    have hlen := met_len hm
    refine ⟨_, pss_cons (ps_par (i := 2) (j := 3) (by rfl) scPathBy.nd rfl rfl (by decide) rfl rfl (pa_cons (pe_callTy (call_dictT (by rfl)) (by rfl) T.dict (by decide +kernel) (pa_cons (pv 1) pa_nil)) (pa_cons (pe_lst pa_nil) pa_nil)) (by rfl))
      (pss_cons (ps_for PassesOwn.never rfl (pi_tup (pe_c cP hr (by decide) (by rfl) (pa_cons (pv 0) pa_nil))) (pg_name (i := 4) scPathBy.nd rfl (.inl rfl))
        (pss_cons (ps_set (i := 5) scPathBy.nd rfl (.inl rfl) (pe_c cH hr (by decide) (by rfl) (pa_cons (pv 4) pa_nil)))
        (pss_one (ps_expr (pe_bm PySem.F.plainAttrs_list PySem.F.slot_list_append PySem.F.type_list_append mt_append (pv 3) (pa_cons (pe_ifExp (pt_cmpR op_isN (pv 5) pe_non (nomark _)) (pv 4)
          (pe_callTy (CallR.or call_str_int SkE.call_str_str) (by rfl) T.str boot_str (pa_cons (pe_dget (u1 hr) (pv 2) (pe_ix ix_tup (pv 5) pe_int (fun _ _ => rfl)) (fun _ _ => rfl)) pa_nil))) pa_nil))))))
      (pss_one (ps_ret (pe_op op_add_str (pe_gc (by rfl) T.ROOT) (pe_join pe_str (pv 3)))))), ?_⟩
    obtain ⟨as, rfl, hp⟩ := vls_dps hd
    have l4 := vals_len ps ws
    refine ⟨_, rfl, a, as, _, rfl, ha, hp, fun p hpn => ?_⟩
    refine ⟨Nat.zero_le _, fun o no => ⟨_, _, rfl, ?_⟩⟩
    have hpo : p ≠ o := fun e => by rw [e, upd_same] at no; cases no
    refine ⟨_, rfl, ps, rfl, hl, fun H1 v s1 hv => ?_⟩
    obtain ⟨c, rfl, hc⟩ := pts_dp hv
    have so : Same H H1 := (same_new hpn).trans ((same_new no).trans s1)
    have h1p : H1 p = some (.dK (mergeK [] ((valsL ps ws).map kvOf))) := s1 _ _ (by rw [upd_ne hpo]; exact upd_same)
    have h1o : H1 o = some (.lst []) := s1 _ _ upd_same
    have noH : H o = none := by
      cases e : H o with
      | none => rfl
      | some u => rw [same_new hpn _ _ e] at no; cases no
    refine ⟨c, rfl, ⟨_, hc⟩, for_it walk_tup (fun i σ H2 => ∃ v4 v5, σ = [some (.str (patS ps)), some (.ref a), some (.ref p), some (.ref o), v4, v5] ∧ Same H H2 ∧ SqT K H2 c (ps.map fun p => V.str (ptS p)) ∧ H2 p = some (.dK (mergeK [] ((valsL ps ws).map kvOf))) ∧ H2 o = some (.lst (((ws.take i).map wS).map V.str)))
      ⟨none, none, rfl, so, hc, h1p, h1o⟩ (fun i σ H2 _ ⟨_, _, _, _, q, _⟩ => q) ?_ ?_⟩
    · rintro i v σ H2 H3 hi ⟨v4, v5, rfl, s2, hs2, hp2, ho⟩ ⟨rfl, hx⟩
      obtain ⟨pt, hpt, rfl⟩ := map_at hx
      have hil := (List.getElem?_eq_some_iff.mp hpt).1
      have hj : ws[i]? = some ws[i] := List.getElem?_eq_getElem (by omega)
      generalize ws[i] = j at hj
      have hmp := met_at hm hpt hj
      refine ⟨_, rfl, pt, rfl, fun H4 v4 s4 hv4 => ?_⟩
      have ho4 := s4 _ _ ho
      have hp4 := s4 _ _ hp2
      have step : ∀ z : Str, z = wS j → (∃ l xs y, V.ref o = V.ref l ∧ [V.str z] = [y] ∧ H4 l = some (.lst xs) ∧ xs.length < sizeLine ∧ ∃ v6 v7, [some (V.str (patS ps)), some (V.ref a), some (V.ref p), some (V.ref o), some (V.str (ptS pt)), some v4] = [some (.str (patS ps)), some (.ref a), some (.ref p), some (.ref o), v6, v7] ∧ Same H (upd H4 l (.lst (xs ++ [y]))) ∧ SqT K (upd H4 l (.lst (xs ++ [y]))) c (ps.map fun p => V.str (ptS p)) ∧ (upd H4 l (.lst (xs ++ [y]))) p = some (.dK (mergeK [] ((valsL ps ws).map kvOf))) ∧ (upd H4 l (.lst (xs ++ [y]))) o = some (.lst (((ws.take (i + 1)).map wS).map V.str))) := by
        intro z hz
        refine ⟨o, _, _, rfl, rfl, ho4, ?_, _, _, rfl, ?_, ?_, ?_, ?_⟩
        · rw [List.length_map, List.length_map, List.length_take]
          exact small1000 (by omega)
        · intro b u e
          rw [upd_ne (ne_of_none e noH)]
          exact s4 _ _ (s2 _ _ e)
        · exact But.tup but_upd ho4 (Same.tup s4 hs2)
        · rw [upd_ne hpo]; exact hp4
        · rw [upd_same, take_snoc hj, List.map_append, List.map_append, hz]
          rfl
      refine ⟨_, rfl, .inl ⟨rfl, _, SqL.of ho4⟩, _, rfl, rfl, _, rfl, ?_⟩
      cases pt with
      | w k =>
        have hv5 := hole_non hv4
        subst hv5
        have e : k = j := of_decide_eq_true hmp
        exact iteT ⟨_, rfl, step _ (by rw [e]; rfl)⟩
      | h n bb =>
        obtain ⟨t, rfl, ht⟩ := hole_ref hv4
        have hmv : (kvOf (n, bb, j)) ∈ (valsL ps ws).map kvOf := List.mem_map.mpr ⟨_, mem_vals hpt hj, rfl⟩
        have hg := merge_get (k := (.inr (nS n) : Key)) (v := (kvOf (n, bb, j)).2) _ [] (vals_nd hlen nd) hmv
        refine iteF ⟨_, rfl, _, rfl, t, _, 0, _, rfl, rfl, ht, rfl, p, (kvOf (n, bb, j)).2, rfl, .inl ⟨_, .inr (nS n), .inl hp4, rfl, hg.symm⟩, ?_⟩
        cases bb with
        | false => exact .inr ⟨_, rfl, step _ rfl⟩
        | true =>
          have hi2 : (numW j).isSome = true := hmp
          cases e : numW j with
          | none => rw [e] at hi2; cases hi2
          | some m =>
            obtain ⟨_, _, g3, g4⟩ := num_range j m e
            have ev : (kvOf (n, true, j)).2 = V.int m := by
              show numV j = _
              unfold numV
              rw [e]
            rw [ev]
            exact .inl ⟨m, rfl, g3, step _ g4⟩
    · rintro σ H2 ⟨v4, v5, rfl, s2, hs2, hp2, ho⟩
      rw [List.length_map, hlen, List.take_length] at ho
      have hsum := words_sum ws
      have hjl : (Txt.join sl (ws.map wS)).length ≤ 100 := by
        have e := patS_len (pW ws) (by rw [pW_len]; omega)
        have e2 := pth_eq ws
        unfold pthS at e2
        rw [e2] at e
        rw [TL.len_tl, TL.tl_append, List.length_append] at e
        rw [TL.len_tl]
        omega
      refine ⟨⟨_, rfl⟩, _, rfl, "/", o, ws.map wS, rfl, rfl, .inl (SqL.of ho), ?_, ?_⟩
      · rw [List.length_map]
        show _ + _ * 1 ≤ _
        omega
      · have hz : (sl.length : Nat) = 1 := rfl
        refine ⟨sl, _, rfl, rfl, ?_, ?_⟩
        · show sl.length + (Txt.join sl (ws.map wS)).length ≤ _
          have := small1000 (n := 500) (by omega)
          omega
        · have z := q H2 s2
          rw [pth_eq] at z
          exact z
def spPathOf (K : PySem.W.Frag) : Sp := fun vs H Q _ => ∃ (v : V) (r : Rt) (ws : List (Fin 10)) (a : Addr) (ys : List V), vs = [v, .str (rS r.nm), .ref a] ∧ Dp K H v (rtsD [r]) ∧ OkPat r.pat ∧ FrzT H a ys ∧ DpAll K H ys ((valsL r.pat ws).map vlD) ∧ met r.pat ws = true ∧ ∀ H', Same H H' → Q (.str (pthS ws)) H'
theorem scPathOf : FnScope ["routes", "name", "values", "pattern", "route"] ["routes", "name", "values"] (fnScope (tp 52)) := C8.fnScope_by (by decide +kernel)
theorem one_ok {r : Rt} (h : OkPat r.pat) : OkRts [r] := ⟨by simp, by simp, fun q hq => by rw [List.mem_singleton] at hq; rw [hq]; exact h, by simp⟩
theorem c_pathOf (cR : Cal P w K mg base 9 "need_routes" (spNeedR K) []) (cN : Cal P w K mg base 2 "is_name" spName []) (cO : Cal P w K mg base 1 "pattern_of" (spPatOf K) []) (cG : Cal P w K mg base 5 "are_given" (spGivens K) []) (cB : Cal P w K mg base 4 "path_by" (spPathBy K) [])
    (F : Def K mg "path_of" (tp 52) f fd) (b : Binds K fd ["routes", "name", "values"] []) : Cal P w K mg base 10 "path_of" (spPathOf K) [] := by
  refine cal0 F b .nil scPathOf (fun vs H Q E h => ?_) (fun cdv A outer s H vs Q E hr h => ?_)
  · obtain ⟨_, _, _, _, _, rfl, _⟩ := h
    rfl
  · obtain ⟨v, r, ws, a, ys, rfl, hv, ok, ha, hd, hm, q⟩ := h
    refine ⟨_, pss_cons (ps_expr (pe_c cR hr (by decide) (by rfl) (pa_cons (pv 0) pa_nil)))
      (pss_cons (ps_if (PW.pt (pw_or (pt_not (pt_val (pe_c cN hr (by decide) (by rfl) (pa_cons (pv 1) pa_nil))))
        (pw_or1 (pt_cmpR op_notIn_seq (pv 1) (pe_lc (own := [("route", 4)]) (g := gName 4) (tt := tYes) (by rfl) scPathOf.nd (pi_tup (pv 0)) (blkOk_by (own := [("route", 4)]) (N := ["routes", "name", "values", "pattern", "route"]) (sc := fnScope (tp 52)) (by decide +kernel))
          (fun _ _ _ _ _ => pg_name (i := 4) scPathOf.nd rfl (Or.inl rfl)) (fun _ _ _ _ _ => pts_nil) (fun _ _ _ _ _ => pe_ix (ixT K) (pv 4) pe_int (fun _ _ => rfl))) (by rfl))))) (pss_one ps_never) pss_nil)
      (pss_cons (ps_set (i := 3) scPathOf.nd rfl (.inl rfl) (pe_c cO hr (by decide) (by rfl) (pa_cons (pv 0) (pa_cons (pv 1) pa_nil))))
      (pss_cons (ps_if (pt_not (pt_val (pe_c cG hr (by decide) (by rfl) (pa_cons (pv 3) (pa_cons (pv 2) pa_nil))))) (pss_one ps_never) pss_nil)
      (pss_one (ps_ret (pe_c cB hr (by decide) (by rfl) (pa_cons (pv 3) (pa_cons (pv 2) pa_nil)))))))), ?_⟩
    have okr := one_ok ok
    have hnl := rS_len r.nm
    refine ⟨_, rfl, v, [r], rfl, hv, okr, fun H1 s1 => ?_⟩
    refine ⟨_, rfl, rS r.nm, rfl, by omega, fun H2 s2 => ⟨_, rfl, itF (by rw [rS_name]; rfl) ?_⟩⟩
    have s12 := s1.trans s2
    have hv2 := dp_same s12 _ _ hv
    obtain ⟨c, xs, rfl, hs, hdx⟩ := tup_dp hv2
    have hxl : xs.length = 1 := by
      have := dps_len hdx
      exact this
    refine ⟨_, rfl, _, rfl, c, rfl, ⟨_, hs⟩, fun D hD => ?_⟩
    refine lc_it walk_tup (LcP (fun k v H => Dp K H v (.str (rS r.nm))) (fun _ => true) H2 D) (.start hD) (fun i H hi hP => Same.tup hP.same hs) ?_ ?_
    · rintro i v H3 H4 hi hP ⟨rfl, hx⟩
      obtain ⟨r2, h1, h2⟩ := rts_at (rs := [r]) hdx hx
      obtain ⟨t, rfl, ht⟩ := rt_dp (dp_same hP.same _ _ h2)
      have e : r2 = r := List.mem_singleton.mp (List.mem_of_getElem? h1)
      subst e
      refine ⟨rfl, _, rfl, t, _, 0, _, rfl, rfl, ht, rfl, ?_⟩
      exact LcP.add hD (dp_stay fun _ => by unfold noL; rfl) hP (Same.refl _) (by omega) rfl (.str _)
    · intro H3 hP
      have hq := LcP.strs (t := fun _ => rS r.nm) hP
      rw [hxl] at hq
      refine ⟨D, _, rfl, .inl hq, rfl, rfl, _, rfl, itF (by show (!inV _ _) = false; simp [inV, eqV]) ?_⟩
      have s23 := s12.trans hP.same
      refine ⟨_, rfl, _, rfl, _, [r], 0, r, rfl, dp_same hP.same _ _ hv2, okr, rfl, fun H4 s4 => ?_⟩
      have s24 := s23.trans s4
      refine ⟨_, rfl, _, rfl, r.pat, ws, a, ys, rfl, Same.tup s24 (ha.sq), dps_same s24 _ _ hd, ok.1, hm, fun H5 s5 => ⟨_, rfl, iteF ?_⟩⟩
      have s25 := s24.trans s5
      exact ⟨_, rfl, _, rfl, r.pat, ws, a, ys, rfl, ha.same s25, dps_same s25 _ _ hd, ok, hm, fun H6 s6 => q _ (s25.trans s6)⟩
end
end K7

set_option maxRecDepth 100000
set_option maxHeartbeats 4000000
/-! K7K: are_alike, hidden. -/
namespace K7
open PySem PySem.Spec PyProof.Rows L2
open PySem.W (Datum DatumOrd minOf)
open C8 (Def Cal CalAt cal0 pe_c pe_gc fnScope fnBody fnArgs)
def alike (ps qs : List Pt) : Bool := decide (ps.map knd = qs.map knd) && (ps.zip qs).all fun q => isH q.1 || decide (q.1 = q.2)
theorem ptS_inj {p q : Pt} (h : ptS p = ptS q) : p = q := by
  have k := all_pt (P := fun p => allPt.all fun q => decide (ptS p = ptS q → p = q)) (by decide +kernel) p
  exact of_decide_eq_true (List.all_eq_true.mp k q (mem_allPt q)) h
theorem ints_shaped (l : List Int) : SeqAt.shaped (Datum.toD l) = true := by
  show (PyData.canLay0 (Datum.toD l) && decide ((Datum.toD l).depth ≤ 64)) = true
  rw [Bool.and_eq_true]
  refine ⟨?_, decide_eq_true (Nat.le_trans (Datum.depth_le l) (by decide))⟩
  show PyData.canLay0 (.list (l.map Datum.toD)) = true
  simp [PyData.canLay0, ints_lay]
theorem ints_toD {K : PySem.W.Frag} {H : Hp} {a : Addr} {l : List Int} (h : H a = some (.lst (l.map V.int))) : Dp K H (.ref a) (Datum.toD l) := .lst (SqL.of h) (dps_ints _)
theorem strs_lay : ∀ l : List Str, (∀ x ∈ l, PyData.canLay0 (.str x) = true) → PyData.canLayAll0 (l.map PyData.str) = true
  | [], _ => by simp [PyData.canLayAll0]
  | x :: l, h => by
    rw [List.map_cons, PyData.canLayAll0, h x List.mem_cons_self, strs_lay l fun y hy => h y (List.mem_cons_of_mem _ hy)]
    rfl
theorem rS_lay (n : Fin 11) : PyData.canLay0 (.str (rS n)) = true := by revert n; decide +kernel
theorem strs_shaped (l : List Str) (h : ∀ x ∈ l, PyData.canLay0 (.str x) = true) : SeqAt.shaped (Datum.toD l) = true := by
  show (PyData.canLay0 (Datum.toD l) && decide ((Datum.toD l).depth ≤ 64)) = true
  rw [Bool.and_eq_true]
  refine ⟨?_, decide_eq_true (Nat.le_trans (Datum.depth_le l) (by decide))⟩
  show PyData.canLay0 (.list (l.map PyData.str)) = true
  simp [PyData.canLay0, strs_lay l h]
section
variable {P : Program} {w : World} {K : PySem.W.Frag} {mg : Str → Option Value} {base : Heap} {f : Addr} {fd : FuncData} {bs : List Value}
def spAlike : Sp := fun vs H Q _ => ∃ ps qs : List Pt, vs = [.str (patS ps), .str (patS qs)] ∧ ps.length ≤ 5 ∧ qs.length ≤ 5 ∧ ∀ H', Same H H' → Q (.bl (alike ps qs)) H'
theorem scAlike : FnScope ["one", "other", "part", "its"] ["one", "other"] (fnScope (tp 53)) := C8.fnScope_by (by decide +kernel)
theorem c_alike (T : G7 K mg) (cK : Cal P w K mg base 4 "kinds_of" spKinds []) (cP : Cal P w K mg base 1 "parts_of" (spParts K) []) (cH : Cal P w K mg base 3 "hole_in" (spHole K) [])
    (F : Def K mg "are_alike" (tp 53) f fd) (b : Binds K fd ["one", "other"] []) : Cal P w K mg base 5 "are_alike" spAlike [] := by
  refine cal0 F b .nil scAlike (fun vs H Q E h => ?_) (fun cdv A outer s H vs Q E hr h => ?_)
  · obtain ⟨_, _, rfl, _⟩ := h
    rfl
  · obtain ⟨ps, qs, rfl, hl, hq, q⟩ := h
    refine ⟨_, pss_cons (ps_if (pt_cmpR (op_neD hr.units) (pe_c cK hr (by decide) (by rfl) (pa_cons (pv 0) pa_nil)) (pe_c cK hr (by decide) (by rfl) (pa_cons (pv 1) pa_nil)) (nomark _)) (pss_one (ps_ret pe_bl)) pss_nil)
      (pss_cons (ps_for PassesOwn.never rfl (RZ.pi_zipA (by rfl) T.zip (pa_cons (pe_c cP hr (by decide) (by rfl) (pa_cons (pv 0) pa_nil)) (pa_cons (pe_c cP hr (by decide) (by rfl) (pa_cons (pv 1) pa_nil)) pa_nil)))
          (pg_tup (by rfl) (pgs_cons (pg_name (i := 2) scAlike.nd rfl (.inl rfl)) (pgs_cons (pg_name (i := 3) scAlike.nd rfl (.inl rfl)) pgs_nil)))
        (pss_one (ps_if (PW.pt (pw_and (pt_cmpR op_isN (pe_c cH hr (by decide) (by rfl) (pa_cons (pv 2) pa_nil)) pe_non (nomark _)) (pw_and1 (pt_cmpR op_ne (pv 2) (pv 3) (nomark _))))) (pss_one (ps_ret pe_bl)) pss_nil)))
      (pss_one (ps_ret pe_bl))), ?_⟩
    refine ⟨_, rfl, ps, rfl, hl, fun H1 p1 s1 _ hp1 => ⟨_, rfl, qs, rfl, hq, fun H2 p2 s2 _ hp2 => ?_⟩⟩
    refine ⟨Datum.toD (ps.map knd), Datum.toD (qs.map knd), ints_toD (s2 _ _ hp1), ints_toD hp2, ints_shaped _, ints_shaped _, _, rfl, ?_⟩
    rw [Datum.eqv]
    have s12 := s1.trans s2
    unfold alike at q
    cases e : decide (ps.map knd = qs.map knd) with
    | false =>
      refine iteT ?_
      have z := q H2 s12
      rw [e, Bool.false_and] at z
      exact z
    | true =>
      rw [e] at q
      have hlen : ps.length = qs.length := by
        have := congrArg List.length (of_decide_eq_true e)
        rwa [List.length_map, List.length_map] at this
      refine iteF ?_
      refine ⟨_, rfl, ps, rfl, hl, fun H3 v3 s3 hv3 => ⟨_, rfl, qs, rfl, hq, fun H4 v4 s4 hv4 => ?_⟩⟩
      obtain ⟨a, rfl, ha⟩ := pts_dp (dp_same s4 _ _ hv3)
      obtain ⟨c, rfl, hc⟩ := pts_dp hv4
      have s14 := s12.trans (s3.trans s4)
      have hn : ps.length = min (ps.map fun p => V.str (ptS p)).length (qs.map fun p => V.str (ptS p)).length := by
        rw [List.length_map, List.length_map]; omega
      refine ⟨a, c, _, _, rfl, .inr ⟨ha, hc, for_it (walk_zipT hn) (fun i σ H3 => ∃ v2 v3, σ = [some (.str (patS ps)), some (.str (patS qs)), v2, v3] ∧ Same H H3 ∧ SqT K H3 a (ps.map fun p => V.str (ptS p)) ∧ SqT K H3 c (qs.map fun p => V.str (ptS p)) ∧
          ∀ k p r, k < i → ps[k]? = some p → qs[k]? = some r → (isH p || decide (p = r)) = true)
        ⟨none, none, rfl, s14, ha, hc, fun k p r hk => absurd hk (Nat.not_lt_zero _)⟩ (fun i σ H3 _ ⟨_, _, _, _, q1, q2, _⟩ => ⟨q1, q2⟩) ?_ ?_⟩⟩
      · rintro i v σ H5 H6 hi ⟨v2, v3, rfl, s5, ha5, hc5, hall⟩ ⟨t, x, y, rfl, hT, rfl, hx, hy⟩
        obtain ⟨p, hp, rfl⟩ := map_at hx
        obtain ⟨r, hr2, rfl⟩ := map_at hy
        have st : Same H5 (upd H5 t (.tup [V.str (ptS p), V.str (ptS r)])) := same_new hT
        refine ⟨t, _, rfl, SqT.of upd_same, rfl, _, _, rfl, _, _, rfl, rfl, ?_⟩
        refine ⟨_, rfl, p, rfl, fun H7 v7 s7 hv7 => ⟨rfl, _, rfl, ?_⟩⟩
        have s57 := st.trans s7
        have go : (isH p || decide (p = r)) = true → ∃ v2 v3, [some (V.str (patS ps)), some (V.str (patS qs)), some (V.str (ptS p)), some (V.str (ptS r))] = [some (.str (patS ps)), some (.str (patS qs)), v2, v3] ∧ Same H H7 ∧ SqT K H7 a (ps.map fun p => V.str (ptS p)) ∧ SqT K H7 c (qs.map fun p => V.str (ptS p)) ∧
          ∀ k p r, k < i + 1 → ps[k]? = some p → qs[k]? = some r → (isH p || decide (p = r)) = true := by
          intro hok
          refine ⟨_, _, rfl, s5.trans s57, Same.tup s57 ha5, Same.tup s57 hc5, fun k p2 r2 hk h1 h2 => ?_⟩
          by_cases c : k < i
          · exact hall k p2 r2 c h1 h2
          · have ek : k = i := by omega
            subst ek
            rw [hp] at h1
            rw [hr2] at h2
            cases h1
            cases h2
            exact hok
        cases p with
        | h n bb =>
          obtain ⟨t2, rfl, _⟩ := hole_ref hv7
          exact iteF (iteF (go rfl))
        | w j =>
          rw [hole_non hv7]
          refine iteT ⟨_, rfl, _, rfl, rfl, _, rfl, ?_⟩
          have e1 : decide (V.str (ptS (.w j)) = V.str (ptS r)) = decide (Pt.w j = r) := decide_eq_decide.mpr ⟨fun e => ptS_inj (V.str.inj e), fun e => by rw [e]⟩
          rw [e1]
          cases e2 : decide (Pt.w j = r) with
          | true => exact iteF (go (by rw [e2]; rfl))
          | false =>
            refine iteT ?_
            have z := q H7 (s5.trans s57)
            have e3 : (ps.zip qs).all (fun q => isH q.1 || decide (q.1 = q.2)) = false := by
              rw [List.all_eq_false]
              refine ⟨(.w j, r), List.mem_of_getElem? (List.getElem?_zip_eq_some.mpr ⟨hp, hr2⟩), ?_⟩
              show ¬ (isH (.w j) || decide (Pt.w j = r)) = true
              rw [e2]
              exact Bool.false_ne_true
            rw [e3] at z
            exact z
      · rintro σ H5 ⟨v2, v3, rfl, s5, ha5, hc5, hall⟩
        have z := q H5 s5
        have e3 : (ps.zip qs).all (fun q => isH q.1 || decide (q.1 = q.2)) = true := by
          rw [List.all_eq_true]
          rintro ⟨p, r⟩ hm
          obtain ⟨k, hk⟩ := List.mem_iff_getElem?.mp hm
          obtain ⟨h1, h2⟩ := List.getElem?_zip_eq_some.mp hk
          exact hall k p r (List.getElem?_eq_some_iff.mp h1).1 h1 h2
        rw [e3] at z
        exact z
/-- a route ahead hides the i-th -/
def hides (rs : List Rt) (i k : Nat) : Bool := decide (V.str (vS (rs.getD k r0).get) = V.str (vS (rs.getD i r0).get)) && alike (rs.getD k r0).pat (rs.getD i r0).pat
def hid (rs : List Rt) (i : Nat) : Bool := (List.range i).any (hides rs i)
def hidN (rs : List Rt) : Nat := ((List.range rs.length).filter (hid rs)).length
def spHidden (K : PySem.W.Frag) : Sp := fun vs H Q _ => ∃ (v : V) (rs : List Rt), vs = [v] ∧ Dp K H v (rtsD rs) ∧ OkRts rs ∧ ∀ H' l ys, Same H H' → SqT K H' l ys → ys.length = hidN rs → Q (.ref l) H'
theorem scHidden : FnScope ["routes", "told", "at", "name", "verb", "pattern", "some", "its", "own", "other"] ["routes"] (fnScope (tp 54)) := C8.fnScope_by (by decide +kernel)
theorem c_hidden (T : G7 K mg) (cR : Cal P w K mg base 9 "need_routes" (spNeedR K) []) (cA : Cal P w K mg base 5 "are_alike" spAlike [])
    (F : Def K mg "hidden" (tp 54) f fd) (b : Binds K fd ["routes"] []) : Cal P w K mg base 10 "hidden" (spHidden K) [] := by
  refine cal0 F b .nil scHidden (fun vs H Q E h => ?_) (fun cdv A outer s H vs Q E hr h => ?_)
  · obtain ⟨_, _, rfl, _⟩ := h
    rfl
  · obtain ⟨v, rs, rfl, hv, ok, q⟩ := h
    refine ⟨_, pss_cons (ps_expr (pe_c cR hr (by decide) (by rfl) (pa_cons (pv 0) pa_nil)))
      (pss_cons (ps_set (i := 1) scHidden.nd rfl (.inl rfl) (pe_lst pa_nil))
      (pss_cons (ps_for PassesOwn.never rfl (pi_enumT (by rfl) T.enum (pa_cons (pv 0) pa_nil))
          (pg_tup (by rfl) (pgs_cons (pg_name (i := 2) scHidden.nd rfl (.inl rfl)) (pgs_cons (pg_tup (by rfl) (pgs_cons (pg_name (i := 3) scHidden.nd rfl (.inl rfl)) (pgs_cons (pg_name (i := 4) scHidden.nd rfl (.inr rfl)) (pgs_cons (pg_name (i := 5) scHidden.nd rfl (.inr rfl)) pgs_nil)))) pgs_nil)))
        (pss_cons (ps_setLc (i := 6) (own := [("its", 7), ("own", 8), ("other", 9)]) (g := g3 K 7 8 9) (by rfl) scHidden.nd rfl rfl (sw_true rfl rfl rfl (by decide +kernel)) (pi_tup (pe_slice sl_tupA (pv 0) po_none (po_some (pv 2))))
            (blkOk_by (own := [("its", 7), ("own", 8), ("other", 9)]) (N := ["routes", "told", "at", "name", "verb", "pattern", "some", "its", "own", "other"]) (sc := fnScope (tp 54)) (by decide +kernel))
            (fun _ _ _ _ _ => pg_tup (by rfl) (pgs_cons (pg_name (i := 7) scHidden.nd rfl (Or.inl rfl)) (pgs_cons (pg_name (i := 8) scHidden.nd rfl (Or.inl rfl)) (pgs_cons (pg_name (i := 9) scHidden.nd rfl (Or.inl rfl)) pgs_nil))))
            (fun _ _ _ _ _ => pts_one (PW.pt (pw_and (pt_cmpR op_eq (pv 8) (pv 4) (nomark _)) (pw_and1 (pt_val (pe_c cA hr (by decide) (by rfl) (pa_cons (pv 9) (pa_cons (pv 5) pa_nil))))))))
            (fun _ _ _ _ _ => pv 7))
        (pss_one (ps_if (pt_cmpR (op_neD hr.units) (pv 6) (pe_lst pa_nil) (nomark _))
          (pss_one (ps_expr (pe_bm PySem.F.plainAttrs_list PySem.F.slot_list_append PySem.F.type_list_append mt_append (pv 1) (pa_cons (pe_tup (pa_cons (pv 3) (pa_cons (pe_ix ix_list (pv 6) pe_int (fun _ _ => rfl)) pa_nil))) pa_nil)))) pss_nil))))
      (pss_one (ps_ret (pe_callTy call_tuple_frz (by rfl) T.tuple (by decide +kernel) (pa_cons (pv 1) pa_nil)))))), ?_⟩
    refine ⟨_, rfl, v, rs, rfl, hv, ok, fun H1 s1 => ?_⟩
    have hv1 := dp_same s1 _ _ hv
    obtain ⟨a, xs, rfl, hs, hd⟩ := tup_dp hv1
    have hxl : xs.length = rs.length := by
      have := dps_len hd
      rw [List.length_map] at this
      exact this
    have p2 := ok.few
    refine ⟨Nat.zero_le _, fun o no => ?_⟩
    refine ⟨_, rfl, a, xs, rfl, Same.tup (same_new no) hs, for_it walk_enumT (fun i σ H2 => ∃ v2 v3 v4 v5 v6 ys, σ = [some (.ref a), some (.ref o), v2, v3, v4, v5, v6, none, none, none] ∧ Same H1 H2 ∧ SqT K H2 a xs ∧ H2 o = some (.lst ys) ∧ ys.length = ((List.range i).filter (hid rs)).length)
      ⟨none, none, none, none, none, [], rfl, same_new no, Same.tup (same_new no) hs, upd_same, rfl⟩ (fun i σ H2 _ ⟨_, _, _, _, _, _, _, _, q1, _⟩ => q1) ?_ ?_⟩
    · rintro i v σ H2 H3 hi ⟨v2, v3, v4, v5, v6, ys, rfl, s2, hs2, ho2, hyl⟩ ⟨t, x, y, rfl, hT, rfl, hx, hy⟩
      have hx : some (V.int (i : Int)) = some x := hx
      obtain rfl := Option.some.inj hx
      obtain ⟨r, h1, h2⟩ := rts_at hd hy
      have st : Same H2 (upd H2 t (.tup [V.int (i : Int), y])) := same_new hT
      have s3 := s2.trans st
      obtain ⟨tr, rfl, hr3⟩ := rt_dp (dp_same s3 _ _ h2)
      have okp := (ok.pat r (List.mem_of_getElem? h1)).1
      have eg : rs.getD i r0 = r := getD_of h1
      have hs3 := Same.tup st hs2
      have ho3 := st _ _ ho2
      have hyi : ys.length ≤ i := by rw [hyl]; exact filt_len _ _
      refine ⟨t, _, rfl, SqT.of upd_same, rfl, _, _, rfl, _, _, rfl, ⟨tr, _, rfl, hr3, rfl, _, _, rfl, _, _, rfl, _, _, rfl, rfl, ?_⟩⟩
      have hcut : cutV xs none (some (i : Int)) = xs.take i := by
        unfold cutV
        rw [HT.sIx_none, HT.sIx_nat, List.drop_zero, Nat.min_eq_left (Nat.le_of_lt hi), Nat.sub_zero]
      refine ⟨rfl, _, rfl, _, rfl, (i : Int), rfl, a, xs, rfl, hs3, fun hw => ?_, fun _ p hp => ?_⟩
      · exfalso
        have := hw.2
        rw [HT.sIx_nat] at this
        omega
      rw [hcut]
      have s4 : Same (upd H2 t (.tup [V.int (i : Int), V.ref tr])) (upd (upd H2 t (.tup [V.int (i : Int), V.ref tr])) p (.tup (xs.take i))) := same_new hp
      generalize e4 : upd (upd H2 t (.tup [V.int (i : Int), V.ref tr])) p (.tup (xs.take i)) = H4 at s4 ⊢
      have hp4 : H4 p = some (.tup (xs.take i)) := by rw [← e4]; exact upd_same
      have s24 := s3.trans s4
      have ho4 := s4 _ _ ho3
      have hs4 := Same.tup s4 hs3
      have htl : (xs.take i).length = i := by rw [List.length_take]; omega
      refine ⟨p, rfl, ⟨_, SqT.of hp4⟩, fun D hD => ?_⟩
      refine lc_it walk_tup (LcP (fun k v H => Dp K H v (.str (rS (rs.getD k r0).nm))) (hides rs i) H4 D) (.start hD) (fun j H hj hP => Same.tup hP.same (SqT.of hp4)) ?_ ?_
      · rintro j v H5 H6 hj hP ⟨rfl, hx⟩
        rw [htl] at hj
        rw [List.getElem?_take, if_pos hj] at hx
        obtain ⟨r2, h3, h4⟩ := rts_at hd hx
        have okp2 := (ok.pat r2 (List.mem_of_getElem? h3)).1
        have eg2 : rs.getD j r0 = r2 := getD_of h3
        obtain ⟨t2, rfl, ht2⟩ := rt_dp (dp_same (s24.trans hP.same) _ _ h4)
        refine ⟨t2, _, rfl, ht2, rfl, _, _, rfl, _, _, rfl, _, _, rfl, rfl, rfl, ?_⟩
        refine ⟨_, rfl, _, rfl, rfl, _, rfl, ?_⟩
        cases e1 : decide (V.str (vS r2.get) = V.str (vS r.get)) with
        | false =>
          refine iteF (iteF (hP.skip dp_keep (Same.refl _) ?_))
          unfold hides
          rw [eg, eg2, e1, Bool.false_and]
        | true =>
          refine iteT ⟨_, rfl, _, rfl, r2.pat, r.pat, rfl, okp2, okp, fun H7 s7 => ⟨_, rfl, ?_⟩⟩
          have ec : hides rs i j = alike r2.pat r.pat := by
            unfold hides
            rw [eg, eg2, e1, Bool.true_and]
          cases e2 : alike r2.pat r.pat with
          | false => exact iteF (hP.skip dp_keep s7 (ec.trans e2))
          | true =>
            refine iteT ⟨_, rfl, ?_⟩
            refine LcP.add hD (dp_stay fun _ => by unfold noL; rfl) hP s7 (by omega) (ec.trans e2) ?_
            show Dp K H7 _ (.str (rS (rs.getD j r0).nm))
            rw [eg2]
            exact .str _
      · intro H5 hP
        rw [htl] at hP
        obtain ⟨s5, zs, hz, hpz⟩ := hP
        have hd5 := paired_dps (K := K) (fun k => PyData.str (rS (rs.getD k r0).nm)) hpz
        have s25 := s24.trans s5
        have ho5 := s5 _ _ ho4
        have hs5 := Same.tup s5 hs4
        have hmm : ((List.range i).filter (hides rs i)).map (fun k => PyData.str (rS (rs.getD k r0).nm)) = (((List.range i).filter (hides rs i)).map (fun k => rS (rs.getD k r0).nm)).map Datum.toD := by rw [List.map_map]; rfl
        rw [hmm] at hd5
        refine ⟨_, rfl, Nat.zero_le _, fun e0 he0 => ⟨Datum.toD (((List.range i).filter (hides rs i)).map (fun k => rS (rs.getD k r0).nm)), Datum.toD ([] : List Str), dp_same (same_new he0) _ _ (.lst (SqL.of hz) hd5), .lst (SqL.of upd_same) .nil, strs_shaped _ ?_, strs_shaped _ ?_, _, rfl, ?_⟩⟩
        · intro x hx
          obtain ⟨k, _, rfl⟩ := List.mem_map.mp hx
          exact rS_lay _
        · intro x hx
          cases hx
        have s6 : Same H5 (upd H5 e0 (.lst [])) := same_new he0
        rw [Datum.eqv]
        have eh : hid rs i = decide ((List.range i).filter (hides rs i) ≠ []) := by
          unfold hid
          rw [Bool.eq_iff_iff, List.any_eq_true, decide_eq_true_eq]
          constructor
          · rintro ⟨k, hk1, hk2⟩ e
            have := List.mem_filter.mpr ⟨hk1, hk2⟩
            rw [e] at this
            cases this
          · intro e
            obtain ⟨k, hk⟩ := List.exists_mem_of_ne_nil _ e
            exact ⟨k, (List.mem_filter.mp hk).1, (List.mem_filter.mp hk).2⟩
        cases ef : (List.range i).filter (hides rs i) with
        | nil =>
          rw [ef] at eh
          refine itF (by rw [decide_eq_true (by rfl)]; rfl) ⟨_, _, _, _, _, ys, rfl, s25.trans s6, Same.tup s6 hs5, s6 _ _ ho5, ?_⟩
          rw [filt_succ, eh, hyl]
          simp
        | cons k0 l0 =>
          rw [ef] at eh hpz
          cases hpz with
          | cons q1 q2 =>
            rename_i y0 yl
            refine itT (by rw [decide_eq_false (by simp)]; rfl) ⟨_, rfl, .inl ⟨rfl, _, SqL.of (s6 _ _ ho5)⟩, _, rfl, _, rfl, D, _, 0, y0, rfl, rfl, SqL.of (s6 _ _ hz), atI_nat rfl, by show 2 ≤ sizeLine; decide, fun t6 ht6 => ?_⟩
            have s7 : Same (upd H5 e0 (.lst [])) (upd (upd H5 e0 (.lst [])) t6 (.tup [V.str (rS r.nm), y0])) := same_new ht6
            have ho7 := s7 _ _ (s6 _ _ ho5)
            refine ⟨o, ys, _, rfl, rfl, ho7, small1000 (by omega), _, _, _, _, _, ys ++ [V.ref t6], rfl, ?_, ?_, upd_same, ?_⟩
            · intro b u e
              have no1 : H1 o = none := no
              rw [upd_ne (ne_of_none e no1)]
              exact s7 _ _ (s6 _ _ (s25 _ _ e))
            · exact But.tup but_upd ho7 (Same.tup s7 (Same.tup s6 hs5))
            · rw [filt_succ, eh, List.length_append, List.length_append, hyl]
              simp
    · rintro σ H2 ⟨v2, v3, v4, v5, v6, ys, rfl, s2, hs2, ho2, hyl⟩
      refine ⟨_, rfl, o, ys, rfl, SqL.of ho2, fun l ob hl hob => ?_⟩
      refine q _ l ys (s1.trans (s2.trans (same_new hl))) (.inl (.inr ⟨ob, upd_same⟩)) ?_
      rw [hyl, hxl]
      rfl
end
end K7

set_option maxRecDepth 100000
set_option maxHeartbeats 4000000
/-! K7L: the law's pen: _law_cell, _law_pen, _law_draw, _law_pick. -/
namespace K7
open PySem PySem.Spec PyProof.Rows L2
open C8 (Def Cal CalAt cal0 pe_c pe_gc fnScope fnBody fnArgs)
/-- the pen's list at p -/
def PenAt (H : Hp) (p : Addr) : Prop := ∃ n d : Int, H p = some (.lst [.int n, .int d])
theorem PenAt.same {H H' : Hp} {p : Addr} (e : Same H H') (h : PenAt H p) : PenAt H' p := by
  obtain ⟨n, d, h⟩ := h
  exact ⟨n, d, e _ _ h⟩
theorem But.seq {K : PySem.W.Frag} {p : Addr} {H H' : Hp} {a : Addr} {xs : List V} (e : But p H H') (n : a ≠ p) (h : SqL K H a xs) : SqL K H' a xs := by
  rcases h with (h | ⟨o, h⟩) | h
  · exact .inl (.inl (e _ _ h n))
  · exact .inl (.inr ⟨o, e _ _ h n⟩)
  · exact .inr h
theorem but_new {H H' : Hp} {p o : Addr} {u : HO} (e : But p H H') (h : H o = none) (n : o ≠ p) : But p H (upd H' o u) := fun b x hb hn => by
  rw [upd_ne (ne_of_none hb h)]
  exact e _ _ hb hn
section
variable {P : Program} {w : World} {K : PySem.W.Frag} {mg : Str → Option Value} {base : Heap} {f : Addr} {fd : FuncData} {bs : List Value}
def spCell (K : PySem.W.Frag) : Sp := fun vs H Q _ => ∃ (a : Addr) (ns : List Int), vs = [.ref a, .int 0] ∧ SqL K H a (ns.map V.int) ∧ ∀ i : Int, Q (.int i) H
theorem scCell : FnScope ["_law_script", "_law_k"] ["_law_script", "_law_k"] (fnScope (tp 56)) := C8.fnScope_by (by decide +kernel)
theorem c_cell (T : G7 K mg) (F : Def K mg "_law_cell" (tp 56) f fd) (b : Binds K fd ["_law_script", "_law_k"] []) : Cal P w K mg base 1 "_law_cell" (spCell K) [] := by
  refine cal0 F b .nil scCell (fun vs H Q E h => ?_) (fun cdv A outer s H vs Q E hr h => ?_)
  · obtain ⟨_, _, rfl, _⟩ := h
    rfl
  · obtain ⟨a, ns, rfl, hs, q⟩ := h
    refine ⟨_, pss_cons (ps_if (pt_cmpR op_lt (pv 1) (pe_callB call_len_seq (by rfl) T.len boot_len (pa_cons (pv 0) pa_nil)) (nomark _)) (pss_one (ps_ret (pe_ix ix_list (pv 0) (pv 1) (fun _ _ => rfl)))) pss_nil)
      (pss_one (ps_ret pe_int)), ?_⟩
    refine ⟨_, rfl, _, rfl, a, _, rfl, .inl hs, _, _, rfl, rfl, _, rfl, ?_⟩
    cases ns with
    | nil => exact itF (by decide) (q 0)
    | cons n r =>
      refine itT (decide_eq_true (by show (0 : Int) < (((n :: r).map V.int).length : Int); rw [List.map_cons, List.length_cons]; omega)) ⟨_, rfl, _, rfl, a, _, 0, _, rfl, rfl, hs, atI_nat rfl, q n⟩
def spPen : Sp := fun vs H Q _ => ∃ i : Int, vs = [.int i] ∧ ∀ H' p, Same H H' → H p = none → PenAt H' p → Q (.ref p) H'
theorem scPen : FnScope ["_law_cell_here"] ["_law_cell_here"] (fnScope (tp 57)) := C8.fnScope_by (by decide +kernel)
theorem c_pen (T : G7 K mg) (F : Def K mg "_law_pen" (tp 57) f fd) (b : Binds K fd ["_law_cell_here"] []) : Cal P w K mg base 1 "_law_pen" spPen [] := by
  refine cal0 F b .nil scPen (fun vs H Q E h => ?_) (fun cdv A outer s H vs Q E hr h => ?_)
  · obtain ⟨_, rfl, _⟩ := h
    rfl
  · obtain ⟨i, rfl, q⟩ := h
    refine ⟨_, pss_one (ps_ret (pe_lst (pa_cons (pv 0) (pa_cons (pe_callTy call_int1 (by rfl) T.int boot_int (pa_cons (pe_cmpR op_ge (pv 0) (pe_op op_pow pe_int pe_int) (nomark _)) pa_nil)) pa_nil)))), ?_⟩
    refine ⟨_, rfl, _, rfl, 10, 18, rfl, rfl, ⟨by decide, by decide, by decide⟩, i, _, rfl, rfl, .inr ⟨_, rfl, by show 2 ≤ sizeLine; decide, fun p hp => ?_⟩⟩
    exact q _ p (same_new hp) hp ⟨_, _, upd_same⟩
def spDraw : Sp := fun vs H Q _ => ∃ (p : Addr) (m : Nat), vs = [.ref p, .int (m : Int)] ∧ PenAt H p ∧ 0 < m ∧ m < 1073741824 ∧ ∀ H' (k : Nat), But p H H' → PenAt H' p → k < m → Q (.int (k : Int)) H'
theorem scDraw : FnScope ["_law_pen_here", "_law_many", "_law_digit"] ["_law_pen_here", "_law_many"] (fnScope (tp 58)) := C8.fnScope_by (by decide +kernel)
theorem fmod_nat (i : Int) {m : Nat} (h : 0 < m) : ∃ k : Nat, i.fmod (m : Int) = (k : Int) ∧ k < m := by
  have h1 : 0 ≤ i.fmod (m : Int) := Int.fmod_nonneg_of_pos i (by omega)
  have h2 : i.fmod (m : Int) < (m : Int) := Int.fmod_lt_of_pos i (by omega)
  exact ⟨(i.fmod (m : Int)).toNat, by omega, by omega⟩
theorem c_draw (F : Def K mg "_law_draw" (tp 58) f fd) (b : Binds K fd ["_law_pen_here", "_law_many"] []) : Cal P w K mg base 1 "_law_draw" spDraw [] := by
  refine cal0 F b .nil scDraw (fun vs H Q E h => ?_) (fun cdv A outer s H vs Q E hr h => ?_)
  · obtain ⟨_, _, rfl, _⟩ := h
    rfl
  · obtain ⟨p, m, rfl, ⟨n, d, hp⟩, hm, hm2, q⟩ := h
    refine ⟨_, pss_cons (ps_if (pt_cmpR op_eq (pe_ix ix_list (pv 0) pe_int (fun _ _ => rfl)) pe_int (nomark _))
        (pss_cons (ps_set (i := 2) scDraw.nd rfl (.inl rfl) (pe_op op_modN (pe_ix ix_list (pv 0) pe_int (fun _ _ => rfl)) (pv 1)))
        (pss_cons (ps_asg (pe_op op_fdivN (pe_ix ix_list (pv 0) pe_int (fun _ _ => rfl)) (pv 1)) (pg_sub (pv 0) pe_int set_list))
        (pss_one (ps_ret (pv 2))))) pss_nil)
      (pss_cons (ps_asg (pe_op op_modN (pe_op op_add (pe_op op_mul (pe_op op_modN (pe_ix ix_list (pv 0) pe_int (fun _ _ => rfl)) pe_int) pe_int) pe_int) pe_int) (pg_sub (pv 0) pe_int set_list))
      (pss_one (ps_ret (pe_op op_modN (pe_op op_fdivN (pe_op op_modN (pe_op op_add (pe_op op_mul (pe_ix ix_list (pv 0) pe_int (fun _ _ => rfl)) (pe_ix ix_list (pv 0) pe_int (fun _ _ => rfl))) (pe_op op_mul pe_int (pe_ix ix_list (pv 0) pe_int (fun _ _ => rfl)))) pe_int) pe_int) (pv 1))))), ?_⟩
    have hs : SqL K H p [.int n, .int d] := SqL.of hp
    refine ⟨_, rfl, p, _, 1, _, rfl, rfl, hs, rfl, rfl, _, rfl, ?_⟩
    cases e : decide (V.int d = V.int 1) with
    | true =>
      refine iteT ⟨_, rfl, p, _, 0, _, rfl, rfl, hs, rfl, _, rfl, n, (m : Int), rfl, rfl, by omega, ?_⟩
      obtain ⟨k, hk1, hk2⟩ := fmod_nat n hm
      dsimp only
      rw [hk1]
      refine ⟨_, rfl, p, _, 0, _, rfl, rfl, hs, rfl, _, rfl, n, (m : Int), rfl, rfl, ⟨by omega, by omega⟩, ?_⟩
      refine ⟨_, rfl, p, _, 0, 0, rfl, rfl, hp, rfl, ?_⟩
      exact ⟨_, rfl, q _ k (fun b o hb hn => by rw [upd_ne hn]; exact hb) ⟨_, _, upd_same⟩ hk2⟩
    | false =>
      refine iteF ⟨_, rfl, p, _, 0, _, rfl, rfl, hs, rfl, n, 2147483629, rfl, rfl, (by show (2147483629 : Int) ≠ 0; decide), ?_⟩
      obtain ⟨k1, hk1, hk2⟩ := fmod_nat n (m := 2147483629) (by decide)
      dsimp only
      rw [show n.fmod 2147483629 = (k1 : Int) from hk1]
      refine ⟨(k1 : Int), 48271, rfl, rfl, .inl ⟨by omega, by omega⟩, _, _, rfl, rfl, _, 2147483629, rfl, rfl, (by show (2147483629 : Int) ≠ 0; decide), ?_⟩
      obtain ⟨k2, hk3, hk4⟩ := fmod_nat ((k1 : Int) * 48271 + 11) (m := 2147483629) (by decide)
      dsimp only
      rw [show ((k1 : Int) * 48271 + 11).fmod 2147483629 = (k2 : Int) from hk3]
      refine ⟨_, rfl, p, _, 0, 0, rfl, rfl, hp, rfl, ?_⟩
      have hp2 : (upd H p (.lst [.int (k2 : Int), .int d])) p = some (.lst [.int (k2 : Int), .int d]) := upd_same
      have hs2 : SqL K (upd H p (.lst [.int (k2 : Int), .int d])) p [.int (k2 : Int), .int d] := SqL.of hp2
      refine ⟨_, rfl, p, _, 0, _, rfl, rfl, hs2, rfl, _, rfl, p, _, 0, _, rfl, rfl, hs2, rfl, (k2 : Int), (k2 : Int), rfl, rfl, .inl ⟨by omega, by omega⟩, _, rfl, p, _, 0, _, rfl, rfl, hs2, rfl, 40692, (k2 : Int), rfl, rfl, .inr ⟨by omega, by omega⟩, _, _, rfl, rfl, _, 2147483647, rfl, rfl, (by show (2147483647 : Int) ≠ 0; decide), _, 8, rfl, rfl, ⟨by decide, by decide⟩, _, rfl, _, (m : Int), rfl, rfl, (by show (m : Int) ≠ 0; omega), ?_⟩
      dsimp only
      generalize ((((k2 : Int) * (k2 : Int) + 40692 * (k2 : Int)).fmod 2147483647).fdiv 8) = z
      obtain ⟨k, hk5, hk6⟩ := fmod_nat z hm
      rw [hk5]
      exact q _ k (fun b o hb hn => by rw [upd_ne hn]; exact hb) ⟨_, _, upd_same⟩ hk6
def spPick (K : PySem.W.Frag) : Sp := fun vs H Q _ => ∃ (p a : Addr) (xs : List V), vs = [.ref p, .ref a] ∧ PenAt H p ∧ ((SqL K H a xs ∧ a ≠ p) ∨ SqT K H a xs) ∧ xs ≠ [] ∧ xs.length ≤ 1000 ∧
  ∀ H' (i : Nat) x, But p H H' → PenAt H' p → xs[i]? = some x → Q x H'
theorem scPick : FnScope ["_law_pen_here", "_law_things"] ["_law_pen_here", "_law_things"] (fnScope (tp 59)) := C8.fnScope_by (by decide +kernel)
theorem c_pick (T : G7 K mg) (cD : Cal P w K mg base 1 "_law_draw" spDraw []) (F : Def K mg "_law_pick" (tp 59) f fd) (b : Binds K fd ["_law_pen_here", "_law_things"] []) : Cal P w K mg base 2 "_law_pick" (spPick K) [] := by
  refine cal0 F b .nil scPick (fun vs H Q E h => ?_) (fun cdv A outer s H vs Q E hr h => ?_)
  · obtain ⟨_, _, _, rfl, _⟩ := h
    rfl
  · obtain ⟨p, a, xs, rfl, hp, hs, he, hl, q⟩ := h
    refine ⟨_, pss_one (ps_ret (pe_ix (IxR.or ix_list ix_tup) (pv 1) (pe_c cD hr (by decide) (by rfl) (pa_cons (pv 0) (pa_cons (pe_callB call_len_seq (by rfl) T.len boot_len (pa_cons (pv 1) pa_nil)) pa_nil))) (fun _ _ => rfl))), ?_⟩
    have hpos : 0 < xs.length := List.length_pos_iff.mpr he
    refine ⟨_, rfl, _, rfl, _, rfl, a, xs, rfl, hs.imp And.left id, p, xs.length, rfl, hp, hpos, by omega, fun H' k b hp' hk => ?_⟩
    have hx : xs[k]? = some xs[k] := List.getElem?_eq_getElem hk
    obtain ⟨n, d, hpp⟩ := hp
    rcases hs with ⟨hs, hn⟩ | hs
    · exact .inl ⟨a, xs, k, _, rfl, rfl, b.seq hn hs, atI_nat hx, q _ k _ b hp' hx⟩
    · exact .inr ⟨a, xs, k, _, rfl, rfl, b.tup hpp hs, atI_nat hx, q _ k _ b hp' hx⟩
end
end K7

set_option maxRecDepth 100000
set_option maxHeartbeats 4000000
/-! K7R4: an if whose test's last part compares a written text: behind it a token is out; name = e.replace(..). -/
namespace K7
open PySem PySem.Spec PyProof.Rows L2
section
variable {X : Cx}
structure PTk (X : Cx) (e : Expr) (t : TT) : Prop where
  run : ∀ (pins : List (Addr × Obj)) (s : Shared) (σ : L2.St) (H : Hp) (Q : Bool → Hp → Prop), Inv X pins σ H s → t σ H Q →
    wpAny (model X.prog X.w) X.A (isTrue e X.env (eval e X.env)) (fun b s1 => TP X pins σ Q b s1 ∧ (b = true → 1 ≤ s1.toks)) X.xe s
structure PWk (X : Cx) (e : Expr) (t : TT) : Prop where
  run : ∀ (whole : Sem Value) (pins : List (Addr × Obj)) (s : Shared) (σ : L2.St) (H : Hp) (Q : Bool → Hp → Prop), Inv X pins σ H s → t σ H Q →
    wpAny (model X.prog X.w) X.A (isTrue e X.env whole) (fun b s1 => TP X pins σ Q b s1 ∧ (b = true → 1 ≤ s1.toks)) X.xe s
theorem PWk.pk {e : Expr} {t : TT} (h : PWk X e t) : PTk X e t := ⟨h.run _⟩
theorem pk_cmp {op : CmpOp} {r : R2} {c : Str} {b : Expr} {tb : TE} {j : Nat} {cp pos : Pos} (ho : OpR X (compareOp op) r) (hb : PE X b tb) (hm : behindInMarks op b = false) :
    PTk X (.Compare (.Constant (.str c) j cp) [op] [b] pos) (tTest (tOp r (tC (.str c)) tb)) := by
  refine ⟨fun pins s σ H Q I h => ?_⟩
  refine wpAny_isTrue_Compare1 (Calls.Constant_str ?_) hm
  refine wpAny_mono (PySem.wpAny_toks (hb.run pins _ σ H _ (I.tok (s.toks + 1)) h)) (fun u s2 q => ?_) fun _ _ z => z.2
  obtain ⟨hk, y, H2, I2, r2, q2⟩ := q
  refine wpAny_mono (PySem.wpAny_toks (ho pins s2 σ H2 (.str c) y _ u _ I2 ⟨s.toks, rfl⟩ r2 q2)) (fun z s3 q => ?_) fun _ _ z => z.2
  obtain ⟨hk3, z2, H3, I3, r3, k, e, q3⟩ := q
  subst e
  cases r3
  refine wpAny_truthy_bool ⟨⟨H3, I3, q3⟩, fun _ => ?_⟩
  have : s.toks + 1 ≤ s2.toks := hk
  omega
theorem wk_and1 {a : Expr} {tA : TT} {pos : Pos} (ha : PTk X a tA) : PWk X (.BoolOp .And [a] pos) tA := by
  refine ⟨fun wh pins s σ H Q I h => ?_⟩
  refine isTrue_and (thn (ha.run pins s σ H Q I h) fun c s1 e => ?_)
  cases c with
  | true => exact isTrue_and_nil e
  | false => exact e
theorem wk_and {a b : Expr} {rest : List Expr} {tA tB' : TT} {pos : Pos} (ha : PT X a tA) (hb : PWk X (.BoolOp .And (b :: rest) pos) tB') : PWk X (.BoolOp .And (a :: b :: rest) pos) (tAnd tA tB') := by
  refine ⟨fun wh pins s σ H Q I h => ?_⟩
  refine isTrue_and (thn (ha.run pins s σ H _ I h) fun c s1 ⟨H1, I1, q1⟩ => ?_)
  cases c with
  | true => exact hb.run wh pins s1 σ H1 Q I1 q1
  | false => exact ⟨⟨H1, I1, q1⟩, fun e => by cases e⟩
theorem ps_ifk {c : Expr} {a b : List Stmt} {tc : TT} {t u : TS} {pos : Pos} (hc : PTk X c tc) (ha : PSsT X a t) (hb : PSs X b u) : PS X (.If c a b pos) (tIfS tc t u) := by
  refine ⟨fun pins s σ H D I h => ?_⟩
  refine wpAny_If (thn (hc.run pins s σ H _ I h) fun d s1 ⟨⟨H1, I1, q1⟩, hk⟩ => ?_)
  cases d with
  | true => exact ha pins s1 σ H1 D (hk rfl) I1 q1
  | false => exact hb.run pins s1 σ H1 D I1 q1
theorem pst_set {i : Nat} {x : Str} {e : Expr} {te : TE} {pos pos' : Pos} (hN : X.N.Nodup) (hi : X.N[i]? = some x) (hx : Loc X.env.scope x) (he : PET X e te) (hs : swapsWith e (some (.Name x pos')) pos.line X.env = pure false := by rfl) (hf : X.fn x = true ∨ X.env.scope.names.lookup x = some .local := by first | exact .inl rfl | exact .inr rfl | assumption) :
    PST X (.Assign [.Name x pos'] e pos) (tAsg te (gName i)) := by
  intro pins s σ H D h0 I h
  refine wpAny_Assign_Name (thn (he pins s σ H _ h0 I h) fun v s1 ⟨y, H1, I1, r1, q1⟩ => ?_) hs
  exact store_ok I1 hN hi hx r1 (fun s2 I2 => ⟨_, H1, I2, q1⟩) hf
end
end K7

set_option maxRecDepth 100000
set_option maxHeartbeats 4000000
/-! K7T: texts: replace, in, the closer's pieces; patterns by place. -/
namespace K7
open PySem L2
open PySem.StrLaws (replL replL_nil replL_hit replL_miss replace_list)
def ren : Pt → Pt
  | .h n b => if n = 2 then .h 5 b else .h n b
  | p => p
theorem repl_free {y z : List Nat} {T : List Nat} : ∀ l : List Nat, 123 ∉ l → replL (123 :: y) z (l ++ T) = l ++ replL (123 :: y) z T
  | [], _ => rfl
  | c :: l, h => by
    rw [List.mem_cons, not_or] at h
    have hm : ¬ (c :: (l ++ T)).take (123 :: y).length = 123 :: y := by
      rw [List.length_cons, List.take_succ_cons]
      intro e
      injection e with e1 e2
      exact h.1 e1.symm
    show replL (123 :: y) z (c :: (l ++ T)) = _
    rw [replL_miss hm, repl_free l h.2]
    rfl
theorem ren_facts (p : Pt) : (123 ∉ TL.tl (ptS p) ∧ ren p = p) ∨ (TL.tl (ptS p) = 123 :: (TL.tl (ptS p)).tail ∧ (TL.tl (ptS p)).tail = (TL.tl (ptS p)).tail.headD 0 :: (TL.tl (ptS p)).tail.tail ∧ (TL.tl (ptS p)).tail.headD 0 ≠ 120 ∧ 123 ∉ (TL.tl (ptS p)).tail ∧ ren p = p) ∨
    (TL.tl (ptS p) = 123 :: 120 :: (TL.tl (ptS p)).drop 2 ∧ TL.tl (ptS (ren p)) = 123 :: 120 :: 120 :: (TL.tl (ptS p)).drop 2 ∧ 123 ∉ (TL.tl (ptS p)).drop 2) ∨ (∃ b : Bool, p = .h 5 b) := by
  have h := all_pt (P := fun p => decide ((123 ∉ TL.tl (ptS p) ∧ ren p = p) ∨ (TL.tl (ptS p) = 123 :: (TL.tl (ptS p)).tail ∧ (TL.tl (ptS p)).tail = (TL.tl (ptS p)).tail.headD 0 :: (TL.tl (ptS p)).tail.tail ∧ (TL.tl (ptS p)).tail.headD 0 ≠ 120 ∧ 123 ∉ (TL.tl (ptS p)).tail ∧ ren p = p) ∨
    (TL.tl (ptS p) = 123 :: 120 :: (TL.tl (ptS p)).drop 2 ∧ TL.tl (ptS (ren p)) = 123 :: 120 :: 120 :: (TL.tl (ptS p)).drop 2 ∧ 123 ∉ (TL.tl (ptS p)).drop 2) ∨ (p = .h 5 true ∨ p = .h 5 false))) (by decide +kernel) p
  rcases of_decide_eq_true h with h | h | h | h | h
  · exact .inl h
  · exact .inr (.inl h)
  · exact .inr (.inr (.inl h))
  · exact .inr (.inr (.inr ⟨_, h⟩))
  · exact .inr (.inr (.inr ⟨_, h⟩))
theorem part_repl {T : List Nat} (p : Pt) (hp : ∀ b, p ≠ .h 5 b) : replL [123, 120] [123, 120, 120] (TL.tl (ptS p) ++ T) = TL.tl (ptS (ren p)) ++ replL [123, 120] [123, 120, 120] T := by
  rcases ren_facts p with ⟨h1, h2⟩ | ⟨h1, h2, h3, h4, h5⟩ | ⟨h1, h2, h3⟩ | ⟨b, h⟩
  · rw [repl_free _ h1, h2]
  · rw [h5, h1]
    generalize (TL.tl (ptS p)).tail = t at h2 h3 h4
    have hm : ¬ (123 :: (t ++ T)).take [123, 120].length = [123, 120] := by
      rw [h2]
      intro e
      have e : [123, t.headD 0] = [123, 120] := e
      injection e with _ e
      injection e with e _
      exact h3 e
    show replL [123, 120] [123, 120, 120] (123 :: (t ++ T)) = _
    rw [replL_miss hm, repl_free _ h4]
    rfl
  · rw [h2, h1]
    generalize (TL.tl (ptS p)).drop 2 = t at h3
    show replL [123, 120] [123, 120, 120] (123 :: 120 :: (t ++ T)) = _
    rw [replL_hit (by simp) rfl]
    show [123, 120, 120] ++ replL [123, 120] [123, 120, 120] (t ++ T) = _
    rw [repl_free _ h3]
    rfl
  · exact absurd h (hp b)
theorem joinL_repl : ∀ ps : List Pt, (∀ p ∈ ps, ∀ b, p ≠ .h 5 b) → replL [123, 120] [123, 120, 120] (TL.joinL [47] (ps.map fun p => TL.tl (ptS p))) = TL.joinL [47] ((ps.map ren).map fun p => TL.tl (ptS p))
  | [], _ => replL_nil
  | [p], h => by
    have := part_repl (T := []) p (h p List.mem_cons_self)
    rw [List.append_nil, replL_nil, List.append_nil] at this
    exact this
  | p :: q :: r, h => by
    have ih := joinL_repl (q :: r) fun x hx => h x (List.mem_cons_of_mem _ hx)
    show replL [123, 120] [123, 120, 120] (TL.tl (ptS p) ++ ([47] ++ TL.joinL [47] ((q :: r).map fun p => TL.tl (ptS p)))) = TL.tl (ptS (ren p)) ++ ([47] ++ TL.joinL [47] (((q :: r).map ren).map fun p => TL.tl (ptS p)))
    rw [part_repl p (h p List.mem_cons_self)]
    congr 1
    show replL [123, 120] [123, 120, 120] (47 :: TL.joinL [47] ((q :: r).map fun p => TL.tl (ptS p))) = _
    rw [replL_miss (by simp [List.take_succ_cons]), ih]
    rfl
theorem repl_pat (ps : List Pt) (h : ∀ p ∈ ps, ∀ b, p ≠ .h 5 b) : Txt.replace (patS ps) "{x" "{xx" = patS (ps.map ren) := by
  refine TL.ext_tl ?_
  show (Txt.replace (patS ps) "{x" "{xx").cps.toList = _
  rw [replace_list (by decide +kernel)]
  have e1 : (Str.ofString "{x").cps.toList = [123, 120] := by decide +kernel
  have e2 : (Str.ofString "{xx").cps.toList = [123, 120, 120] := by decide +kernel
  have e3 : (patS ps).cps.toList = TL.tl (patS ps) := rfl
  rw [e1, e2, e3, tl_patS, tl_patS, replL_miss (by simp [List.take_succ_cons]), joinL_repl ps h]
theorem joinL_in {p : Pt} : ∀ ps : List Pt, p ∈ ps → ∃ A B, TL.joinL [47] (ps.map fun p => TL.tl (ptS p)) = A ++ TL.tl (ptS p) ++ B
  | [], h => by cases h
  | [q], h => by
    rw [List.mem_singleton] at h
    subst h
    exact ⟨[], [], by rw [List.nil_append, List.append_nil]; rfl⟩
  | q :: r :: l, h => by
    have e : TL.joinL [47] ((q :: r :: l).map fun p => TL.tl (ptS p)) = TL.tl (ptS q) ++ ([47] ++ TL.joinL [47] ((r :: l).map fun p => TL.tl (ptS p))) := rfl
    rw [e]
    rcases List.mem_cons.mp h with h | h
    · subst h
      exact ⟨[], [47] ++ TL.joinL [47] ((r :: l).map fun p => TL.tl (ptS p)), by simp⟩
    · obtain ⟨A, B, e2⟩ := joinL_in (r :: l) h
      exact ⟨TL.tl (ptS q) ++ [47] ++ A, B, by rw [e2]; simp⟩
theorem no_xx (ps : List Pt) (h : (!(!(Builtin.Str.occurrences (patS ps) "{xx" 0 (patS ps).length 1).isEmpty)) = true) : ∀ p ∈ ps, ∀ b, p ≠ .h 5 b := by
  rintro p hp b rfl
  have hx : (Str.ofString "{xx").cps.toList = [123, 120, 120] := by decide +kernel
  have hf : (!(Builtin.Str.occurrences (patS ps) "{xx" 0 (patS ps).length 1).isEmpty) = true := by
    rw [PySem.StrLaws.found_iff]
    obtain ⟨A, B, e⟩ := joinL_in ps hp
    have e5 : TL.tl (ptS (.h 5 b)) = [123, 120, 120] ++ (TL.tl (ptS (.h 5 b))).drop 3 := by cases b <;> decide +kernel
    have e6 := tl_patS ps
    rw [e, e5] at e6
    have hl3 : (Str.ofString "{xx").length = 3 := by decide +kernel
    have e7 : (patS ps).length = (TL.tl (patS ps)).length := TL.len_tl _
    refine ⟨A.length + 1, ?_, ?_⟩
    · rw [e7, e6, hl3]
      simp only [List.length_cons, List.length_append, List.length_nil]
      omega
    · rw [PySem.StrLaws.subAt_eq, hl3, hx]
      show ((TL.tl (patS ps)).drop (A.length + 1)).take 3 == [123, 120, 120]
      rw [e6, List.drop_succ_cons, List.append_assoc, List.drop_left, List.append_assoc]
      rfl
  rw [hf] at h
  cases h
theorem ascii_pt (p : Pt) : (TL.tl (ptS p)).all (· < 1114112) = true := all_pt (P := fun p => (TL.tl (ptS p)).all (· < 1114112)) (by decide +kernel) p
theorem joinL_ok : ∀ ps : List Pt, (TL.joinL [47] (ps.map fun p => TL.tl (ptS p))).all (· < 1114112) = true
  | [] => rfl
  | [p] => ascii_pt p
  | p :: q :: r => by
    have ih := joinL_ok (q :: r)
    show (TL.tl (ptS p) ++ ([47] ++ TL.joinL [47] ((q :: r).map fun p => TL.tl (ptS p)))).all (· < 1114112) = true
    rw [List.all_append, List.all_append, ascii_pt, ih]
    rfl
theorem pat_lay (ps : List Pt) : PyData.canLay0 (.str (patS ps)) = true := by
  unfold PyData.canLay0
  show (patS ps).cps.all (· < 0x110000) = true
  rw [← Array.all_toList]
  show (TL.tl (patS ps)).all (· < 1114112) = true
  rw [tl_patS, List.all_cons, joinL_ok]
  rfl
/-! ### the closer's pieces -/
theorem hole_end (n : Fin 6) (b : Bool) : (!decide (V.str (cutS (ptS (.h n b)) (some (-3)) none) = V.str ":n}")) = !b := by revert n b; decide +kernel
theorem hole_num (n : Fin 6) : cutS (ptS (.h n false)) none (some (-1)) ++ (":n}" : Str) = ptS (.h n true) := by revert n; decide +kernel
theorem num_in (i : Fin 10) : inV (V.str (wS i)) [.str "0", .str "7", .str "12", .str "9999"] = (numW i).isSome := by revert i; decide +kernel
theorem split_nil : Txt.split (patS []) sl = [Str.empty, Str.empty] := by decide +kernel
theorem head_empty : decide (V.str (cutS Str.empty none (some 1)) = V.str "{") = false := by decide +kernel
/-! ### patterns by place -/
def OkG (ps : List Pt) : Prop := ps.length ≤ 5 ∧ ∀ (i : Nat) (n : Fin 6) (b : Bool), ps[i]? = some (.h n b) → n.val = i ∨ (i = 2 ∧ n.val = 5)
theorem OkG.pat {ps : List Pt} (h : OkG ps) : OkPat ps := by
  refine ⟨h.1, ?_⟩
  show List.Pairwise _ _
  rw [List.pairwise_map]
  unfold hols
  rw [List.pairwise_filter, List.pairwise_iff_getElem]
  intro i j hi hj hij h1 h2 e
  have g1 := h.2 i
  have g2 := h.2 j
  rw [List.getElem?_eq_getElem hi] at g1
  rw [List.getElem?_eq_getElem hj] at g2
  have hl := h.1
  cases e1 : ps[i] with
  | w k => rw [e1] at h1; cases h1
  | h n b =>
    cases e2 : ps[j] with
    | w k => rw [e2] at h2; cases h2
    | h m c =>
      rw [e1, e2] at e
      have e3 : n = m := nS_inj e
      subst e3
      have g1 := g1 n b (by rw [e1])
      have g2 := g2 n c (by rw [e2])
      omega
theorem OkG.ren {ps : List Pt} (h : OkG ps) : OkG (ps.map K7.ren) := by
  refine ⟨by rw [List.length_map]; exact h.1, fun i n b e => ?_⟩
  rw [List.getElem?_map] at e
  cases e1 : ps[i]? with
  | none => rw [e1] at e; cases e
  | some p =>
    rw [e1] at e
    have e := Option.some.inj e
    cases p with
    | w j => cases e
    | h m c =>
      have g := h.2 i m c e1
      have e : (if m = 2 then Pt.h 5 c else Pt.h m c) = Pt.h n b := e
      by_cases hm : m = 2
      · rw [if_pos hm] at e
        injection e with e2 e3
        subst hm
        subst e2
        right
        refine ⟨?_, rfl⟩
        have : ((2 : Fin 6).val) = 2 := rfl
        omega
      · rw [if_neg hm] at e
        injection e with e2 e3
        subst e2
        exact g
/-- one part more -/
theorem OkG.snoc {ps : List Pt} (h : ∀ (i : Nat) (n : Fin 6) (b : Bool), ps[i]? = some (.h n b) → n.val = i ∨ (i = 2 ∧ n.val = 5)) {p : Pt} (hp : ∀ n b, p = .h n b → n.val = ps.length) :
    ∀ (i : Nat) (n : Fin 6) (b : Bool), (ps ++ [p])[i]? = some (.h n b) → n.val = i ∨ (i = 2 ∧ n.val = 5) := by
  intro i n b e
  by_cases c : i < ps.length
  · rw [List.getElem?_append_left c] at e
    exact h i n b e
  · rw [List.getElem?_append_right (by omega)] at e
    have hi : i = ps.length := by
      have := (List.getElem?_eq_some_iff.mp e).1
      simp at this
      omega
    subst hi
    rw [Nat.sub_self] at e
    exact .inl (hp n b (Option.some.inj e))
def Closer (ps : List Pt) (ws : List (Fin 10)) (qs : List Pt) : Prop := ∃ (i : Nat) (n : Fin 6) (b : Bool) (j : Fin 10) (q : Pt), ps[i]? = some (.h n b) ∧ ws[i]? = some j ∧ (q = .w j ∨ (b = false ∧ (numW j).isSome = true ∧ q = .h n true)) ∧ qs = ps.set i q
theorem Closer.ok {ps : List Pt} {ws : List (Fin 10)} {qs : List Pt} (h : Closer ps ws qs) (g : OkG ps) : OkG qs := by
  obtain ⟨i, n, b, j, q, h1, h2, h3, rfl⟩ := h
  have hi := (List.getElem?_eq_some_iff.mp h1).1
  refine ⟨by rw [List.length_set]; exact g.1, fun k m c e => ?_⟩
  rw [List.getElem?_set] at e
  by_cases hk : i = k
  · subst hk
    rw [if_pos rfl, if_pos hi] at e
    have e := Option.some.inj e
    rcases h3 with h3 | ⟨_, _, h3⟩
    · rw [h3] at e; cases e
    · rw [h3] at e
      injection e with e1 e2
      subst e1
      exact g.2 i _ _ h1
  · rw [if_neg hk] at e
    exact g.2 k m c e
end K7

set_option maxRecDepth 100000
set_option maxHeartbeats 4000000
/-! K7M: _law_pattern. -/
namespace K7
open PySem PySem.Spec PyProof.Rows L2
open C8 (Def Cal CalAt cal0 pe_c pe_gc fnScope fnBody fnArgs)
theorem cutV_to (xs : List V) (i : Nat) : cutV xs none (some (i : Int)) = xs.take i := by
  unfold cutV
  rw [HT.sIx_none, HT.sIx_nat, List.drop_zero, Nat.sub_zero]
  by_cases h : i ≤ xs.length
  · rw [Nat.min_eq_left h]
  · rw [Nat.min_eq_right (by omega), List.take_length, List.take_of_length_le (by omega)]
theorem cutV_from (xs : List V) (i : Nat) : cutV xs (some (i : Int)) none = xs.drop i := by
  unfold cutV
  rw [HT.sIx_none, HT.sIx_nat]
  by_cases h : i ≤ xs.length
  · rw [Nat.min_eq_left h]
    exact List.take_of_length_le (by rw [List.length_drop]; omega)
  · rw [Nat.min_eq_right (by omega), List.drop_length, List.drop_eq_nil_of_le (by omega), List.take_nil]
theorem names5 {i : Nat} (h : i < 5) : ([.str "a", .str "id", .str "x", .str "eighteen", .str "n"] : List V)[i]? = some (V.str (nS (⟨i, by omega⟩ : Fin 6))) := by
  have : i = 0 ∨ i = 1 ∨ i = 2 ∨ i = 3 ∨ i = 4 := by omega
  rcases this with e | e | e | e | e <;> subst e <;> rfl
theorem parts_sum (ps : List Pt) : ((ps.map ptS).map (·.length)).sum ≤ 12 * ps.length := by
  induction ps with
  | nil => exact Nat.zero_le _
  | cons i ws ih =>
    have := (pt_len i).2
    simp only [List.map_cons, List.sum_cons, List.length_cons] at ih ⊢
    omega
theorem join_len (ps : List Pt) (h : ps.length ≤ 5) : (Txt.join sl (ps.map ptS)).length ≤ 100 := by
  have e := patS_len ps h
  unfold patS at e
  rw [TL.len_tl, TL.tl_append, List.length_append] at e
  rw [TL.len_tl]
  omega
theorem szA (n : Fin 6) : (Str.ofString "{").length + (nS n).length ≤ sizeLine := by revert n; decide +kernel
theorem szB (n : Fin 6) : (("{" : Str) ++ nS n).length + (Str.ofString "}").length ≤ sizeLine := by revert n; decide +kernel
theorem szC (n : Fin 6) : (("{" : Str) ++ nS n).length + (Str.ofString ":n}").length ≤ sizeLine := by revert n; decide +kernel
section
variable {P : Program} {w : World} {K : PySem.W.Frag} {mg : Str → Option Value} {base : Heap} {f : Addr} {fd : FuncData} {bs : List Value}
def spMkPat : Sp := fun vs H Q _ => ∃ p : Addr, vs = [.ref p] ∧ PenAt H p ∧ ∀ H' ps, But p H H' → PenAt H' p → OkG ps → Q (.str (patS ps)) H'
theorem scMkPat : FnScope ["_law_pen_here", "_law_made", "_law_turn", "_law_name", "_law_holes"] ["_law_pen_here"] (fnScope (tp 60)) := C8.fnScope_by (by decide +kernel)
theorem c_mkPat (T : G7 K mg) (cD : Cal P w K mg base 1 "_law_draw" spDraw []) (cP : Cal P w K mg base 2 "_law_pick" (spPick K) [])
    (F : Def K mg "_law_pattern" (tp 60) f fd) (b : Binds K fd ["_law_pen_here"] []) : Cal P w K mg base 3 "_law_pattern" spMkPat [] := by
  refine cal0 F b .nil scMkPat (fun vs H Q E h => ?_) (fun cdv A outer s H vs Q E hr h => ?_)
  · obtain ⟨_, rfl, _⟩ := h
    rfl
  · obtain ⟨p, rfl, hp, q⟩ := h
    refine ⟨_, pss_cons (ps_set (i := 1) scMkPat.nd rfl (.inl rfl) (pe_lst pa_nil))
      (pss_cons (ps_for PassesOwn.never rfl (pi_range1 (by rfl) T.range (pa_cons (pe_op op_add (pe_c cD hr (by decide) (by rfl) (pa_cons (pv 0) (pa_cons pe_int pa_nil))) (pe_c cD hr (by decide) (by rfl) (pa_cons (pv 0) (pa_cons pe_int pa_nil)))) pa_nil)) (pg_name (i := 2) scMkPat.nd rfl (.inl rfl))
        (pss_cons (ps_set (i := 3) scMkPat.nd rfl (.inl rfl) (pe_ix ix_list (pe_lst (pa_cons pe_str (pa_cons pe_str (pa_cons pe_str (pa_cons pe_str (pa_cons pe_str pa_nil)))))) (pv 2) (fun _ _ => rfl)))
        (pss_cons (ps_set (i := 4) scMkPat.nd rfl (.inl rfl) (pe_lst (pa_cons (pe_op op_add_str (pe_op op_add_str pe_str (pv 3)) pe_str) (pa_cons (pe_op op_add_str (pe_op op_add_str pe_str (pv 3)) pe_str) (pa_cons (pe_op op_add_str (pe_op op_add_str pe_str (pv 3)) pe_str) pa_nil)))))
        (pss_one (ps_expr (pe_bm PySem.F.plainAttrs_list PySem.F.slot_list_append PySem.F.type_list_append mt_append (pv 1) (pa_cons
          (pe_c cP hr (by decide) (by rfl) (pa_cons (pv 0) (pa_cons (pe_op op_cat (pe_lst (pa_cons pe_str (pa_cons pe_str (pa_cons pe_str (pa_cons pe_str pa_nil))))) (pv 4)) pa_nil))) pa_nil)))))))
      (pss_one (ps_ret (pe_op op_add_str pe_str (pe_join pe_str (pv 1)))))), ?_⟩
    refine ⟨Nat.zero_le _, fun o no => ?_⟩
    obtain ⟨n0, d0, hp0⟩ := hp
    have nop : o ≠ p := fun e => by rw [e, hp0] at no; cases no
    have b1 : But p H (upd H o (.lst [])) := Same.but (same_new no)
    have hp1 : PenAt (upd H o (.lst [])) p := ⟨n0, d0, same_new no _ _ hp0⟩
    have ho1 : (upd H o (.lst [])) o = some (.lst []) := upd_same
    generalize upd H o (.lst []) = H1 at b1 hp1 ho1 ⊢
    refine ⟨_, rfl, p, 4, rfl, hp1, by decide, by decide, fun H2 k1 b2 hp2 hk1 => ⟨_, rfl, p, 3, rfl, hp2, by decide, by decide, fun H3 k2 b3 hp3 hk2 => ?_⟩⟩
    refine ⟨(k1 : Int), (k2 : Int), rfl, rfl, (k1 : Int) + (k2 : Int), rfl, by omega, by omega, ?_⟩
    have b23 := b2.trans b3
    have bH3 := b1.trans b23
    have ho3 := b23 _ _ ho1 nop
    have hn : ((k1 : Int) + (k2 : Int)).toNat = k1 + k2 := by omega
    rw [hn]
    refine for_it walk_range (fun i σ H4 => ∃ v2 v3 v4 ps, σ = [some (.ref p), some (.ref o), v2, v3, v4] ∧ But p H H4 ∧ PenAt H4 p ∧ H4 o = some (.lst ((ps.map ptS).map V.str)) ∧ ps.length = i ∧ ∀ (i : Nat) (n : Fin 6) (b : Bool), ps[i]? = some (.h n b) → n.val = i ∨ (i = 2 ∧ n.val = 5))
      ⟨none, none, none, [], rfl, bH3, hp3, ho3, rfl, fun i n b e => by simp at e⟩ (fun _ _ _ _ _ => trivial) ?_ ?_
    · rintro i v σ H4 H5 hi ⟨v2, v3, v4, ps, rfl, b4, hp4, ho4, hl, hg⟩ ⟨rfl, rfl⟩
      have hi5 : i < 5 := by omega
      refine ⟨by show 5 ≤ sizeLine; decide, fun a5 ha5 => ?_⟩
      have e0 : (0 : Int) + (i : Int) = (i : Int) := by omega
      dsimp only
      rw [e0]
      have s5 := same_new (o := .lst [V.str "a", V.str "id", V.str "x", V.str "eighteen", V.str "n"]) ha5
      refine ⟨_, rfl, a5, _, (i : Int), _, rfl, rfl, SqL.of upd_same, atI_nat (names5 hi5), ?_⟩
      generalize upd _ a5 _ = H5 at s5 ⊢
      generalize e6 : (⟨i, by omega⟩ : Fin 6) = n
      refine ⟨_, rfl, _, _, rfl, rfl, szA n, _, _, rfl, rfl, szB n, _, rfl, _, _, rfl, rfl, szA n, _, _, rfl, rfl, szC n, _, rfl, _, _, rfl, rfl, szA n, _, _, rfl, rfl, szC n, by show 3 ≤ sizeLine; decide, fun a6 ha6 => ?_⟩
      have s6 := same_new (o := .lst [V.str (ptS (.h n false)), V.str (ptS (.h n true)), V.str (ptS (.h n true))]) ha6
      have ho6 := s6 _ _ (s5 _ _ ho4)
      have hp6 := (hp4.same s5).same s6
      have b6 : But p H _ := (b4.same s5).same s6
      refine ⟨_, rfl, .inl ⟨rfl, _, SqL.of ho6⟩, ?_⟩
      have h66 : (upd H5 a6 (.lst [V.str (ptS (.h n false)), V.str (ptS (.h n true)), V.str (ptS (.h n true))])) a6 = some (.lst [V.str (ptS (.h n false)), V.str (ptS (.h n true)), V.str (ptS (.h n true))]) := upd_same
      have bb6 := b6
      refine ⟨_, rfl, by show 4 ≤ sizeLine; decide, fun a7 ha7 => ?_⟩
      have s7 := same_new (o := .lst [V.str (ptS (.w 0)), V.str (ptS (.w 1)), V.str (ptS (.w 2)), V.str (ptS (.w 3))]) ha7
      have h77 := s7 _ _ h66
      refine ⟨_, rfl, a7, a6, [V.str (ptS (.w 0)), V.str (ptS (.w 1)), V.str (ptS (.w 2)), V.str (ptS (.w 3))], _, rfl, rfl, upd_same, h77, by show 7 ≤ sizeLine; decide, fun a8 ha8 => ?_⟩
      have s8 := same_new (o := .lst ([V.str (ptS (.w 0)), V.str (ptS (.w 1)), V.str (ptS (.w 2)), V.str (ptS (.w 3))] ++ [V.str (ptS (.h n false)), V.str (ptS (.h n true)), V.str (ptS (.h n true))])) ha8
      have hp7 := hp6.same s7
      have hp8 := hp7.same s8
      have ho8 := s8 _ _ (s7 _ _ ho6)
      have b8 := (bb6.same s7).same s8
      have ne8 : a8 ≠ p := fun e => by
        obtain ⟨n7, d7, h7⟩ := hp7
        rw [e] at ha8
        exact absurd (ha8.symm.trans h7) (by simp)
      refine ⟨p, a8, _, rfl, hp8, .inl ⟨SqL.of upd_same, ne8⟩, by simp, by show 7 ≤ 1000; decide, fun H9 k x b9 hp9 hx => ?_⟩
      have e9 : ([V.str (ptS (.w 0)), V.str (ptS (.w 1)), V.str (ptS (.w 2)), V.str (ptS (.w 3))] ++ [V.str (ptS (.h n false)), V.str (ptS (.h n true)), V.str (ptS (.h n true))]) = ([.w 0, .w 1, .w 2, .w 3, .h n false, .h n true, .h n true] : List Pt).map fun q => V.str (ptS q) := rfl
      have hx : ([V.str (ptS (.w 0)), V.str (ptS (.w 1)), V.str (ptS (.w 2)), V.str (ptS (.w 3))] ++ [V.str (ptS (.h n false)), V.str (ptS (.h n true)), V.str (ptS (.h n true))])[k]? = some x := hx
      rw [e9] at hx
      obtain ⟨pt, hpt, rfl⟩ := map_at hx
      have hm := List.mem_of_getElem? hpt
      refine ⟨o, _, _, rfl, rfl, b9 _ _ ho8 nop, ?_, _, _, _, ps ++ [pt], rfl, ?_, ?_, ?_, ?_, ?_⟩
      · rw [List.length_map, List.length_map]
        exact small1000 (by omega)
      · exact but_new (b8.trans b9) no nop
      · obtain ⟨n9, d9, h9⟩ := hp9
        exact ⟨n9, d9, by rw [upd_ne nop.symm]; exact h9⟩
      · rw [upd_same, List.map_append, List.map_append]
        rfl
      · rw [List.length_append, hl]
        rfl
      · refine OkG.snoc hg ?_
        rintro m c rfl
        rw [hl]
        have en : n.val = i := by rw [← e6]
        simp at hm
        rcases hm with h | h
        · rw [h.1]; exact en
        · rw [h.1]; exact en
    · rintro σ H4 ⟨v2, v3, v4, ps, rfl, b4, hp4, ho4, hl, hg⟩
      have hl5 : ps.length ≤ 5 := by omega
      have hsum := parts_sum ps
      have hj := join_len ps hl5
      refine ⟨⟨_, rfl⟩, _, rfl, "/", o, ps.map ptS, rfl, rfl, .inl (SqL.of ho4), ?_, ?_⟩
      · rw [List.length_map]
        show _ + _ * 1 ≤ _
        omega
      · refine ⟨sl, _, rfl, rfl, ?_, q H4 ps b4 hp4 ⟨hl5, hg⟩⟩
        show sl.length + (Txt.join sl (ps.map ptS)).length ≤ _
        have hz : (sl.length : Nat) = 1 := rfl
        have := small1000 (n := 500) (by omega)
        omega
end
end K7

set_option maxRecDepth 100000
set_option maxHeartbeats 4000000
/-! K7N: _law_routes. -/
namespace K7
open PySem PySem.Spec PyProof.Rows L2
open PySem.W (Datum DatumOrd minOf)
open C8 (Def Cal CalAt cal0 pe_c pe_gc fnScope fnBody fnArgs)
/-- a statement with a joint behind it -/
theorem ps_join {X : Cx} {st : Stmt} {t : TS} (h : PS X st t) : PS X st (fun D σ H => ∃ N : L2.St → Hp → Prop, (∀ σ H, N σ H → D.nx σ H) ∧ t { D with nx := N } σ H) := by
  refine ⟨fun pins s σ H D I q => ?_⟩
  obtain ⟨N, hN, q⟩ := q
  refine thn (h.run pins s σ H { D with nx := N } I q) fun f s1 z => ?_
  cases f with
  | next =>
    obtain ⟨σ', H', I', q'⟩ := z
    exact ⟨σ', H', I', hN _ _ q'⟩
  | ret v => exact z
  | brk => exact z
  | cont => exact z
theorem names10 {i : Nat} (h : i < 10) : ([.str "one", .str "two", .str "three", .str "four", .str "five", .str "six", .str "seven", .str "eight", .str "nine", .str "ten"] : List V)[i]? = some (V.str (rS (⟨i, by omega⟩ : Fin 11))) := by
  have : i = 0 ∨ i = 1 ∨ i = 2 ∨ i = 3 ∨ i = 4 ∨ i = 5 ∨ i = 6 ∨ i = 7 ∨ i = 8 ∨ i = 9 := by omega
  rcases this with e | e | e | e | e | e | e | e | e | e <;> subst e <;> rfl
theorem rtD_noL (r : Rt) : noL (rtD r) = true := by simp [rtD, noL, noLs]
theorem rts_noL : ∀ rs : List Rt, noLs (rs.map rtD) = true
  | [] => by simp [noLs]
  | r :: rs => by rw [List.map_cons, noLs, rtD_noL, rts_noL rs]; rfl
theorem vS_lay (b : Bool) : PyData.canLay0 (.str (vS b)) = true := by revert b; decide +kernel
theorem rt_lay (r : Rt) : PyData.canLay0 (rtD r) = true := by
  show PyData.canLay0 (.tuple [.str (rS r.nm), .str (vS r.get), .str (patS r.pat)]) = true
  rw [PyData.canLay0, PyData.canLayAll0, PyData.canLayAll0, PyData.canLayAll0, PyData.canLayAll0, rS_lay, vS_lay, pat_lay]
  rfl
theorem rts_lay : ∀ rs : List Rt, PyData.canLayAll0 (rs.map rtD) = true
  | [] => by simp [PyData.canLayAll0]
  | r :: rs => by rw [List.map_cons, PyData.canLayAll0, rt_lay, rts_lay rs]; rfl
theorem rts_depth : ∀ rs : List Rt, PyData.depthAll (rs.map rtD) ≤ 1
  | [] => Nat.zero_le _
  | r :: rs => by
    rw [List.map_cons, PyData.depthAll]
    refine Nat.max_le.mpr ⟨?_, rts_depth rs⟩
    simp [rtD, PyData.depth, PyData.depthAll]
theorem rtl_shaped (rs : List Rt) : SeqAt.shaped (.list (rs.map rtD)) = true := by
  show (PyData.canLay0 (.list (rs.map rtD)) && decide ((PyData.list (rs.map rtD)).depth ≤ 64)) = true
  rw [Bool.and_eq_true]
  refine ⟨by rw [PyData.canLay0]; exact rts_lay rs, decide_eq_true ?_⟩
  have := rts_depth rs
  rw [PyData.depth]
  omega
theorem nil_shaped : SeqAt.shaped (.list []) = true := by
  show (PyData.canLay0 (.list []) && decide ((PyData.list []).depth ≤ 64)) = true
  simp [PyData.canLay0, PyData.canLayAll0, PyData.depth, PyData.depthAll]
def RtG (rs : List Rt) : Prop := 1 ≤ rs.length ∧ rs.length ≤ 10 ∧ ∀ (i : Nat) (r : Rt), rs[i]? = some r → r.nm.val = i ∧ OkG r.pat
section
variable {P : Program} {w : World} {K : PySem.W.Frag} {mg : Str → Option Value} {base : Heap} {f : Addr} {fd : FuncData} {bs : List Value}
def spMkRts (K : PySem.W.Frag) : Sp := fun vs H Q _ => ∃ p : Addr, vs = [.ref p] ∧ PenAt H p ∧ ∀ H' l rs, But p H H' → PenAt H' p → Dp K H' (.ref l) (rtsD rs) → RtG rs → Q (.ref l) H'
theorem scMkRts : FnScope ["_law_pen_here", "_law_made", "_law_names", "_law_name", "_law_pattern_here"] ["_law_pen_here"] (fnScope (tp 61)) := C8.fnScope_by (by decide +kernel)
theorem c_mkRts (T : G7 K mg) (cD : Cal P w K mg base 1 "_law_draw" spDraw []) (cP : Cal P w K mg base 2 "_law_pick" (spPick K) []) (cM : Cal P w K mg base 3 "_law_pattern" spMkPat [])
    (F : Def K mg "_law_routes" (tp 61) f fd) (b : Binds K fd ["_law_pen_here"] []) : Cal P w K mg base 4 "_law_routes" (spMkRts K) [] := by
  refine cal0 F b .nil scMkRts (fun vs H Q E h => ?_) (fun cdv A outer s H vs Q E hr h => ?_)
  · obtain ⟨_, rfl, _⟩ := h
    rfl
  · obtain ⟨p, rfl, hp, q⟩ := h
    refine ⟨_, pss_cons (ps_set (i := 1) scMkRts.nd rfl (.inl rfl) (pe_lst pa_nil))
      (pss_cons (ps_set (i := 2) scMkRts.nd rfl (.inl rfl) (pe_lst (pa_cons pe_str (pa_cons pe_str (pa_cons pe_str (pa_cons pe_str (pa_cons pe_str (pa_cons pe_str (pa_cons pe_str (pa_cons pe_str (pa_cons pe_str (pa_cons pe_str pa_nil))))))))))))
      (pss_cons (ps_for PassesOwn.never rfl (pi_list (pe_slice sl_list (pv 2) po_none (po_some (pe_op op_add pe_int (pe_c cD hr (by decide) (by rfl) (pa_cons (pv 0) (pa_cons pe_int pa_nil))))))) (pg_name (i := 3) scMkRts.nd rfl (.inl rfl))
        (pss_cons (ps_set (i := 4) scMkRts.nd rfl (.inl rfl) (pe_c cM hr (by decide) (by rfl) (pa_cons (pv 0) pa_nil)))
        (pss_cons (ps_join (ps_if (PW.pt (pw_and (pt_cmpR (op_neD hr.units) (pv 1) (pe_lst pa_nil) (nomark _)) (pw_and1 (pt_cmpR op_eq (pe_c cD hr (by decide) (by rfl) (pa_cons (pv 0) (pa_cons pe_int pa_nil))) pe_int (nomark _)))))
          (pss_cons (ps_set (i := 4) scMkRts.nd rfl (.inl rfl) (pe_ix ix_tup (pe_c cP hr (by decide) (by rfl) (pa_cons (pv 0) (pa_cons (pv 1) pa_nil))) pe_int (fun _ _ => rfl)))
          (pss_one (ps_ifk (PWk.pk (wk_and (pt_cmpR op_eq (pe_c cD hr (by decide) (by rfl) (pa_cons (pv 0) (pa_cons pe_int pa_nil))) pe_int (nomark _)) (wk_and1 (pk_cmp op_notIn_str (pv 4) (by rfl)))))
            (CwR.psst_one (pst_set (i := 4) scMkRts.nd rfl (.inl rfl) (CwR.pet_replC (pv 4)))) pss_nil))) pss_nil))
        (pss_one (ps_expr (pe_bm PySem.F.plainAttrs_list PySem.F.slot_list_append PySem.F.type_list_append mt_append (pv 1) (pa_cons (pe_tup (pa_cons (pv 3) (pa_cons
          (pe_c cP hr (by decide) (by rfl) (pa_cons (pv 0) (pa_cons (pe_lst (pa_cons pe_str (pa_cons pe_str (pa_cons pe_str pa_nil)))) pa_nil))) (pa_cons (pv 4) pa_nil)))) pa_nil)))))))
      (pss_one (ps_ret (pe_callTy call_tuple_frz (by rfl) T.tuple (by decide +kernel) (pa_cons (pv 1) pa_nil)))))), ?_⟩
    refine ⟨Nat.zero_le _, fun o no => ?_⟩
    obtain ⟨n0, d0, hp0⟩ := hp
    have nop : o ≠ p := fun e => by rw [e, hp0] at no; cases no
    have b1 : But p H (upd H o (.lst [])) := Same.but (same_new no)
    have hp1 : PenAt (upd H o (.lst [])) p := ⟨n0, d0, same_new no _ _ hp0⟩
    have ho1 : (upd H o (.lst [])) o = some (.lst []) := upd_same
    generalize upd H o (.lst []) = H1 at b1 hp1 ho1 ⊢
    refine ⟨by show 10 ≤ sizeLine; decide, fun a2 ha2 => ?_⟩
    have s2 := same_new (o := .lst [V.str "one", .str "two", .str "three", .str "four", .str "five", .str "six", .str "seven", .str "eight", .str "nine", .str "ten"]) ha2
    have ha22 : (upd H1 a2 (.lst [V.str "one", .str "two", .str "three", .str "four", .str "five", .str "six", .str "seven", .str "eight", .str "nine", .str "ten"])) a2 = some (.lst [V.str "one", .str "two", .str "three", .str "four", .str "five", .str "six", .str "seven", .str "eight", .str "nine", .str "ten"]) := upd_same
    have na2 : a2 ≠ p := fun e => by
      obtain ⟨_, _, h1⟩ := hp1
      rw [e, h1] at ha2; cases ha2
    generalize upd H1 a2 _ = H2 at s2 ha22 ⊢
    have b2 := b1.same s2
    have hp2 := hp1.same s2
    have ho2 := s2 _ _ ho1
    refine ⟨_, rfl, _, rfl, p, 10, rfl, hp2, by decide, by decide, fun H3 k b3 hp3 hk => ?_⟩
    refine ⟨1, (k : Int), rfl, rfl, (1 : Int) + (k : Int), rfl, a2, _, rfl, SqL.of (b3 _ _ ha22 na2), fun c hc => ?_⟩
    rw [show (1 : Int) + (k : Int) = ((1 + k : Nat) : Int) by omega, cutV_to]
    have s4 := same_new (o := .lst (List.take (1 + k) [V.str "one", .str "two", .str "three", .str "four", .str "five", .str "six", .str "seven", .str "eight", .str "nine", .str "ten"])) hc
    have hcc : (upd H3 c (.lst (List.take (1 + k) [V.str "one", .str "two", .str "three", .str "four", .str "five", .str "six", .str "seven", .str "eight", .str "nine", .str "ten"]))) c = some (.lst (List.take (1 + k) [V.str "one", .str "two", .str "three", .str "four", .str "five", .str "six", .str "seven", .str "eight", .str "nine", .str "ten"])) := upd_same
    have ho3 := b3 _ _ ho2 nop
    have ncp : c ≠ p := fun e => by
      obtain ⟨_, _, h1⟩ := hp3
      rw [e, h1] at hc; cases hc
    have nco : c ≠ o := fun e => by rw [e, ho3] at hc; cases hc
    generalize upd H3 c _ = H4 at s4 hcc ⊢
    have b4 := (b2.trans b3).same s4
    have hp4 := hp3.same s4
    have ho4 := s4 _ _ ho3
    have hlen : (List.take (1 + k) [V.str "one", .str "two", .str "three", .str "four", .str "five", .str "six", .str "seven", .str "eight", .str "nine", .str "ten"]).length = 1 + k := by
      rw [List.length_take]
      show min (1 + k) 10 = 1 + k
      omega
    have hitem : ∀ (i : Nat) (v : V), (List.take (1 + k) [V.str "one", .str "two", .str "three", .str "four", .str "five", .str "six", .str "seven", .str "eight", .str "nine", .str "ten"])[i]? = some v → ∃ h : i < 10, v = V.str (rS ⟨i, by omega⟩) := by
      intro i v e
      have h1 := (List.getElem?_eq_some_iff.mp e).1
      rw [hlen] at h1
      rw [List.getElem?_take, if_pos h1, names10 (by omega)] at e
      exact ⟨by omega, (Option.some.inj e).symm⟩
    generalize List.take (1 + k) [V.str "one", .str "two", .str "three", .str "four", .str "five", .str "six", .str "seven", .str "eight", .str "nine", .str "ten"] = items at hcc hlen hitem ⊢
    refine ⟨c, rfl, ⟨_, SqL.of hcc⟩, for_it walk_list (fun i σ H5 => ∃ v3 v4 ys rs, σ = [some (.ref p), some (.ref o), some (.ref a2), v3, v4] ∧ But p H H5 ∧ PenAt H5 p ∧ H5 o = some (.lst ys) ∧ H5 c = some (.lst items) ∧ DpAll K H5 ys (rs.map rtD) ∧ rs.length = i ∧ ∀ (i : Nat) (r : Rt), rs[i]? = some r → r.nm.val = i ∧ OkG r.pat)
      ⟨none, none, [], [], rfl, b4, hp4, ho4, hcc, .nil, rfl, fun i r e => by simp at e⟩ (fun i σ H5 _ ⟨_, _, _, _, _, _, _, _, q1, _⟩ => SqL.of q1) ?_ ?_⟩
    · rintro i v σ H5 H6 hi ⟨v3, v4, ys, rs, rfl, b5, hp5, ho5, hc5, hd5, hl5, hg5⟩ ⟨rfl, hx⟩
      obtain ⟨hi10, rfl⟩ := hitem i v hx
      have hyl : ys.length = i := by
        have := dps_len hd5
        rw [List.length_map] at this
        omega
      refine ⟨_, rfl, p, rfl, hp5, fun H7 ps b7 hp7 hok => ?_⟩
      obtain ⟨n5, d5, hp55⟩ := hp5
      have ho7 := b7 _ _ ho5 nop
      have hc7 := b7 _ _ hc5 ncp
      have hd7 := dps_but b7 hp55 _ _ (rts_noL rs) hd5
      have b57 := b5.trans b7
      refine ⟨fun σ H8 => ∃ ps', σ = [some (.ref p), some (.ref o), some (.ref a2), some (.str (rS ⟨i, by omega⟩)), some (.str (patS ps'))] ∧ OkG ps' ∧ But p H H8 ∧ PenAt H8 p ∧ H8 o = some (.lst ys) ∧ H8 c = some (.lst items) ∧ DpAll K H8 ys (rs.map rtD), ?_, ?_⟩
      · rintro σ H8 ⟨ps', rfl, hok', b8, hp8, ho8, hc8, hd8⟩
        refine ⟨_, rfl, .inl ⟨rfl, _, SqL.of ho8⟩, _, rfl, ?_⟩
        refine ⟨_, rfl, by show 3 ≤ sizeLine; decide, fun a9 ha9 => ?_⟩
        have s9 := same_new (o := .lst [V.str "get", V.str "get", V.str "post"]) ha9
        have hp9 := hp8.same s9
        have ne9 : a9 ≠ p := fun e => by
          obtain ⟨_, _, h1⟩ := hp8
          rw [e, h1] at ha9; cases ha9
        refine ⟨p, a9, _, rfl, hp9, .inl ⟨SqL.of upd_same, ne9⟩, by simp, by show 3 ≤ 1000; decide, fun H10 k2 x b10 hp10 hx2 => ?_⟩
        have e9 : ([V.str "get", V.str "get", V.str "post"] : List V) = ([true, true, false] : List Bool).map fun q => V.str (vS q) := rfl
        have hx2 : ([V.str "get", V.str "get", V.str "post"] : List V)[k2]? = some x := hx2
        rw [e9] at hx2
        obtain ⟨vb, _, rfl⟩ := map_at hx2
        obtain ⟨n9, d9, hp99⟩ := hp9
        have ho10 := b10 _ _ (s9 _ _ ho8) nop
        have hc10 := b10 _ _ (s9 _ _ hc8) ncp
        have hd10 := dps_but b10 hp99 _ _ (rts_noL rs) (dps_same s9 _ _ hd8)
        have b8' := (b8.same s9).trans b10
        refine ⟨_, rfl, by show 3 ≤ sizeLine; decide, fun t ht => ?_⟩
        have s11 := same_new (o := .tup [V.str (rS ⟨i, by omega⟩), V.str (vS vb), V.str (patS ps')]) ht
        have hp11 := hp10.same s11
        have ho11 := s11 _ _ ho10
        have hc11 := s11 _ _ hc10
        have hd11 := dps_same s11 _ _ hd10
        have ht11 : (upd H10 t (.tup [V.str (rS ⟨i, by omega⟩), V.str (vS vb), V.str (patS ps')])) t = some (.tup [V.str (rS ⟨i, by omega⟩), V.str (vS vb), V.str (patS ps')]) := upd_same
        have b11 := b8'.same s11
        have bo := @but_upd (upd H10 t (.tup [V.str (rS ⟨i, by omega⟩), V.str (vS vb), V.str (patS ps')])) o (.lst (ys ++ [.ref t]))
        refine ⟨o, ys, _, rfl, rfl, ho11, small1000 (by omega), _, _, ys ++ [.ref t], rs ++ [⟨⟨i, by omega⟩, vb, ps'⟩], rfl, but_new b11 no nop, ?_, upd_same, ?_, ?_, ?_, ?_⟩
        · obtain ⟨n, d, h⟩ := hp11
          exact ⟨n, d, by rw [upd_ne nop.symm]; exact h⟩
        · exact bo _ _ hc11 nco
        · rw [List.map_append]
          refine dps_app (dps_but bo ho11 _ _ (rts_noL rs) hd11) (.cons ?_ .nil)
          exact .tup (bo.tup ho11 (SqT.of ht11)) (.cons (.str _) (.cons (.str _) (.cons (.str _) .nil)))
        · rw [List.length_append, hl5]
          rfl
        · intro j r e
          by_cases cj : j < rs.length
          · rw [List.getElem?_append_left cj] at e
            exact hg5 j r e
          · rw [List.getElem?_append_right (by omega)] at e
            have hj : j = rs.length := by
              have := (List.getElem?_eq_some_iff.mp e).1
              simp at this
              omega
            subst hj
            rw [Nat.sub_self] at e
            have e := Option.some.inj e
            rw [← e]
            exact ⟨hl5.symm, hok'⟩
      · have mv : ∀ H8 H9, (But p H H8 ∧ PenAt H8 p ∧ H8 o = some (.lst ys) ∧ H8 c = some (.lst items) ∧ DpAll K H8 ys (rs.map rtD)) → But p H8 H9 → PenAt H9 p → (But p H H9 ∧ PenAt H9 p ∧ H9 o = some (.lst ys) ∧ H9 c = some (.lst items) ∧ DpAll K H9 ys (rs.map rtD)) := by
          rintro H8 H9 ⟨f1, ⟨n8, d8, f2⟩, f3, f4, f5⟩ bb pp
          exact ⟨f1.trans bb, pp, bb _ _ f3 nop, bb _ _ f4 ncp, dps_but bb f2 _ _ (rts_noL rs) f5⟩
        refine ⟨_, rfl, Nat.zero_le _, fun e0 he0 => ⟨.list (rs.map rtD), .list [], dp_same (same_new he0) _ _ (.lst (SqL.of ho7) hd7), .lst (SqL.of upd_same) .nil, rtl_shaped rs, nil_shaped, _, rfl, ?_⟩⟩
        have f8 := mv _ _ ⟨b57, hp7, ho7, hc7, hd7⟩ (Same.but (same_new (o := .lst []) he0)) (hp7.same (same_new he0))
        generalize upd H7 e0 (.lst []) = H8 at f8 ⊢
        have eqn : rs ≠ [] → PyData.eqv (.list (rs.map rtD)) (.list []) = false := by
          intro h
          obtain ⟨r0', rs0, hrs⟩ := List.exists_cons_of_ne_nil h
          rw [hrs]
          simp [PyData.eqv, PyData.eqvAll]
        by_cases hrs : rs = []
        · exact itF (by rw [hrs]; simp [PyData.eqv, PyData.eqvAll]) (iteF ⟨ps, rfl, hok, f8⟩)
        · have hne : ys ≠ [] := fun e => hrs (List.eq_nil_of_length_eq_zero (by rw [e] at hyl; rw [hl5]; exact hyl.symm))
          refine itT (by rw [eqn hrs]; rfl) ⟨_, rfl, p, 4, rfl, f8.2.1, by decide, by decide, fun H9 k9 b9 hp9 _ => ⟨rfl, _, rfl, ?_⟩⟩
          have f9 := mv _ _ f8 b9 hp9
          cases decide (V.int (k9 : Int) = V.int 0) with
          | false => exact iteF ⟨ps, rfl, hok, f9⟩
          | true =>
            refine iteT ⟨_, rfl, _, rfl, p, o, ys, rfl, hp9, .inl ⟨SqL.of f9.2.2.1, nop⟩, hne, by omega, fun H10 k10 x b10 hp10 hx10 => ?_⟩
            have f10 := mv _ _ f9 b10 hp10
            obtain ⟨r, h1, h2⟩ := rts_at f10.2.2.2.2 hx10
            obtain ⟨tr, rfl, htr⟩ := rt_dp h2
            have hokr := (hg5 k10 r h1).2
            refine ⟨tr, _, 2, _, rfl, rfl, htr, rfl, ?_⟩
            refine ⟨_, rfl, p, 2, rfl, hp10, by decide, by decide, fun H11 k11 b11 hp11 _ => ⟨rfl, _, rfl, ?_⟩⟩
            have f11 := mv _ _ f10 b11 hp11
            cases decide (V.int (k11 : Int) = V.int 0) with
            | false => exact iteF (iteF ⟨r.pat, rfl, hokr, f11⟩)
            | true =>
              refine iteT ⟨_, rfl, "{xx", patS r.pat, rfl, rfl, _, rfl, ?_⟩
              cases eo : (!(!(Builtin.Str.occurrences (patS r.pat) "{xx" 0 (patS r.pat).length 1).isEmpty)) with
              | false => exact iteF ⟨r.pat, rfl, hokr, f11⟩
              | true =>
                have hpl := patS_len r.pat hokr.1
                refine iteT ⟨_, rfl, patS r.pat, rfl, ?_, ?_⟩
                · have h3 : (Str.ofString "{xx").length = 3 := by decide +kernel
                  rw [h3]
                  omega
                · rw [repl_pat r.pat (no_xx r.pat eo)]
                  exact ⟨r.pat.map ren, rfl, hokr.ren, f11⟩
    · rintro σ H5 ⟨v3, v4, ys, rs, rfl, b5, hp5, ho5, hc5, hd5, hl5, hg5⟩
      rw [hlen] at hl5
      refine ⟨_, rfl, o, ys, rfl, SqL.of ho5, fun l ob hl hob => ?_⟩
      have s6 : Same H5 (upd H5 l (.frz ob (.tup ys))) := same_new hl
      refine q _ l rs (b5.same s6) (hp5.same s6) ?_ ⟨by omega, by omega, hg5⟩
      exact .tup (.inl (.inr ⟨ob, upd_same⟩)) (dps_same s6 _ _ hd5)
end
end K7

set_option maxRecDepth 100000
set_option maxHeartbeats 4000000
/-! K7O: _law_path. -/
namespace K7
open PySem PySem.Spec PyProof.Rows L2
open PySem.W (Datum DatumOrd minOf)
open C8 (Def Cal CalAt cal0 pe_c pe_gc fnScope fnBody fnArgs)
def oS : Option Pt → Str
  | none => Str.empty
  | some p => ptS p
def mS : Option (Fin 10) → Str
  | none => Str.empty
  | some i => wS i
def itsO (ps : List Pt) : List (Option Pt) := if ps = [] then [none] else ps.map some
theorem its_split (ps : List Pt) : (Txt.split (patS ps) sl).drop 1 = (itsO ps).map oS := by
  unfold itsO
  by_cases h : ps = []
  · rw [if_pos h, h, split_nil]
    rfl
  · rw [if_neg h, patS_split ps h, List.map_map]
    rfl
theorem its_len {ps : List Pt} (h : ps.length ≤ 5) : 1 ≤ (itsO ps).length ∧ (itsO ps).length ≤ 5 := by
  unfold itsO
  by_cases c : ps = []
  · rw [if_pos c]
    simp
  · rw [if_neg c, List.length_map]
    exact ⟨List.length_pos_iff.mpr c, h⟩
theorem oS_head (x : Option Pt) : decide (V.str (cutS (oS x) none (some 1)) = V.str "{") = (match x with | none => false | some p => isH p) := by
  cases x with
  | none => exact head_empty
  | some p => exact (hole_facts p).1
theorem oS_len (x : Option Pt) : (oS x).length ≤ 12 := by
  cases x with
  | none => exact Nat.zero_le _
  | some p => exact (pt_len p).2
theorem mS_ne (x : Option (Fin 10)) : (!decide (V.str (mS x) = V.str "")) = x.isSome := by
  cases x with
  | none => decide +kernel
  | some i => revert i; decide +kernel
theorem keep_words (ms : List (Option (Fin 10))) : ∀ L : List Nat, (∀ k ∈ L, (ms.getD k none).isSome = true) → ∃ l : List (Fin 10), L.map (fun k => mS (ms.getD k none)) = l.map wS
  | [], _ => ⟨[], rfl⟩
  | k :: L, h => by
    obtain ⟨l, e⟩ := keep_words ms L fun x hx => h x (List.mem_cons_of_mem _ hx)
    obtain ⟨i, hi⟩ := Option.isSome_iff_exists.mp (h k List.mem_cons_self)
    exact ⟨i :: l, by rw [List.map_cons, List.map_cons, e, hi]; rfl⟩
theorem wjoin_len (ws : List (Fin 10)) (h : ws.length ≤ 5) : (Txt.join sl (ws.map wS)).length ≤ 100 := by
  have e := join_len (pW ws) (by rw [pW_len]; exact h)
  unfold pW at e
  rw [List.map_map] at e
  exact e
section
variable {P : Program} {w : World} {K : PySem.W.Frag} {mg : Str → Option Value} {base : Heap} {f : Addr} {fd : FuncData} {bs : List Value}
def spMkPath (K : PySem.W.Frag) : Sp := fun vs H Q _ => ∃ (p : Addr) (v : V) (rs : List Rt), vs = [.ref p, v] ∧ PenAt H p ∧ Dp K H v (rtsD rs) ∧ OkRts rs ∧ ∀ H' ws, But p H H' → PenAt H' p → ws.length ≤ 5 → Q (.str (pthS ws)) H'
theorem scMkPath : FnScope ["_law_pen_here", "_law_routes_here", "_law_parts", "_law_made", "_law_part", "_law_word"] ["_law_pen_here", "_law_routes_here"] (fnScope (tp 62)) := C8.fnScope_by (by decide +kernel)
theorem ten_words : ([.str "a", .str "b", .str "7", .str "no", .str "0", .str "12", .str "9999", .str "00", .str "10000", .str "x-9"] : List V) = ([0, 1, 2, 3, 4, 5, 6, 7, 8, 9] : List (Fin 10)).map fun i => V.str (wS i) := rfl
theorem c_mkPath (T : G7 K mg) (cD : Cal P w K mg base 1 "_law_draw" spDraw []) (cP : Cal P w K mg base 2 "_law_pick" (spPick K) [])
    (F : Def K mg "_law_path" (tp 62) f fd) (b : Binds K fd ["_law_pen_here", "_law_routes_here"] []) : Cal P w K mg base 3 "_law_path" (spMkPath K) [] := by
  refine cal0 F b .nil scMkPath (fun vs H Q E h => ?_) (fun cdv A outer s H vs Q E hr h => ?_)
  · obtain ⟨_, _, _, rfl, _⟩ := h
    rfl
  · obtain ⟨p, v, rs, rfl, hp, hv, ok, q⟩ := h
    refine ⟨_, pss_cons (ps_par (i := 2) (j := 3) (by rfl) scMkPath.nd rfl rfl (by decide) rfl rfl (pa_cons (pe_slice sl_list (pe_split (pe_ix ix_tup (pe_c cP hr (by decide) (by rfl) (pa_cons (pv 0) (pa_cons (pv 1) pa_nil))) pe_int (fun _ _ => rfl)) pe_str) (po_some pe_int) po_none) (pa_cons (pe_lst pa_nil) pa_nil)) (by rfl))
      (pss_cons (ps_for PassesOwn.never rfl (pi_list (pv 2)) (pg_name (i := 4) scMkPath.nd rfl (.inl rfl))
        (pss_cons (ps_set (i := 5) scMkPath.nd rfl (.inl rfl) (pe_c cP hr (by decide) (by rfl) (pa_cons (pv 0) (pa_cons (pe_lst (pa_cons pe_str (pa_cons pe_str (pa_cons pe_str (pa_cons pe_str (pa_cons pe_str (pa_cons pe_str (pa_cons pe_str (pa_cons pe_str (pa_cons pe_str (pa_cons pe_str pa_nil))))))))))) pa_nil))))
        (pss_one (ps_expr (pe_bm PySem.F.plainAttrs_list PySem.F.slot_list_append PySem.F.type_list_append mt_append (pv 3) (pa_cons (pe_ifExp (PW.pt (pw_or (pt_cmpR op_eq (pe_slice sl_str (pv 4) po_none (po_some pe_int)) pe_str (nomark _))
          (pw_or1 (pt_cmpR op_eq (pe_c cD hr (by decide) (by rfl) (pa_cons (pv 0) (pa_cons pe_int pa_nil))) pe_int (nomark _))))) (pv 5) (pv 4)) pa_nil))))))
      (pss_cons (ps_join (ps_if (pt_cmpR op_eq (pe_c cD hr (by decide) (by rfl) (pa_cons (pv 0) (pa_cons pe_int pa_nil))) pe_int (nomark _)) (pss_one (ps_set (i := 3) scMkPath.nd rfl (.inl rfl) (pe_op op_cat (pe_slice sl_list (pv 3) (po_some pe_int) po_none) (pe_lst (pa_cons pe_str pa_nil))))) pss_nil))
      (pss_one (ps_ret (pe_op op_add_str pe_str (pe_join pe_str (pe_slice sl_list (pe_lc (own := [("_law_word", 5)]) (g := gName 5) (by rfl) scMkPath.nd (pi_list (pv 3)) (blkOk_by (own := [("_law_word", 5)]) (N := ["_law_pen_here", "_law_routes_here", "_law_parts", "_law_made", "_law_part", "_law_word"]) (sc := fnScope (tp 62)) (by decide +kernel))
        (fun _ _ _ _ _ => pg_name (i := 5) scMkPath.nd rfl (Or.inl rfl)) (fun _ _ _ _ _ => pts_one (pt_cmpR op_ne (pv 5) pe_str (nomark _))) (fun _ _ _ _ _ => pv 5)) po_none (po_some pe_int)))))))), ?_⟩
    obtain ⟨a, xs, rfl, hs, hd⟩ := tup_dp hv
    have hxl : xs.length = rs.length := by
      have := dps_len hd
      rw [List.length_map] at this
      exact this
    have p1 := ok.pos
    have p2 := ok.few
    obtain ⟨n0, d0, hp0⟩ := hp
    refine ⟨_, rfl, _, rfl, p, a, xs, rfl, ⟨n0, d0, hp0⟩, .inr hs, fun e => by rw [e] at hxl; simp at hxl; omega, by omega, fun H1 k x b1 hp1 hx => ?_⟩
    obtain ⟨r, h1, h2⟩ := rts_at hd hx
    obtain ⟨tr, rfl, htr⟩ := rt_dp (dp_but b1 hp0 _ _ (rtD_noL r) h2)
    have okp := (ok.pat r (List.mem_of_getElem? h1)).1
    have hpl := patS_len r.pat okp
    have hsl : (sl.length == 0) = false := by decide +kernel
    refine ⟨tr, _, 2, _, rfl, rfl, htr, rfl, ⟨_, rfl⟩, patS r.pat, sl, rfl, rfl, hsl, by have := small1000 (n := 500) (by omega); omega, fun a2 ha2 => ?_⟩
    have s2 := same_new (o := .lst ((Txt.split (patS r.pat) sl).map V.str)) ha2
    have h22 : (upd H1 a2 (.lst ((Txt.split (patS r.pat) sl).map V.str))) a2 = some (.lst ((Txt.split (patS r.pat) sl).map V.str)) := upd_same
    generalize upd H1 a2 (.lst ((Txt.split (patS r.pat) sl).map V.str)) = H2 at s2 h22 ⊢
    have b2 := b1.same s2
    have hp2 := hp1.same s2
    refine ⟨1, rfl, a2, _, rfl, SqL.of h22, fun c hc => ?_⟩
    have e3 : cutV ((Txt.split (patS r.pat) sl).map V.str) (some 1) none = ((itsO r.pat).map oS).map V.str := by
      rw [← its_split, List.map_drop]
      exact cutV_from _ 1
    rw [e3]
    have s3 := same_new (o := .lst (((itsO r.pat).map oS).map V.str)) hc
    have h33 : (upd H2 c (.lst (((itsO r.pat).map oS).map V.str))) c = some (.lst (((itsO r.pat).map oS).map V.str)) := upd_same
    have ncp : c ≠ p := fun e => by
      obtain ⟨_, _, h⟩ := hp2
      rw [e, h] at hc; cases hc
    generalize upd H2 c (.lst (((itsO r.pat).map oS).map V.str)) = H3 at s3 h33 ⊢
    have b3 := b2.same s3
    have hp3 := hp2.same s3
    refine ⟨Nat.zero_le _, fun o no => ⟨_, _, rfl, ?_⟩⟩
    have s4 := same_new (o := .lst []) no
    have h44 : (upd H3 o (.lst [])) o = some (.lst []) := upd_same
    have nop : o ≠ p := fun e => by
      obtain ⟨_, _, h⟩ := hp3
      rw [e, h] at no; cases no
    have nco : c ≠ o := fun e => by rw [e] at h33; rw [h33] at no; cases no
    have noH : H o = none := by
      cases e : H o with
      | none => rfl
      | some u => rw [b3 _ _ e nop] at no; cases no
    generalize upd H3 o (.lst []) = H4 at s4 h44 ⊢
    have b4 := b3.same s4
    have hp4 := hp3.same s4
    have hc4 := s4 _ _ h33
    obtain ⟨g1, g2⟩ := its_len okp
    generalize itsO r.pat = its at *
    refine ⟨_, rfl, c, rfl, ⟨_, SqL.of hc4⟩, for_it walk_list (fun i σ H5 => ∃ (v4 v5 : Option V) (ms : List (Option (Fin 10))), σ = [some (.ref p), some (.ref a), some (.ref c), some (.ref o), v4, v5] ∧ But p H H5 ∧ PenAt H5 p ∧ H5 c = some (.lst ((its.map oS).map V.str)) ∧ H5 o = some (.lst ((ms.map mS).map V.str)) ∧ ms.length = i)
      ⟨none, none, [], rfl, b4, hp4, hc4, h44, rfl⟩ (fun i σ H5 _ ⟨_, _, _, _, _, _, q1, _⟩ => SqL.of q1) ?_ ?_⟩
    · rintro i v σ H5 H6 hi ⟨v4, v5, ms, rfl, b5, hp5, hc5, ho5, hl5⟩ ⟨rfl, hx⟩
      rw [List.length_map, List.length_map] at hi
      rw [List.map_map] at hx
      obtain ⟨it, hit, rfl⟩ := map_at (g := V.str ∘ oS) hx
      refine ⟨_, rfl, by show 10 ≤ sizeLine; decide, fun a7 ha7 => ?_⟩
      have s7 := same_new (o := .lst [V.str "a", V.str "b", V.str "7", V.str "no", V.str "0", V.str "12", V.str "9999", V.str "00", V.str "10000", V.str "x-9"]) ha7
      have hp7 := hp5.same s7
      have ne7 : a7 ≠ p := fun e => by
        obtain ⟨_, _, h⟩ := hp5
        rw [e, h] at ha7; cases ha7
      refine ⟨p, a7, _, rfl, hp7, .inl ⟨SqL.of upd_same, ne7⟩, by simp, by show 10 ≤ 1000; decide, fun H8 k2 x b8 hp8 hx2 => ?_⟩
      have hx2 : ([.str "a", .str "b", .str "7", .str "no", .str "0", .str "12", .str "9999", .str "00", .str "10000", .str "x-9"] : List V)[k2]? = some x := hx2
      rw [ten_words] at hx2
      obtain ⟨j, _, rfl⟩ := map_at hx2
      have ho8 := b8 _ _ (s7 _ _ ho5) nop
      have hc8 := b8 _ _ (s7 _ _ hc5) ncp
      have b58 := (b5.same s7).trans b8
      refine ⟨_, rfl, .inl ⟨rfl, _, SqL.of ho8⟩, ?_⟩
      have fin : ∀ (m : Option (Fin 10)) (H9 : Hp), But p H8 H9 → PenAt H9 p → ∃ l xs y, V.ref o = V.ref l ∧ [V.str (mS m)] = [y] ∧ H9 l = some (.lst xs) ∧ xs.length < sizeLine ∧ ∃ (v4 v5 : Option V) (ms : List (Option (Fin 10))), [some (V.ref p), some (V.ref a), some (V.ref c), some (V.ref o), some (V.str (oS it)), some (V.str (wS j))] = [some (.ref p), some (.ref a), some (.ref c), some (.ref o), v4, v5] ∧ But p H (upd H9 l (.lst (xs ++ [y]))) ∧ PenAt (upd H9 l (.lst (xs ++ [y]))) p ∧ (upd H9 l (.lst (xs ++ [y]))) c = some (.lst ((its.map oS).map V.str)) ∧ (upd H9 l (.lst (xs ++ [y]))) o = some (.lst ((ms.map mS).map V.str)) ∧ ms.length = i + 1 := by
        intro m H9 b9 hp9
        refine ⟨o, _, _, rfl, rfl, b9 _ _ ho8 nop, ?_, _, _, ms ++ [m], rfl, but_new (b58.trans b9) noH nop, ?_, ?_, ?_, ?_⟩
        · rw [List.length_map, List.length_map]
          exact small1000 (by omega)
        · obtain ⟨n, d, h⟩ := hp9
          exact ⟨n, d, by rw [upd_ne nop.symm]; exact h⟩
        · rw [upd_ne nco]; exact b9 _ _ hc8 ncp
        · rw [upd_same, List.map_append, List.map_append]
          rfl
        · rw [List.length_append, hl5]
          rfl
      have hol := oS_len it
      refine ⟨_, rfl, 1, rfl, _, rfl, by show (oS it).length ≤ sizeLine; exact Nat.le_of_lt (small1000 (by omega)), rfl, _, rfl, ?_⟩
      show if decide (V.str (cutS (oS it) none (some 1)) = V.str "{") = true then _ else _
      rw [oS_head]
      have word := fin (some j)
      cases it with
      | none =>
        refine iteF ⟨_, rfl, p, 9, rfl, hp8, by decide, by decide, fun H9 k9 b9 hp9 _ => ⟨rfl, _, rfl, ?_⟩⟩
        cases decide (V.int (k9 : Int) = V.int 0) with
        | true => exact iteT ⟨_, rfl, word H9 b9 hp9⟩
        | false => exact iteF ⟨_, rfl, fin none H9 b9 hp9⟩
      | some pt =>
        cases pt with
        | h n bb => exact iteT (iteT ⟨_, rfl, word H8 (But.refl _ _) hp8⟩)
        | w i2 =>
          refine iteF ⟨_, rfl, p, 9, rfl, hp8, by decide, by decide, fun H9 k9 b9 hp9 _ => ⟨rfl, _, rfl, ?_⟩⟩
          cases decide (V.int (k9 : Int) = V.int 0) with
          | true => exact iteT ⟨_, rfl, word H9 b9 hp9⟩
          | false => exact iteF ⟨_, rfl, fin (some i2) H9 b9 hp9⟩
    · rintro σ H5 ⟨v4, v5, ms, rfl, b5, hp5, hc5, ho5, hl5⟩
      rw [List.length_map, List.length_map] at hl5
      refine ⟨fun σ H8 => ∃ (o' : Addr) (ms : List (Option (Fin 10))), σ = [some (.ref p), some (.ref a), some (.ref c), some (.ref o'), v4, v5] ∧ But p H H8 ∧ PenAt H8 p ∧ H8 o' = some (.lst ((ms.map mS).map V.str)) ∧ ms.length ≤ 5, ?_, ?_⟩
      · rintro σ H8 ⟨o', ms, rfl, b8, hp8, ho8, hl8⟩
        refine ⟨⟨_, rfl⟩, _, rfl, o', rfl, ⟨_, SqL.of ho8⟩, fun D hD => ?_⟩
        refine lc_it walk_list (LcP (fun k v H => Dp K H v (.str (mS (ms.getD k none)))) (fun k => (ms.getD k none).isSome) H8 D) (.start hD) (fun i H hi hP => hP.same.seq (SqL.of ho8)) ?_ ?_
        · rintro i v H9 H10 hi hP ⟨rfl, hx⟩
          rw [List.map_map] at hx
          obtain ⟨m, hm, rfl⟩ := map_at (g := V.str ∘ mS) hx
          have eg : ms.getD i none = m := getD_of hm
          refine ⟨rfl, _, rfl, rfl, _, rfl, ?_⟩
          show if (!decide (V.str (mS m) = V.str "")) = true then _ else _
          rw [mS_ne]
          cases e : m.isSome with
          | false => exact iteF (hP.skip dp_keep (Same.refl _) (by rw [eg]; exact e))
          | true =>
            refine iteT ⟨_, rfl, ?_⟩
            refine LcP.add hD (dp_stay fun _ => by unfold noL; rfl) hP (Same.refl _) (by rw [List.length_map, List.length_map] at hi; omega) (by rw [eg]; exact e) ?_
            show Dp K H10 _ (.str (mS (ms.getD i none)))
            rw [eg]
            exact .str _
        · intro H9 hP
          obtain ⟨s9, ys, hys, hpr⟩ := hP
          have hd9 := paired_dps (K := K) (fun k => PyData.str (mS (ms.getD k none))) hpr
          obtain ⟨l, hl⟩ := keep_words ms _ (fun k hk => (List.mem_filter.mp hk).2)
          have e10 : ∀ L : List Nat, L.map (fun k => PyData.str (mS (ms.getD k none))) = (L.map (fun k => mS (ms.getD k none))).map PyData.str := fun L => by rw [List.map_map]; rfl
          rw [e10, hl] at hd9
          have ey := strs_dps hd9
          subst ey
          refine ⟨5, rfl, D, _, rfl, SqL.of hys, fun g hg => ?_⟩
          have e11 : cutV ((l.map wS).map V.str) none (some 5) = ((l.take 5).map wS).map V.str := by
            rw [show (some 5 : Option Int) = some ((5 : Nat) : Int) from rfl, cutV_to, List.map_take, List.map_take]
          rw [e11]
          have hl5' : (l.take 5).length ≤ 5 := by rw [List.length_take]; omega
          have hsum := words_sum (l.take 5)
          have hj := wjoin_len (l.take 5) hl5'
          refine ⟨"/", g, (l.take 5).map wS, rfl, rfl, .inl (SqL.of upd_same), ?_, ?_⟩
          · rw [List.length_map]
            show _ + _ * 1 ≤ _
            omega
          · refine ⟨sl, _, rfl, rfl, ?_, ?_⟩
            · show sl.length + (Txt.join sl ((l.take 5).map wS)).length ≤ _
              have hz : (sl.length : Nat) = 1 := rfl
              have := small1000 (n := 500) (by omega)
              omega
            · have z := q (upd H9 g (.lst (((l.take 5).map wS).map V.str))) (l.take 5) ((b8.same s9).same (same_new hg)) ((hp8.same s9).same (same_new hg)) hl5'
              rw [pth_eq] at z
              exact z
      · refine ⟨_, rfl, p, 8, rfl, hp5, by decide, by decide, fun H6 k6 b6 hp6 _ => ⟨rfl, _, rfl, ?_⟩⟩
        have ho6 := b6 _ _ ho5 nop
        cases decide (V.int (k6 : Int) = V.int 0) with
        | false => exact iteF ⟨o, ms, rfl, b5.trans b6, hp6, ho6, by omega⟩
        | true =>
          refine iteT ⟨_, rfl, 1, rfl, o, _, rfl, SqL.of ho6, fun a7 ha7 => ?_⟩
          rw [show (some 1 : Option Int) = some ((1 : Nat) : Int) from rfl, cutV_from]
          have s7 := same_new (o := .lst (List.drop 1 ((ms.map mS).map V.str))) ha7
          have h77 : (upd H6 a7 (.lst (List.drop 1 ((ms.map mS).map V.str)))) a7 = some (.lst (List.drop 1 ((ms.map mS).map V.str))) := upd_same
          generalize upd H6 a7 (.lst (List.drop 1 ((ms.map mS).map V.str))) = H7 at s7 h77 ⊢
          refine ⟨by show 1 ≤ sizeLine; decide, fun a8 ha8 => ?_⟩
          have s8 := same_new (o := .lst [V.str "a"]) ha8
          refine ⟨a7, a8, _, _, rfl, rfl, s8 _ _ h77, upd_same, ?_, fun a9 ha9 => ?_⟩
          · rw [List.length_drop, List.length_map, List.length_map]
            have := small1000 (n := 500) (by omega)
            show _ + 1 ≤ _
            omega
          · have s9 := same_new (o := .lst (List.drop 1 ((ms.map mS).map V.str) ++ [V.str "a"])) ha9
            refine ⟨a9, ms.drop 1 ++ [some 0], rfl, (((b5.trans b6).same s7).same s8).same s9, ((hp6.same s7).same s8).same s9, ?_, ?_⟩
            · rw [upd_same, List.map_append, List.map_append, List.map_drop, List.map_drop]
              rfl
            · rw [List.length_append, List.length_drop]
              show _ + 1 ≤ 5
              omega
end
end K7

set_option maxRecDepth 100000
set_option maxHeartbeats 4000000
/-! K7P: _law_closer. -/
namespace K7
open PySem PySem.Spec PyProof.Rows L2
open PySem.W (Datum DatumOrd minOf)
open C8 (Def Cal CalAt cal0 pe_c pe_gc fnScope fnBody fnArgs)
def oH : Option Pt → Bool
  | none => false
  | some p => isH p
theorem oS_headH (x : Option Pt) : decide (V.str (cutS (oS x) none (some 1)) = V.str "{") = oH x := by
  cases x with
  | none => exact head_empty
  | some p => exact (hole_facts p).1
theorem its_some {ps : List Pt} (h : ps ≠ []) : itsO ps = ps.map some := by
  unfold itsO
  rw [if_neg h]
theorem str_cut (ss : List Str) : cutV (ss.map V.str) (some 1) none = (ss.drop 1).map V.str := by
  rw [List.map_drop]
  exact cutV_from _ 1
theorem set_split (ps : List Pt) {k : Nat} (h : k < ps.length) (q : Pt) : (((ps.map ptS).map V.str).take k ++ [V.str (ptS q)]) ++ ((ps.map ptS).map V.str).drop (k + 1) = ((ps.set k q).map ptS).map V.str := by
  rw [List.set_eq_take_append_cons_drop, if_pos h, List.map_append, List.map_append, List.map_cons, List.map_cons, List.map_take, List.map_take, List.map_drop, List.map_drop, List.append_assoc]
  rfl
section
variable {P : Program} {w : World} {K : PySem.W.Frag} {mg : Str → Option Value} {base : Heap} {f : Addr} {fd : FuncData} {bs : List Value}
def spCloser : Sp := fun vs H Q _ => ∃ (p : Addr) (ps : List Pt) (ws : List (Fin 10)), vs = [.ref p, .str (patS ps), .str (pthS ws)] ∧ PenAt H p ∧ ps.length ≤ 5 ∧ met ps ws = true ∧
  ∀ H' u, But p H H' → PenAt H' p → (u = .non ∨ ∃ qs, u = .str (patS qs) ∧ Closer ps ws qs) → Q u H'
theorem scCloser : FnScope ["_law_pen_here", "_law_pattern_here", "_law_path_here", "_law_parts", "_law_words", "_law_at", "_law_places", "_law_closer_here", "_law_part"] ["_law_pen_here", "_law_pattern_here", "_law_path_here"] (fnScope (tp 63)) := C8.fnScope_by (by decide +kernel)
theorem c_closer (T : G7 K mg) (cD : Cal P w K mg base 1 "_law_draw" spDraw []) (cP : Cal P w K mg base 2 "_law_pick" (spPick K) [])
    (F : Def K mg "_law_closer" (tp 63) f fd) (b : Binds K fd ["_law_pen_here", "_law_pattern_here", "_law_path_here"] []) : Cal P w K mg base 3 "_law_closer" spCloser [] := by
  refine cal0 F b .nil scCloser (fun vs H Q E h => ?_) (fun cdv A outer s H vs Q E hr h => ?_)
  · obtain ⟨_, _, _, rfl, _⟩ := h
    rfl
  · obtain ⟨p, ps, ws, rfl, hp, hl, hm, q⟩ := h
    refine ⟨_, pss_cons (ps_par (i := 3) (j := 4) (by rfl) scCloser.nd rfl rfl (by decide) rfl rfl (pa_cons (pe_slice sl_list (pe_split (pv 1) pe_str) (po_some pe_int) po_none) (pa_cons (pe_slice sl_list (pe_split (pv 2) pe_str) (po_some pe_int) po_none) pa_nil)) (by rfl))
      (pss_cons (ps_setLc (i := 6) (own := [("_law_at", 5), ("_law_part", 8)]) (g := g2 K 5 8) (by rfl) scCloser.nd rfl rfl (sw_true rfl rfl rfl (by decide +kernel)) (pi_enum (by rfl) T.enum (pa_cons (pv 3) pa_nil))
          (blkOk_by (own := [("_law_at", 5), ("_law_part", 8)]) (N := ["_law_pen_here", "_law_pattern_here", "_law_path_here", "_law_parts", "_law_words", "_law_at", "_law_places", "_law_closer_here", "_law_part"]) (sc := fnScope (tp 63)) (by decide +kernel))
          (fun _ _ _ _ _ => pg_tup (by rfl) (pgs_cons (pg_name (i := 5) scCloser.nd rfl (Or.inl rfl)) (pgs_cons (pg_name (i := 8) scCloser.nd rfl (Or.inl rfl)) pgs_nil)))
          (fun _ _ _ _ _ => pts_one (pt_cmpR op_eq (pe_slice sl_str (pv 8) po_none (po_some pe_int)) pe_str (nomark _))) (fun _ _ _ _ _ => pv 5))
      (pss_cons (ps_if (pt_cmpR (op_eqD hr.units) (pv 6) (pe_lst pa_nil) (nomark _)) (pss_one (ps_ret pe_non)) pss_nil)
      (pss_cons (ps_set (i := 5) scCloser.nd rfl (.inl rfl) (pe_c cP hr (by decide) (by rfl) (pa_cons (pv 0) (pa_cons (pv 6) pa_nil))))
      (pss_cons (ps_set (i := 7) scCloser.nd rfl (.inl rfl) (pe_ix ix_list (pv 4) (pv 5) (fun _ _ => rfl)))
      (pss_cons (ps_join (ps_if (PW.pt (pw_and (pt_cmpR op_ne (pe_slice sl_str (pe_ix ix_list (pv 3) (pv 5) (fun _ _ => rfl)) (po_some (pe_un un_neg pe_int)) po_none) pe_str (nomark _))
          (pw_and (pt_cmpR op_in_seq (pe_ix ix_list (pv 4) (pv 5) (fun _ _ => rfl)) (pe_tup (pa_cons pe_str (pa_cons pe_str (pa_cons pe_str (pa_cons pe_str pa_nil))))) (by rfl))
          (pw_and1 (pt_cmpR op_eq (pe_c cD hr (by decide) (by rfl) (pa_cons (pv 0) (pa_cons pe_int pa_nil))) pe_int (nomark _))))))
        (pss_one (ps_set (i := 7) scCloser.nd rfl (.inl rfl) (pe_op op_add_str (pe_slice sl_str (pe_ix ix_list (pv 3) (pv 5) (fun _ _ => rfl)) po_none (po_some (pe_un un_neg pe_int))) pe_str))) pss_nil))
      (pss_one (ps_ret (pe_op op_add_str pe_str (pe_join pe_str (pe_op op_cat (pe_op op_cat (pe_slice sl_list (pv 3) po_none (po_some (pv 5))) (pe_lst (pa_cons (pv 7) pa_nil))) (pe_slice sl_list (pv 3) (po_some (pe_op op_add (pv 5) pe_int)) po_none))))))))))), ?_⟩
    have hlen := met_len hm
    have hpl := patS_len ps hl
    have hpl2 := patS_len (pW ws) (by rw [pW_len]; omega)
    have hsl : (sl.length == 0) = false := by decide +kernel
    have hbig : ∀ n : Nat, n ≤ 500 → n ≤ sizeLine := fun n h => by have := small1000 (n := 500) (by omega); omega
    -- the parts
    refine ⟨_, rfl, ⟨_, rfl⟩, patS ps, sl, rfl, rfl, hsl, hbig _ (by omega), fun a2 ha2 => ?_⟩
    have s2 := same_new (o := .lst ((Txt.split (patS ps) sl).map V.str)) ha2
    have h22 : (upd H a2 (.lst ((Txt.split (patS ps) sl).map V.str))) a2 = some (.lst ((Txt.split (patS ps) sl).map V.str)) := upd_same
    generalize upd H a2 (.lst ((Txt.split (patS ps) sl).map V.str)) = H2 at s2 h22 ⊢
    refine ⟨1, rfl, a2, _, rfl, SqL.of h22, fun c hc => ?_⟩
    rw [str_cut, its_split]
    have s3 := same_new (o := .lst (((itsO ps).map oS).map V.str)) hc
    have h33 : (upd H2 c (.lst (((itsO ps).map oS).map V.str))) c = some (.lst (((itsO ps).map oS).map V.str)) := upd_same
    generalize upd H2 c (.lst (((itsO ps).map oS).map V.str)) = H3 at s3 h33 ⊢
    have hp3 := (hp.same s2).same s3
    have ncp : c ≠ p := fun e => by
      obtain ⟨_, _, h⟩ := hp.same s2
      rw [e, h] at hc; cases hc
    -- the words
    refine ⟨_, rfl, ⟨_, rfl⟩, patS (pW ws), sl, rfl, rfl, hsl, hbig _ (by omega), fun a4 ha4 => ?_⟩
    have s4 := same_new (o := .lst ((Txt.split (patS (pW ws)) sl).map V.str)) ha4
    have h44 : (upd H3 a4 (.lst ((Txt.split (patS (pW ws)) sl).map V.str))) a4 = some (.lst ((Txt.split (patS (pW ws)) sl).map V.str)) := upd_same
    generalize upd H3 a4 (.lst ((Txt.split (patS (pW ws)) sl).map V.str)) = H4 at s4 h44 ⊢
    refine ⟨1, rfl, a4, _, rfl, SqL.of h44, fun e he => ⟨_, _, rfl, ?_⟩⟩
    rw [str_cut, its_split]
    have s5 := same_new (o := .lst (((itsO (pW ws)).map oS).map V.str)) he
    have h55 : (upd H4 e (.lst (((itsO (pW ws)).map oS).map V.str))) e = some (.lst (((itsO (pW ws)).map oS).map V.str)) := upd_same
    generalize upd H4 e (.lst (((itsO (pW ws)).map oS).map V.str)) = H5 at s5 h55 ⊢
    have hp5 := (hp3.same s4).same s5
    have nep : e ≠ p := fun e1 => by
      obtain ⟨_, _, h⟩ := hp3.same s4
      rw [e1, h] at he; cases he
    have h5c := s5 _ _ (s4 _ _ h33)
    have b5 : But p H H5 := Same.but (s2.trans (s3.trans (s4.trans s5)))
    have gl := its_len hl
    -- the places
    refine ⟨_, rfl, c, _, rfl, SqL.of h5c, fun D hD => ?_⟩
    refine lc_it walk_enum (LcP (fun k v H => Dp K H v (.int (k : Int))) (fun k => oH ((itsO ps).getD k none)) H5 D) (.start hD) (fun i H hi hP => hP.same.seq (SqL.of h5c)) ?_ ?_
    · rintro i v H6 H7 hi hP ⟨t, x, y, rfl, hT, rfl, hx, hy⟩
      have hx : some (V.int (i : Int)) = some x := hx
      obtain rfl := Option.some.inj hx
      have hy : (((itsO ps).map oS).map V.str)[i]? = some y := hy
      rw [List.map_map] at hy
      obtain ⟨it, hit, rfl⟩ := map_at (g := V.str ∘ oS) hy
      have eg : (itsO ps).getD i none = it := getD_of hit
      have st := same_new (o := .tup [V.int (i : Int), (V.str ∘ oS) it]) hT
      have hol := oS_len it
      refine ⟨t, _, rfl, SqT.of upd_same, rfl, _, _, rfl, _, _, rfl, rfl, rfl, ?_⟩
      refine ⟨_, rfl, 1, rfl, _, rfl, by show (oS it).length ≤ sizeLine; exact hbig _ (by omega), rfl, _, rfl, ?_⟩
      show if decide (V.str (cutS (oS it) none (some 1)) = V.str "{") = true then _ else _
      rw [oS_headH]
      cases eo : oH it with
      | false => exact iteF (hP.skip dp_keep st (by rw [eg]; exact eo))
      | true =>
        refine iteT ⟨_, rfl, ?_⟩
        refine LcP.add hD (dp_stay fun _ => by unfold noL; rfl) hP st ?_ (by rw [eg]; exact eo) (.int _)
        rw [List.length_map, List.length_map] at hi
        omega
    · intro H6 hP
      obtain ⟨s6, ys, hys, hpr⟩ := hP
      have hd6 := paired_dps (K := K) (fun k : Nat => PyData.int (k : Int)) hpr
      have e10 : ∀ L : List Nat, L.map (fun k : Nat => PyData.int (k : Int)) = (L.map (fun k : Nat => (k : Int))).map PyData.int := fun L => by rw [List.map_map]; rfl
      rw [e10] at hd6
      have ey := ints_dps hd6
      subst ey
      rw [List.length_map, List.length_map] at hys
      have hmemL : ∀ k ∈ (List.range (itsO ps).length).filter (fun k => oH ((itsO ps).getD k none)), k < (itsO ps).length ∧ oH ((itsO ps).getD k none) = true := fun k hk => ⟨List.mem_range.mp (List.mem_filter.mp hk).1, (List.mem_filter.mp hk).2⟩
      have hlenL : ((List.range (itsO ps).length).filter (fun k => oH ((itsO ps).getD k none))).length ≤ 5 := Nat.le_trans (filt_len _ _) gl.2
      generalize (List.range (itsO ps).length).filter (fun k => oH ((itsO ps).getD k none)) = L at hys hmemL hlenL
      have hp6 := hp5.same s6
      have b6 := b5.same s6
      refine ⟨_, rfl, Nat.zero_le _, fun e0 he0 => ⟨Datum.toD (L.map (fun k : Nat => (k : Int))), Datum.toD ([] : List Int), dp_same (same_new he0) _ _ (ints_toD hys), .lst (SqL.of upd_same) .nil, ints_shaped _, ints_shaped _, _, rfl, ?_⟩⟩
      rw [Datum.eqv]
      have s7 := same_new (o := .lst []) he0
      generalize upd H6 e0 (.lst []) = H7 at s7 ⊢
      have hp7 := hp6.same s7
      have b7 := b6.same s7
      have hys7 := s7 _ _ hys
      have h7c := s7 _ _ (s6 _ _ h5c)
      have h7e := s7 _ _ (s6 _ _ h55)
      by_cases hL : L = []
      · exact itT (decide_eq_true (by rw [hL]; rfl)) (q _ _ b7 hp7 (.inl rfl))
      · refine itF (decide_eq_false (fun z => hL (List.map_eq_nil_iff.mp z))) ?_
        have nDp : D ≠ p := fun e1 => by
          obtain ⟨_, _, h⟩ := hp5
          rw [e1, h] at hD; cases hD
        refine ⟨_, rfl, _, rfl, p, D, _, rfl, hp7, .inl ⟨SqL.of hys7, nDp⟩, fun z => hL (List.map_eq_nil_iff.mp (List.map_eq_nil_iff.mp z)), by rw [List.length_map, List.length_map]; omega, fun H8 k0 x b8 hp8 hx => ?_⟩
        rw [List.map_map] at hx
        obtain ⟨k, hk, rfl⟩ := map_at (g := V.int ∘ fun k : Nat => (k : Int)) hx
        obtain ⟨g1, g2⟩ := hmemL k (List.mem_of_getElem? hk)
        have h8c := b8 _ _ h7c ncp
        have h8e := b8 _ _ h7e nep
        have b8' := b7.trans b8
        have hne : ps ≠ [] := fun z => by
          rw [z] at g1 g2
          have : k = 0 := by
            have e : (itsO []).length = 1 := rfl
            omega
          rw [this] at g2
          cases g2
        have hwne : pW ws ≠ [] := fun z => by
          have h1 := congrArg List.length z
          rw [pW_len, ← hlen] at h1
          exact hne (List.eq_nil_of_length_eq_zero h1)
        rw [its_some hne] at g1 g2 h8c
        rw [its_some hwne] at h8e
        rw [List.length_map] at g1
        have hkp : ps[k]? = some ps[k] := List.getElem?_eq_getElem g1
        generalize ps[k] = pt at hkp
        have eg : (ps.map some).getD k none = some pt := getD_of (by rw [List.getElem?_map, hkp]; rfl)
        rw [eg] at g2
        have hkw : ws[k]? = some ws[k] := List.getElem?_eq_getElem (by omega)
        generalize ws[k] = j at hkw
        have e1 : ((ps.map some).map oS).map V.str = ((ps.map ptS).map V.str) := by rw [List.map_map (l := ps)]; rfl
        have e2 : (((pW ws).map some).map oS).map V.str = ((ws.map wS).map V.str) := by unfold pW; simp only [List.map_map]; rfl
        rw [e1] at h8c
        rw [e2] at h8e
        have hpx : ((ps.map ptS).map V.str)[k]? = some (V.str (ptS pt)) := by rw [List.map_map, List.getElem?_map, hkp]; rfl
        have hwx : ((ws.map wS).map V.str)[k]? = some (V.str (wS j)) := by rw [List.map_map, List.getElem?_map, hkw]; rfl
        cases pt with
        | w i2 => cases g2
        | h n bb =>
          refine ⟨_, rfl, _, rfl, e, _, (k : Int), _, rfl, rfl, SqL.of h8e, atI_nat hwx, ?_⟩
          refine ⟨fun σ H9 => ∃ q, σ = [some (.ref p), some (.str (patS ps)), some (.str (pthS ws)), some (.ref c), some (.ref e), some (.int (k : Int)), some (.ref D), some (.str (ptS q)), none] ∧ (q = .w j ∨ (bb = false ∧ (numW j).isSome = true ∧ q = .h n true)) ∧ But p H H9 ∧ PenAt H9 p ∧ H9 c = some (.lst ((ps.map ptS).map V.str)), ?_, ?_⟩
          · rintro σ H9 ⟨q1, rfl, hq1, b9, hp9, h9c⟩
            refine ⟨⟨_, rfl⟩, _, rfl, _, rfl, (k : Int), rfl, c, _, rfl, SqL.of h9c, fun a5 ha5 => ?_⟩
            rw [cutV_to]
            have t5 := same_new (o := .lst (List.take k ((ps.map ptS).map V.str))) ha5
            have k5 : (upd H9 a5 (.lst (List.take k ((ps.map ptS).map V.str)))) a5 = some (.lst (List.take k ((ps.map ptS).map V.str))) := upd_same
            generalize upd H9 a5 (.lst (List.take k ((ps.map ptS).map V.str))) = J5 at t5 k5 ⊢
            refine ⟨_, rfl, by show 1 ≤ sizeLine; decide, fun a6 ha6 => ?_⟩
            have t6 := same_new (o := .lst [V.str (ptS q1)]) ha6
            have k6 : (upd J5 a6 (.lst [V.str (ptS q1)])) a6 = some (.lst [V.str (ptS q1)]) := upd_same
            refine ⟨a5, a6, _, _, rfl, rfl, t6 _ _ k5, k6, ?_, fun a7 ha7 => ?_⟩
            · rw [List.length_take, List.length_map, List.length_map]
              show _ + 1 ≤ _
              exact hbig _ (by omega)
            generalize upd J5 a6 (.lst [V.str (ptS q1)]) = J6 at t6 ha7 ⊢
            have t7 := same_new (o := .lst (List.take k ((ps.map ptS).map V.str) ++ [V.str (ptS q1)])) ha7
            have k7 : (upd J6 a7 (.lst (List.take k ((ps.map ptS).map V.str) ++ [V.str (ptS q1)]))) a7 = some (.lst (List.take k ((ps.map ptS).map V.str) ++ [V.str (ptS q1)])) := upd_same
            generalize upd J6 a7 (.lst (List.take k ((ps.map ptS).map V.str) ++ [V.str (ptS q1)])) = J7 at t7 k7 ⊢
            refine ⟨_, rfl, _, rfl, (k : Int), 1, rfl, rfl, (k : Int) + 1, rfl, c, _, rfl, SqL.of (t7 _ _ (t6 _ _ (t5 _ _ h9c))), fun a8 ha8 => ?_⟩
            rw [show (k : Int) + 1 = ((k + 1 : Nat) : Int) by omega, cutV_from]
            have t8 := same_new (o := .lst (List.drop (k + 1) ((ps.map ptS).map V.str))) ha8
            have k8 : (upd J7 a8 (.lst (List.drop (k + 1) ((ps.map ptS).map V.str)))) a8 = some (.lst (List.drop (k + 1) ((ps.map ptS).map V.str))) := upd_same
            generalize upd J7 a8 (.lst (List.drop (k + 1) ((ps.map ptS).map V.str))) = J8 at t8 k8 ⊢
            refine ⟨a7, a8, _, _, rfl, rfl, t8 _ _ k7, k8, ?_, fun a9 ha9 => ?_⟩
            · rw [List.length_append, List.length_take, List.length_drop, List.length_map, List.length_map]
              show _ + 1 + _ ≤ _
              exact hbig _ (by omega)
            rw [set_split ps g1 q1]
            have t9 := same_new (o := .lst (((ps.set k q1).map ptS).map V.str)) ha9
            have hl9 : (ps.set k q1).length ≤ 5 := by rw [List.length_set]; exact hl
            have hsum := parts_sum (ps.set k q1)
            have hj := join_len (ps.set k q1) hl9
            have tt := t5.trans (t6.trans (t7.trans (t8.trans t9)))
            refine ⟨"/", a9, (ps.set k q1).map ptS, rfl, rfl, .inl (SqL.of upd_same), ?_, ?_⟩
            · rw [List.length_map]
              show _ + _ * 1 ≤ _
              omega
            · refine ⟨sl, _, rfl, rfl, ?_, q _ _ (b9.same tt) (hp9.same tt) (.inr ⟨ps.set k q1, rfl, k, n, bb, j, q1, hkp, hkw, hq1, rfl⟩)⟩
              show sl.length + (Txt.join sl ((ps.set k q1).map ptS)).length ≤ _
              have hz : (sl.length : Nat) = 1 := rfl
              exact hbig _ (by omega)
          · have hptl := (pt_len (.h n bb)).2
            refine ⟨_, rfl, _, rfl, c, _, (k : Int), _, rfl, rfl, SqL.of h8c, atI_nat hpx, 3, rfl, -3, rfl, _, rfl, hbig _ (by omega), rfl, _, rfl, ?_⟩
            show if (!decide (V.str (cutS (ptS (.h n bb)) (some (-3)) none) = V.str ":n}")) = true then _ else _
            rw [hole_end]
            cases bb with
            | true => exact iteF (iteF ⟨.w j, rfl, .inl rfl, b8', hp8, h8c⟩)
            | false =>
              refine iteT ⟨_, rfl, _, rfl, e, _, (k : Int), _, rfl, rfl, SqL.of h8e, atI_nat hwx, by show 4 ≤ sizeLine; decide, fun a9 ha9 => ?_⟩
              have s9 := same_new (o := .tup [V.str "0", V.str "7", V.str "12", V.str "9999"]) ha9
              refine ⟨a9, _, rfl, .inr (SqT.of upd_same), rfl, rfl, _, rfl, ?_⟩
              show if inV (V.str (wS j)) [.str "0", .str "7", .str "12", .str "9999"] = true then _ else _
              rw [num_in]
              generalize upd H8 a9 _ = H9 at s9 ⊢
              have hp9 := hp8.same s9
              have b9 := b8'.same s9
              have h9c := s9 _ _ h8c
              cases en : (numW j).isSome with
              | false => exact iteF (iteF ⟨.w j, rfl, .inl rfl, b9, hp9, h9c⟩)
              | true =>
                refine iteT ⟨_, rfl, p, 2, rfl, hp9, by decide, by decide, fun H10 k10 b10 hp10 _ => ⟨rfl, _, rfl, ?_⟩⟩
                have h10c := b10 _ _ h9c ncp
                cases decide (V.int (k10 : Int) = V.int 0) with
                | false => exact iteF ⟨.w j, rfl, .inl rfl, b9.trans b10, hp10, h10c⟩
                | true =>
                  refine iteT ⟨_, rfl, _, rfl, c, _, (k : Int), _, rfl, rfl, SqL.of h10c, atI_nat hpx, 1, rfl, -1, rfl, _, rfl, hbig _ (by omega), _, _, rfl, rfl, ?_, ?_⟩
                  · have h1 := cutS_length (ptS (.h n false)) none (some (-1))
                    have h3 : (Str.ofString ":n}").length = 3 := by decide +kernel
                    exact hbig _ (by omega)
                  · rw [hole_num]
                    exact ⟨.h n true, rfl, .inr ⟨rfl, rfl, rfl⟩, b9.trans b10, hp10, h10c⟩
end
end K7

set_option maxRecDepth 100000
set_option maxHeartbeats 4000000
/-! K7Q: the plain law: what found and hidden tell of routes with one more. -/
namespace K7
open PySem L2
open PySem.W (Datum DatumOrd minOf listLt)
/-! ### the order -/
def klt (p q : Ky) : Bool := if p.1 = q.1 then decide (p.2 < q.2) else listLt p.1 q.1
theorem lt_klt (p q : Ky) : DatumOrd.lt p q = klt p q := rfl
theorem listLt_irr : ∀ l : List Int, listLt l l = false
  | [] => rfl
  | x :: l => by
    rw [listLt, if_pos rfl]
    exact listLt_irr l
theorem listLt_cons (x y : Int) (l m : List Int) : listLt (x :: l) (y :: m) = true ↔ x < y ∨ (x = y ∧ listLt l m = true) := by
  rw [listLt]
  by_cases h : x = y
  · rw [if_pos h]
    constructor
    · exact fun e => .inr ⟨h, e⟩
    · rintro (e | e)
      · omega
      · exact e.2
  · rw [if_neg h]
    show decide (x < y) = true ↔ _
    rw [decide_eq_true_eq]
    constructor
    · exact .inl
    · rintro (e | e)
      · exact e
      · exact absurd e.1 h
theorem listLt_trans : ∀ a b c : List Int, listLt a b = true → listLt b c = true → listLt a c = true
  | [], [], _, h, _ => by cases h
  | _ :: _, [], _, h, _ => by cases h
  | [], _ :: _, [], _, h => by cases h
  | _ :: _, _ :: _, [], _, h => by cases h
  | [], _ :: _, _ :: _, _, _ => rfl
  | x :: a, y :: b, z :: c, h, g => by
    rw [listLt_cons] at h g ⊢
    rcases h with h | ⟨h1, h2⟩
    · rcases g with g | ⟨g1, g2⟩
      · left; omega
      · left; omega
    · rcases g with g | ⟨g1, g2⟩
      · left; omega
      · right
        exact ⟨by omega, listLt_trans a b c h2 g2⟩
theorem klt_irr (p : Ky) : klt p p = false := by
  unfold klt
  rw [if_pos rfl]
  exact decide_eq_false (by omega)
theorem klt_trans {p q r : Ky} (h : klt p q = true) (g : klt q r = true) : klt p r = true := by
  unfold klt at *
  by_cases e1 : p.1 = q.1
  · rw [if_pos e1] at h
    by_cases e2 : q.1 = r.1
    · rw [if_pos e2] at g
      rw [if_pos (e1.trans e2)]
      have := of_decide_eq_true h
      have := of_decide_eq_true g
      exact decide_eq_true (by omega)
    · rw [if_neg e2] at g
      rw [if_neg (fun z => e2 (e1.symm.trans z)), e1]
      exact g
  · rw [if_neg e1] at h
    by_cases e2 : q.1 = r.1
    · rw [← e2, if_neg e1]
      exact h
    · rw [if_neg e2] at g
      have t := listLt_trans _ _ _ h g
      rw [if_neg (fun z => by rw [z, listLt_irr] at t; cases t)]
      exact t
/-- nothing is less than the least -/
theorem min_le (xs : List Ky) : ∀ x : Ky, ∀ z ∈ x :: xs, klt z (minOf x xs) = false := by
  have key : ∀ (xs : List Ky) (x z : Ky), klt z x = false → klt z (xs.foldl (fun a y => if DatumOrd.lt y a = true then y else a) x) = false := by
    intro xs
    induction xs with
    | nil => exact fun x z h => h
    | cons y ys ih =>
      intro x z h
      rw [List.foldl_cons]
      refine ih _ z ?_
      by_cases c : DatumOrd.lt y x = true
      · rw [if_pos c]
        cases e : klt z y with
        | false => rfl
        | true =>
          have := klt_trans e (show klt y x = true from c)
          rw [h] at this
          cases this
      · rw [if_neg c]; exact h
  induction xs with
  | nil =>
    intro x z h
    rw [List.mem_singleton] at h
    subst h
    exact klt_irr z
  | cons y ys ih =>
    intro x z h
    unfold minOf at *
    rw [List.foldl_cons]
    by_cases c : DatumOrd.lt y x = true
    · rw [if_pos c]
      rcases List.mem_cons.mp h with e | e
      · subst e
        refine key ys y z ?_
        cases e2 : klt z y with
        | false => rfl
        | true =>
          have := klt_trans e2 (show klt y z = true from c)
          rw [klt_irr] at this
          cases this
      · exact ih y z e
    · rw [if_neg c]
      rcases List.mem_cons.mp h with e | e
      · subst e
        exact ih z z List.mem_cons_self
      · rcases List.mem_cons.mp e with e | e
        · subst e
          exact key ys x z (by
            cases e2 : klt z x with
            | false => rfl
            | true => exact absurd (show DatumOrd.lt z x = true from e2) c)
        · exact ih x z (List.mem_cons_of_mem _ e)
theorem min_snoc (x z : Ky) (xs : List Ky) : minOf x (xs ++ [z]) = if klt z (minOf x xs) = true then z else minOf x xs := by
  unfold minOf
  rw [List.foldl_append]
  rfl
/-! ### one route more -/
theorem getD_left {rs : List Rt} {x : Rt} {k : Nat} (h : k < rs.length) : (rs ++ [x]).getD k r0 = rs.getD k r0 := by
  rw [List.getD_eq_getElem?_getD, List.getD_eq_getElem?_getD, List.getElem?_append_left h]
theorem getD_last {rs : List Rt} {x : Rt} : (rs ++ [x]).getD rs.length r0 = x := by
  rw [List.getD_eq_getElem?_getD, List.getElem?_append_right (Nat.le_refl _), Nat.sub_self]
  rfl
theorem cand_snoc (rs : List Rt) (x : Rt) (vb : Bool) (ws : List (Fin 10)) : candK (rs ++ [x]) vb ws = candK rs vb ws ++ (if candB [x] vb ws 0 = true then [(x.pat.map knd, (rs.length : Int))] else []) := by
  unfold candK
  have e : (rs ++ [x]).length = rs.length + 1 := by rw [List.length_append]; rfl
  rw [e, List.range_succ, List.filter_append, List.map_append]
  congr 1
  · have h1 : (List.range rs.length).filter (candB (rs ++ [x]) vb ws) = (List.range rs.length).filter (candB rs vb ws) := List.filter_congr fun k hk => by
      unfold candB
      rw [getD_left (List.mem_range.mp hk)]
    rw [h1]
    refine List.map_congr_left fun k hk => ?_
    unfold keyK
    rw [getD_left (List.mem_range.mp (List.mem_filter.mp hk).1)]
  · have h2 : candB (rs ++ [x]) vb ws rs.length = candB [x] vb ws 0 := by
      unfold candB
      rw [getD_last]
      rfl
    by_cases c : candB [x] vb ws 0 = true
    · rw [if_pos c, List.filter_cons_of_pos (by rw [h2]; exact c)]
      show [keyK (rs ++ [x]) rs.length] = _
      unfold keyK
      rw [getD_last]
    · rw [if_neg c, List.filter_cons_of_neg (by rw [h2]; exact c)]
      rfl
theorem cand_mem {rs : List Rt} {vb : Bool} {ws : List (Fin 10)} {z : Ky} (h : z ∈ candK rs vb ws) : ∃ k, k < rs.length ∧ candB rs vb ws k = true ∧ z = keyK rs k := by
  obtain ⟨k, h1, h2⟩ := List.mem_map.mp h
  exact ⟨k, List.mem_range.mp (List.mem_filter.mp h1).1, (List.mem_filter.mp h1).2, h2.symm⟩
theorem mem_cand {rs : List Rt} {vb : Bool} {ws : List (Fin 10)} {k : Nat} (h : k < rs.length) (c : candB rs vb ws k = true) : keyK rs k ∈ candK rs vb ws := List.mem_map.mpr ⟨k, List.mem_filter.mpr ⟨List.mem_range.mpr h, c⟩, rfl⟩
theorem found_one (x : Rt) (vb : Bool) (ws : List (Fin 10)) : foundA [x] vb ws = if candB [x] vb ws 0 = true then some (x.nm, valsL x.pat ws) else none := by
  have h := cand_snoc [] x vb ws
  have e0 : candK [] vb ws = [] := rfl
  rw [e0, List.nil_append, List.nil_append] at h
  unfold foundA
  rw [h]
  by_cases c : candB [x] vb ws 0 = true
  · rw [if_pos c, if_pos c]
    rfl
  · rw [if_neg c, if_neg c]
theorem fdAt_left {rs : List Rt} {x : Rt} {ws : List (Fin 10)} {k : Nat} (h : k < rs.length) : fdAt (rs ++ [x]) ws k = fdAt rs ws k := by
  unfold fdAt
  rw [getD_left h]
theorem found_skip {rs : List Rt} {x : Rt} {vb : Bool} {ws : List (Fin 10)} (c : candB [x] vb ws 0 = false) : foundA (rs ++ [x]) vb ws = foundA rs vb ws := by
  have h := cand_snoc rs x vb ws
  rw [c, if_neg Bool.false_ne_true, List.append_nil] at h
  unfold foundA
  rw [h]
  cases e : candK rs vb ws with
  | nil => rfl
  | cons y ys =>
    have hm := minOf_mem y ys
    rw [← e] at hm
    obtain ⟨k, hk, _, e2⟩ := cand_mem hm
    show some (fdAt (rs ++ [x]) ws (minOf y ys).2.toNat) = some (fdAt rs ws (minOf y ys).2.toNat)
    rw [e2]
    show some (fdAt (rs ++ [x]) ws (k : Int).toNat) = some (fdAt rs ws (k : Int).toNat)
    rw [Int.toNat_natCast, fdAt_left hk]
/-- (E) -/
theorem found_either (rs : List Rt) (x : Rt) (vb : Bool) (ws : List (Fin 10)) : foundA (rs ++ [x]) vb ws = foundA rs vb ws ∨ foundA (rs ++ [x]) vb ws = foundA [x] vb ws := by
  cases c : candB [x] vb ws 0 with
  | false => exact .inl (found_skip c)
  | true =>
    have h := cand_snoc rs x vb ws
    rw [c, if_pos rfl] at h
    have hx : foundA [x] vb ws = some (x.nm, valsL x.pat ws) := by rw [found_one, c, if_pos rfl]
    have hz : fdAt (rs ++ [x]) ws ((rs.length : Int)).toNat = (x.nm, valsL x.pat ws) := by
      rw [Int.toNat_natCast]
      unfold fdAt
      rw [getD_last]
    cases e : candK rs vb ws with
    | nil =>
      right
      rw [hx]
      unfold foundA
      rw [h, e]
      show some (fdAt (rs ++ [x]) ws ((rs.length : Int)).toNat) = _
      rw [hz]
    | cons y ys =>
      rw [e, List.cons_append] at h
      have h9 : foundA (rs ++ [x]) vb ws = some (fdAt (rs ++ [x]) ws (minOf y (ys ++ [(x.pat.map knd, (rs.length : Int))])).2.toNat) := by
        unfold foundA
        rw [h]
      have h8 : foundA rs vb ws = some (fdAt rs ws (minOf y ys).2.toNat) := by
        unfold foundA
        rw [e]
      rw [h9, h8, hx, min_snoc]
      by_cases l : klt (x.pat.map knd, (rs.length : Int)) (minOf y ys) = true
      · right
        rw [if_pos l]
        show some (fdAt (rs ++ [x]) ws ((rs.length : Int)).toNat) = _
        rw [hz]
      · left
        rw [if_neg l]
        have hm := minOf_mem y ys
        rw [← e] at hm
        obtain ⟨k, hk, _, e2⟩ := cand_mem hm
        rw [e2]
        show some (fdAt (rs ++ [x]) ws (k : Int).toNat) = some (fdAt rs ws (k : Int).toNat)
        rw [Int.toNat_natCast, fdAt_left hk]
/-- what is found is the least -/
theorem found_is {rs : List Rt} {vb : Bool} {ws : List (Fin 10)} {q : Fin 11 × List Vl} (h : foundA rs vb ws = some q) : ∃ (k : Nat) (r : Rt), rs[k]? = some r ∧ q = (r.nm, valsL r.pat ws) ∧ met r.pat ws = true ∧ r.get = vb ∧
    (∀ z ∈ candK rs vb ws, klt z (r.pat.map knd, (k : Int)) = false) ∧ ∀ x : Rt, candB [x] vb ws 0 = true → klt (x.pat.map knd, (rs.length : Int)) (r.pat.map knd, (k : Int)) = true → foundA (rs ++ [x]) vb ws = foundA [x] vb ws := by
  unfold foundA at h
  cases e : candK rs vb ws with
  | nil => rw [e] at h; cases h
  | cons y ys =>
    rw [e] at h
    have h := Option.some.inj h
    have hm := minOf_mem y ys
    rw [← e] at hm
    obtain ⟨k, hk, hc, e2⟩ := cand_mem hm
    have hrk : rs[k]? = some rs[k] := List.getElem?_eq_getElem hk
    have eg : rs.getD k r0 = rs[k] := getD_of hrk
    have ek : keyK rs k = (rs[k].pat.map knd, (k : Int)) := by unfold keyK; rw [eg]
    rw [ek] at e2
    refine ⟨k, rs[k], hrk, ?_, ?_, ?_, ?_, ?_⟩
    · rw [← h, e2]
      show fdAt rs ws (k : Int).toNat = _
      rw [Int.toNat_natCast]
      unfold fdAt
      rw [eg]
    · unfold candB at hc
      rw [Bool.and_eq_true, eg] at hc
      exact hc.2
    · unfold candB at hc
      rw [Bool.and_eq_true, eg] at hc
      have := V.str.inj (of_decide_eq_true hc.1)
      revert this
      generalize rs[k].get = g
      cases g <;> cases vb <;> decide +kernel
    · intro z hz
      rw [← e2]
      exact min_le ys y z hz
    · intro x c l
      have h2 := cand_snoc rs x vb ws
      rw [c, if_pos rfl, e, List.cons_append] at h2
      rw [found_one, c, if_pos rfl]
      unfold foundA
      rw [h2]
      show some (fdAt (rs ++ [x]) ws (minOf y (ys ++ [(x.pat.map knd, (rs.length : Int))])).2.toNat) = _
      rw [min_snoc, e2, if_pos l]
      show some (fdAt (rs ++ [x]) ws ((rs.length : Int)).toNat) = _
      rw [Int.toNat_natCast]
      unfold fdAt
      rw [getD_last]
/-! ### the closer -/
theorem listLt_set : ∀ (l : List Int) (i : Nat) (a b : Int), l[i]? = some b → a < b → listLt (l.set i a) l = true
  | [], _, _, _, h, _ => by simp at h
  | x :: l, 0, a, b, h, hab => by
    have h : x = b := by simpa using h
    rw [List.set_cons_zero, listLt_cons]
    left
    omega
  | x :: l, i + 1, a, b, h, hab => by
    rw [List.set_cons_succ, listLt_cons]
    exact .inr ⟨rfl, listLt_set l i a b (by simpa using h) hab⟩
theorem knd_pos (n : Fin 6) (b : Bool) : 0 < knd (.h n b) := by revert n b; decide
section
variable {ps qs : List Pt} {ws : List (Fin 10)}
theorem closer_len (h : Closer ps ws qs) : qs.length = ps.length := by
  obtain ⟨i, n, b, j, q, h1, h2, h3, rfl⟩ := h
  rw [List.length_set]
theorem closer_lt (h : Closer ps ws qs) : listLt (qs.map knd) (ps.map knd) = true := by
  obtain ⟨i, n, b, j, q, h1, h2, h3, rfl⟩ := h
  rw [List.map_set]
  refine listLt_set _ i _ (knd (.h n b)) (by rw [List.getElem?_map, h1]; rfl) ?_
  rcases h3 with h3 | ⟨hb, _, h3⟩
  · rw [h3]; exact knd_pos n b
  · rw [h3, hb]; show (1 : Int) < 2; decide
theorem met_all (hl : ps.length = ws.length) (h : ∀ (i : Nat) (p : Pt) (j : Fin 10), ps[i]? = some p → ws[i]? = some j → metP p j = true) : met ps ws = true := by
  unfold met
  rw [Bool.and_eq_true, List.all_eq_true]
  refine ⟨decide_eq_true hl, ?_⟩
  rintro ⟨p, j⟩ hm
  obtain ⟨k, hk⟩ := List.mem_iff_getElem?.mp hm
  obtain ⟨h1, h2⟩ := List.getElem?_zip_eq_some.mp hk
  exact h k p j h1 h2
theorem closer_met (h : Closer ps ws qs) (m : met ps ws = true) : met qs ws = true := by
  have hl := closer_len h
  obtain ⟨i, n, b, j, q, h1, h2, h3, rfl⟩ := h
  refine met_all (hl.trans (met_len m)) fun k p j2 e1 e2 => ?_
  rw [List.getElem?_set] at e1
  by_cases c : i = k
  · subst c
    have hi := (List.getElem?_eq_some_iff.mp h1).1
    rw [if_pos rfl, if_pos hi] at e1
    have e1 := Option.some.inj e1
    have e2 := Option.some.inj (h2.symm.trans e2)
    subst e1 e2
    rcases h3 with h3 | ⟨_, hs, h3⟩
    · rw [h3]; exact decide_eq_true rfl
    · rw [h3]; exact hs
  · rw [if_neg c] at e1
    exact met_at m e1 e2
/-- as many values, or one fewer -/
theorem vals_cnt (hl : ps.length = ws.length) : (valsL ps ws).length = (hols ps).length := by
  rw [← vals_hols ps ws hl, List.length_map]
theorem hols_set : ∀ (ps : List Pt) (i : Nat) (n : Fin 6) (b : Bool) (q : Pt), ps[i]? = some (.h n b) → (hols (ps.set i q)).length ≤ (hols ps).length
  | [], _, _, _, _, h => by simp at h
  | p :: ps, 0, n, b, q, h => by
    have h : p = .h n b := by simpa using h
    subst h
    rw [List.set_cons_zero]
    unfold hols
    rw [List.filter_cons_of_pos (show isH (.h n b) = true from rfl), List.length_cons]
    by_cases c : isH q = true
    · rw [List.filter_cons_of_pos c, List.length_cons]; omega
    · rw [List.filter_cons_of_neg c]; omega
  | p :: ps, i + 1, n, b, q, h => by
    have ih := hols_set ps i n b q (by simpa using h)
    rw [List.set_cons_succ]
    unfold hols at *
    by_cases c : isH p = true
    · rw [List.filter_cons_of_pos c, List.filter_cons_of_pos c, List.length_cons, List.length_cons]; omega
    · rw [List.filter_cons_of_neg c, List.filter_cons_of_neg c]; exact ih
theorem closer_vals (h : Closer ps ws qs) (m : met ps ws = true) : (valsL qs ws).length ≤ (valsL ps ws).length := by
  have hl := met_len m
  rw [vals_cnt hl, vals_cnt ((closer_len h).trans hl)]
  obtain ⟨i, n, b, j, q, h1, h2, h3, rfl⟩ := h
  exact hols_set ps i n b q h1
/-- a pattern alike to one that is met is met -/
theorem alike_met (a : alike ps qs = true) (m : met qs ws = true) : met ps ws = true := by
  unfold alike at a
  rw [Bool.and_eq_true, List.all_eq_true] at a
  have ek := of_decide_eq_true a.1
  have hl : ps.length = qs.length := by
    have := congrArg List.length ek
    rwa [List.length_map, List.length_map] at this
  refine met_all (hl.trans (met_len m)) fun k p j e1 e2 => ?_
  have hk : k < qs.length := by
    have := (List.getElem?_eq_some_iff.mp e1).1
    omega
  have hq : qs[k]? = some qs[k] := List.getElem?_eq_getElem hk
  generalize qs[k] = q at hq
  have z := met_at m hq e2
  have e3 : knd p = knd q := by
    have h1 : (ps.map knd)[k]? = some (knd p) := by rw [List.getElem?_map, e1]; rfl
    have h2 : (qs.map knd)[k]? = some (knd q) := by rw [List.getElem?_map, hq]; rfl
    rw [ek, h2] at h1
    exact (Option.some.inj h1).symm
  have e4 := a.2 (p, q) (List.mem_of_getElem? (List.getElem?_zip_eq_some.mpr ⟨e1, hq⟩))
  cases p with
  | w i =>
    have e4 : (isH (.w i) || decide (Pt.w i = q)) = true := e4
    have e5 : Pt.w i = q := by simpa [isH] using e4
    rw [e5]; exact z
  | h n b =>
    cases b with
    | false => rfl
    | true =>
      cases q with
      | w i => cases e3
      | h n2 b2 =>
        cases b2 with
        | false => cases e3
        | true => exact z
end
section
variable {rs : List Rt} {ws : List (Fin 10)} {q : Fin 11 × List Vl} {qs : List Pt}
theorem cand_fresh {n : Fin 11} (m : met qs ws = true) : candB [⟨n, true, qs⟩] true ws 0 = true := by
  unfold candB
  show (decide (V.str (vS true) = V.str (vS true)) && met qs ws) = true
  rw [m, decide_eq_true rfl]
  rfl
theorem cand_post {n : Fin 11} {vb : Bool} {ws : List (Fin 10)} : candB [⟨n, false, qs⟩] true ws 0 = false := by
  unfold candB
  show (decide (V.str (vS false) = V.str (vS true)) && met qs ws) = false
  rw [show decide (V.str (vS false) = V.str (vS true)) = false by decide +kernel]
  rfl
theorem klt_fst {a b : List Int} {x y : Int} (h : listLt a b = true) : klt (a, x) (b, y) = true := by
  unfold klt
  rw [if_neg (fun z => by
    have z : a = b := z
    rw [z, listLt_irr] at h
    cases h)]
  exact h
theorem not_hid {k : Nat} {r : Rt} {n : Fin 11} (hk : rs[k]? = some r) (hm : met r.pat ws = true) (hmin : ∀ z ∈ candK rs true ws, klt z (r.pat.map knd, (k : Int)) = false) (hc : Closer r.pat ws qs) :
    hid (rs ++ [⟨n, true, qs⟩]) rs.length = false := by
  unfold hid
  rw [List.any_eq_false]
  intro i hi
  have hi := List.mem_range.mp hi
  unfold hides
  rw [getD_last, getD_left hi]
  intro e
  rw [Bool.and_eq_true] at e
  have m1 := alike_met e.2 (closer_met hc hm)
  have cb : candB rs true ws i = true := by
    unfold candB
    rw [Bool.and_eq_true]
    exact ⟨e.1, m1⟩
  have z := hmin _ (mem_cand hi cb)
  have e2 := e.2
  unfold alike at e2
  rw [Bool.and_eq_true] at e2
  have ek : (rs.getD i r0).pat.map knd = qs.map knd := of_decide_eq_true e2.1
  unfold keyK at z
  rw [ek, klt_fst (closer_lt hc)] at z
  cases z
theorem hidN_snoc {x : Rt} (h : hid (rs ++ [x]) rs.length = false) : hidN (rs ++ [x]) = hidN rs := by
  unfold hidN
  have e : (rs ++ [x]).length = rs.length + 1 := by rw [List.length_append]; rfl
  rw [e, filt_succ, h, if_neg Bool.false_ne_true, List.append_nil]
  congr 1
  refine List.filter_congr fun i hi => ?_
  have hi := List.mem_range.mp hi
  unfold hid
  have e2 : ∀ k ∈ List.range i, hides (rs ++ [x]) i k = hides rs i k := fun k hk => by
    have hk := List.mem_range.mp hk
    unfold hides
    rw [getD_left hi, getD_left (Nat.lt_trans hk hi)]
  rw [Bool.eq_iff_iff, List.any_eq_true, List.any_eq_true]
  exact ⟨fun ⟨k, h1, h2⟩ => ⟨k, h1, (e2 k h1) ▸ h2⟩, fun ⟨k, h1, h2⟩ => ⟨k, h1, (e2 k h1).symm ▸ h2⟩⟩
end
end K7

set_option maxRecDepth 100000
set_option maxHeartbeats 4000000
/-! K7S: law. -/
namespace K7
open PySem PySem.Spec PyProof.Rows L2
open PySem.W (Datum DatumOrd minOf)
open C8 (Def Cal CalAt cal0 pe_c pe_gc fnScope fnBody fnArgs)
/-! ### what found tells, compared -/
theorem wS_lay (i : Fin 10) : PyData.canLay0 (.str (wS i)) = true := by revert i; decide +kernel
theorem nS_lay (i : Fin 6) : PyData.canLay0 (.str (nS i)) = true := by revert i; decide +kernel
theorem numD_lay (i : Fin 10) : PyData.canLay0 (numD i) = true := by
  unfold numD
  cases numW i with
  | none => simp [PyData.canLay0]
  | some n => simp [PyData.canLay0]
theorem numD_depth (i : Fin 10) : (numD i).depth = 0 := by
  unfold numD
  cases numW i <;> simp [PyData.depth]
theorem vl_lay (x : Vl) : PyData.canLay0 (vlD x) = true := by
  obtain ⟨n, b, i⟩ := x
  show PyData.canLay0 (.tuple [.str (nS n), if b = true then numD i else .str (wS i)]) = true
  rw [PyData.canLay0, PyData.canLayAll0, PyData.canLayAll0, PyData.canLayAll0, nS_lay]
  cases b with
  | true => rw [if_pos rfl, numD_lay]; rfl
  | false => rw [if_neg Bool.false_ne_true, wS_lay]; rfl
theorem vl_depth (x : Vl) : (vlD x).depth ≤ 1 := by
  obtain ⟨n, b, i⟩ := x
  cases b with
  | true => simp [vlD, PyData.depth, PyData.depthAll, numD_depth]
  | false => simp [vlD, PyData.depth, PyData.depthAll]
theorem vls_lay : ∀ l : List Vl, PyData.canLayAll0 (l.map vlD) = true
  | [] => by simp [PyData.canLayAll0]
  | x :: l => by rw [List.map_cons, PyData.canLayAll0, vl_lay, vls_lay l]; rfl
theorem vls_depth : ∀ l : List Vl, PyData.depthAll (l.map vlD) ≤ 1
  | [] => Nat.zero_le _
  | x :: l => by
    rw [List.map_cons, PyData.depthAll]
    exact Nat.max_le.mpr ⟨vl_depth x, vls_depth l⟩
theorem fd_lay (x : Fd) : PyData.canLay0 (fdD x) = true := by
  cases x with
  | none => simp [fdD, PyData.canLay0]
  | some q =>
    obtain ⟨n, l⟩ := q
    show PyData.canLay0 (.tuple [.str (rS n), .tuple (l.map vlD)]) = true
    rw [PyData.canLay0, PyData.canLayAll0, PyData.canLayAll0, PyData.canLayAll0, rS_lay, PyData.canLay0, vls_lay]
    rfl
theorem fd_depth (x : Fd) : (fdD x).depth ≤ 3 := by
  cases x with
  | none => simp [fdD, PyData.depth]
  | some q =>
    obtain ⟨n, l⟩ := q
    have h := vls_depth l
    show (PyData.tuple [.str (rS n), .tuple (l.map vlD)]).depth ≤ 3
    simp only [PyData.depth, PyData.depthAll]
    omega
theorem fd_shaped (x : Fd) : SeqAt.shaped (fdD x) = true := by
  show (PyData.canLay0 (fdD x) && decide ((fdD x).depth ≤ 64)) = true
  rw [Bool.and_eq_true]
  exact ⟨fd_lay x, decide_eq_true (Nat.le_trans (fd_depth x) (by decide))⟩
theorem fds_shaped (x y : Fd) : SeqAt.shaped (.list [fdD x, fdD y]) = true := by
  show (PyData.canLay0 (.list [fdD x, fdD y]) && decide ((PyData.list [fdD x, fdD y]).depth ≤ 64)) = true
  rw [Bool.and_eq_true]
  have h1 := fd_depth x
  have h2 := fd_depth y
  refine ⟨?_, decide_eq_true ?_⟩
  · rw [PyData.canLay0, PyData.canLayAll0, PyData.canLayAll0, PyData.canLayAll0, fd_lay, fd_lay]
    rfl
  · simp only [PyData.depth, PyData.depthAll]
    omega
theorem fd_refl (x : Fd) : PyData.eqv (fdD x) (fdD x) = true := SeqAt.eqv_refl _ (fd_lay x)
/-! ### routes -/
theorem RtG.ok {rs : List Rt} (h : RtG rs) : OkRts rs := by
  refine ⟨h.1, h.2.1, fun r hr => ?_, ?_⟩
  · obtain ⟨i, hi⟩ := List.mem_iff_getElem?.mp hr
    exact (h.2.2 i r hi).2.pat
  · show List.Pairwise _ _
    rw [List.pairwise_map, List.pairwise_iff_getElem]
    intro i j hi hj hij e
    have h1 := (h.2.2 i rs[i] (List.getElem?_eq_getElem hi)).1
    have h2 := (h.2.2 j rs[j] (List.getElem?_eq_getElem hj)).1
    rw [e] at h1
    omega
theorem RtG.take {rs : List Rt} (h : RtG rs) : RtG (rs.take 9) ∧ (rs.take 9).length ≤ 9 := by
  have hl : (rs.take 9).length ≤ 9 := by rw [List.length_take]; omega
  have h1 := h.1
  refine ⟨⟨by rw [List.length_take]; omega, by omega, fun i r e => ?_⟩, hl⟩
  rw [List.getElem?_take] at e
  by_cases c : i < 9
  · rw [if_pos c] at e
    exact h.2.2 i r e
  · rw [if_neg c] at e
    cases e
theorem RtG.snoc {rs : List Rt} (h : RtG rs) (hl : rs.length ≤ 9) {vb : Bool} {qs : List Pt} (g : OkG qs) : OkRts (rs ++ [⟨10, vb, qs⟩]) := by
  have ok := h.ok
  refine ⟨by rw [List.length_append]; simp, by rw [List.length_append]; show _ + 1 ≤ 10; omega, fun r hr => ?_, ?_⟩
  · rcases List.mem_append.mp hr with hr | hr
    · exact ok.pat r hr
    · rw [List.mem_singleton] at hr
      subst hr
      exact g.pat
  · rw [List.map_append, List.nodup_append]
    refine ⟨ok.nd, by simp, fun a ha b hb => ?_⟩
    obtain ⟨r, hr, rfl⟩ := List.mem_map.mp ha
    obtain ⟨i, hi⟩ := List.mem_iff_getElem?.mp hr
    have h1 := (h.2.2 i r hi).1
    have h2 := (List.getElem?_eq_some_iff.mp hi).1
    have hb : b = (10 : Fin 11) := by simpa using hb
    subst hb
    intro e
    rw [e] at h1
    have : ((10 : Fin 11).val) = 10 := rfl
    omega
theorem dps_take {K : PySem.W.Frag} {H : Hp} : ∀ (n : Nat) {vs : List V} {ds : List PyData}, DpAll K H vs ds → DpAll K H (vs.take n) (ds.take n)
  | 0, _, _, _ => by rw [List.take_zero, List.take_zero]; exact .nil
  | n + 1, _, _, .nil => .nil
  | n + 1, _, _, .cons h t => .cons h (dps_take n t)
theorem cut_ints (ns : List Int) (lo hi : Option Int) : ∃ l : List Int, cutV (ns.map V.int) lo hi = l.map V.int ∧ l.length ≤ ns.length := by
  refine ⟨(ns.drop (HT.sIx ns.length 0 lo)).take (HT.sIx ns.length ns.length hi - HT.sIx ns.length 0 lo), ?_, ?_⟩
  · unfold cutV
    rw [List.map_take, List.map_drop, List.length_map]
  · rw [List.length_take, List.length_drop]
    omega
section
variable {P : Program} {w : World} {K : PySem.W.Frag} {mg : Str → Option Value} {base : Heap} {f : Addr} {fd : FuncData} {bs : List Value}
abbrev freshR (qs : List Pt) : Rt := ⟨10, true, qs⟩
abbrev postR (qs : List Pt) : Rt := ⟨10, false, qs⟩
/-- a tuple with one route more -/
theorem rts_snoc {H : Hp} {p : Addr} {xs : List V} {x : V} {rs : List Rt} {r : Rt} (hp : H p = some (.tup (xs ++ [x]))) (h : DpAll K H xs (rs.map rtD)) (hx : Dp K H x (rtD r)) : Dp K H (.ref p) (rtsD (rs ++ [r])) := by
  unfold rtsD
  rw [List.map_append]
  exact .tup (SqT.of hp) (dps_app h (.cons hx .nil))
/-- what stands through a lap -/
structure Fx (K : PySem.W.Frag) (c p l : Addr) (items xs : List V) (rs : List Rt) (H : Hp) : Prop where
  itm : H c = some (.lst items)
  pen : PenAt H p
  sq : SqT K H l xs
  dp : DpAll K H xs (rs.map rtD)
theorem Fx.same {c p l : Addr} {items xs : List V} {rs : List Rt} {H H' : Hp} (f : Fx K c p l items xs rs H) (e : Same H H') : Fx K c p l items xs rs H' := ⟨e _ _ f.itm, f.pen.same e, Same.tup e f.sq, dps_same e _ _ f.dp⟩
theorem Fx.but {c p l : Addr} {items xs : List V} {rs : List Rt} {H H' : Hp} (f : Fx K c p l items xs rs H) (n : c ≠ p) (e : But p H H') (hp : PenAt H' p) : Fx K c p l items xs rs H' := by
  obtain ⟨f1, ⟨n0, d0, f2⟩, f3, f4⟩ := f
  exact ⟨e _ _ f1 n, hp, e.tup f2 f3, dps_but e f2 _ _ (rts_noL rs) f4⟩
theorem Fx.rts {c p l : Addr} {items xs : List V} {rs : List Rt} {H : Hp} (f : Fx K c p l items xs rs H) : Dp K H (.ref l) (rtsD rs) := .tup f.sq f.dp
def spLaw (K : PySem.W.Frag) : Sp := fun vs H Q _ => ∃ (a : Addr) (ns : List Int), vs = [.ref a] ∧ SqL K H a (ns.map V.int) ∧ ns.length ≤ 1000 ∧ ∀ H', Q (.bl true) H'
abbrev NL : List Str := ["_law_script", "_law_cell_here", "_law_pen_here", "_law_lap", "_law_routes_here", "_law_path_here", "_law_one", "_law_pattern_here", "_law_closer_here", "_law_fresh", "_law_told", "_law_by_post", "_law_turn", "_law_other", "_law_due", "_law_name", "_law_verb", "_law_own"]
theorem scLaw : FnScope NL ["_law_script"] (fnScope (tp 64)) := C8.fnScope_by (by decide +kernel)
theorem c_law (T : G7 K mg) (cCe : Cal P w K mg base 1 "_law_cell" (spCell K) []) (cPe : Cal P w K mg base 1 "_law_pen" spPen []) (cR : Cal P w K mg base 4 "_law_routes" (spMkRts K) []) (cPa : Cal P w K mg base 3 "_law_path" (spMkPath K) [])
    (cF : Cal P w K mg base 10 "found" (spFound K) []) (cC : Cal P w K mg base 3 "_law_closer" spCloser []) (cO : Cal P w K mg base 10 "path_of" (spPathOf K) []) (cH : Cal P w K mg base 10 "hidden" (spHidden K) [])
    (F : Def K mg "law" (tp 64) f fd) (b : Binds K fd ["_law_script"] []) : FnOk P w K mg base C8.CX0 11 f fd ["_law_script"] (spLaw K) := by
  refine C8.fn0 F.fn scLaw (fun vs H Q E h => ?_) (fun cdv A outer s H vs Q E hr h => ?_)
  · obtain ⟨_, _, rfl, _⟩ := h
    rfl
  · obtain ⟨a, ns, rfl, hs, hl, q⟩ := h
    refine ⟨_, pss_cons (ps_for PassesOwn.never rfl (pi_list (pe_op op_cat (pe_lst (pa_cons (pe_c cCe hr (by decide) (by rfl) (pa_cons (pv 0) (pa_cons pe_int pa_nil))) pa_nil)) (pe_slice sl_list (pv 0) (po_some pe_int) (po_some pe_int)))) (pg_name (i := 1) scLaw.nd rfl (.inl rfl))
        (pss_cons (ps_set (i := 2) scLaw.nd rfl (.inl rfl) (pe_c cPe hr (by decide) (by rfl) (pa_cons (pv 1) pa_nil)))
        (pss_one (ps_for PassesOwn.never rfl (pi_range1 (by rfl) T.range (pa_cons pe_int pa_nil)) (pg_name (i := 3) scLaw.nd rfl (.inl rfl))
          (pss_cons (ps_join (ps_set (i := 4) scLaw.nd rfl (.inl rfl) (pe_slice sl_tupA (pe_c cR hr (by decide) (by rfl) (pa_cons (pv 2) pa_nil)) po_none (po_some pe_int))))
          (pss_cons (ps_set (i := 5) scLaw.nd rfl (.inl rfl) (pe_c cPa hr (by decide) (by rfl) (pa_cons (pv 2) (pa_cons (pv 4) pa_nil))))
          (pss_cons (ps_set (i := 6) scLaw.nd rfl (.inr rfl) (pe_c cF hr (by decide) (by rfl) (pa_cons (pv 4) (pa_cons pe_str (pa_cons (pv 5) pa_nil)))))
          (pss_one (ps_if (pt_cmpR op_notN (pv 6) pe_non (nomark _))
            (pss_cons (ps_set (i := 7) scLaw.nd rfl (.inl rfl) (pe_ix ix_list (pe_lc (own := [("_law_name", 15), ("_law_verb", 16), ("_law_own", 17)]) (g := g3 K 15 16 17) (by rfl) scLaw.nd (pi_tup (pv 4)) (blkOk_by (own := [("_law_name", 15), ("_law_verb", 16), ("_law_own", 17)]) (N := NL) (sc := fnScope (tp 64)) (by decide +kernel))
                (fun _ _ _ _ _ => pg_tup (by rfl) (pgs_cons (pg_name (i := 15) scLaw.nd rfl (Or.inl rfl)) (pgs_cons (pg_name (i := 16) scLaw.nd rfl (Or.inl rfl)) (pgs_cons (pg_name (i := 17) scLaw.nd rfl (Or.inl rfl)) pgs_nil))))
                (fun _ _ _ _ _ => pts_one (pt_cmpR op_eq (pv 15) (pe_ix (ixT K) (pv 6) pe_int (fun _ _ => rfl)) (nomark _))) (fun _ _ _ _ _ => pv 17)) pe_int (fun _ _ => rfl)))
            (pss_cons (ps_set (i := 8) scLaw.nd rfl (.inl rfl) (pe_c cC hr (by decide) (by rfl) (pa_cons (pv 2) (pa_cons (pv 7) (pa_cons (pv 5) pa_nil)))))
            (pss_one (ps_if (pt_cmpR op_notN (pv 8) pe_non (nomark _))
              (pss_cons (ps_set (i := 9) scLaw.nd rfl (.inl rfl) (pe_tup (pa_cons pe_str (pa_cons pe_str (pa_cons (pv 8) pa_nil)))))
              (pss_cons (ps_set (i := 10) scLaw.nd rfl (.inl rfl) (pe_c cF hr (by decide) (by rfl) (pa_cons (pe_op op_catA (pv 4) (pe_tup (pa_cons (pv 9) pa_nil))) (pa_cons pe_str (pa_cons (pv 5) pa_nil)))))
              (pss_cons (ps_if (pt_cmpR (op_neD hr.units) (pv 10) (pe_c cF hr (by decide) (by rfl) (pa_cons (pe_tup (pa_cons (pv 9) pa_nil)) (pa_cons pe_str (pa_cons (pv 5) pa_nil)))) (nomark _)) (pss_one (ps_ret pe_bl)) pss_nil)
              (pss_cons (ps_if (pt_cmpR op_ne (pe_c cO hr (by decide) (by rfl) (pa_cons (pe_tup (pa_cons (pv 9) pa_nil)) (pa_cons pe_str (pa_cons (pe_ix ix_tup (pv 10) pe_int (fun _ _ => rfl)) pa_nil)))) (pv 5) (nomark _)) (pss_one (ps_ret pe_bl)) pss_nil)
              (pss_cons (ps_set (i := 11) scLaw.nd rfl (.inl rfl) (pe_op op_catA (pv 4) (pe_tup (pa_cons (pe_tup (pa_cons pe_str (pa_cons pe_str (pa_cons (pv 8) pa_nil)))) pa_nil))))
              (pss_cons (ps_if (PW.pt (pw_or (pt_cmpR op_gt (pe_callB call_len_seq (by rfl) T.len boot_len (pa_cons (pe_ix ix_tup (pv 10) pe_int (fun _ _ => rfl)) pa_nil)) (pe_callB call_len_seq (by rfl) T.len boot_len (pa_cons (pe_ix ix_tup (pv 6) pe_int (fun _ _ => rfl)) pa_nil)) (nomark _))
                  (pw_or1 (pt_cmpR (op_neD hr.units) (pe_c cF hr (by decide) (by rfl) (pa_cons (pv 11) (pa_cons pe_str (pa_cons (pv 5) pa_nil)))) (pv 6) (nomark _))))) (pss_one (ps_ret pe_bl)) pss_nil)
              (pss_cons (ps_for PassesOwn.never rfl (pi_range1 (by rfl) T.range (pa_cons pe_int pa_nil)) (pg_name (i := 12) scLaw.nd rfl (.inl rfl))
                (pss_cons (ps_set (i := 13) scLaw.nd rfl (.inl rfl) (pe_c cPa hr (by decide) (by rfl) (pa_cons (pv 2) (pa_cons (pv 4) pa_nil))))
                (pss_cons (ps_set (i := 14) scLaw.nd rfl (.inl rfl) (pe_lst (pa_cons (pe_c cF hr (by decide) (by rfl) (pa_cons (pv 4) (pa_cons pe_str (pa_cons (pv 13) pa_nil)))) (pa_cons (pe_c cF hr (by decide) (by rfl) (pa_cons (pe_tup (pa_cons (pv 9) pa_nil)) (pa_cons pe_str (pa_cons (pv 13) pa_nil)))) pa_nil))))
                (pss_one (ps_if (pt_cmpR (op_notInD (u65 hr)) (pe_c cF hr (by decide) (by rfl) (pa_cons (pe_op op_catA (pv 4) (pe_tup (pa_cons (pv 9) pa_nil))) (pa_cons pe_str (pa_cons (pv 13) pa_nil)))) (pv 14) (by rfl)) (pss_one (ps_ret pe_bl)) pss_nil)))))
              (pss_one (ps_if (pt_cmpR op_gt (pe_callB call_len_seq (by rfl) T.len boot_len (pa_cons (pe_c cH hr (by decide) (by rfl) (pa_cons (pe_op op_catA (pv 4) (pe_tup (pa_cons (pv 9) pa_nil))) pa_nil)) pa_nil)) (pe_callB call_len_seq (by rfl) T.len boot_len (pa_cons (pe_c cH hr (by decide) (by rfl) (pa_cons (pv 4) pa_nil)) pa_nil)) (nomark _)) (pss_one (ps_ret pe_bl)) pss_nil)))))))))
              pss_nil)))) pss_nil)))))))))
      (pss_one (ps_ret pe_bl)), ?_⟩
    have big : ∀ n : Nat, n ≤ 1500 → n ≤ sizeLine := fun n h => Nat.le_trans h (by decide +kernel)
    refine ⟨_, rfl, a, ns, rfl, hs, fun i0 => ⟨by show 1 ≤ sizeLine; decide, fun a1 ha1 => ?_⟩⟩
    have s1 := same_new (o := .lst [V.int i0]) ha1
    have h11 : (upd H a1 (.lst [V.int i0])) a1 = some (.lst [V.int i0]) := upd_same
    generalize upd H a1 (.lst [V.int i0]) = H1 at s1 h11 ⊢
    refine ⟨_, rfl, 1, rfl, 3, rfl, a, _, rfl, s1.seq hs, fun a2 ha2 => ?_⟩
    obtain ⟨l, el, hll⟩ := cut_ints ns (some 1) (some 3)
    rw [el]
    have s2 := same_new (o := .lst (l.map V.int)) ha2
    refine ⟨a1, a2, _, _, rfl, rfl, s2 _ _ h11, upd_same, by rw [List.length_map]; exact big _ (by show 1 + _ ≤ _; omega), fun c hc => ?_⟩
    have hcc : (upd (upd H1 a2 (.lst (l.map V.int))) c (.lst ([V.int i0] ++ l.map V.int))) c = some (.lst ((i0 :: l).map V.int)) := upd_same
    generalize upd (upd H1 a2 (.lst (l.map V.int))) c (.lst ([V.int i0] ++ l.map V.int)) = H2 at hcc ⊢
    generalize i0 :: l = zs at hcc
    refine ⟨c, rfl, ⟨_, SqL.of hcc⟩, for_it walk_list (fun i σ H3 => ∃ v1 v2 v3 v4 v5 v6 v7 v8 v9 v10 v11 v12 v13 v14, σ = [some (.ref a), v1, v2, v3, v4, v5, v6, v7, v8, v9, v10, v11, v12, v13, v14, none, none, none] ∧ H3 c = some (.lst (zs.map V.int)))
      ⟨none, none, none, none, none, none, none, none, none, none, none, none, none, none, rfl, hcc⟩ (fun i σ H3 _ ⟨_, _, _, _, _, _, _, _, _, _, _, _, _, _, _, q1⟩ => SqL.of q1) ?_ (fun σ H3 _ => q H3)⟩
    rintro i v σ H3 H4 hi ⟨v1, v2, v3, v4, v5, v6, v7, v8, v9, v10, v11, v12, v13, v14, rfl, hc3⟩ ⟨rfl, hx⟩
    obtain ⟨z, _, rfl⟩ := map_at hx
    refine ⟨_, rfl, z, rfl, fun H5 p s5 hpn hp5 => ?_⟩
    have ncp : c ≠ p := fun e => by rw [e, hpn] at hc3; cases hc3
    have hc5 := s5 _ _ hc3
    refine ⟨4, rfl, by decide, by decide, for_it walk_range (fun i σ H6 => ∃ v3 v4 v5 v6 v7 v8 v9 v10 v11 v12 v13 v14, σ = [some (.ref a), some (.int z), some (.ref p), v3, v4, v5, v6, v7, v8, v9, v10, v11, v12, v13, v14, none, none, none] ∧ H6 c = some (.lst (zs.map V.int)) ∧ PenAt H6 p)
      ⟨v3, v4, v5, v6, v7, v8, v9, v10, v11, v12, v13, v14, rfl, hc5, hp5⟩ (fun _ _ _ _ _ => trivial) ?_ ?_⟩
    · rintro i2 v σ H6 H7 hi2 ⟨v3, v4, v5, v6, v7, v8, v9, v10, v11, v12, v13, v14, rfl, hc6, hp6⟩ ⟨rfl, rfl⟩
      refine ⟨fun σ H8 => ∃ l xs rs, σ = [some (.ref a), some (.int z), some (.ref p), some (.int (0 + (i2 : Int))), some (.ref l), v5, v6, v7, v8, v9, v10, v11, v12, v13, v14, none, none, none] ∧ Fx K c p l (zs.map V.int) xs rs H8 ∧ RtG rs ∧ rs.length ≤ 9, ?_, ?_⟩
      · rintro σ H8 ⟨l, xs, rs, rfl, f8, hg, hl9⟩
        have ok := hg.ok
        have hxl : xs.length = rs.length := by
          have := dps_len f8.dp
          rw [List.length_map] at this
          exact this
        have hpos := ok.pos
        have hxne : xs ≠ [] := fun e => by rw [e] at hxl; simp at hxl; omega
        -- a path
        refine ⟨_, rfl, _, rfl, p, .ref l, rs, rfl, f8.pen, f8.rts, ok, fun H9 ws b9 hp9 hw => ?_⟩
        have f9 := f8.but ncp b9 hp9
        -- one = found
        refine ⟨_, rfl, _, rfl, .ref l, rs, true, ws, rfl, f9.rts, ok, hw, fun H10 u s10 hu => ?_⟩
        have f10 := f9.same s10
        refine ⟨_, rfl, rfl, _, rfl, ?_⟩
        cases ef : foundA rs true ws with
        | none =>
          rw [ef] at hu
          have hu : u = .non := hu
          subst hu
          exact iteF ⟨_, _, _, _, _, _, _, _, _, _, _, _, rfl, f10.itm, f10.pen⟩
        | some qq =>
          obtain ⟨k, r, hk, eqq, hm, hget, hmin, hsn⟩ := found_is ef
          have hok := (hg.2.2 k r hk).2
          obtain ⟨nm, vl⟩ := qq
          injection eqq with en ev
          subst en
          subst ev
          have hu0 := hu
          rw [ef] at hu0
          obtain ⟨t, a1, ys1, rfl, ht, hfz, hdv⟩ := hu0
          refine iteT ⟨_, rfl, l, rfl, ⟨_, f10.sq⟩, fun D hD => ?_⟩
          refine lc_it walk_tup (LcP (fun k v H => Dp K H v (.str (patS (rs.getD k r0).pat))) (fun k => decide (V.str (rS (rs.getD k r0).nm) = V.str (rS r.nm))) H10 D) (.start hD) (fun i H hi hP => Same.tup hP.same f10.sq) ?_ ?_
          · rintro i v H11 H12 hi hP ⟨rfl, hx⟩
            obtain ⟨r2, h1, h2⟩ := rts_at f10.dp hx
            obtain ⟨t2, rfl, ht2⟩ := rt_dp (dp_same hP.same _ _ h2)
            refine ⟨t2, _, rfl, ht2, rfl, _, _, rfl, _, _, rfl, _, _, rfl, rfl, rfl, ?_⟩
            refine ⟨_, rfl, _, rfl, t, _, 0, _, rfl, rfl, Same.tup hP.same ht, rfl, rfl, _, rfl, ?_⟩
            cases e : decide (V.str (rS r2.nm) = V.str (rS r.nm)) with
            | false => exact iteF (hP.skip dp_keep (Same.refl _) (by rw [getD_of h1]; exact e))
            | true =>
              refine iteT ⟨_, rfl, ?_⟩
              refine LcP.add hD (dp_stay fun _ => by unfold noL; rfl) hP (Same.refl _) (by omega) (by rw [getD_of h1]; exact e) ?_
              show Dp K H12 _ (.str (patS (rs.getD i r0).pat))
              rw [getD_of h1]
              exact .str _
          · intro H11 hP
            rw [hxl] at hP
            have s11 := hP.same
            obtain ⟨ys, hy, ha⟩ := first_pat ok.nd hk rfl hP
            have f11 := f10.same s11
            have hu11 := FdAt.same s11 hu
            refine ⟨D, ys, 0, _, rfl, rfl, hy, ha, ?_⟩
            -- the closer
            refine ⟨_, rfl, _, rfl, _, rfl, p, r.pat, ws, rfl, f11.pen, hok.1, hm, fun H12 u2 b12 hp12 hcl => ⟨_, rfl, rfl, _, rfl, ?_⟩⟩
            have f12 := f11.but ncp b12 hp12
            obtain ⟨n11, d11, hp11⟩ := f11.pen
            have hu12 := FdAt.but b12 hp11 hu11
            rcases hcl with rfl | ⟨qs, rfl, hc⟩
            · exact iteF ⟨_, _, _, _, _, _, _, _, _, _, _, _, rfl, f12.itm, f12.pen⟩
            refine iteT ?_
            have hqok := hc.ok hok
            have hqm := closer_met hc hm
            have okf := hg.snoc hl9 (vb := true) hqok
            have okp := hg.snoc hl9 (vb := false) hqok
            have ok1 : OkRts [freshR qs] := one_ok hqok.pat
            have hO : foundA [freshR qs] true ws = some (10, valsL qs ws) := by rw [found_one, cand_fresh hqm, if_pos rfl]
            have hT : foundA (rs ++ [freshR qs]) true ws = some (10, valsL qs ws) := (hsn (freshR qs) (cand_fresh hqm) (klt_fst (closer_lt hc))).trans hO
            have hcat : xs.length + 1 ≤ sizeLine := big _ (by omega)
            clear hs hcc
            -- fresh
            refine ⟨_, rfl, by show 3 ≤ sizeLine; decide, fun fr hfr => ?_⟩
            have s13 := same_new (o := .tup [V.str "fresh", V.str "get", V.str (patS qs)]) hfr
            have hfr13 : Dp K (upd H12 fr (.tup [V.str "fresh", V.str "get", V.str (patS qs)])) (.ref fr) (rtD (freshR qs)) := .tup (SqT.of upd_same) (.cons (.str _) (.cons (.str _) (.cons (.str _) .nil)))
            have f13 := f12.same s13
            have hu13 := FdAt.same s13 hu12
            generalize upd H12 fr _ = H13 at hfr13 f13 hu13 ⊢
            clear s13 hu12 f12 b12
            -- told
            refine ⟨_, rfl, _, rfl, by show 1 ≤ sizeLine; decide, fun t1 ht1 => ?_⟩
            have s14 := same_new (o := .tup [V.ref fr]) ht1
            have ht14 : SqT K (upd H13 t1 (.tup [V.ref fr])) t1 [V.ref fr] := SqT.of upd_same
            have f14 := f13.same s14
            have hu14 := FdAt.same s14 hu13
            have hfr14 := dp_same s14 _ _ hfr13
            generalize upd H13 t1 _ = H14 at ht14 f14 hu14 hfr14 ⊢
            refine ⟨l, t1, xs, [V.ref fr], rfl, rfl, f14.sq, ht14, hcat, fun e => absurd e hxne, fun _ e => (by cases e), fun _ _ t2 ht2 => ?_⟩
            have s15 := same_new (o := .tup (xs ++ [V.ref fr])) ht2
            have f15 := f14.same s15
            have hu15 := FdAt.same s15 hu14
            have hfr15 := dp_same s15 _ _ hfr14
            have hr15 := rts_snoc (rs := rs) (r := freshR qs) (upd_same : (upd H14 t2 (.tup (xs ++ [V.ref fr]))) t2 = _) f15.dp hfr15
            generalize upd H14 t2 _ = H15 at f15 hu15 hfr15 hr15 ⊢
            refine ⟨_, rfl, .ref t2, rs ++ [freshR qs], true, ws, rfl, hr15, okf, hw, fun H16 u3 s16 hu3 => ?_⟩
            rw [hT] at hu3
            have f16 := f15.same s16
            have hu16 := FdAt.same s16 hu15
            have hfr16 := dp_same s16 _ _ hfr15
            clear hu15 hfr15 hr15 f15 s16 hu14 hfr14 f14 s14 s15 hu13 hfr13 f13 ht14
            obtain ⟨tt, a2, ys2, rfl, htt, hfz2, hdv2⟩ := hu3
            have ht16 : FdAt K H16 (.ref tt) (some (10, valsL qs ws)) := ⟨tt, a2, ys2, rfl, htt, hfz2, hdv2⟩
            -- told != found((fresh,), ..)
            refine ⟨_, rfl, _, rfl, by show 1 ≤ sizeLine; decide, fun t3 ht3 => ?_⟩
            have s17 := same_new (o := .tup [V.ref fr]) ht3
            have f17 := f16.same s17
            have hu17 := FdAt.same s17 hu16
            have hfr17 := dp_same s17 _ _ hfr16
            have ht17 := FdAt.same s17 ht16
            have hr17 : Dp K (upd H16 t3 (.tup [V.ref fr])) (.ref t3) (rtsD [freshR qs]) := .tup (SqT.of upd_same) (.cons hfr17 .nil)
            have hz17 : SqT K (upd H16 t3 (.tup [V.ref fr])) tt [.str (rS 10), .ref a2] ∧ FrzT (upd H16 t3 (.tup [V.ref fr])) a2 ys2 ∧ DpAll K (upd H16 t3 (.tup [V.ref fr])) ys2 ((valsL qs ws).map vlD) := ⟨Same.tup s17 htt, hfz2.same s17, dps_same s17 _ _ hdv2⟩
            generalize upd H16 t3 _ = H17 at f17 hu17 hfr17 ht17 hr17 hz17 ⊢
            refine ⟨_, rfl, .ref t3, [freshR qs], true, ws, rfl, hr17, ok1, hw, fun H18 u4 s18 hu4 => ?_⟩
            rw [hO] at hu4
            refine ⟨fdD (some (10, valsL qs ws)), fdD (some (10, valsL qs ws)), (FdAt.same s18 ht17).dp, hu4.dp, fd_shaped _, fd_shaped _, _, rfl, itF (by rw [fd_refl]; rfl) ?_⟩
            have f18 := f17.same s18
            have hu18 := FdAt.same s18 hu17
            have hfr18 := dp_same s18 _ _ hfr17
            have hz18 : SqT K H18 tt [.str (rS 10), .ref a2] ∧ FrzT H18 a2 ys2 ∧ DpAll K H18 ys2 ((valsL qs ws).map vlD) := ⟨Same.tup s18 hz17.1, hz17.2.1.same s18, dps_same s18 _ _ hz17.2.2⟩
            clear hz17 hr17 ht17 hfr17 hu17 f17 s17 hu16 hfr16 f16 ht16 htt hfz2 hdv2 hu4
            -- path_of
            refine ⟨_, rfl, by show 1 ≤ sizeLine; decide, fun t4 ht4 => ?_⟩
            have s19 := same_new (o := .tup [V.ref fr]) ht4
            have f19 := f18.same s19
            have hu19 := FdAt.same s19 hu18
            have hfr19 := dp_same s19 _ _ hfr18
            have hr19 : Dp K (upd H18 t4 (.tup [V.ref fr])) (.ref t4) (rtsD [freshR qs]) := .tup (SqT.of upd_same) (.cons hfr19 .nil)
            have hz19 : SqT K (upd H18 t4 (.tup [V.ref fr])) tt [.str (rS 10), .ref a2] ∧ FrzT (upd H18 t4 (.tup [V.ref fr])) a2 ys2 ∧ DpAll K (upd H18 t4 (.tup [V.ref fr])) ys2 ((valsL qs ws).map vlD) := ⟨Same.tup s19 hz18.1, hz18.2.1.same s19, dps_same s19 _ _ hz18.2.2⟩
            generalize upd H18 t4 _ = H19 at f19 hu19 hfr19 hr19 hz19 ⊢
            refine ⟨_, rfl, tt, _, 1, _, rfl, rfl, hz19.1, rfl, .ref t4, freshR qs, ws, a2, ys2, rfl, hr19, hqok.pat, hz19.2.1, hz19.2.2, hqm, fun H20 s20 => ?_⟩
            refine ⟨_, rfl, rfl, _, rfl, itF (by rw [decide_eq_true rfl]; rfl) ?_⟩
            have f20 := f19.same s20
            have hu20 := FdAt.same s20 hu19
            have hfr20 := dp_same s20 _ _ hfr19
            have hz20 : SqT K H20 tt [.str (rS 10), .ref a2] ∧ FrzT H20 a2 ys2 ∧ DpAll K H20 ys2 ((valsL qs ws).map vlD) := ⟨Same.tup s20 hz19.1, hz19.2.1.same s20, dps_same s20 _ _ hz19.2.2⟩
            clear hz18 hz19 hr19 hfr18 hfr19 hu18 hu19 f18 f19 s19 s20 s18
            -- by_post
            refine ⟨_, rfl, _, rfl, by show 3 ≤ sizeLine; decide, fun t5 ht5 => ?_⟩
            have s21 := same_new (o := .tup [V.str "fresh", V.str "post", V.str (patS qs)]) ht5
            have hp21 : Dp K (upd H20 t5 (.tup [V.str "fresh", V.str "post", V.str (patS qs)])) (.ref t5) (rtD (postR qs)) := .tup (SqT.of upd_same) (.cons (.str _) (.cons (.str _) (.cons (.str _) .nil)))
            have f21 := f20.same s21
            have hu21 := FdAt.same s21 hu20
            have hfr21 := dp_same s21 _ _ hfr20
            have hz21 : SqT K (upd H20 t5 (.tup [V.str "fresh", V.str "post", V.str (patS qs)])) tt [.str (rS 10), .ref a2] ∧ FrzT (upd H20 t5 (.tup [V.str "fresh", V.str "post", V.str (patS qs)])) a2 ys2 ∧ DpAll K (upd H20 t5 (.tup [V.str "fresh", V.str "post", V.str (patS qs)])) ys2 ((valsL qs ws).map vlD) := ⟨Same.tup s21 hz20.1, hz20.2.1.same s21, dps_same s21 _ _ hz20.2.2⟩
            generalize upd H20 t5 _ = H21 at hp21 f21 hu21 hfr21 hz21 ⊢
            refine ⟨by show 1 ≤ sizeLine; decide, fun t6 ht6 => ?_⟩
            have s22 := same_new (o := .tup [V.ref t5]) ht6
            have ht22 : SqT K (upd H21 t6 (.tup [V.ref t5])) t6 [V.ref t5] := SqT.of upd_same
            have hp22 := dp_same s22 _ _ hp21
            have f22 := f21.same s22
            have hu22 := FdAt.same s22 hu21
            have hfr22 := dp_same s22 _ _ hfr21
            have hz22 : SqT K (upd H21 t6 (.tup [V.ref t5])) tt [.str (rS 10), .ref a2] ∧ FrzT (upd H21 t6 (.tup [V.ref t5])) a2 ys2 ∧ DpAll K (upd H21 t6 (.tup [V.ref t5])) ys2 ((valsL qs ws).map vlD) := ⟨Same.tup s22 hz21.1, hz21.2.1.same s22, dps_same s22 _ _ hz21.2.2⟩
            generalize upd H21 t6 _ = H22 at ht22 hp22 f22 hu22 hfr22 hz22 ⊢
            refine ⟨l, t6, xs, [V.ref t5], rfl, rfl, f22.sq, ht22, hcat, fun e => absurd e hxne, fun _ e => (by cases e), fun _ _ t7 ht7 => ?_⟩
            have s23 := same_new (o := .tup (xs ++ [V.ref t5])) ht7
            have f23 := f22.same s23
            have hu23 := FdAt.same s23 hu22
            have hfr23 := dp_same s23 _ _ hfr22
            have hr23 := rts_snoc (rs := rs) (r := postR qs) (upd_same : (upd H22 t7 (.tup (xs ++ [V.ref t5]))) t7 = _) f23.dp (dp_same s23 _ _ hp22)
            have hz23 : SqT K (upd H22 t7 (.tup (xs ++ [V.ref t5]))) tt [.str (rS 10), .ref a2] ∧ FrzT (upd H22 t7 (.tup (xs ++ [V.ref t5]))) a2 ys2 ∧ DpAll K (upd H22 t7 (.tup (xs ++ [V.ref t5]))) ys2 ((valsL qs ws).map vlD) := ⟨Same.tup s23 hz22.1, hz22.2.1.same s23, dps_same s23 _ _ hz22.2.2⟩
            generalize upd H22 t7 _ = H23 at f23 hu23 hfr23 hr23 hz23 ⊢
            clear hz20 hz21 hz22 hfr20 hfr21 hfr22 hu20 hu21 hu22 f20 f21 f22 s21 s22 s23 hp21 hp22 ht22
            have hu23' := hu23
            rw [ef] at hu23'
            obtain ⟨t', a1', ys1', et, ht', hfz', hdv'⟩ := hu23'
            injection et with et
            subst et
            have hlen : ys2.length ≤ ys1'.length := by
              have e1 := dps_len hz23.2.2
              have e2 := dps_len hdv'
              rw [List.length_map] at e1 e2
              have := closer_vals hc hm
              omega
            refine ⟨_, rfl, tt, _, 1, _, rfl, rfl, hz23.1, rfl, a2, ys2, rfl, .inr hz23.2.1.sq, _, rfl, t, _, 1, _, rfl, rfl, ht', rfl, a1', ys1', rfl, .inr hfz'.sq, _, _, rfl, rfl, _, rfl, itF (decide_eq_false (by omega)) ?_⟩
            refine ⟨_, rfl, _, rfl, .ref t7, rs ++ [postR qs], true, ws, rfl, hr23, okp, hw, fun H24 u5 s24 hu5 => ?_⟩
            rw [found_skip (x := postR qs) (cand_post (vb := true))] at hu5
            have f24 := f23.same s24
            have hu24 := FdAt.same s24 hu23
            have hfr24 := dp_same s24 _ _ hfr23
            refine ⟨_, rfl, fdD (foundA rs true ws), fdD (foundA rs true ws), hu5.dp, hu24.dp, fd_shaped _, fd_shaped _, _, rfl, itF (by rw [fd_refl]; rfl) ?_⟩
            clear hu5 hfr23 hu23 f23 hr23 hz23 ht' hfz' hdv'
            -- the turns
            refine ⟨5, rfl, by decide, by decide, for_it walk_range (fun i σ H6 => ∃ w12 w13 w14, σ = [some (.ref a), some (.int z), some (.ref p), some (.int (0 + (i2 : Int))), some (.ref l), some (.str (pthS ws)), some (.ref t), some (.str (patS r.pat)), some (.str (patS qs)), some (.ref fr), some (.ref tt), some (.ref t7), w12, w13, w14, none, none, none] ∧ Fx K c p l (zs.map V.int) xs rs H6 ∧ Dp K H6 (.ref fr) (rtD (freshR qs)))
              ⟨v12, v13, v14, rfl, f24, hfr24⟩ (fun _ _ _ _ _ => trivial) ?_ ?_⟩
            · rintro i3 v σ J0 J1 hi3 ⟨w12, w13, w14, rfl, g0, gr0⟩ ⟨rfl, rfl⟩
              refine ⟨_, rfl, _, rfl, p, .ref l, rs, rfl, g0.pen, g0.rts, ok, fun J2 ws2 b2 hp2 hw2 => ?_⟩
              have g2 := g0.but ncp b2 hp2
              obtain ⟨n0, d0, hp00⟩ := g0.pen
              have gr2 := dp_but b2 hp00 _ _ (rtD_noL _) gr0
              refine ⟨_, rfl, _, rfl, .ref l, rs, true, ws2, rfl, g2.rts, ok, hw2, fun J3 x3 e3 hx3 => ?_⟩
              have g3 := g2.same e3
              have gr3 := dp_same e3 _ _ gr2
              refine ⟨_, rfl, by show 1 ≤ sizeLine; decide, fun q1 hq1 => ?_⟩
              have e4 := same_new (o := .tup [V.ref fr]) hq1
              have g4 := g3.same e4
              have gr4 := dp_same e4 _ _ gr3
              have hx4 := FdAt.same e4 hx3
              have hr4 : Dp K (upd J3 q1 (.tup [V.ref fr])) (.ref q1) (rtsD [freshR qs]) := .tup (SqT.of upd_same) (.cons gr4 .nil)
              generalize upd J3 q1 _ = J4 at g4 gr4 hx4 hr4 ⊢
              refine ⟨_, rfl, .ref q1, [freshR qs], true, ws2, rfl, hr4, ok1, hw2, fun J5 x5 e5 hx5 => ?_⟩
              have g5 := g4.same e5
              have gr5 := dp_same e5 _ _ gr4
              have hx4' := FdAt.same e5 hx4
              refine ⟨by show 2 ≤ sizeLine; decide, fun q2 hq2 => ?_⟩
              have e6 := same_new (o := .lst [x3, x5]) hq2
              have g6 := g5.same e6
              have gr6 := dp_same e6 _ _ gr5
              have hdue : Dp K (upd J5 q2 (.lst [x3, x5])) (.ref q2) (.list [fdD (foundA rs true ws2), fdD (foundA [freshR qs] true ws2)]) := .lst (SqL.of upd_same) (.cons (FdAt.same e6 hx4').dp (.cons (FdAt.same e6 hx5).dp .nil))
              generalize upd J5 q2 _ = J6 at g6 gr6 hdue ⊢
              refine ⟨_, rfl, _, rfl, by show 1 ≤ sizeLine; decide, fun q3 hq3 => ?_⟩
              have e7 := same_new (o := .tup [V.ref fr]) hq3
              have g7 := g6.same e7
              have gr7 := dp_same e7 _ _ gr6
              have hdue7 := dp_same e7 _ _ hdue
              have hq7 : SqT K (upd J6 q3 (.tup [V.ref fr])) q3 [V.ref fr] := SqT.of upd_same
              generalize upd J6 q3 _ = J7 at g7 gr7 hdue7 hq7 ⊢
              refine ⟨l, q3, xs, [V.ref fr], rfl, rfl, g7.sq, hq7, hcat, fun e => absurd e hxne, fun _ e => (by cases e), fun _ _ q4 hq4 => ?_⟩
              have e8 := same_new (o := .tup (xs ++ [V.ref fr])) hq4
              have g8 := g7.same e8
              have gr8 := dp_same e8 _ _ gr7
              have hdue8 := dp_same e8 _ _ hdue7
              have hr8 := rts_snoc (rs := rs) (r := freshR qs) (upd_same : (upd J7 q4 (.tup (xs ++ [V.ref fr]))) q4 = _) g8.dp gr8
              generalize upd J7 q4 _ = J8 at g8 gr8 hdue8 hr8 ⊢
              refine ⟨_, rfl, .ref q4, rs ++ [freshR qs], true, ws2, rfl, hr8, okf, hw2, fun J9 x9 e9 hx9 => ?_⟩
              refine ⟨_, rfl, fdD (foundA (rs ++ [freshR qs]) true ws2), [fdD (foundA rs true ws2), fdD (foundA [freshR qs] true ws2)], hx9.dp, dp_same e9 _ _ hdue8, fd_shaped _, fds_shaped _ _, _, rfl, itF ?_ ?_⟩
              · rcases found_either rs (freshR qs) true ws2 with e | e
                · rw [e, List.any_cons, fd_refl]
                  rfl
                · rw [e, List.any_cons, List.any_cons, fd_refl, Bool.true_or, Bool.or_true]
                  rfl
              · exact ⟨_, _, _, rfl, g8.same e9, dp_same e9 _ _ gr8⟩
            · rintro σ J0 ⟨w12, w13, w14, rfl, g0, gr0⟩
              -- hidden
              refine ⟨_, rfl, _, rfl, by show 1 ≤ sizeLine; decide, fun q3 hq3 => ?_⟩
              have e7 := same_new (o := .tup [V.ref fr]) hq3
              have g7 := g0.same e7
              have gr7 := dp_same e7 _ _ gr0
              have hq7 : SqT K (upd J0 q3 (.tup [V.ref fr])) q3 [V.ref fr] := SqT.of upd_same
              generalize upd J0 q3 _ = J7 at g7 gr7 hq7 ⊢
              refine ⟨l, q3, xs, [V.ref fr], rfl, rfl, g7.sq, hq7, hcat, fun e => absurd e hxne, fun _ e => (by cases e), fun _ _ q4 hq4 => ?_⟩
              have e8 := same_new (o := .tup (xs ++ [V.ref fr])) hq4
              have g8 := g7.same e8
              have gr8 := dp_same e8 _ _ gr7
              have hr8 := rts_snoc (rs := rs) (r := freshR qs) (upd_same : (upd J7 q4 (.tup (xs ++ [V.ref fr]))) q4 = _) g8.dp gr8
              generalize upd J7 q4 _ = J8 at g8 gr8 hr8 ⊢
              refine ⟨.ref q4, rs ++ [freshR qs], rfl, hr8, okf, fun J9 l9 ys9 e9 hs9 hl9' => ?_⟩
              have g9 := g8.same e9
              refine ⟨l9, ys9, rfl, .inr hs9, _, rfl, .ref l, rs, rfl, g9.rts, ok, fun J10 l10 ys10 e10 hs10 hl10 => ?_⟩
              have hh := hidN_snoc (not_hid (n := 10) hk hm hmin hc)
              refine ⟨l10, ys10, rfl, .inr hs10, _, _, rfl, rfl, _, rfl, itF (decide_eq_false (by rw [hl9', hl10]; have h2 : hidN (rs ++ [freshR qs]) = hidN rs := hh; omega)) ?_⟩
              have g10 := g9.same e10
              exact ⟨_, _, _, _, _, _, _, _, _, _, _, _, rfl, g10.itm, g10.pen⟩
      · refine ⟨_, rfl, p, rfl, hp6, fun H8 l rs0 b8 hp8 hd8 hg8 => ⟨9, rfl, ?_⟩⟩
        obtain ⟨l', xs, el', hs8, hx8⟩ := tup_dp hd8
        injection el' with el'
        subst el'
        have hc8 := b8 _ _ hc6 ncp
        have hxl : xs.length = rs0.length := by
          have := dps_len hx8
          rw [List.length_map] at this
          exact this
        have hx9 := dps_take 9 hx8
        rw [← List.map_take] at hx9
        refine ⟨l, xs, rfl, hs8, fun hw => ?_, fun _ p9 hp9 => ?_⟩
        · have hxs : xs.take 9 = xs := by
            have h2 := hw.2
            rw [show (some 9 : Option Int) = some ((9 : Nat) : Int) from rfl, HT.sIx_nat] at h2
            exact List.take_of_length_le (by omega)
          rw [hxs] at hx9
          exact ⟨l, xs, rs0.take 9, rfl, ⟨hc8, hp8, hs8, hx9⟩, hg8.take.1, hg8.take.2⟩
        · rw [show (some 9 : Option Int) = some ((9 : Nat) : Int) from rfl, cutV_to]
          have s9 := same_new (o := .tup (xs.take 9)) hp9
          exact ⟨p9, xs.take 9, rs0.take 9, rfl, ⟨s9 _ _ hc8, hp8.same s9, SqT.of upd_same, dps_same s9 _ _ hx9⟩, hg8.take.1, hg8.take.2⟩
    · rintro σ H6 ⟨v3, v4, v5, v6, v7, v8, v9, v10, v11, v12, v13, v14, rfl, hc6, hp6⟩
      exact ⟨_, _, _, _, _, _, _, _, _, _, _, _, _, _, rfl, hc6⟩
end
end K7

set_option maxRecDepth 100000
set_option maxHeartbeats 4000000
/-! K7U: what the program's top has left, joined with the promises. Printed by genU.py. -/
namespace K7
open PySem PySem.Spec PyProof.Rows L2
open C8 (Def Cal CalAt cal0 fnScope fnBody fnArgs)
section
variable {P : Program} {w : World} {K : PySem.W.Frag} {mg : Str → Option Value} {base : Heap}
theorem cal_at {x : Str} {k : Nat} {sp : Sp} {g : Addr} (c : Cal P w K mg base k x sp []) (h : mg x = some (.ref g)) : CalAt P w K mg base k g sp := by
  obtain ⟨f, fd, ps, ds, F, hm, kp, b, d⟩ := c.ex
  have e := hm.symm.trans h
  cases e
  cases d
  exact ⟨fd, ps, F, kp, b⟩
theorem def_mk {x : Str} {st : Stmt} {f : Addr} {oc : Value} {od an : Option Addr} {osl : Array (Option Value)} {dV kV doc pm cdv ct : Value} (m : mg x = some (.ref f))
    (l : K.lookup f = some ⟨oc, od, .func (PySem.W.fnOf x x (fnArgs st) (fnBody st) (fnScope st) dV kV doc pm an cdv ct), osl⟩) (c : PySem.W.codeIn K cdv x = true) (kp : PySem.W.keepIn K (.ref f) = true) :
    Def K mg x st f (PySem.W.fnOf x x (fnArgs st) (fnBody st) (fnScope st) dV kV doc pm an cdv ct) := ⟨⟨oc, od, dV, kV, doc, pm, an, cdv, ct, osl, rfl, l, c⟩, m, kp⟩
end
theorem all_mk {l : PySem.W.OpenLaw} {w : World} {K : PySem.W.Frag} {h : Heap} {mg : Str → Option Value} {fa fV fE T52 f12 f13 f14 f15 f16 f17 f18 f19 f30 f31 f32 f33 f34 f35 f36 f37 f38 f39 f40 f41 f42 f43 f44 f45 f46 f47 f48 f49 f50 f51 f52 f53 f54 f56 f57 f58 f59 f60 f61 f62 f63 f64 : Addr} (X : K.In h) (G : h.Ns mainGlobals mg) (hfa : mg "law" = some (.ref fa))
    {odV odT od12 an12 od13 an13 od14 an14 od15 an15 od16 an16 od17 an17 od18 an18 od19 an19 od30 an30 od31 an31 od32 an32 od33 an33 od34 an34 od35 an35 od36 an36 od37 an37 od38 an38 od39 an39 od40 an40 od41 an41 od42 an42 od43 an43 od44 an44 od45 an45 od46 an46 od47 an47 od48 an48 od49 an49 od50 an50 od51 an51 od52 an52 od53 an53 od54 an54 od56 an56 od57 an57 od58 an58 od59 an59 od60 an60 od61 an61 od62 an62 od63 an63 od64 an64 : Option Addr} {slV slT sl12 sl13 sl14 sl15 sl16 sl17 sl18 sl19 sl30 sl31 sl32 sl33 sl34 sl35 sl36 sl37 sl38 sl39 sl40 sl41 sl42 sl43 sl44 sl45 sl46 sl47 sl48 sl49 sl50 sl51 sl52 sl53 sl54 sl56 sl57 sl58 sl59 sl60 sl61 sl62 sl63 sl64 : Array (Option Value)} {oc12 kV12 dc12 pm12 cd12 ct12 oc13 kV13 dc13 pm13 cd13 ct13 oc14 kV14 dc14 pm14 cd14 ct14 oc15 kV15 dc15 pm15 cd15 ct15 oc16 kV16 dc16 pm16 cd16 ct16 oc17 kV17 dc17 pm17 cd17 ct17 oc18 kV18 dc18 pm18 cd18 ct18 oc19 kV19 dc19 pm19 cd19 ct19 oc30 kV30 dc30 pm30 cd30 ct30 oc31 kV31 dc31 pm31 cd31 ct31 oc32 kV32 dc32 pm32 cd32 ct32 oc33 kV33 dc33 pm33 cd33 ct33 oc34 kV34 dc34 pm34 cd34 ct34 oc35 kV35 dc35 pm35 cd35 ct35 oc36 kV36 dc36 pm36 cd36 ct36 oc37 kV37 dc37 pm37 cd37 ct37 oc38 kV38 dc38 pm38 cd38 ct38 oc39 kV39 dc39 pm39 cd39 ct39 oc40 kV40 dc40 pm40 cd40 ct40 oc41 kV41 dc41 pm41 cd41 ct41 oc42 kV42 dc42 pm42 cd42 ct42 oc43 kV43 dc43 pm43 cd43 ct43 oc44 kV44 dc44 pm44 cd44 ct44 oc45 kV45 dc45 pm45 cd45 ct45 oc46 kV46 dc46 pm46 cd46 ct46 oc47 kV47 dc47 pm47 cd47 ct47 oc48 kV48 dc48 pm48 cd48 ct48 oc49 kV49 dc49 pm49 cd49 ct49 oc50 kV50 dc50 pm50 cd50 ct50 oc51 kV51 dc51 pm51 cd51 ct51 oc52 kV52 dc52 pm52 cd52 ct52 oc53 kV53 dc53 pm53 cd53 ct53 oc54 kV54 dc54 pm54 cd54 ct54 oc56 kV56 dc56 pm56 cd56 ct56 oc57 kV57 dc57 pm57 cd57 ct57 oc58 kV58 dc58 pm58 cd58 ct58 oc59 kV59 dc59 pm59 cd59 ct59 oc60 kV60 dc60 pm60 cd60 ct60 oc61 kV61 dc61 pm61 cd61 ct61 oc62 kV62 dc62 pm62 cd62 ct62 oc63 kV63 dc63 pm63 cd63 ct63 oc64 kV64 dc64 pm64 cd64 ct64 ocT : Value} {tLETTERS tFIGURES tROOT tNUMBERED tMS tMV tMP tMR tMN tWORD tNUMBER tANY tg tp2 : Tok} {nV nT : Nat}
    (a12 : PySem.W.nsIn K mainGlobals "is_number" = some (some (.ref f12))) (l12 : K.lookup f12 = some ⟨oc12, od12, .func (PySem.W.fnOf "is_number" "is_number" (fnArgs (tp 12)) (fnBody (tp 12)) (fnScope (tp 12)) .none kV12 dc12 pm12 an12 cd12 ct12), sl12⟩) (c12 : PySem.W.codeIn K cd12 "is_number" = true) (k12 : PySem.W.keepIn K (.ref f12) = true)
    (a13 : PySem.W.nsIn K mainGlobals "is_from" = some (some (.ref f13))) (l13 : K.lookup f13 = some ⟨oc13, od13, .func (PySem.W.fnOf "is_from" "is_from" (fnArgs (tp 13)) (fnBody (tp 13)) (fnScope (tp 13)) .none kV13 dc13 pm13 an13 cd13 ct13), sl13⟩) (c13 : PySem.W.codeIn K cd13 "is_from" = true) (k13 : PySem.W.keepIn K (.ref f13) = true)
    (a14 : PySem.W.nsIn K mainGlobals "is_made_of" = some (some (.ref f14))) (l14 : K.lookup f14 = some ⟨oc14, od14, .func (PySem.W.fnOf "is_made_of" "is_made_of" (fnArgs (tp 14)) (fnBody (tp 14)) (fnScope (tp 14)) .none kV14 dc14 pm14 an14 cd14 ct14), sl14⟩) (c14 : PySem.W.codeIn K cd14 "is_made_of" = true) (k14 : PySem.W.keepIn K (.ref f14) = true)
    (a15 : PySem.W.nsIn K mainGlobals "is_name" = some (some (.ref f15))) (l15 : K.lookup f15 = some ⟨oc15, od15, .func (PySem.W.fnOf "is_name" "is_name" (fnArgs (tp 15)) (fnBody (tp 15)) (fnScope (tp 15)) .none kV15 dc15 pm15 an15 cd15 ct15), sl15⟩) (c15 : PySem.W.codeIn K cd15 "is_name" = true) (k15 : PySem.W.keepIn K (.ref f15) = true)
    (a16 : PySem.W.nsIn K mainGlobals "is_word" = some (some (.ref f16))) (l16 : K.lookup f16 = some ⟨oc16, od16, .func (PySem.W.fnOf "is_word" "is_word" (fnArgs (tp 16)) (fnBody (tp 16)) (fnScope (tp 16)) .none kV16 dc16 pm16 an16 cd16 ct16), sl16⟩) (c16 : PySem.W.codeIn K cd16 "is_word" = true) (k16 : PySem.W.keepIn K (.ref f16) = true)
    (a17 : PySem.W.nsIn K mainGlobals "is_shaped" = some (some (.ref f17))) (l17 : K.lookup f17 = some ⟨oc17, od17, .func (PySem.W.fnOf "is_shaped" "is_shaped" (fnArgs (tp 17)) (fnBody (tp 17)) (fnScope (tp 17)) .none kV17 dc17 pm17 an17 cd17 ct17), sl17⟩) (c17 : PySem.W.codeIn K cd17 "is_shaped" = true) (k17 : PySem.W.keepIn K (.ref f17) = true)
    (a18 : PySem.W.nsIn K mainGlobals "are_unlike" = some (some (.ref f18))) (l18 : K.lookup f18 = some ⟨oc18, od18, .func (PySem.W.fnOf "are_unlike" "are_unlike" (fnArgs (tp 18)) (fnBody (tp 18)) (fnScope (tp 18)) .none kV18 dc18 pm18 an18 cd18 ct18), sl18⟩) (c18 : PySem.W.codeIn K cd18 "are_unlike" = true) (k18 : PySem.W.keepIn K (.ref f18) = true)
    (a19 : PySem.W.nsIn K mainGlobals "number_in" = some (some (.ref f19))) (l19 : K.lookup f19 = some ⟨oc19, od19, .func (PySem.W.fnOf "number_in" "number_in" (fnArgs (tp 19)) (fnBody (tp 19)) (fnScope (tp 19)) .none kV19 dc19 pm19 an19 cd19 ct19), sl19⟩) (c19 : PySem.W.codeIn K cd19 "number_in" = true) (k19 : PySem.W.keepIn K (.ref f19) = true)
    (a30 : PySem.W.nsIn K mainGlobals "parts_of" = some (some (.ref f30))) (l30 : K.lookup f30 = some ⟨oc30, od30, .func (PySem.W.fnOf "parts_of" "parts_of" (fnArgs (tp 30)) (fnBody (tp 30)) (fnScope (tp 30)) .none kV30 dc30 pm30 an30 cd30 ct30), sl30⟩) (c30 : PySem.W.codeIn K cd30 "parts_of" = true) (k30 : PySem.W.keepIn K (.ref f30) = true)
    (a31 : PySem.W.nsIn K mainGlobals "is_divided" = some (some (.ref f31))) (l31 : K.lookup f31 = some ⟨oc31, od31, .func (PySem.W.fnOf "is_divided" "is_divided" (fnArgs (tp 31)) (fnBody (tp 31)) (fnScope (tp 31)) .none kV31 dc31 pm31 an31 cd31 ct31), sl31⟩) (c31 : PySem.W.codeIn K cd31 "is_divided" = true) (k31 : PySem.W.keepIn K (.ref f31) = true)
    (a32 : PySem.W.nsIn K mainGlobals "is_path" = some (some (.ref f32))) (l32 : K.lookup f32 = some ⟨oc32, od32, .func (PySem.W.fnOf "is_path" "is_path" (fnArgs (tp 32)) (fnBody (tp 32)) (fnScope (tp 32)) .none kV32 dc32 pm32 an32 cd32 ct32), sl32⟩) (c32 : PySem.W.codeIn K cd32 "is_path" = true) (k32 : PySem.W.keepIn K (.ref f32) = true)
    (a33 : PySem.W.nsIn K mainGlobals "hole_in" = some (some (.ref f33))) (l33 : K.lookup f33 = some ⟨oc33, od33, .func (PySem.W.fnOf "hole_in" "hole_in" (fnArgs (tp 33)) (fnBody (tp 33)) (fnScope (tp 33)) .none kV33 dc33 pm33 an33 cd33 ct33), sl33⟩) (c33 : PySem.W.codeIn K cd33 "hole_in" = true) (k33 : PySem.W.keepIn K (.ref f33) = true)
    (a34 : PySem.W.nsIn K mainGlobals "is_part" = some (some (.ref f34))) (l34 : K.lookup f34 = some ⟨oc34, od34, .func (PySem.W.fnOf "is_part" "is_part" (fnArgs (tp 34)) (fnBody (tp 34)) (fnScope (tp 34)) .none kV34 dc34 pm34 an34 cd34 ct34), sl34⟩) (c34 : PySem.W.codeIn K cd34 "is_part" = true) (k34 : PySem.W.keepIn K (.ref f34) = true)
    (a35 : PySem.W.nsIn K mainGlobals "holes_in" = some (some (.ref f35))) (l35 : K.lookup f35 = some ⟨oc35, od35, .func (PySem.W.fnOf "holes_in" "holes_in" (fnArgs (tp 35)) (fnBody (tp 35)) (fnScope (tp 35)) .none kV35 dc35 pm35 an35 cd35 ct35), sl35⟩) (c35 : PySem.W.codeIn K cd35 "holes_in" = true) (k35 : PySem.W.keepIn K (.ref f35) = true)
    (a36 : PySem.W.nsIn K mainGlobals "is_pattern" = some (some (.ref f36))) (l36 : K.lookup f36 = some ⟨oc36, od36, .func (PySem.W.fnOf "is_pattern" "is_pattern" (fnArgs (tp 36)) (fnBody (tp 36)) (fnScope (tp 36)) .none kV36 dc36 pm36 an36 cd36 ct36), sl36⟩) (c36 : PySem.W.codeIn K cd36 "is_pattern" = true) (k36 : PySem.W.keepIn K (.ref f36) = true)
    (a37 : PySem.W.nsIn K mainGlobals "is_route" = some (some (.ref f37))) (l37 : K.lookup f37 = some ⟨oc37, od37, .func (PySem.W.fnOf "is_route" "is_route" (fnArgs (tp 37)) (fnBody (tp 37)) (fnScope (tp 37)) .none kV37 dc37 pm37 an37 cd37 ct37), sl37⟩) (c37 : PySem.W.codeIn K cd37 "is_route" = true) (k37 : PySem.W.keepIn K (.ref f37) = true)
    (a38 : PySem.W.nsIn K mainGlobals "are_routes" = some (some (.ref f38))) (l38 : K.lookup f38 = some ⟨oc38, od38, .func (PySem.W.fnOf "are_routes" "are_routes" (fnArgs (tp 38)) (fnBody (tp 38)) (fnScope (tp 38)) .none kV38 dc38 pm38 an38 cd38 ct38), sl38⟩) (c38 : PySem.W.codeIn K cd38 "are_routes" = true) (k38 : PySem.W.keepIn K (.ref f38) = true)
    (a39 : PySem.W.nsIn K mainGlobals "need_routes" = some (some (.ref f39))) (l39 : K.lookup f39 = some ⟨oc39, od39, .func (PySem.W.fnOf "need_routes" "need_routes" (fnArgs (tp 39)) (fnBody (tp 39)) (fnScope (tp 39)) .none kV39 dc39 pm39 an39 cd39 ct39), sl39⟩) (c39 : PySem.W.codeIn K cd39 "need_routes" = true) (k39 : PySem.W.keepIn K (.ref f39) = true)
    (a40 : PySem.W.nsIn K mainGlobals "need_verb" = some (some (.ref f40))) (l40 : K.lookup f40 = some ⟨oc40, od40, .func (PySem.W.fnOf "need_verb" "need_verb" (fnArgs (tp 40)) (fnBody (tp 40)) (fnScope (tp 40)) .none kV40 dc40 pm40 an40 cd40 ct40), sl40⟩) (c40 : PySem.W.codeIn K cd40 "need_verb" = true) (k40 : PySem.W.keepIn K (.ref f40) = true)
    (a41 : PySem.W.nsIn K mainGlobals "need_path" = some (some (.ref f41))) (l41 : K.lookup f41 = some ⟨oc41, od41, .func (PySem.W.fnOf "need_path" "need_path" (fnArgs (tp 41)) (fnBody (tp 41)) (fnScope (tp 41)) .none kV41 dc41 pm41 an41 cd41 ct41), sl41⟩) (c41 : PySem.W.codeIn K cd41 "need_path" = true) (k41 : PySem.W.keepIn K (.ref f41) = true)
    (a42 : PySem.W.nsIn K mainGlobals "kinds_of" = some (some (.ref f42))) (l42 : K.lookup f42 = some ⟨oc42, od42, .func (PySem.W.fnOf "kinds_of" "kinds_of" (fnArgs (tp 42)) (fnBody (tp 42)) (fnScope (tp 42)) .none kV42 dc42 pm42 an42 cd42 ct42), sl42⟩) (c42 : PySem.W.codeIn K cd42 "kinds_of" = true) (k42 : PySem.W.keepIn K (.ref f42) = true)
    (a43 : PySem.W.nsIn K mainGlobals "is_met_part" = some (some (.ref f43))) (l43 : K.lookup f43 = some ⟨oc43, od43, .func (PySem.W.fnOf "is_met_part" "is_met_part" (fnArgs (tp 43)) (fnBody (tp 43)) (fnScope (tp 43)) .none kV43 dc43 pm43 an43 cd43 ct43), sl43⟩) (c43 : PySem.W.codeIn K cd43 "is_met_part" = true) (k43 : PySem.W.keepIn K (.ref f43) = true)
    (a44 : PySem.W.nsIn K mainGlobals "is_met" = some (some (.ref f44))) (l44 : K.lookup f44 = some ⟨oc44, od44, .func (PySem.W.fnOf "is_met" "is_met" (fnArgs (tp 44)) (fnBody (tp 44)) (fnScope (tp 44)) .none kV44 dc44 pm44 an44 cd44 ct44), sl44⟩) (c44 : PySem.W.codeIn K cd44 "is_met" = true) (k44 : PySem.W.keepIn K (.ref f44) = true)
    (a45 : PySem.W.nsIn K mainGlobals "values_in" = some (some (.ref f45))) (l45 : K.lookup f45 = some ⟨oc45, od45, .func (PySem.W.fnOf "values_in" "values_in" (fnArgs (tp 45)) (fnBody (tp 45)) (fnScope (tp 45)) .none kV45 dc45 pm45 an45 cd45 ct45), sl45⟩) (c45 : PySem.W.codeIn K cd45 "values_in" = true) (k45 : PySem.W.keepIn K (.ref f45) = true)
    (a46 : PySem.W.nsIn K mainGlobals "found_in" = some (some (.ref f46))) (l46 : K.lookup f46 = some ⟨oc46, od46, .func (PySem.W.fnOf "found_in" "found_in" (fnArgs (tp 46)) (fnBody (tp 46)) (fnScope (tp 46)) .none kV46 dc46 pm46 an46 cd46 ct46), sl46⟩) (c46 : PySem.W.codeIn K cd46 "found_in" = true) (k46 : PySem.W.keepIn K (.ref f46) = true)
    (a47 : PySem.W.nsIn K mainGlobals "found" = some (some (.ref f47))) (l47 : K.lookup f47 = some ⟨oc47, od47, .func (PySem.W.fnOf "found" "found" (fnArgs (tp 47)) (fnBody (tp 47)) (fnScope (tp 47)) .none kV47 dc47 pm47 an47 cd47 ct47), sl47⟩) (c47 : PySem.W.codeIn K cd47 "found" = true) (k47 : PySem.W.keepIn K (.ref f47) = true)
    (a48 : PySem.W.nsIn K mainGlobals "pattern_of" = some (some (.ref f48))) (l48 : K.lookup f48 = some ⟨oc48, od48, .func (PySem.W.fnOf "pattern_of" "pattern_of" (fnArgs (tp 48)) (fnBody (tp 48)) (fnScope (tp 48)) .none kV48 dc48 pm48 an48 cd48 ct48), sl48⟩) (c48 : PySem.W.codeIn K cd48 "pattern_of" = true) (k48 : PySem.W.keepIn K (.ref f48) = true)
    (a49 : PySem.W.nsIn K mainGlobals "is_given" = some (some (.ref f49))) (l49 : K.lookup f49 = some ⟨oc49, od49, .func (PySem.W.fnOf "is_given" "is_given" (fnArgs (tp 49)) (fnBody (tp 49)) (fnScope (tp 49)) .none kV49 dc49 pm49 an49 cd49 ct49), sl49⟩) (c49 : PySem.W.codeIn K cd49 "is_given" = true) (k49 : PySem.W.keepIn K (.ref f49) = true)
    (a50 : PySem.W.nsIn K mainGlobals "are_given" = some (some (.ref f50))) (l50 : K.lookup f50 = some ⟨oc50, od50, .func (PySem.W.fnOf "are_given" "are_given" (fnArgs (tp 50)) (fnBody (tp 50)) (fnScope (tp 50)) .none kV50 dc50 pm50 an50 cd50 ct50), sl50⟩) (c50 : PySem.W.codeIn K cd50 "are_given" = true) (k50 : PySem.W.keepIn K (.ref f50) = true)
    (a51 : PySem.W.nsIn K mainGlobals "path_by" = some (some (.ref f51))) (l51 : K.lookup f51 = some ⟨oc51, od51, .func (PySem.W.fnOf "path_by" "path_by" (fnArgs (tp 51)) (fnBody (tp 51)) (fnScope (tp 51)) .none kV51 dc51 pm51 an51 cd51 ct51), sl51⟩) (c51 : PySem.W.codeIn K cd51 "path_by" = true) (k51 : PySem.W.keepIn K (.ref f51) = true)
    (a52 : PySem.W.nsIn K mainGlobals "path_of" = some (some (.ref f52))) (l52 : K.lookup f52 = some ⟨oc52, od52, .func (PySem.W.fnOf "path_of" "path_of" (fnArgs (tp 52)) (fnBody (tp 52)) (fnScope (tp 52)) (.ref T52) kV52 dc52 pm52 an52 cd52 ct52), sl52⟩) (c52 : PySem.W.codeIn K cd52 "path_of" = true) (k52 : PySem.W.keepIn K (.ref f52) = true)
    (lT : K.lookup T52 = some ⟨ocT, odT, .seq #[.ref fE] nT, slT⟩)
    (a53 : PySem.W.nsIn K mainGlobals "are_alike" = some (some (.ref f53))) (l53 : K.lookup f53 = some ⟨oc53, od53, .func (PySem.W.fnOf "are_alike" "are_alike" (fnArgs (tp 53)) (fnBody (tp 53)) (fnScope (tp 53)) .none kV53 dc53 pm53 an53 cd53 ct53), sl53⟩) (c53 : PySem.W.codeIn K cd53 "are_alike" = true) (k53 : PySem.W.keepIn K (.ref f53) = true)
    (a54 : PySem.W.nsIn K mainGlobals "hidden" = some (some (.ref f54))) (l54 : K.lookup f54 = some ⟨oc54, od54, .func (PySem.W.fnOf "hidden" "hidden" (fnArgs (tp 54)) (fnBody (tp 54)) (fnScope (tp 54)) .none kV54 dc54 pm54 an54 cd54 ct54), sl54⟩) (c54 : PySem.W.codeIn K cd54 "hidden" = true) (k54 : PySem.W.keepIn K (.ref f54) = true)
    (a56 : PySem.W.nsIn K mainGlobals "_law_cell" = some (some (.ref f56))) (l56 : K.lookup f56 = some ⟨oc56, od56, .func (PySem.W.fnOf "_law_cell" "_law_cell" (fnArgs (tp 56)) (fnBody (tp 56)) (fnScope (tp 56)) .none kV56 dc56 pm56 an56 cd56 ct56), sl56⟩) (c56 : PySem.W.codeIn K cd56 "_law_cell" = true) (k56 : PySem.W.keepIn K (.ref f56) = true)
    (a57 : PySem.W.nsIn K mainGlobals "_law_pen" = some (some (.ref f57))) (l57 : K.lookup f57 = some ⟨oc57, od57, .func (PySem.W.fnOf "_law_pen" "_law_pen" (fnArgs (tp 57)) (fnBody (tp 57)) (fnScope (tp 57)) .none kV57 dc57 pm57 an57 cd57 ct57), sl57⟩) (c57 : PySem.W.codeIn K cd57 "_law_pen" = true) (k57 : PySem.W.keepIn K (.ref f57) = true)
    (a58 : PySem.W.nsIn K mainGlobals "_law_draw" = some (some (.ref f58))) (l58 : K.lookup f58 = some ⟨oc58, od58, .func (PySem.W.fnOf "_law_draw" "_law_draw" (fnArgs (tp 58)) (fnBody (tp 58)) (fnScope (tp 58)) .none kV58 dc58 pm58 an58 cd58 ct58), sl58⟩) (c58 : PySem.W.codeIn K cd58 "_law_draw" = true) (k58 : PySem.W.keepIn K (.ref f58) = true)
    (a59 : PySem.W.nsIn K mainGlobals "_law_pick" = some (some (.ref f59))) (l59 : K.lookup f59 = some ⟨oc59, od59, .func (PySem.W.fnOf "_law_pick" "_law_pick" (fnArgs (tp 59)) (fnBody (tp 59)) (fnScope (tp 59)) .none kV59 dc59 pm59 an59 cd59 ct59), sl59⟩) (c59 : PySem.W.codeIn K cd59 "_law_pick" = true) (k59 : PySem.W.keepIn K (.ref f59) = true)
    (a60 : PySem.W.nsIn K mainGlobals "_law_pattern" = some (some (.ref f60))) (l60 : K.lookup f60 = some ⟨oc60, od60, .func (PySem.W.fnOf "_law_pattern" "_law_pattern" (fnArgs (tp 60)) (fnBody (tp 60)) (fnScope (tp 60)) .none kV60 dc60 pm60 an60 cd60 ct60), sl60⟩) (c60 : PySem.W.codeIn K cd60 "_law_pattern" = true) (k60 : PySem.W.keepIn K (.ref f60) = true)
    (a61 : PySem.W.nsIn K mainGlobals "_law_routes" = some (some (.ref f61))) (l61 : K.lookup f61 = some ⟨oc61, od61, .func (PySem.W.fnOf "_law_routes" "_law_routes" (fnArgs (tp 61)) (fnBody (tp 61)) (fnScope (tp 61)) .none kV61 dc61 pm61 an61 cd61 ct61), sl61⟩) (c61 : PySem.W.codeIn K cd61 "_law_routes" = true) (k61 : PySem.W.keepIn K (.ref f61) = true)
    (a62 : PySem.W.nsIn K mainGlobals "_law_path" = some (some (.ref f62))) (l62 : K.lookup f62 = some ⟨oc62, od62, .func (PySem.W.fnOf "_law_path" "_law_path" (fnArgs (tp 62)) (fnBody (tp 62)) (fnScope (tp 62)) .none kV62 dc62 pm62 an62 cd62 ct62), sl62⟩) (c62 : PySem.W.codeIn K cd62 "_law_path" = true) (k62 : PySem.W.keepIn K (.ref f62) = true)
    (a63 : PySem.W.nsIn K mainGlobals "_law_closer" = some (some (.ref f63))) (l63 : K.lookup f63 = some ⟨oc63, od63, .func (PySem.W.fnOf "_law_closer" "_law_closer" (fnArgs (tp 63)) (fnBody (tp 63)) (fnScope (tp 63)) .none kV63 dc63 pm63 an63 cd63 ct63), sl63⟩) (c63 : PySem.W.codeIn K cd63 "_law_closer" = true) (k63 : PySem.W.keepIn K (.ref f63) = true)
    (a64 : PySem.W.nsIn K mainGlobals "law" = some (some (.ref f64))) (l64 : K.lookup f64 = some ⟨oc64, od64, .func (PySem.W.fnOf "law" "law" (fnArgs (tp 64)) (fnBody (tp 64)) (fnScope (tp 64)) .none kV64 dc64 pm64 an64 cd64 ct64), sl64⟩) (c64 : PySem.W.codeIn K cd64 "law" = true) (k64 : PySem.W.keepIn K (.ref f64) = true)
    (z_isi : PySem.W.nsIn K mainGlobals "isinstance" = some none)
    (z_len : PySem.W.nsIn K mainGlobals "len" = some none)
    (z_all : PySem.W.nsIn K mainGlobals "all" = some none)
    (z_str : PySem.W.nsIn K mainGlobals "str" = some none)
    (z_int : PySem.W.nsIn K mainGlobals "int" = some none)
    (z_bool : PySem.W.nsIn K mainGlobals "bool" = some none)
    (z_tuple : PySem.W.nsIn K mainGlobals "tuple" = some none)
    (z_set : PySem.W.nsIn K mainGlobals "set" = some none)
    (z_range : PySem.W.nsIn K mainGlobals "range" = some none)
    (z_enum : PySem.W.nsIn K mainGlobals "enumerate" = some none)
    (z_zip : PySem.W.nsIn K mainGlobals "zip" = some none)
    (z_min : PySem.W.nsIn K mainGlobals "min" = some none)
    (z_dict : PySem.W.nsIn K mainGlobals "dict" = some none)
    (s_LETTERS : PySem.W.nsIn K mainGlobals "LETTERS" = some (some (.str "abcdefghijklmnopqrstuvwxyz" tLETTERS)))
    (s_FIGURES : PySem.W.nsIn K mainGlobals "FIGURES" = some (some (.str "0123456789" tFIGURES)))
    (s_ROOT : PySem.W.nsIn K mainGlobals "ROOT" = some (some (.str "/" tROOT)))
    (s_NUMBERED : PySem.W.nsIn K mainGlobals "NUMBERED" = some (some (.str ":n" tNUMBERED)))
    (i_MS : PySem.W.nsIn K mainGlobals "MOST_SIGNS" = some (some (.int 8 tMS)))
    (i_MV : PySem.W.nsIn K mainGlobals "MOST_VALUE" = some (some (.int 9999 tMV)))
    (i_MP : PySem.W.nsIn K mainGlobals "MOST_PARTS" = some (some (.int 5 tMP)))
    (i_MR : PySem.W.nsIn K mainGlobals "MOST_ROUTES" = some (some (.int 10 tMR)))
    (i_MN : PySem.W.nsIn K mainGlobals "MOST_NUMBER" = some (some (.int 9999 tMN)))
    (i_WORD : PySem.W.nsIn K mainGlobals "WORD" = some (some (.int 0 tWORD)))
    (i_NUMBER : PySem.W.nsIn K mainGlobals "NUMBER" = some (some (.int 1 tNUMBER)))
    (i_ANY : PySem.W.nsIn K mainGlobals "ANY" = some (some (.int 2 tANY)))
    (aV : PySem.W.nsIn K mainGlobals "VERBS" = some (some (.ref fV))) (lV : K.lookup fV = some ⟨.type "tuple", odV, .seq #[.str "get" tg, .str "post" tp2] nV, slV⟩) :
    ∃ fd : FuncData, (∀ (s : Shared) (v : Value), BindsTo s fd ⟨[v], []⟩ [("_law_script", v)]) ∧ ∀ base : Heap, K.In base → base.Ns mainGlobals mg → FnOk l.prog w K mg base C8.CX0 11 fa fd ["_law_script"] (spLaw K) := by
  have e := hfa.symm.trans (PySem.W.mg_of X G a64)
  cases e
  have T : G7 K mg := {
    isi := PySem.W.mg_none_of X G z_isi
    len := PySem.W.mg_none_of X G z_len
    all := PySem.W.mg_none_of X G z_all
    str := PySem.W.mg_none_of X G z_str
    int := PySem.W.mg_none_of X G z_int
    bool := PySem.W.mg_none_of X G z_bool
    tuple := PySem.W.mg_none_of X G z_tuple
    set := PySem.W.mg_none_of X G z_set
    range := PySem.W.mg_none_of X G z_range
    enum := PySem.W.mg_none_of X G z_enum
    zip := PySem.W.mg_none_of X G z_zip
    min := PySem.W.mg_none_of X G z_min
    dict := PySem.W.mg_none_of X G z_dict
    LETTERS := ⟨_, PySem.W.mg_of X G s_LETTERS, _, rfl⟩
    FIGURES := ⟨_, PySem.W.mg_of X G s_FIGURES, _, rfl⟩
    ROOT := ⟨_, PySem.W.mg_of X G s_ROOT, _, rfl⟩
    NUMBERED := ⟨_, PySem.W.mg_of X G s_NUMBERED, _, rfl⟩
    MS := ⟨_, PySem.W.mg_of X G i_MS, _, rfl⟩
    MV := ⟨_, PySem.W.mg_of X G i_MV, _, rfl⟩
    MP := ⟨_, PySem.W.mg_of X G i_MP, _, rfl⟩
    MR := ⟨_, PySem.W.mg_of X G i_MR, _, rfl⟩
    MN := ⟨_, PySem.W.mg_of X G i_MN, _, rfl⟩
    WORD := ⟨_, PySem.W.mg_of X G i_WORD, _, rfl⟩
    NUMBER := ⟨_, PySem.W.mg_of X G i_NUMBER, _, rfl⟩
    ANY := ⟨_, PySem.W.mg_of X G i_ANY, _, rfl⟩
    VERBS := ⟨fV, ⟨_, PySem.W.mg_of X G aV, rfl⟩, fun H => .inr ⟨_, _, _, lV, rfl, rfl, by show 2 ≤ sizeLine; decide, .cons ⟨_, rfl⟩ (.cons ⟨_, rfl⟩ .nil)⟩⟩ }
  have D12 := def_mk (mg := mg) (st := tp 12) (PySem.W.mg_of X G a12) l12 c12 k12
  have b12 := D12.fn.binds rfl (ps := ["thing"]) fun _ _ _ _ _ _ us hl => match us, hl with | [_], _ => rfl
  have D13 := def_mk (mg := mg) (st := tp 13) (PySem.W.mg_of X G a13) l13 c13 k13
  have b13 := D13.fn.binds rfl (ps := ["thing", "least", "most"]) fun _ _ _ _ _ _ us hl => match us, hl with | [_, _, _], _ => rfl
  have D14 := def_mk (mg := mg) (st := tp 14) (PySem.W.mg_of X G a14) l14 c14 k14
  have b14 := D14.fn.binds rfl (ps := ["thing", "signs", "most"]) fun _ _ _ _ _ _ us hl => match us, hl with | [_, _, _], _ => rfl
  have D15 := def_mk (mg := mg) (st := tp 15) (PySem.W.mg_of X G a15) l15 c15 k15
  have b15 := D15.fn.binds rfl (ps := ["thing"]) fun _ _ _ _ _ _ us hl => match us, hl with | [_], _ => rfl
  have D16 := def_mk (mg := mg) (st := tp 16) (PySem.W.mg_of X G a16) l16 c16 k16
  have b16 := D16.fn.binds rfl (ps := ["thing"]) fun _ _ _ _ _ _ us hl => match us, hl with | [_], _ => rfl
  have D17 := def_mk (mg := mg) (st := tp 17) (PySem.W.mg_of X G a17) l17 c17 k17
  have b17 := D17.fn.binds rfl (ps := ["thing", "many"]) fun _ _ _ _ _ _ us hl => match us, hl with | [_, _], _ => rfl
  have D18 := def_mk (mg := mg) (st := tp 18) (PySem.W.mg_of X G a18) l18 c18 k18
  have b18 := D18.fn.binds rfl (ps := ["things"]) fun _ _ _ _ _ _ us hl => match us, hl with | [_], _ => rfl
  have D19 := def_mk (mg := mg) (st := tp 19) (PySem.W.mg_of X G a19) l19 c19 k19
  have b19 := D19.fn.binds rfl (ps := ["text"]) fun _ _ _ _ _ _ us hl => match us, hl with | [_], _ => rfl
  have D30 := def_mk (mg := mg) (st := tp 30) (PySem.W.mg_of X G a30) l30 c30 k30
  have b30 := D30.fn.binds rfl (ps := ["text"]) fun _ _ _ _ _ _ us hl => match us, hl with | [_], _ => rfl
  have D31 := def_mk (mg := mg) (st := tp 31) (PySem.W.mg_of X G a31) l31 c31 k31
  have b31 := D31.fn.binds rfl (ps := ["thing", "is_part"]) fun _ _ _ _ _ _ us hl => match us, hl with | [_, _], _ => rfl
  have D32 := def_mk (mg := mg) (st := tp 32) (PySem.W.mg_of X G a32) l32 c32 k32
  have b32 := D32.fn.binds rfl (ps := ["thing"]) fun _ _ _ _ _ _ us hl => match us, hl with | [_], _ => rfl
  have D33 := def_mk (mg := mg) (st := tp 33) (PySem.W.mg_of X G a33) l33 c33 k33
  have b33 := D33.fn.binds rfl (ps := ["part"]) fun _ _ _ _ _ _ us hl => match us, hl with | [_], _ => rfl
  have D34 := def_mk (mg := mg) (st := tp 34) (PySem.W.mg_of X G a34) l34 c34 k34
  have b34 := D34.fn.binds rfl (ps := ["part"]) fun _ _ _ _ _ _ us hl => match us, hl with | [_], _ => rfl
  have D35 := def_mk (mg := mg) (st := tp 35) (PySem.W.mg_of X G a35) l35 c35 k35
  have b35 := D35.fn.binds rfl (ps := ["pattern"]) fun _ _ _ _ _ _ us hl => match us, hl with | [_], _ => rfl
  have D36 := def_mk (mg := mg) (st := tp 36) (PySem.W.mg_of X G a36) l36 c36 k36
  have b36 := D36.fn.binds rfl (ps := ["thing"]) fun _ _ _ _ _ _ us hl => match us, hl with | [_], _ => rfl
  have D37 := def_mk (mg := mg) (st := tp 37) (PySem.W.mg_of X G a37) l37 c37 k37
  have b37 := D37.fn.binds rfl (ps := ["thing"]) fun _ _ _ _ _ _ us hl => match us, hl with | [_], _ => rfl
  have D38 := def_mk (mg := mg) (st := tp 38) (PySem.W.mg_of X G a38) l38 c38 k38
  have b38 := D38.fn.binds rfl (ps := ["thing"]) fun _ _ _ _ _ _ us hl => match us, hl with | [_], _ => rfl
  have D39 := def_mk (mg := mg) (st := tp 39) (PySem.W.mg_of X G a39) l39 c39 k39
  have b39 := D39.fn.binds rfl (ps := ["thing"]) fun _ _ _ _ _ _ us hl => match us, hl with | [_], _ => rfl
  have D40 := def_mk (mg := mg) (st := tp 40) (PySem.W.mg_of X G a40) l40 c40 k40
  have b40 := D40.fn.binds rfl (ps := ["thing"]) fun _ _ _ _ _ _ us hl => match us, hl with | [_], _ => rfl
  have D41 := def_mk (mg := mg) (st := tp 41) (PySem.W.mg_of X G a41) l41 c41 k41
  have b41 := D41.fn.binds rfl (ps := ["thing"]) fun _ _ _ _ _ _ us hl => match us, hl with | [_], _ => rfl
  have D42 := def_mk (mg := mg) (st := tp 42) (PySem.W.mg_of X G a42) l42 c42 k42
  have b42 := D42.fn.binds rfl (ps := ["pattern"]) fun _ _ _ _ _ _ us hl => match us, hl with | [_], _ => rfl
  have D43 := def_mk (mg := mg) (st := tp 43) (PySem.W.mg_of X G a43) l43 c43 k43
  have b43 := D43.fn.binds rfl (ps := ["part", "word"]) fun _ _ _ _ _ _ us hl => match us, hl with | [_, _], _ => rfl
  have D44 := def_mk (mg := mg) (st := tp 44) (PySem.W.mg_of X G a44) l44 c44 k44
  have b44 := D44.fn.binds rfl (ps := ["pattern", "path"]) fun _ _ _ _ _ _ us hl => match us, hl with | [_, _], _ => rfl
  have D45 := def_mk (mg := mg) (st := tp 45) (PySem.W.mg_of X G a45) l45 c45 k45
  have b45 := D45.fn.binds rfl (ps := ["pattern", "path"]) fun _ _ _ _ _ _ us hl => match us, hl with | [_, _], _ => rfl
  have D46 := def_mk (mg := mg) (st := tp 46) (PySem.W.mg_of X G a46) l46 c46 k46
  have b46 := D46.fn.binds rfl (ps := ["routes", "verb", "path"]) fun _ _ _ _ _ _ us hl => match us, hl with | [_, _, _], _ => rfl
  have D47 := def_mk (mg := mg) (st := tp 47) (PySem.W.mg_of X G a47) l47 c47 k47
  have b47 := D47.fn.binds rfl (ps := ["routes", "verb", "path"]) fun _ _ _ _ _ _ us hl => match us, hl with | [_, _, _], _ => rfl
  have D48 := def_mk (mg := mg) (st := tp 48) (PySem.W.mg_of X G a48) l48 c48 k48
  have b48 := D48.fn.binds rfl (ps := ["routes", "name"]) fun _ _ _ _ _ _ us hl => match us, hl with | [_, _], _ => rfl
  have D49 := def_mk (mg := mg) (st := tp 49) (PySem.W.mg_of X G a49) l49 c49 k49
  have b49 := D49.fn.binds rfl (ps := ["hole", "thing"]) fun _ _ _ _ _ _ us hl => match us, hl with | [_, _], _ => rfl
  have D50 := def_mk (mg := mg) (st := tp 50) (PySem.W.mg_of X G a50) l50 c50 k50
  have b50 := D50.fn.binds rfl (ps := ["pattern", "thing"]) fun _ _ _ _ _ _ us hl => match us, hl with | [_, _], _ => rfl
  have D51 := def_mk (mg := mg) (st := tp 51) (PySem.W.mg_of X G a51) l51 c51 k51
  have b51 := D51.fn.binds rfl (ps := ["pattern", "values"]) fun _ _ _ _ _ _ us hl => match us, hl with | [_, _], _ => rfl
  have D52 := def_mk (mg := mg) (st := tp 52) (PySem.W.mg_of X G a52) l52 c52 k52
  have D53 := def_mk (mg := mg) (st := tp 53) (PySem.W.mg_of X G a53) l53 c53 k53
  have b53 := D53.fn.binds rfl (ps := ["one", "other"]) fun _ _ _ _ _ _ us hl => match us, hl with | [_, _], _ => rfl
  have D54 := def_mk (mg := mg) (st := tp 54) (PySem.W.mg_of X G a54) l54 c54 k54
  have b54 := D54.fn.binds rfl (ps := ["routes"]) fun _ _ _ _ _ _ us hl => match us, hl with | [_], _ => rfl
  have D56 := def_mk (mg := mg) (st := tp 56) (PySem.W.mg_of X G a56) l56 c56 k56
  have b56 := D56.fn.binds rfl (ps := ["_law_script", "_law_k"]) fun _ _ _ _ _ _ us hl => match us, hl with | [_, _], _ => rfl
  have D57 := def_mk (mg := mg) (st := tp 57) (PySem.W.mg_of X G a57) l57 c57 k57
  have b57 := D57.fn.binds rfl (ps := ["_law_cell_here"]) fun _ _ _ _ _ _ us hl => match us, hl with | [_], _ => rfl
  have D58 := def_mk (mg := mg) (st := tp 58) (PySem.W.mg_of X G a58) l58 c58 k58
  have b58 := D58.fn.binds rfl (ps := ["_law_pen_here", "_law_many"]) fun _ _ _ _ _ _ us hl => match us, hl with | [_, _], _ => rfl
  have D59 := def_mk (mg := mg) (st := tp 59) (PySem.W.mg_of X G a59) l59 c59 k59
  have b59 := D59.fn.binds rfl (ps := ["_law_pen_here", "_law_things"]) fun _ _ _ _ _ _ us hl => match us, hl with | [_, _], _ => rfl
  have D60 := def_mk (mg := mg) (st := tp 60) (PySem.W.mg_of X G a60) l60 c60 k60
  have b60 := D60.fn.binds rfl (ps := ["_law_pen_here"]) fun _ _ _ _ _ _ us hl => match us, hl with | [_], _ => rfl
  have D61 := def_mk (mg := mg) (st := tp 61) (PySem.W.mg_of X G a61) l61 c61 k61
  have b61 := D61.fn.binds rfl (ps := ["_law_pen_here"]) fun _ _ _ _ _ _ us hl => match us, hl with | [_], _ => rfl
  have D62 := def_mk (mg := mg) (st := tp 62) (PySem.W.mg_of X G a62) l62 c62 k62
  have b62 := D62.fn.binds rfl (ps := ["_law_pen_here", "_law_routes_here"]) fun _ _ _ _ _ _ us hl => match us, hl with | [_, _], _ => rfl
  have D63 := def_mk (mg := mg) (st := tp 63) (PySem.W.mg_of X G a63) l63 c63 k63
  have b63 := D63.fn.binds rfl (ps := ["_law_pen_here", "_law_pattern_here", "_law_path_here"]) fun _ _ _ _ _ _ us hl => match us, hl with | [_, _, _], _ => rfl
  have D64 := def_mk (mg := mg) (st := tp 64) (PySem.W.mg_of X G a64) l64 c64 k64
  have b64 := D64.fn.binds rfl (ps := ["_law_script"]) fun _ _ _ _ _ _ us hl => match us, hl with | [_], _ => rfl
  have FD : FunD K "path_of" "path_of" (fnArgs (tp 52)) (fnBody (tp 52)) (fnScope (tp 52)) [V.ref fE] [] f52 (PySem.W.fnOf "path_of" "path_of" (fnArgs (tp 52)) (fnBody (tp 52)) (fnScope (tp 52)) (.ref T52) kV52 dc52 pm52 an52 cd52 ct52) :=
    ⟨⟨oc52, od52, .ref T52, kV52, dc52, pm52, an52, cd52, ct52, sl52, rfl, l52, c52, .inr ⟨by simp, T52, _, [.ref fE], nT, rfl, lT, rfl, .cons rfl .nil⟩, .inl rfl⟩, k52⟩
  have b52 : Binds K (PySem.W.fnOf "path_of" "path_of" (fnArgs (tp 52)) (fnBody (tp 52)) (fnScope (tp 52)) (.ref T52) kV52 dc52 pm52 an52 cd52 ct52) ["routes", "name", "values"] [] := by
    obtain ⟨ds, d1, d2⟩ := FD.binds1 (ps := ["routes", "name", "values"]) 3 1 (by simp) rfl (fun T kV doc pm an cdv ct us its h1 h2 => match us, h1, its, h2 with | [_, _, _], _, [_], _ => ⟨_, rfl, rfl⟩)
    cases d1
    exact d2
  refine ⟨PySem.W.fnOf "law" "law" (fnArgs (tp 64)) (fnBody (tp 64)) (fnScope (tp 64)) .none kV64 dc64 pm64 an64 cd64 ct64, fun s v => .of_eq rfl, fun base _ _ => ?_⟩
  have q12 := c_number (P := l.prog) (w := w) (base := base) T D12 b12
  have q13 := c_from (P := l.prog) (w := w) (base := base) q12 D13 b13
  have q14 := c_made (P := l.prog) (w := w) (base := base) T D14 b14
  have q15 := c_name (P := l.prog) (w := w) (base := base) T q14 D15 b15
  have q16 := c_word (P := l.prog) (w := w) (base := base) T q14 D16 b16
  have q17 := c_shaped (P := l.prog) (w := w) (base := base) T D17 b17
  have q18 := c_unlike (P := l.prog) (w := w) (base := base) T D18 b18
  have q19 := c_numIn (P := l.prog) (w := w) (base := base) T q14 D19 b19
  have q30 := c_parts (P := l.prog) (w := w) (base := base) T D30 b30
  have q33 := c_hole (P := l.prog) (w := w) (base := base) T q15 D33 b33
  have q34 := c_part (P := l.prog) (w := w) (base := base) q16 q33 D34 b34
  have q31w := c_div (P := l.prog) (w := w) (base := base) T q30 (yes_word (cal_at q16 (PySem.W.mg_of X G a16))) D31 b31
  have q31p := c_div (P := l.prog) (w := w) (base := base) T q30 (yes_part (cal_at q34 (PySem.W.mg_of X G a34))) D31 b31
  have q32 := c_path (P := l.prog) (w := w) (base := base) ⟨_, PySem.W.mg_of X G a16, rfl⟩ q31w D32 b32
  have q35 := c_holes (P := l.prog) (w := w) (base := base) q30 q33 D35 b35
  have q36 := c_pat (P := l.prog) (w := w) (base := base) ⟨_, PySem.W.mg_of X G a34, rfl⟩ q31p q18 q35 D36 b36
  have q37 := c_route (P := l.prog) (w := w) (base := base) T q17 q15 q36 D37 b37
  have q38 := c_are (P := l.prog) (w := w) (base := base) T q37 q18 D38 b38
  have q39 := c_needR (P := l.prog) (w := w) (base := base) q38 D39 b39
  have q40 := c_needV (P := l.prog) (w := w) (base := base) T D40 b40
  have q41 := c_needP (P := l.prog) (w := w) (base := base) q32 D41 b41
  have q42 := c_kinds (P := l.prog) (w := w) (base := base) T q30 q33 D42 b42
  have q43 := c_metP (P := l.prog) (w := w) (base := base) T q33 q19 D43 b43
  have q44 := c_met (P := l.prog) (w := w) (base := base) T q30 q43 D44 b44
  have q45 := c_vals (P := l.prog) (w := w) (base := base) T q30 q33 q19 D45 b45
  have q46 := c_foundIn (P := l.prog) (w := w) (base := base) T q42 q44 q45 D46 b46
  have q47 := c_found (P := l.prog) (w := w) (base := base) q39 q40 q41 q46 D47 b47
  have q48 := c_patOf (P := l.prog) (w := w) (base := base)  D48 b48
  have q49 := c_given (P := l.prog) (w := w) (base := base) T q17 q13 q16 D49 b49
  have q50 := c_givens (P := l.prog) (w := w) (base := base) T q35 q17 q49 D50 b50
  have q51 := c_pathBy (P := l.prog) (w := w) (base := base) T q30 q33 D51 b51
  have q52 := c_pathOf (P := l.prog) (w := w) (base := base) q39 q15 q48 q50 q51 D52 b52
  have q53 := c_alike (P := l.prog) (w := w) (base := base) T q42 q30 q33 D53 b53
  have q54 := c_hidden (P := l.prog) (w := w) (base := base) T q39 q53 D54 b54
  have q56 := c_cell (P := l.prog) (w := w) (base := base) T D56 b56
  have q57 := c_pen (P := l.prog) (w := w) (base := base) T D57 b57
  have q58 := c_draw (P := l.prog) (w := w) (base := base)  D58 b58
  have q59 := c_pick (P := l.prog) (w := w) (base := base) T q58 D59 b59
  have q60 := c_mkPat (P := l.prog) (w := w) (base := base) T q58 q59 D60 b60
  have q61 := c_mkRts (P := l.prog) (w := w) (base := base) T q58 q59 q60 D61 b61
  have q62 := c_mkPath (P := l.prog) (w := w) (base := base) T q58 q59 D62 b62
  have q63 := c_closer (P := l.prog) (w := w) (base := base) T q58 q59 D63 b63
  exact c_law T q56 q57 q61 q62 q47 q63 q52 q54 D64 b64
end K7

open PySem PySem.W PyProof.Rows
set_option maxRecDepth 100000
set_option maxHeartbeats 0 in
theorem PySem.Challenge.cw_doorhouse_k07_whole_a_word_for_a_hole_holds : PySem.Challenge.rw_doorhouse_k07_whole_a_word_for_a_hole.Holds := by
  w_on; o_law; k_head; (case hw => w_witness2)
  k_fill
  refine L2.walk_of (l := PySem.Challenge.rw_doorhouse_k07_whole_a_word_for_a_hole) (n := 63) (k := 11) (x := "_law_script") (CX := fun _ => C8.CX0) (sp := fun w => K7.spLaw _) rfl (by decide) rfl ⟨rfl, by decide, by decide⟩ (fun w h Y => PySem.W.kIn_of Y) ?F (fun _ _ a ns hl _ hS => ⟨a, ns, rfl, hS, Nat.le_trans hl (by decide), fun _ => rfl⟩) (fun _ _ _ _ _ h => h)
  case F =>
    intro w mg fa h KX G hmg
    refine' K7.all_mk KX G hmg ?a12 ?l12 ?c12 ?k12 ?a13 ?l13 ?c13 ?k13 ?a14 ?l14 ?c14 ?k14 ?a15 ?l15 ?c15 ?k15 ?a16 ?l16 ?c16 ?k16 ?a17 ?l17 ?c17 ?k17 ?a18 ?l18 ?c18 ?k18 ?a19 ?l19 ?c19 ?k19 ?a30 ?l30 ?c30 ?k30 ?a31 ?l31 ?c31 ?k31 ?a32 ?l32 ?c32 ?k32 ?a33 ?l33 ?c33 ?k33 ?a34 ?l34 ?c34 ?k34 ?a35 ?l35 ?c35 ?k35 ?a36 ?l36 ?c36 ?k36 ?a37 ?l37 ?c37 ?k37 ?a38 ?l38 ?c38 ?k38 ?a39 ?l39 ?c39 ?k39 ?a40 ?l40 ?c40 ?k40 ?a41 ?l41 ?c41 ?k41 ?a42 ?l42 ?c42 ?k42 ?a43 ?l43 ?c43 ?k43 ?a44 ?l44 ?c44 ?k44 ?a45 ?l45 ?c45 ?k45 ?a46 ?l46 ?c46 ?k46 ?a47 ?l47 ?c47 ?k47 ?a48 ?l48 ?c48 ?k48 ?a49 ?l49 ?c49 ?k49 ?a50 ?l50 ?c50 ?k50 ?a51 ?l51 ?c51 ?k51 ?a52 ?l52 ?c52 ?k52 ?lT ?a53 ?l53 ?c53 ?k53 ?a54 ?l54 ?c54 ?k54 ?a56 ?l56 ?c56 ?k56 ?a57 ?l57 ?c57 ?k57 ?a58 ?l58 ?c58 ?k58 ?a59 ?l59 ?c59 ?k59 ?a60 ?l60 ?c60 ?k60 ?a61 ?l61 ?c61 ?k61 ?a62 ?l62 ?c62 ?k62 ?a63 ?l63 ?c63 ?k63 ?a64 ?l64 ?c64 ?k64 ?z_isi ?z_len ?z_all ?z_str ?z_int ?z_bool ?z_tuple ?z_set ?z_range ?z_enum ?z_zip ?z_min ?z_dict ?s_LETTERS ?s_FIGURES ?s_ROOT ?s_NUMBERED ?i_MS ?i_MV ?i_MP ?i_MR ?i_MN ?i_WORD ?i_NUMBER ?i_ANY ?aV ?lV
    (case a12 => k_is); (case l12 => k_is); (case c12 => k_is); (case k12 => k_is); (case a13 => k_is); (case l13 => k_is)
    (case c13 => k_is); (case k13 => k_is); (case a14 => k_is); (case l14 => k_is); (case c14 => k_is); (case k14 => k_is)
    (case a15 => k_is); (case l15 => k_is); (case c15 => k_is); (case k15 => k_is); (case a16 => k_is); (case l16 => k_is)
    (case c16 => k_is); (case k16 => k_is); (case a17 => k_is); (case l17 => k_is); (case c17 => k_is); (case k17 => k_is)
    (case a18 => k_is); (case l18 => k_is); (case c18 => k_is); (case k18 => k_is); (case a19 => k_is); (case l19 => k_is)
    (case c19 => k_is); (case k19 => k_is); (case a30 => k_is); (case l30 => k_is); (case c30 => k_is); (case k30 => k_is)
    (case a31 => k_is); (case l31 => k_is); (case c31 => k_is); (case k31 => k_is); (case a32 => k_is); (case l32 => k_is)
    (case c32 => k_is); (case k32 => k_is); (case a33 => k_is); (case l33 => k_is); (case c33 => k_is); (case k33 => k_is)
    (case a34 => k_is); (case l34 => k_is); (case c34 => k_is); (case k34 => k_is); (case a35 => k_is); (case l35 => k_is)
    (case c35 => k_is); (case k35 => k_is); (case a36 => k_is); (case l36 => k_is); (case c36 => k_is); (case k36 => k_is)
    (case a37 => k_is); (case l37 => k_is); (case c37 => k_is); (case k37 => k_is); (case a38 => k_is); (case l38 => k_is)
    (case c38 => k_is); (case k38 => k_is); (case a39 => k_is); (case l39 => k_is); (case c39 => k_is); (case k39 => k_is)
    (case a40 => k_is); (case l40 => k_is); (case c40 => k_is); (case k40 => k_is); (case a41 => k_is); (case l41 => k_is)
    (case c41 => k_is); (case k41 => k_is); (case a42 => k_is); (case l42 => k_is); (case c42 => k_is); (case k42 => k_is)
    (case a43 => k_is); (case l43 => k_is); (case c43 => k_is); (case k43 => k_is); (case a44 => k_is); (case l44 => k_is)
    (case c44 => k_is); (case k44 => k_is); (case a45 => k_is); (case l45 => k_is); (case c45 => k_is); (case k45 => k_is)
    (case a46 => k_is); (case l46 => k_is); (case c46 => k_is); (case k46 => k_is); (case a47 => k_is); (case l47 => k_is)
    (case c47 => k_is); (case k47 => k_is); (case a48 => k_is); (case l48 => k_is); (case c48 => k_is); (case k48 => k_is)
    (case a49 => k_is); (case l49 => k_is); (case c49 => k_is); (case k49 => k_is); (case a50 => k_is); (case l50 => k_is)
    (case c50 => k_is); (case k50 => k_is); (case a51 => k_is); (case l51 => k_is); (case c51 => k_is); (case k51 => k_is)
    (case a52 => k_is); (case l52 => k_is); (case c52 => k_is); (case k52 => k_is); (case lT => k_is); (case a53 => k_is)
    (case l53 => k_is); (case c53 => k_is); (case k53 => k_is); (case a54 => k_is); (case l54 => k_is); (case c54 => k_is)
    (case k54 => k_is); (case a56 => k_is); (case l56 => k_is); (case c56 => k_is); (case k56 => k_is); (case a57 => k_is)
    (case l57 => k_is); (case c57 => k_is); (case k57 => k_is); (case a58 => k_is); (case l58 => k_is); (case c58 => k_is)
    (case k58 => k_is); (case a59 => k_is); (case l59 => k_is); (case c59 => k_is); (case k59 => k_is); (case a60 => k_is)
    (case l60 => k_is); (case c60 => k_is); (case k60 => k_is); (case a61 => k_is); (case l61 => k_is); (case c61 => k_is)
    (case k61 => k_is); (case a62 => k_is); (case l62 => k_is); (case c62 => k_is); (case k62 => k_is); (case a63 => k_is)
    (case l63 => k_is); (case c63 => k_is); (case k63 => k_is); (case a64 => k_is); (case l64 => k_is); (case c64 => k_is)
    (case k64 => k_is); (case z_isi => k_is); (case z_len => k_is); (case z_all => k_is); (case z_str => k_is); (case z_int => k_is)
    (case z_bool => k_is); (case z_tuple => k_is); (case z_set => k_is); (case z_range => k_is); (case z_enum => k_is); (case z_zip => k_is)
    (case z_min => k_is); (case z_dict => k_is); (case s_LETTERS => k_is); (case s_FIGURES => k_is); (case s_ROOT => k_is); (case s_NUMBERED => k_is)
    (case i_MS => k_is); (case i_MV => k_is); (case i_MP => k_is); (case i_MR => k_is); (case i_MN => k_is); (case i_WORD => k_is)
    (case i_NUMBER => k_is); (case i_ANY => k_is); (case aV => k_is); (case lV => k_is)
