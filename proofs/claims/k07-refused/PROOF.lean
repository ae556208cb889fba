import PyProof.Rows.All
import Wide.All
import OpenK.AllK
import Wide.FinOn
import HandS.ForMost
import HandS.ForExc
import HandS.Evl
import HandS.Wide
import HandS.IsInst
import HandS.StrMore
import HandS.Style
import HandS.Walk
import HandS.Deep
import HandS.EndBits
import HandS.More
import HandS.ExcIs
import HandS.HotCalls
import KE.GoesNew
import KE.GoesEnum
import KE.RegKIsAll
import PySem.Challenge.RW_halfalike_k07_refused
set_option Elab.async false
set_option linter.all false
section
set_option maxRecDepth 100000
set_option maxHeartbeats 4000000
/-! Own rules over the hand layer: enumerate and zip over texts, chains of three comparisons, text * int, great products, an instance without __init__. -/
namespace HA
open PySem PySem.Spec PyProof.Rows L2

/-! ### either of two readings -/
theorem pe_either {X : Cx} {e : Expr} {t u : TE} (h : PE X e t) (k : PE X e u) : PE X e (fun σ H Q => t σ H Q ∨ u σ H Q) :=
  ⟨fun pins s σ H Q I z => z.elim (h.run pins s σ H Q I) (k.run pins s σ H Q I)⟩

/-! ### great products -/
def CMulB (i j : Int) : Prop := i.natAbs.log2 + j.natAbs.log2 < 134217000
theorem CMulB.ok {i j : Int} (h : CMulB i j) : IntMulOk i j := by
  have b : ∀ x : Int, Builtin.Int.intBits x ≤ x.natAbs.log2 + 1 := fun x => by
    unfold Builtin.Int.intBits
    split <;> omega
  have h1 := b i
  have h2 := b j
  have h3 : i.natAbs.log2 + j.natAbs.log2 < 134217000 := h
  have e : bitsLine = 134217728 := by decide
  unfold IntMulOk
  intro z
  rw [Bool.and_eq_true] at z
  have z2 := z.2
  unfold Builtin.Int.intTooBig at z2
  have z3 := of_decide_eq_true z2
  rw [e] at z3
  omega
theorem op_mulB {X : Cx} : OpR X (binaryOp .Mult) (rI CMulB fun i j => .int (i * j)) := opI fun _ _ _ _ _ _ _ hc q => mul_int q hc.ok

/-! ### iterators of new pairs, from WalksT -/
theorem turn_wt {P : Program} {w : World} {K : PySem.W.Frag} {elts : List Expr} {kk : Nat} {tpos : Pos} {J : It} {fp : List Addr} {it : Addr} {tn : Nat → Heap → Prop} (mem : it ∈ fp)
    (obj : ∀ i h, tn i h → ∀ b ∈ fp, ∃ o, h.get? b = some o ∧ ∀ v, o.data ≠ .cell v)
    (keep : ∀ i h h', tn i h → (∀ b ∈ fp, ∀ o, h.get? b = some o → h'.get? b = some o) → tn i h')
    (self : ∀ (A : Around) (i : Nat) (s : Shared) (Q : Value → Shared → Prop) (E : Value → Shared → Prop), tn i s.heap → Q (.ref it) s → wpAny (model P w) A (pyIter (.ref it)) Q E s)
    (go : ∀ (X : Cx), X.prog = P → X.w = w → X.K = K → X.calm = true → ∀ (i : Nat) (pins : List (Addr × Obj)) (s : Shared) (σ : L2.St) (H : Hp), Inv X pins σ H s → tn i s.heap → J.go i H →
      ∃ (fpW wr : List Addr) (n : Nat) (Pt : Nat → Array Value → Prop) (St : Nat → Heap → Prop) (Mid : Nat → Addr → Heap → Prop), WalksT P w X.A it fpW wr n Pt St Mid ∧ (∀ b ∈ wr, b ∈ fp) ∧ i < n ∧ St i s.heap ∧ (∀ h, St (i + 1) h → tn (i + 1) h) ∧
        ∀ vals, Pt i vals → ∃ u1 u2 x1 x2, vals = #[u1, u2] ∧ RelV x1 u1 ∧ RelV x2 u2 ∧ ∀ T, H T = none → J.yld i H (.ref T) (upd H T (.tup [x1, x2])))
    (stop : ∀ (X : Cx), X.prog = P → X.w = w → X.K = K → X.calm = true → ∀ (i : Nat) (pins : List (Addr × Obj)) (s : Shared) (σ : L2.St) (H : Hp), Inv X pins σ H s → tn i s.heap → J.stop i H →
      ∃ (fpW wr : List Addr) (Pt : Nat → Array Value → Prop) (St : Nat → Heap → Prop) (Mid : Nat → Addr → Heap → Prop), WalksT P w X.A it fpW wr i Pt St Mid ∧ (∀ b ∈ wr, b ∈ fp) ∧ St i s.heap) :
    Turn P w K (.Tuple elts kk tpos) J fp it tn where
  mem := mem
  obj := obj
  keep := keep
  item := by
    intro X hP hw hK hc i pins s σ H E I hf st hg
    obtain ⟨fpW, wr, n, Pt, St, Mid, W, sub, hi, hst, nx, hP2⟩ := go X hP hw hK hc i pins s σ H I st hg
    have lt : ∀ b ∈ fp, b < s.heap.objs.size := fun b hb => by
      obtain ⟨o, e, _⟩ := obj i _ st b hb
      exact Heap.lt_size e
    refine W.item i s _ _ hi hst fun T vals h' tk hPt hT hTup hMid hk => ?_
    refine ⟨.ref T, rfl, W.go elts kk tpos i T { s with heap := h', toks := tk } _ _ hMid fun h2 hst2 hk2 => ?_⟩
    obtain ⟨u1, u2, x1, x2, ev, r1, r2, hy⟩ := hP2 vals hPt
    subst ev
    have hTup2 : h2.IsTuple T #[u1, u2] := hTup.at fun o e => hk2 T o (W.apart i T h' hMid) e
    have new : ObjOk X.prog X.w (upd H T (.tup [x1, x2])) h2 T (.tup [x1, x2]) :=
      ⟨by show 2 ≤ sizeLine; decide, [u1, u2], .cons r1 (.cons r2 .nil), hTup2⟩
    have I1 : Inv X pins σ (upd H T (.tup [x1, x2])) { s with heap := h2, toks := tk } :=
      I.turnedNew (ch := fp) (fun b o hb q => hk2 b o (fun z => hb (sub b z)) (hk b o (fun z => hb (sub b z)) q)) hf hT new
    refine ⟨.ref T, _, I1, rfl, hy T (I.hok.fresh hT), nx _ hst2, fun b hb => ?_⟩
    rw [upd_ne (Nat.ne_of_lt (Nat.lt_of_lt_of_le (lt b hb) hT))]
    exact (hf b hb).1
  done := by
    intro X hP hw hK hc i pins s σ H E I hf st hg
    obtain ⟨fpW, wr, Pt, St, Mid, W, sub, hst⟩ := stop X hP hw hK hc i pins s σ H I st hg
    exact W.done s _ _ hst fun h' tk hk => ⟨rfl, I.turnedL (ch := fp) (fun b o hb q => hk b o (fun z => hb (sub b z)) q) hf⟩
  self := self

/-! ### enumerate(text) -/
def ItES (x : Str) : It := ⟨fun i _ => i < x.cps.size, fun i H v H' => ∃ T c, v = .ref T ∧ H T = none ∧ H' = upd H T (.tup [.int (i : Nat), .str ⟨#[c]⟩]) ∧ x.cps[i]? = some c, fun i _ => i = x.cps.size⟩
theorem turn_enumS {P : Program} {w : World} {K : PySem.W.Frag} {elts : List Expr} {kk : Nat} {tpos : Pos} (e it : Addr) (hei : e ≠ it) (x : Str) (t : Tok) :
    Turn P w K (.Tuple elts kk tpos) (ItES x) [e, it] e (fun i h => (∃ old, IsEnum h e it (0 + (i : Int)) old) ∧ h.IsStrIter it (strIterType x) x t i) := by
  have hef : e ∉ [it] := by simpa using hei
  refine turn_wt (by simp) (fun i h st b hb => ?_) (fun i h h' st k => ?_) (fun A i s Q E st h => ?_) (fun X hP hw hK hc i pins s σ H I st hg => ?_) (fun X hP hw hK hc i pins s σ H I st hg => ?_)
  · obtain ⟨⟨old, he⟩, ⟨o, ho, hc, hd⟩⟩ := st
    have e' : b = e ∨ b = it := by simpa using hb
    rcases e' with z | z
    · rw [z]; exact ⟨_, he, fun v q => nomatch q⟩
    · rw [z]; exact ⟨o, ho, fun v q => by rw [hd] at q; cases q⟩
  · obtain ⟨⟨old, he⟩, ⟨o, ho, r⟩⟩ := st
    exact ⟨⟨old, k e (by simp) _ he⟩, ⟨o, k it (by simp) o ho, r⟩⟩
  · obtain ⟨⟨_, he⟩, _⟩ := st
    exact wpAny_pyIter_enum he h
  · subst hP hw
    refine ⟨_, _, _, _, _, _, WalksT.enumFrom 0 (Draws.text (A := X.A.in1) (I.ok.hd hc) it x t) e hei hef (by simp), fun b hb => hb, hg, st, fun h q => q, fun vals hp => ?_⟩
    obtain ⟨t', xv, ⟨c, u, hcx, hxv⟩, hv⟩ := hp
    subst hxv
    refine ⟨_, _, .int (i : Nat), .str ⟨#[c]⟩, hv, ⟨t', ?_⟩, ⟨u, rfl⟩, fun T hT => ⟨T, c, rfl, hT, rfl, hcx⟩⟩
    rw [Int.zero_add]
  · subst hP hw
    have hg' : i = x.cps.size := hg
    subst hg'
    exact ⟨_, _, _, _, _, WalksT.enumFrom 0 (Draws.text (A := X.A.in1) (I.ok.hd hc) it x t) e hei hef (by simp), fun b hb => hb, st⟩
def iEnumS (ta : TA) : TI := fun σ H R => ta σ H fun vs H1 => ∃ x, vs = [.str x] ∧ R (ItES x) H1
theorem pi_enumS {X : Cx} {e : Expr} {ta : TA} {p pos tpos : Pos} {elts : List Expr} {kk : Nat} (hg : Gl X "enumerate") (hm : X.mg "enumerate" = none) (ha : PA X [e] ta) (hs : starEach [e] X.env = [(false, eval e X.env)] := by rfl) :
    PI X (.Tuple elts kk tpos) (.Call (.Name "enumerate" p) [e] [] pos) (iEnumS ta) := by
  refine ⟨fun pins s σ H R I h => ?_⟩
  refine Call_ (ld_blt I hg hm boot_enumerate (PyProof.Rows.callWith_type1 (thn (ha.run pos pins s σ H _ I h) fun us s1 ⟨vs, H1, I1, r1, q1⟩ => ?_) hs rfl))
  obtain ⟨x, ex, q⟩ := q1
  subst ex
  cases r1 with
  | cons r rr =>
    cases rr
    obtain ⟨t, rfl⟩ := r
    refine call_enumerate_str fun h' he hit hsz hk => wpAny_pyIter_enum he ?_
    have I2 : Inv X pins σ H1 { s1 with heap := h' } := I1.kept (t' := s1.toks) hk
    refine ⟨s1.heap.objs.size + 1, [s1.heap.objs.size + 1, s1.heap.objs.size], _, _, H1, rfl, I2, turn_enumS _ _ (Nat.ne_of_gt (Nat.lt_succ_self _)) x t, ⟨⟨_, he⟩, hit⟩, fun c hcm => ?_, q⟩
    have e' : c = s1.heap.objs.size + 1 ∨ c = s1.heap.objs.size := by simpa using hcm
    have hle : s1.heap.objs.size ≤ c := by
      rcases e' with z | z
      · rw [z]; exact Nat.le_succ _
      · rw [z]; exact Nat.le_refl _
    exact I1.fpOk hle (I1.hok.fresh hle)
theorem walk_enumS {x : Str} : Walk (ItES x) x.cps.size (fun _ => True) (YPair (fun i => some (.int (i : Nat))) (fun i => (x.cps[i]?).map fun c => V.str ⟨#[c]⟩)) := by
  refine ⟨fun i _ hi _ => hi, fun _ _ => rfl, fun i H v H' _ _ y => ?_⟩
  obtain ⟨T, c, h1, h2, h3, h4⟩ := y
  exact ⟨T, _, _, h1, h2, h3, rfl, by simp [h4]⟩

/-! ### zip(text, text), zip(text, list) -/
def ItzSS (x y : Str) : It := ⟨fun i _ => i < min x.cps.size y.cps.size, fun i H v H' => ∃ T c d, v = .ref T ∧ H T = none ∧ H' = upd H T (.tup [.str ⟨#[c]⟩, .str ⟨#[d]⟩]) ∧ x.cps[i]? = some c ∧ y.cps[i]? = some d, fun i _ => i = min x.cps.size y.cps.size⟩
def ItzSL (K : PySem.W.Frag) (x : Str) (a : Addr) : It := ⟨fun i H => ∃ ys, SqL K H a ys ∧ i < min x.cps.size ys.length, fun i H v H' => ∃ T c d, v = .ref T ∧ H T = none ∧ H' = upd H T (.tup [.str ⟨#[c]⟩, d]) ∧ x.cps[i]? = some c ∧ ∀ ys, SqL K H a ys → ys[i]? = some d, fun i H => ∃ ys, SqL K H a ys ∧ i = min x.cps.size ys.length⟩
structure ZApart (z TI TO i1 i2 : Addr) : Prop where
  TIz : TI ≠ z
  TOz : TO ≠ z
  TITO : TI ≠ TO
  TIi1 : TI ≠ i1
  TIi2 : TI ≠ i2
  zi1 : z ≠ i1
  zi2 : z ≠ i2
  Ti1 : TO ≠ i1
  Ti2 : TO ≠ i2
  i12 : i1 ≠ i2
theorem zapart_new (n : Nat) : ZApart (n + 4) (n + 2) (n + 3) n (n + 1) :=
  ⟨show (n + 2 : Nat) ≠ n + 4 by omega, show (n + 3 : Nat) ≠ n + 4 by omega, show (n + 2 : Nat) ≠ n + 3 by omega, show (n + 2 : Nat) ≠ n by omega, show (n + 2 : Nat) ≠ n + 1 by omega,
    show (n + 4 : Nat) ≠ n by omega, show (n + 4 : Nat) ≠ n + 1 by omega, show (n + 3 : Nat) ≠ n by omega, show (n + 3 : Nat) ≠ n + 1 by omega, show (n : Nat) ≠ n + 1 by omega⟩
theorem ZApart.sep {z TI TO i1 i2 : Addr} (D : ZApart z TI TO i1 i2) : ZipSep2 z TI TO i1 i2 [i1] [i2] where
  TIz := D.TIz
  TOz := D.TOz
  TITO := D.TITO
  TIi1 := D.TIi1
  mem1 := by simp
  zf1 := by simpa using D.zi1
  Tf1 := by simpa using D.Ti1
  TIi2 := D.TIi2
  mem2 := by simp
  zf2 := by simpa using D.zi2
  Tf2 := by simpa using D.Ti2
  sep1_2 := by simpa using D.i12
  sep2_1 := by simpa using Ne.symm D.i12
theorem ZApart.sepL {z TI TO i1 i2 l : Addr} (D : ZApart z TI TO i1 i2) (h1 : z ≠ l) (h2 : TO ≠ l) (h3 : i1 ≠ l) : ZipSep2 z TI TO i1 i2 [i1] [i2, l] where
  TIz := D.TIz
  TOz := D.TOz
  TITO := D.TITO
  TIi1 := D.TIi1
  mem1 := by simp
  zf1 := by simpa using D.zi1
  Tf1 := by simpa using D.Ti1
  TIi2 := D.TIi2
  mem2 := by simp
  zf2 := by simp [D.zi2, h1]
  Tf2 := by simp [D.Ti2, h2]
  sep1_2 := by simp [D.i12, h3]
  sep2_1 := by simpa using Ne.symm D.i12
theorem in5 {z TI TO i1 i2 b : Addr} (h : b ∈ [z, TO, i1, i2]) : b ∈ [z, TI, TO, i1, i2] := by
  simp only [List.mem_cons, List.not_mem_nil, or_false] at h ⊢
  rcases h with h | h | h | h
  · exact .inl h
  · exact .inr (.inr (.inl h))
  · exact .inr (.inr (.inr (.inl h)))
  · exact .inr (.inr (.inr (.inr h)))
theorem turn_zipSS {P : Program} {w : World} {K : PySem.W.Frag} {elts : List Expr} {kk : Nat} {tpos : Pos} {z TI TO i1 i2 : Addr} (D : ZApart z TI TO i1 i2) (x y : Str) (t u : Tok) :
    Turn P w K (.Tuple elts kk tpos) (ItzSS x y) [z, TI, TO, i1, i2] z (fun i h => IsZip h z TI TO .none ∧ IsTupOf2 h TI (.ref i1) (.ref i2) ∧ (∃ a1 a2, IsTupOf2 h TO a1 a2) ∧ h.IsStrIter i1 (strIterType x) x t i ∧ h.IsStrIter i2 (strIterType y) y u i) := by
  refine turn_wt (by simp) (fun i h st c hc => ?_) (fun i h h' st k => ?_) (fun A i s Q E st h => ?_) (fun X hP hw hK hc i pins s σ H I st hg => ?_) (fun X hP hw hK hc i pins s σ H I st hg => ?_)
  · obtain ⟨hz, hTI, ⟨a1, a2, hTO⟩, ⟨o1, e1, _, d1⟩, ⟨o2, e2, _, d2⟩⟩ := st
    have e' : c = z ∨ c = TI ∨ c = TO ∨ c = i1 ∨ c = i2 := by simpa using hc
    rcases e' with q | q | q | q | q
    · rw [q]; exact ⟨_, hz, fun v q => nomatch q⟩
    · rw [q]; exact ⟨_, hTI, fun v q => nomatch q⟩
    · rw [q]; exact ⟨_, hTO, fun v q => nomatch q⟩
    · rw [q]; exact ⟨o1, e1, fun v q => by rw [d1] at q; cases q⟩
    · rw [q]; exact ⟨o2, e2, fun v q => by rw [d2] at q; cases q⟩
  · obtain ⟨hz, hTI, ⟨a1, a2, hTO⟩, ⟨o1, e1, r1⟩, ⟨o2, e2, r2⟩⟩ := st
    exact ⟨k z (by simp) _ hz, k TI (by simp) _ hTI, ⟨a1, a2, k TO (by simp) _ hTO⟩, ⟨o1, k i1 (by simp) _ e1, r1⟩, ⟨o2, k i2 (by simp) _ e2, r2⟩⟩
  · exact wpAny_pyIter_zip st.1 h
  · subst hP hw
    refine ⟨_, _, _, _, _, _, WalksT.zipD2 D.sep (Draws.text (A := X.A.in1) (I.ok.hd hc) i1 x t) (Draws.text (A := X.A.in1) (I.ok.hd hc) i2 y u), fun b hb => in5 hb, hg, st, fun h q => q, fun vals hp => ?_⟩
    obtain ⟨x1, x2, ⟨c, tc, hc1, rfl⟩, ⟨d, td, hd1, rfl⟩, hv⟩ := hp
    exact ⟨_, _, .str ⟨#[c]⟩, .str ⟨#[d]⟩, hv, ⟨tc, rfl⟩, ⟨td, rfl⟩, fun T hT => ⟨T, c, d, rfl, hT, rfl, hc1, hd1⟩⟩
  · subst hP hw
    have hg' : i = min x.cps.size y.cps.size := hg
    rw [hg'] at st ⊢
    exact ⟨_, _, _, _, _, WalksT.zipD2 D.sep (Draws.text (A := X.A.in1) (I.ok.hd hc) i1 x t) (Draws.text (A := X.A.in1) (I.ok.hd hc) i2 y u), fun b hb => in5 hb, st⟩
theorem turn_zipSL {P : Program} {w : World} {K : PySem.W.Frag} {elts : List Expr} {kk : Nat} {tpos : Pos} {z TI TO i1 i2 l : Addr} (D : ZApart z TI TO i1 i2) (h1 : z ≠ l) (h2 : TO ≠ l) (h3 : i1 ≠ l) (h4 : i2 ≠ l) (x : Str) (t : Tok) :
    Turn P w K (.Tuple elts kk tpos) (ItzSL K x l) [z, TI, TO, i1, i2] z (fun i h => IsZip h z TI TO .none ∧ IsTupOf2 h TI (.ref i1) (.ref i2) ∧ (∃ a1 a2, IsTupOf2 h TO a1 a2) ∧ h.IsStrIter i1 (strIterType x) x t i ∧ h.IsListIter i2 l i) := by
  refine turn_wt (by simp) (fun i h st c hc => ?_) (fun i h h' st k => ?_) (fun A i s Q E st h => ?_) (fun X hP hw hK hc i pins s σ H I st hg => ?_) (fun X hP hw hK hc i pins s σ H I st hg => ?_)
  · obtain ⟨hz, hTI, ⟨a1, a2, hTO⟩, ⟨o1, e1, _, d1⟩, ⟨o2, e2, _, d2⟩⟩ := st
    have e' : c = z ∨ c = TI ∨ c = TO ∨ c = i1 ∨ c = i2 := by simpa using hc
    rcases e' with q | q | q | q | q
    · rw [q]; exact ⟨_, hz, fun v q => nomatch q⟩
    · rw [q]; exact ⟨_, hTI, fun v q => nomatch q⟩
    · rw [q]; exact ⟨_, hTO, fun v q => nomatch q⟩
    · rw [q]; exact ⟨o1, e1, fun v q => by rw [d1] at q; cases q⟩
    · rw [q]; exact ⟨o2, e2, fun v q => by rw [d2] at q; cases q⟩
  · obtain ⟨hz, hTI, ⟨a1, a2, hTO⟩, ⟨o1, e1, r1⟩, h2⟩ := st
    exact ⟨k z (by simp) _ hz, k TI (by simp) _ hTI, ⟨a1, a2, k TO (by simp) _ hTO⟩, ⟨o1, k i1 (by simp) _ e1, r1⟩, h2.at fun o q => k i2 (by simp) o q⟩
  · exact wpAny_pyIter_zip st.1 h
  · subst hP hw hK
    obtain ⟨ys, hq, hi⟩ := hg
    obtain ⟨its, rv, p, hz⟩ := I.list hq
    have hl := rv.length
    refine ⟨_, _, _, _, _, _, WalksT.zipD2 (D.sepL h1 h2 h3) (Draws.text (A := X.A.in1) (I.ok.hd hc) i1 x t) (Draws.list (A := X.A.in1) (I.ok.hd hc) i2 l (Ne.symm h4) its.toArray), fun b hb => in5 hb, ?_, ⟨st.1, st.2.1, st.2.2.1, st.2.2.2.1, st.2.2.2.2, p.isList⟩,
      fun h q => ⟨q.1, q.2.1, q.2.2.1, q.2.2.2.1, q.2.2.2.2.1⟩, fun vals hp => ?_⟩
    · have e5 : its.toArray.size = ys.length := by simpa using hl.symm
      rw [e5]
      exact hi
    · obtain ⟨x1, x2, ⟨c, tc, hc1, rfl⟩, hx2, hv⟩ := hp
      have hi2 : i < ys.length := Nat.lt_of_lt_of_le hi (Nat.min_le_right _ _)
      obtain ⟨u2, hu2, ru2⟩ := rv.get (List.getElem?_eq_getElem hi2)
      have e2 : u2 = x2 := by
        have q : its.toArray[i]? = some x2 := hx2
        rw [List.getElem?_toArray, hu2] at q
        exact Option.some.inj q
      subst e2
      refine ⟨_, _, .str ⟨#[c]⟩, ys[i], hv, ⟨tc, rfl⟩, ru2, fun T hT => ⟨T, c, ys[i], rfl, hT, rfl, hc1, fun zs hzs => ?_⟩⟩
      rw [I.list_inj hzs hq]
      exact List.getElem?_eq_getElem hi2
  · subst hP hw hK
    obtain ⟨ys, hq, hi⟩ := hg
    obtain ⟨its, rv, p, hz⟩ := I.list hq
    have hl := rv.length
    have e5 : its.toArray.size = ys.length := by simpa using hl.symm
    have hg' : i = min x.cps.size its.toArray.size := by rw [e5]; exact hi
    rw [hg'] at st ⊢
    exact ⟨_, _, _, _, _, WalksT.zipD2 (D.sepL h1 h2 h3) (Draws.text (A := X.A.in1) (I.ok.hd hc) i1 x t) (Draws.list (A := X.A.in1) (I.ok.hd hc) i2 l (Ne.symm h4) its.toArray), fun b hb => in5 hb, ⟨st.1, st.2.1, st.2.2.1, st.2.2.2.1, st.2.2.2.2, p.isList⟩⟩
def iZipSS (ta : TA) : TI := fun σ H R => ta σ H fun vs H1 => ∃ x y, vs = [.str x, .str y] ∧ R (ItzSS x y) H1
def iZipSL (K : PySem.W.Frag) (ta : TA) : TI := fun σ H R => ta σ H fun vs H1 => ∃ x a ys, vs = [.str x, .ref a] ∧ SqL K H1 a ys ∧ R (ItzSL K x a) H1
theorem new5 {X : Cx} {pins : List (Addr × Obj)} {σ : L2.St} {H : Hp} {s : Shared} (I : Inv X pins σ H s) : ∀ c ∈ [s.heap.objs.size + 4, s.heap.objs.size + 2, s.heap.objs.size + 3, s.heap.objs.size, s.heap.objs.size + 1], FpOk X pins H c := fun c hcm => by
  have e' : c = s.heap.objs.size + 4 ∨ c = s.heap.objs.size + 2 ∨ c = s.heap.objs.size + 3 ∨ c = s.heap.objs.size ∨ c = s.heap.objs.size + 1 := by simpa using hcm
  have hle : s.heap.objs.size ≤ c := by
    rcases e' with z | z | z | z | z
    · rw [z]; exact Nat.le_add_right _ _
    · rw [z]; exact Nat.le_add_right _ _
    · rw [z]; exact Nat.le_add_right _ _
    · rw [z]; exact Nat.le_refl _
    · rw [z]; exact Nat.le_add_right _ _
  exact I.fpOk hle (I.hok.fresh hle)
theorem pi_zipSS {X : Cx} {e e2 : Expr} {ta : TA} {p pos tpos : Pos} {elts : List Expr} {kk : Nat} (hg : Gl X "zip") (hm : X.mg "zip" = none) (ha : PA X [e, e2] ta)
    (hs : starEach [e, e2] X.env = (false, eval e X.env) :: starEach [e2] X.env := by rfl) (hpl : (backTo pos (starEach [e2] X.env)).any (·.1) = false := by rfl) :
    PI X (.Tuple elts kk tpos) (.Call (.Name "zip" p) [e, e2] [] pos) (iZipSS ta) := by
  refine ⟨fun pins s σ H R I h => ?_⟩
  refine Call_ (ld_blt I hg hm PyProof.Rows.boot_zip (PyProof.Rows.callWith_type1 (thn (ha.run pos pins s σ H _ I h) fun us s1 ⟨vs, H1, I1, r1, q1⟩ => ?_) hs hpl))
  obtain ⟨x, y, ex, q⟩ := q1
  subst ex
  cases r1 with
  | cons r rr =>
    cases rr with
    | cons r' rr =>
      cases rr
      obtain ⟨t, rfl⟩ := r
      obtain ⟨u, rfl⟩ := r'
      refine zip_begins2 (begins_text x t) (begins_text y u) trivial trivial fun h' hz hTI hTO h1 h2 hsz hk => wpAny_pyIter_zip hz ?_
      have I2 : Inv X pins σ H1 { s1 with heap := h' } := I1.kept (t' := s1.toks) hk
      exact ⟨s1.heap.objs.size + 4, [s1.heap.objs.size + 4, s1.heap.objs.size + 2, s1.heap.objs.size + 3, s1.heap.objs.size, s1.heap.objs.size + 1], _, _, H1, rfl, I2, turn_zipSS (zapart_new _) x y t u, ⟨hz, hTI, ⟨_, _, hTO⟩, ⟨_, h1, rfl, rfl⟩, ⟨_, h2, rfl, rfl⟩⟩, new5 I1, q⟩
theorem pi_zipSL {X : Cx} {e e2 : Expr} {ta : TA} {p pos tpos : Pos} {elts : List Expr} {kk : Nat} (hg : Gl X "zip") (hm : X.mg "zip" = none) (ha : PA X [e, e2] ta)
    (hs : starEach [e, e2] X.env = (false, eval e X.env) :: starEach [e2] X.env := by rfl) (hpl : (backTo pos (starEach [e2] X.env)).any (·.1) = false := by rfl) :
    PI X (.Tuple elts kk tpos) (.Call (.Name "zip" p) [e, e2] [] pos) (iZipSL X.K ta) := by
  refine ⟨fun pins s σ H R I h => ?_⟩
  refine Call_ (ld_blt I hg hm PyProof.Rows.boot_zip (PyProof.Rows.callWith_type1 (thn (ha.run pos pins s σ H _ I h) fun us s1 ⟨vs, H1, I1, r1, q1⟩ => ?_) hs hpl))
  obtain ⟨x, a, ys, ex, hq, q⟩ := q1
  subst ex
  cases r1 with
  | cons r rr =>
    cases rr with
    | cons r' rr =>
      cases rr
      obtain ⟨t, rfl⟩ := r
      cases r'
      obtain ⟨its, rv, p1, _⟩ := I1.list hq
      have la : a < s1.heap.objs.size := p1.lt
      refine zip_begins2 (begins_text x t) (begins_list a its.toArray) trivial p1.isList fun h' hz hTI hTO h1 h2 hsz hk => wpAny_pyIter_zip hz ?_
      have I2 : Inv X pins σ H1 { s1 with heap := h' } := I1.kept (t' := s1.toks) hk
      have ne : ∀ k : Nat, s1.heap.objs.size + k ≠ a := fun k => Nat.ne_of_gt (Nat.lt_of_lt_of_le la (Nat.le_add_right _ _))
      exact ⟨s1.heap.objs.size + 4, [s1.heap.objs.size + 4, s1.heap.objs.size + 2, s1.heap.objs.size + 3, s1.heap.objs.size, s1.heap.objs.size + 1], _, _, H1, rfl, I2, turn_zipSL (zapart_new _) (ne 4) (ne 3) (ne 0) (ne 1) x t, ⟨hz, hTI, ⟨_, _, hTO⟩, ⟨_, h1, rfl, rfl⟩, ⟨_, h2, rfl, rfl⟩⟩, new5 I1, q⟩
theorem walk_zipSS {x y : Str} {n : Nat} (hn : n = min x.cps.size y.cps.size) : Walk (ItzSS x y) n (fun _ => True) (YPair (fun i => (x.cps[i]?).map fun c => V.str ⟨#[c]⟩) (fun i => (y.cps[i]?).map fun c => V.str ⟨#[c]⟩)) := by
  subst hn
  refine ⟨fun i _ hi _ => hi, fun _ _ => rfl, fun i H v H' _ _ y => ?_⟩
  obtain ⟨T, c, d, h1, h2, h3, h4, h5⟩ := y
  exact ⟨T, _, _, h1, h2, h3, by simp [h4], by simp [h5]⟩
theorem walk_zipSL {K : PySem.W.Frag} {x : Str} {a : Addr} {ys : List V} {n : Nat} (hn : n = min x.cps.size ys.length) : Walk (ItzSL K x a) n (fun H => SqL K H a ys) (YPair (fun i => (x.cps[i]?).map fun c => V.str ⟨#[c]⟩) (fun i => ys[i]?)) := by
  subst hn
  refine ⟨fun i _ hi q => ⟨ys, q, hi⟩, fun _ q => ⟨ys, q, rfl⟩, fun i H v H' _ q y => ?_⟩
  obtain ⟨T, c, d, h1, h2, h3, h4, h5⟩ := y
  exact ⟨T, _, _, h1, h2, h3, by simp [h4], h5 ys q⟩

/-! ### a chain of three -/
section
variable {X : Cx} {a b c d : Expr} {ta tb tc td : TE} {pos : Pos}
def tChain3 (r r' r'' : R2) (ta tb tc td : TE) : TE := fun σ H Q => ta σ H fun x H1 => tb σ H1 fun y H2 => r x y H2 fun z H3 => ∃ k, z = .bl k ∧
  (if k = true then tc σ H3 fun y' H4 => r' y y' H4 fun z' H5 => ∃ k', z' = .bl k' ∧ (if k' = true then td σ H5 fun w' H6 => r'' y' w' H6 Q else Q (.bl false) H5) else Q (.bl false) H3)
theorem pt_chain3 {op op' op'' : CmpOp} {r r' r'' : R2} (ho : OpR X (compareOp op) r) (ho' : OpR X (compareOp op') r') (ho'' : OpR X (compareOp op'') r'') (ha : PE X a ta) (hb : PE X b tb) (hc : PE X c tc) (hd : PE X d td)
    (hm : lastMarks [op, op', op''] [b, c, d] = false := by with_unfolding_all rfl) : PT X (.Compare a [op, op', op''] [b, c, d] pos) (tTest (tChain3 r r' r'' ta tb tc td)) := by
  refine ⟨fun pins s σ H Q I h => ?_⟩
  refine isTrue_chain (thn (ha.run pins s σ H _ I h) fun v s1 ⟨x, H1, I1, r1, q1⟩ => test_link (thn (hb.run pins s1 σ H1 _ I1 q1) fun u s2 ⟨y, H2, I2, r2, q2⟩ =>
    thn (ho pins s2 σ H2 x y v u _ I2 r1 r2 q2) fun d' s3 ⟨z, H3, I3, r3, k, e, q3⟩ => ?_)) hm
  subst e
  cases r3
  refine wpAny_truthy_bool ?_
  cases k with
  | false =>
    obtain ⟨k', e', q'⟩ := q3
    cases e'
    exact ite_ff ⟨H3, I3, q'⟩
  | true =>
    refine ite_tt (test_link (thn (hc.run pins s3 σ H3 _ I3 q3) fun u2 s4 ⟨y2, H4, I4, r4, q4⟩ => thn (ho' pins s4 σ H4 y y2 u u2 _ I4 r2 r4 q4) fun d2 s5 ⟨z2, H5, I5, r5, k2, e2, q5⟩ => ?_))
    subst e2
    cases r5
    refine wpAny_truthy_bool ?_
    cases k2 with
    | false =>
      obtain ⟨k', e', q'⟩ := q5
      cases e'
      exact ite_ff ⟨H5, I5, q'⟩
    | true =>
      refine ite_tt (test_last (thn (hd.run pins s5 σ H5 _ I5 q5) fun w' s6 ⟨z3, H6, I6, r6, q6⟩ => thn (ho'' pins s6 σ H6 y2 z3 u2 w' _ I6 r4 r6 q6) fun c2 s7 ⟨z4, H7, I7, r7, k7, e7, q7⟩ => ?_))
      subst e7
      cases r7
      exact wpAny_truthy_bool ⟨H7, I7, q7⟩
end
end HA

end
section
set_option maxRecDepth 100000
set_option maxHeartbeats 4000000
namespace HA
open PySem PySem.Spec PyProof.Rows L2 Evl

/-! ### text * int -/
def rMulS : R2 := fun x y H Q => ∃ (z : Str) (n : Int), x = .str z ∧ y = .int n ∧ MulOk z n ∧ Q (.str (Txt.mul z n)) H
theorem op_mulS {X : Cx} : OpR X (binaryOp .Mult) rMulS := by
  intro pins s σ H x y v u Q I rx ry h
  obtain ⟨z, n, rfl, rfl, ok, q⟩ := h
  obtain ⟨t, rfl⟩ := rx
  obtain ⟨t', rfl⟩ := ry
  exact SB.mul ok fun t2 k => ⟨.str (Txt.mul z n), H, I.tok _, ⟨_, rfl⟩, q⟩
theorem mulOk_small {z : Str} {n : Int} (hz : z.length ≤ 1000) (h0 : 0 ≤ n) (h1 : n ≤ 10000) : MulOk z n := by
  refine ⟨?_, fun _ _ => ?_, fun _ _ => ?_⟩
  · have a : ¬ n < -(2 ^ 63 : Int) := by omega
    have b : ¬ n ≥ 2 ^ 63 := by omega
    rw [decide_eq_false a, decide_eq_false b]
    rfl
  · have e : (0 : Int) < n ∨ n = 0 := by omega
    rcases e with e | e
    · have h2 : (1000 : Int) ≤ (2 ^ 63 - 1) / n := by
        apply Int.le_ediv_of_mul_le e
        have : (1000 : Int) * n ≤ 1000 * 10000 := by omega
        omega
      have h3 : (z.length : Int) ≤ 1000 := by omega
      omega
    · omega
  · have h2 : n.toNat ≤ 10000 := by omega
    have h3 : z.length * n.toNat ≤ 1000 * 10000 := Nat.mul_le_mul hz h2
    have e : sizeLine = 16777216 := by decide
    show decide (z.length * n.toNat > sizeLine) = false
    rw [decide_eq_false]
    omega

/-! ### an instance of a class without __init__ -/
structure Mk0 (K : PySem.W.Frag) (C : Addr) : Prop where
  makes : PySem.W.makesIn K C = true
  init : PySem.W.findIn K (.ref C) "__init__" = some (some (.builtin "object.__init__"))
  kp : PySem.W.keepIn K (.ref C) = true
def tMake0 (C : Addr) : TE := fun σ H Q => ∀ x dx, H x = none → H dx = none → dx ≠ x → Q (.ref x) (upd (upd H dx (.own x)) x (.ins C dx []))
open PySem.W in
theorem run_make0 {X : Cx} {C : Addr} {pins : List (Addr × Obj)} {σ : L2.St} {H : Hp} {s : Shared} {Q : VK} (M : Mk0 X.K C) (I : L2.Inv X pins σ H s)
    (h : ∀ x dx, H x = none → H dx = none → dx ≠ x → Q (.ref x) (upd (upd H dx (.own x)) x (.ins C dx []))) : wpAny (model X.prog X.w) X.A (call (.ref C) []) (EP X pins σ Q) X.xe s := by
  have hq := h (s.heap.objs.size + 1) s.heap.objs.size (I.hok.fresh (Nat.le_succ _)) (I.hok.fresh (Nat.le_refl _)) (Nat.ne_of_lt (Nat.lt_succ_self _))
  have I2 := L2.Inv.made (C := C) I
  have hin : X.K.In s.heap := I.kIn
  refine wpAny_call ?_
  obtain ⟨hh, g, d, t, os⟩ := s
  have Y := makes_of (M := model X.prog X.w) hin M.makes
  refine make_core Y (looks_findIn hin M.init) (fun self => Looks.of_pure (oi_bind self)) (.inr ⟨rfl, rfl⟩) ?_
  have e2 : ((hh.push emptyDict).push (instObj C hh.objs.size)).get? (hh.objs.size + 1) = some (instObj C hh.objs.size) := by
    have := Heap.get?_push_size (hh.push emptyDict) (o := instObj C hh.objs.size) rfl
    rwa [Heap.size_push] at this
  have t1 : Looks (model X.prog X.w) ((hh.push emptyDict).push (instObj C hh.objs.size)) (typeOf (.ref (hh.objs.size + 1))) (.ref C) := (Looks.ld e2).andThen .now
  have t2 : Looks (model X.prog X.w) ((hh.push emptyDict).push (instObj C hh.objs.size)) (isInstance (.ref (hh.objs.size + 1)) (.type "object")) true := t1.andThen (Y.top.keeps fun b o e => Heap.get?_push_of_some _ (Heap.get?_push_of_some _ e))
  refine codeAny_call_builtin oi_plain entry_oi (@check_slot (model X.prog X.w) _ _ _ "object.__init__" "object" "__init__" (.ref (hh.objs.size + 1)) [] [] _ oi_kind oi_split t2 (oi_args (.ref (hh.objs.size + 1))) ?_)
  rw [oi_run]
  exact wpAny_pure (And.intro rfl ⟨V.ref (hh.objs.size + 1), _, I2, rfl, hq⟩)
theorem pe_makeO {X : Cx} {C : Addr} {x : Str} {p pos : Pos} (M : Mk0 X.K C) (hg : Gl X x) (hm : X.mg x = some (.ref C)) (hdb : (x == ("__debug__" : Str)) = false := by decide) : PE X (.Call (.Name x p) [] [] pos) (tMake0 C) := by
  refine ⟨fun pins s σ H Q I h => ?_⟩
  refine wpAny_Call_Name_kw (ld_glob I hg hm ?_ hdb)
  exact PySem.W.callWith_K0 I.kIn M.kp (run_make0 M I h)
end HA

end
section
set_option maxRecDepth 100000
set_option maxHeartbeats 4000000
namespace HA
open PySem PySem.Spec PyProof.Rows L2 Evl

/-! ### rows and tables of signs -/
def cp (b : Bool) : Nat := if b = true then 43 else 45
def sgS (b : Bool) : Str := ⟨#[cp b]⟩
def rowS (n : Nat) (g : Nat → Bool) : Str := ⟨((List.range n).map fun j => cp (g j)).toArray⟩
def tabV (n : Nat) (f : Nat → Nat → Bool) : List V := (List.range n).map fun i => V.str (rowS n (f i))
theorem cp_inj {a b : Bool} (h : cp a = cp b) : a = b := by
  cases a <;> cases b <;> first | rfl | exact absurd h (by decide)
theorem sg_plus : (Str.ofString "+") = sgS true := by decide +kernel
theorem sg_minus : (Str.ofString "-") = sgS false := by decide +kernel
theorem sgS_inj {a b : Bool} (h : sgS a = sgS b) : a = b := by
  have e : (sgS a).cps.toList = (sgS b).cps.toList := by rw [h]
  exact cp_inj (List.cons.inj e).1
theorem sgS_dec (a b : Bool) : decide (V.str (sgS a) = V.str (sgS b)) = (a == b) := by
  cases a <;> cases b <;> decide +kernel
theorem rowS_len (n : Nat) (g : Nat → Bool) : (rowS n g).length = n := by
  show ((List.range n).map fun j => cp (g j)).toArray.size = n
  simp
theorem rowS_size (n : Nat) (g : Nat → Bool) : (rowS n g).cps.size = n := rowS_len n g
theorem rowS_get {n : Nat} {g : Nat → Bool} {j : Nat} (h : j < n) : (rowS n g).cps[j]? = some (cp (g j)) := by
  show (((List.range n).map fun j => cp (g j)).toArray)[j]? = some (cp (g j))
  simp [h]
theorem rowS_getL {n : Nat} {g : Nat → Bool} {j : Nat} (h : j < n) : (rowS n g).cps.toList[j]? = some (cp (g j)) := by
  show (((List.range n).map fun j => cp (g j)).toArray).toList[j]? = some (cp (g j))
  simp [h]
theorem rowS_ext {n : Nat} {g h : Nat → Bool} (e : ∀ j, j < n → g j = h j) : rowS n g = rowS n h := by
  have q : ((List.range n).map fun j => cp (g j)) = ((List.range n).map fun j => cp (h j)) := List.map_congr_left fun j hj => by rw [e j (List.mem_range.mp hj)]
  unfold rowS
  rw [q]
theorem rowS_inj {n : Nat} {g h : Nat → Bool} (e : rowS n g = rowS n h) : ∀ j, j < n → g j = h j := fun j hj => by
  have a := rowS_get (g := g) hj
  rw [e, rowS_get hj] at a
  exact (cp_inj (Option.some.inj a)).symm
theorem tabV_len (n : Nat) (f : Nat → Nat → Bool) : (tabV n f).length = n := by
  unfold tabV
  rw [List.length_map, List.length_range]
theorem tabV_get {n : Nat} {f : Nat → Nat → Bool} {i : Nat} (h : i < n) : (tabV n f)[i]? = some (V.str (rowS n (f i))) := by
  unfold tabV
  rw [List.getElem?_map, List.getElem?_range h]
  rfl
theorem tabV_some {n : Nat} {f : Nat → Nat → Bool} {i : Nat} {x : V} (h : (tabV n f)[i]? = some x) : i < n ∧ x = V.str (rowS n (f i)) := by
  have hi : i < n := by
    have q := (List.getElem?_eq_some_iff.mp h).1
    rwa [tabV_len] at q
  rw [tabV_get hi] at h
  exact ⟨hi, (Option.some.inj h).symm⟩
theorem tabV_ext {n : Nat} {f g : Nat → Nat → Bool} (e : ∀ i, i < n → ∀ j, j < n → f i j = g i j) : tabV n f = tabV n g :=
  List.map_congr_left fun i hi => by rw [rowS_ext (e i (List.mem_range.mp hi))]
theorem tabV_at {n : Nat} {f : Nat → Nat → Bool} {i : Nat} (h : i < n) : atI (tabV n f) (i : Int) = some (V.str (rowS n (f i))) := atI_nat (tabV_get h)

/-! ### joins -/
theorem app_cps (a b : Str) : (a ++ b : Str).cps = a.cps ++ b.cps := rfl
theorem join_nil_toList : ∀ ys : List Str, (Str.join ⟨#[]⟩ ys).cps.toList = (ys.map fun y => y.cps.toList).flatten
  | [] => rfl
  | [x] => by simp [Str.join]
  | x :: y :: r => by
    have ih := join_nil_toList (y :: r)
    show ((x ++ (⟨#[]⟩ : Str) ++ Str.join ⟨#[]⟩ (y :: r) : Str)).cps.toList = _
    rw [app_cps, app_cps, Array.toList_append, ih]
    simp
theorem str_ext {a b : Str} (h : a.cps.toList = b.cps.toList) : a = b := by
  obtain ⟨a⟩ := a
  obtain ⟨b⟩ := b
  have e : a = b := Array.toList_inj.mp h
  rw [e]
theorem join_toList (ys : List Str) : (Txt.join ⟨#[]⟩ ys).cps.toList = (ys.map fun y => y.cps.toList).flatten := by
  unfold Txt.join
  rw [PySem.StrLaws.glued_eq_join]
  exact join_nil_toList ys
theorem flat_one : ∀ (l : List Nat) (g : Nat → Nat), ((l.map fun j => [g j])).flatten = l.map g
  | [], _ => rfl
  | a :: l, g => by
    show [g a] ++ ((l.map fun j => [g j])).flatten = g a :: l.map g
    rw [flat_one l g]
    rfl
theorem join_row (n : Nat) (g : Nat → Bool) : Txt.join ⟨#[]⟩ ((List.range n).map fun j => sgS (g j)) = rowS n g := by
  apply str_ext
  rw [join_toList, List.map_map]
  exact flat_one (List.range n) fun j => cp (g j)
theorem sum_ones : ∀ l : List Nat, (∀ x ∈ l, x = 1) → l.sum = l.length
  | [], _ => rfl
  | a :: l, h => by
    rw [List.sum_cons, List.length_cons, h a (List.mem_cons_self ..), sum_ones l fun x hx => h x (List.mem_cons_of_mem _ hx)]
    omega

/-! ### what evaluates to what, more -/
section
variable {K : PySem.W.Frag} {σ : L2.St} {H H' : Hp} {ta tb te tx : TE} {t u : TT} {x y z v : V} {r : R2}
/-- a value of which R is known -/
def EvR (te : TE) (σ : L2.St) (H : Hp) (R : V → Hp → Prop) : Prop := ∀ H1, Ex H H1 → ∀ Q : VK, (∀ v H2, Ex H1 H2 → R v H2 → Q v H2) → te σ H1 Q
theorem EvR.mono {R : V → Hp → Prop} (e : Ex H H') (h : EvR te σ H R) : EvR te σ H' R := fun H1 a Q q => h H1 (e.trans a) Q q
theorem EvL.evR {xs : List V} (h : EvL te σ H xs) : EvR te σ H (fun v H2 => ∃ p, v = .ref p ∧ H2 p = some (.lst xs)) := fun H1 e Q q => h H1 e Q fun p H2 _ e2 h2 => q _ H2 e2 ⟨p, rfl, h2⟩
theorem ev_lenS {w : Str} (ha : Ev ta σ H (.str w)) (hw : w.length ≤ 100000) :
    Ev (tCB (fun xs H Q => ∃ z, xs = [.str z] ∧ z.length ≤ sizeLine ∧ Q (.int z.length) H) (tCons ta tNil)) σ H (.int (w.length : Int)) := fun H1 e Q q =>
  ha H1 e _ fun H2 e2 => ⟨w, rfl, sz_of hw, q H2 e2⟩
theorem ev_allN {bs : List Bool} (h : EvL ta σ H (bs.map V.bl)) : Ev (tCB (rAll K) (tCons ta tNil)) σ H (.bl (bs.all id)) := fun H1 e Q q =>
  h H1 e _ fun p H2 _ e2 h2 => ⟨p, bs, rfl, sq_of h2, q H2 e2⟩
theorem ev_anyN {bs : List Bool} (h : EvL ta σ H (bs.map V.bl)) : Ev (tCB (rAny K) (tCons ta tNil)) σ H (.bl (bs.any id)) := fun H1 e Q q =>
  h H1 e _ fun p H2 _ e2 h2 => ⟨p, bs, rfl, sq_of h2, q H2 e2⟩
theorem ev_sumN {ns : List Int} (h : EvL ta σ H (ns.map V.int)) : Ev (tCB (rSum K) (tCons ta tNil)) σ H (.int ns.sum) := fun H1 e Q q =>
  h H1 e _ fun p H2 _ e2 h2 => ⟨p, ns, rfl, sq_of h2, q H2 e2⟩
theorem ev_sum {a : Addr} {ns : List Int} (h : Ev ta σ H (.ref a)) (hs : SqL K H a (ns.map V.int)) : Ev (tCB (rSum K) (tCons ta tNil)) σ H (.int ns.sum) := fun H1 e Q q =>
  h H1 e _ fun H2 e2 => ⟨a, ns, rfl, ex_l (e.trans e2) hs, q H2 e2⟩
def rJoin (K : PySem.W.Frag) : V → List V → Hp → VK → Prop := fun x xs H Q => ∃ a p, ∃ ys : List Str, x = .str a ∧ xs = [.ref p] ∧ (SqL K H p (ys.map V.str) ∨ SqT K H p (ys.map V.str)) ∧ (ys.map (·.length)).sum + ys.length * a.length ≤ 16777216 ∧ Q (.str (Txt.join a ys)) H
/-- ''.join([..]) of single signs -/
theorem ev_joinN {ys : List Str} (h : EvL te σ H (ys.map V.str)) (hz : (ys.map (·.length)).sum ≤ 100000) : Ev (tM1 (rJoin K) (tC (.str (Str.ofString ""))) te) σ H (.str (Txt.join ⟨#[]⟩ ys)) := fun H1 e Q q => by
  refine ⟨⟨_, rfl⟩, h H1 e _ fun p H2 _ e2 h2 => ⟨_, p, ys, rfl, rfl, .inl (sq_of h2), ?_, ?_⟩⟩
  · have e0 : (Str.ofString "").length = 0 := by decide +kernel
    rw [e0, Nat.mul_zero]
    omega
  · have e0 : (Str.ofString "") = ⟨#[]⟩ := by decide +kernel
    rw [e0]
    exact q H2 e2
theorem ev_joinRow {n : Nat} {g : Nat → Bool} (h : EvL te σ H ((List.range n).map fun j => V.str (sgS (g j)))) (hz : n ≤ 100000) : Ev (tM1 (rJoin K) (tC (.str (Str.ofString ""))) te) σ H (.str (rowS n g)) := by
  have e : ((List.range n).map fun j => V.str (sgS (g j))) = ((List.range n).map fun j => sgS (g j)).map V.str := by rw [List.map_map]; rfl
  rw [e] at h
  have q := ev_joinN (K := K) h (by
    rw [List.map_map, sum_ones]
    · rw [List.length_map, List.length_range]
      exact hz
    · intro x hx
      obtain ⟨a, _, rfl⟩ := List.mem_map.mp hx
      rfl)
  rw [join_row] at q
  exact q
/-- an item of a text -/
theorem ev_itS {n : Nat} {g : Nat → Bool} {j : Nat} (ha : Ev ta σ H (.str (rowS n g))) (hb : Ev tb σ H (.int (j : Int))) (hj : j < n) (hn : n ≤ 100000) : Ev (tOp rIxS ta tb) σ H (.str (sgS (g j))) :=
  ev_op ha hb (rv_ixS (by rw [rowS_len]; exact hn) (atI_nat (rowS_getL hj)))
theorem ev_itL {p : Addr} {xs : List V} {i : Nat} (ha : Ev ta σ H (.ref p)) (hb : Ev tb σ H (.int (i : Int))) (h : SqL K H p xs) (hx : xs[i]? = some v) : Ev (tOp (rIxL K) ta tb) σ H v :=
  ev_op ha hb (rv_ixL h (atI_nat hx))
theorem ev_itT {p : Addr} {n : Nat} {f : Nat → Nat → Bool} {i : Nat} (ha : Ev ta σ H (.ref p)) (hb : Ev tb σ H (.int (i : Int))) (h : SqL K H p (tabV n f)) (hi : i < n) : Ev (tOp (rIxL K) ta tb) σ H (.str (rowS n (f i))) := ev_itL ha hb h (tabV_get hi)
theorem ev_itU {xs : List V} {i : Nat} (ha : EvU ta σ H xs) (hb : Ev tb σ H (.int (i : Int))) (hx : xs[i]? = some v) : Ev (tOp (rIxT K) ta tb) σ H v := fun H1 e Q q =>
  ha H1 e _ fun p H2 _ e2 h2 => hb H2 (e.trans e2) _ fun H3 e3 => ⟨p, xs, (i : Int), v, rfl, rfl, st_of (e3 p _ h2), atI_nat hx, q H3 (e2.trans e3)⟩
theorem rv_addS {a b : Str} (h : a.length + b.length ≤ 100000) : RV (fun x y H Q => ∃ i j, x = V.str i ∧ y = V.str j ∧ i.length + j.length ≤ sizeLine ∧ Q (V.str (i ++ j)) H) (.str a) (.str b) H (.str (a ++ b)) := fun H1 _ _ q => ⟨a, b, rfl, rfl, sz_of h, q H1 (Ex.refl H1)⟩
theorem rv_mulS {a : Str} {n : Int} (h : MulOk a n) : RV rMulS (.str a) (.int n) H (.str (Txt.mul a n)) := fun H1 _ _ q => ⟨a, n, rfl, rfl, h, q H1 (Ex.refl H1)⟩
theorem ev_slS {w : Str} {tl th : TO} {lo hi : Option Int} (h : Ev te σ H (.str w)) (h1 : EvO tl σ H lo) (h2 : EvO th σ H hi) (hw : w.length ≤ 100000) : Ev (tSl rSlS te tl th) σ H (.str (cutS w lo hi)) := fun H1 e _ q =>
  h H1 e _ fun H2 e2 => h1 H2 (e.trans e2) _ fun H3 e3 => h2 H3 ((e.trans e2).trans e3) _ fun H4 e4 => ⟨w, rfl, sz_of hw, q H4 ((e2.trans e3).trans e4)⟩

/-! ### comprehensions over any walk -/
theorem lcW {J : It} {n : Nat} {G : Hp → Prop} {Y : Nat → Hp → V → Hp → Prop} (w : Walk J n G Y) {g : TG} {vs : List Nat} {H1 : Hp} (hn : n ≤ 40000) (hG : ∀ H', Ex H1 H' → G H') (f : Nat → Bool) (v : Nat → V) (σt : Nat → L2.St)
    (hg : ∀ i x H H', i < n → Ex H1 H → Y i H x H' → Ex H H' ∧ ∀ k : L2.St → Hp → Prop, k (σt i) H' → g x (wipe σ vs) H' k) (hw : ∀ i, i < n → wipe (σt i) vs = wipe σ vs)
    (ht : ∀ i, i < n → EvT t (σt i) H1 (f i)) (he : ∀ i, i < n → f i = true → Ev te (σt i) H1 (v i)) {Q : VK} (q : ∀ p H2, H1 p = none → Ex H1 H2 → H2 p = some (.lst (given n f v)) → Q (.ref p) H2) :
    ∀ D, H1 D = none → ∃ W : Nat → Nat → Hp → Prop, (∃ m, W 0 m (upd H1 D (.lst []))) ∧ ∀ i m H, W i m H →
      (J.stop i H ∧ Q (.ref D) H) ∨ (J.go i H ∧ ∃ Nx : Hp → Prop, (∀ H', Nx H' → ∃ m', m' < m ∧ W (i + 1) m' H') ∧ ∀ x H', J.yld i H x H' → g x (wipe σ vs) H' fun σ2 H2 => wipe σ2 vs = wipe σ vs ∧ t σ2 H2 fun b H3 =>
        if b = true then te σ2 H3 fun y H4 => ∃ acc, H4 D = some (.lst acc) ∧ acc.length < sizeLine ∧ Nx (upd H4 D (.lst (acc ++ [y]))) else Nx H3) := fun D hD =>
  lc_it w (Cw H1 f v D) ⟨hD, Ex.new hD, upd_same⟩ (fun i H' _ p => hG H' p.2.1) (fun i x H H' hi p y => by
    obtain ⟨e1, k⟩ := hg i x H H' hi p.2.1 y
    exact k _ ⟨hw i hi, cw_turn ⟨p.1, p.2.1.trans e1, e1 D _ p.2.2⟩ (by omega) (ht i hi) (he i hi)⟩) (fun H' p => q D H' p.1 p.2.1 p.2.2)
/-- a name takes the item -/
theorem hg_name {n : Nat} {H1 : Hp} {j : Nat} {vs : List Nat} (xs : Nat → V) (i : Nat) (x : V) (H H' : Hp) (hi : i < n) (e : Ex H1 H) (y : H' = H ∧ x = xs i) : Ex H H' ∧ ∀ k : L2.St → Hp → Prop, k ((wipe σ vs).set j (some (xs i))) H' → gName j x (wipe σ vs) H' k := by
  obtain ⟨rfl, rfl⟩ := y
  exact ⟨Ex.refl _, fun k h => h⟩
/-- two names take the pair -/
theorem hg_pair {n : Nat} {H1 : Hp} {j l : Nat} {vs : List Nat} (xs ys : Nat → V) {fx fy : Nat → Option V} (hx : ∀ i, i < n → fx i = some (xs i)) (hy : ∀ i, i < n → fy i = some (ys i)) (i : Nat) (x : V) (H H' : Hp) (hi : i < n) (e : Ex H1 H) (y : YPair fx fy i H x H') :
    Ex H H' ∧ ∀ k : L2.St → Hp → Prop, k (((wipe σ vs).set j (some (xs i))).set l (some (ys i))) H' → gTup K 2 (gCons (gName j) (gCons (gName l) gNil)) x (wipe σ vs) H' k := by
  obtain ⟨T, a, b, rfl, hT, rfl, ha, hb⟩ := y
  rw [hx i hi] at ha
  rw [hy i hi] at hb
  cases ha
  cases hb
  exact ⟨Ex.new hT, fun k h => ⟨T, _, rfl, st_of upd_same, rfl, _, _, rfl, _, _, rfl, rfl, h⟩⟩
/-- [.. for c in text] -/
theorem el_lcS {w : Str} {n : Nat} {c : Nat → Nat} {tl : TE} {j : Nat} {vs : List Nat} (f : Nat → Bool) (v : Nat → V) (h : Ev tl σ H (.str w)) (hsz : w.cps.size = n) (hc : ∀ i, i < n → w.cps[i]? = some (c i)) (hn : n ≤ 40000)
    (hw : ∀ x, wipe ((wipe σ vs).set j (some x)) vs = wipe σ vs) (ht : ∀ i H1, Ex H H1 → i < n → EvT t ((wipe σ vs).set j (some (.str ⟨#[c i]⟩))) H1 (f i)) (he : ∀ i H1, Ex H H1 → i < n → f i = true → Ev te ((wipe σ vs).set j (some (.str ⟨#[c i]⟩))) H1 (v i)) :
    EvL (tLc (iStr tl) (gName j) t te vs) σ H (given n f v) := fun H0 e Q q => h H0 e _ fun H1 e1 => ⟨w, rfl, by
  subst hsz
  exact lcW (walk_str (z := w)) hn (fun _ _ => trivial) f v (fun i => (wipe σ vs).set j (some (.str ⟨#[c i]⟩))) (fun i x H H' hi ex y => by
    obtain ⟨rfl, d, hd, rfl⟩ := y
    rw [hc i hi] at hd
    cases hd
    exact ⟨Ex.refl _, fun k h => h⟩) (fun i _ => hw _) (fun i hi => ht i H1 (e.trans e1) hi) (fun i hi => he i H1 (e.trans e1) hi) fun p H2 hp e2 h2 => q p H2 (fresh_back e1 hp) (e1.trans e2) h2⟩
/-- [.. for i in range(a, b)] -/
theorem el_lcR2 {ta : TA} {j : Nat} {vs : List Nat} {lo hi : Int} {n : Nat} (f : Nat → Bool) (v : Nat → V) (h : EvA ta σ H [.int lo, .int hi]) (hb : -100000 ≤ lo ∧ lo ≤ 100000 ∧ -100000 ≤ hi ∧ hi ≤ 100000) (hn : (hi - lo).toNat = n) (hz : n ≤ 40000)
    (hw : ∀ x, wipe ((wipe σ vs).set j (some x)) vs = wipe σ vs) (ht : ∀ i H1, Ex H H1 → i < n → EvT t ((wipe σ vs).set j (some (.int (lo + (i : Nat))))) H1 (f i)) (he : ∀ i H1, Ex H H1 → i < n → f i = true → Ev te ((wipe σ vs).set j (some (.int (lo + (i : Nat))))) H1 (v i)) :
    EvL (tLc (iRng2 ta) (gName j) t te vs) σ H (given n f v) := fun H0 e Q q => h H0 e _ fun H1 e1 => ⟨lo, hi, rfl, ⟨by omega, by omega, by omega, by omega⟩, by
  subst hn
  exact lcW (walk_range (lo := lo)) hz (fun _ _ => trivial) f v (fun i => (wipe σ vs).set j (some (.int (lo + (i : Nat))))) (fun i x H H' hi' ex y => hg_name (n := (hi - lo).toNat + i + 1) (fun i => .int (lo + (i : Nat))) i x H H' (by omega) ex y)
    (fun i _ => hw _) (fun i hi => ht i H1 (e.trans e1) hi) (fun i hi => he i H1 (e.trans e1) hi) fun p H2 hp e2 h2 => q p H2 (fresh_back e1 hp) (e1.trans e2) h2⟩
/-- [.. for i, c in enumerate(text)] -/
theorem el_lcES {w : Str} {n : Nat} {c : Nat → Nat} {ta : TA} {j l : Nat} {vs : List Nat} (f : Nat → Bool) (v : Nat → V) (h : EvA ta σ H [.str w]) (hsz : w.cps.size = n) (hc : ∀ i, i < n → w.cps[i]? = some (c i)) (hn : n ≤ 40000)
    (hw : ∀ x y, wipe (((wipe σ vs).set j (some x)).set l (some y)) vs = wipe σ vs) (ht : ∀ i H1, Ex H H1 → i < n → EvT t (((wipe σ vs).set j (some (.int (i : Nat)))).set l (some (.str ⟨#[c i]⟩))) H1 (f i))
    (he : ∀ i H1, Ex H H1 → i < n → f i = true → Ev te (((wipe σ vs).set j (some (.int (i : Nat)))).set l (some (.str ⟨#[c i]⟩))) H1 (v i)) :
    EvL (tLc (iEnumS ta) (gTup K 2 (gCons (gName j) (gCons (gName l) gNil))) t te vs) σ H (given n f v) := fun H0 e Q q => h H0 e _ fun H1 e1 => ⟨w, rfl, by
  subst hsz
  exact lcW (walk_enumS (x := w)) hn (fun _ _ => trivial) f v (fun i => ((wipe σ vs).set j (some (.int (i : Nat)))).set l (some (.str ⟨#[c i]⟩))) (fun i x H H' hi ex y =>
    hg_pair (fun i => .int (i : Nat)) (fun i => .str ⟨#[c i]⟩) (n := w.cps.size) (fun i _ => rfl) (fun i hi => by rw [hc i hi]; rfl) i x H H' hi ex y)
    (fun i _ => hw _ _) (fun i hi => ht i H1 (e.trans e1) hi) (fun i hi => he i H1 (e.trans e1) hi) fun p H2 hp e2 h2 => q p H2 (fresh_back e1 hp) (e1.trans e2) h2⟩
/-- [.. for a, b in zip(text, text)] -/
theorem el_lcZSS {w w' : Str} {n : Nat} {c c' : Nat → Nat} {ta : TA} {j l : Nat} {vs : List Nat} (f : Nat → Bool) (v : Nat → V) (h : EvA ta σ H [.str w, .str w']) (hsz : min w.cps.size w'.cps.size = n) (hc : ∀ i, i < n → w.cps[i]? = some (c i)) (hc' : ∀ i, i < n → w'.cps[i]? = some (c' i)) (hn : n ≤ 40000)
    (hw : ∀ x y, wipe (((wipe σ vs).set j (some x)).set l (some y)) vs = wipe σ vs) (ht : ∀ i H1, Ex H H1 → i < n → EvT t (((wipe σ vs).set j (some (.str ⟨#[c i]⟩))).set l (some (.str ⟨#[c' i]⟩))) H1 (f i))
    (he : ∀ i H1, Ex H H1 → i < n → f i = true → Ev te (((wipe σ vs).set j (some (.str ⟨#[c i]⟩))).set l (some (.str ⟨#[c' i]⟩))) H1 (v i)) :
    EvL (tLc (iZipSS ta) (gTup K 2 (gCons (gName j) (gCons (gName l) gNil))) t te vs) σ H (given n f v) := fun H0 e Q q => h H0 e _ fun H1 e1 => ⟨w, w', rfl,
  lcW (walk_zipSS (x := w) (y := w') hsz.symm) hn (fun _ _ => trivial) f v (fun i => ((wipe σ vs).set j (some (.str ⟨#[c i]⟩))).set l (some (.str ⟨#[c' i]⟩))) (fun i x H H' hi ex y =>
    hg_pair (fun i => .str ⟨#[c i]⟩) (fun i => .str ⟨#[c' i]⟩) (n := n) (fun i hi => by rw [hc i hi]; rfl) (fun i hi => by rw [hc' i hi]; rfl) i x H H' hi ex y)
    (fun i _ => hw _ _) (fun i hi => ht i H1 (e.trans e1) hi) (fun i hi => he i H1 (e.trans e1) hi) fun p H2 hp e2 h2 => q p H2 (fresh_back e1 hp) (e1.trans e2) h2⟩
/-- [.. for a, b in zip(text, list)] -/
theorem el_lcZSL {w : Str} {a : Addr} {ys : List V} {n : Nat} {c : Nat → Nat} {d : Nat → V} {ta : TA} {j l : Nat} {vs : List Nat} (f : Nat → Bool) (v : Nat → V) (h : EvA ta σ H [.str w, .ref a]) (hq : SqL K H a ys) (hsz : min w.cps.size ys.length = n) (hc : ∀ i, i < n → w.cps[i]? = some (c i)) (hd : ∀ i, i < n → ys[i]? = some (d i)) (hn : n ≤ 40000)
    (hw : ∀ x y, wipe (((wipe σ vs).set j (some x)).set l (some y)) vs = wipe σ vs) (ht : ∀ i H1, Ex H H1 → i < n → EvT t (((wipe σ vs).set j (some (.str ⟨#[c i]⟩))).set l (some (d i))) H1 (f i))
    (he : ∀ i H1, Ex H H1 → i < n → f i = true → Ev te (((wipe σ vs).set j (some (.str ⟨#[c i]⟩))).set l (some (d i))) H1 (v i)) :
    EvL (tLc (iZipSL K ta) (gTup K 2 (gCons (gName j) (gCons (gName l) gNil))) t te vs) σ H (given n f v) := fun H0 e Q q => h H0 e _ fun H1 e1 => ⟨w, a, ys, rfl, ex_l (e.trans e1) hq,
  lcW (walk_zipSL (x := w) (a := a) (ys := ys) hsz.symm) hn (fun H' e' => ex_l ((e.trans e1).trans e') hq) f v (fun i => ((wipe σ vs).set j (some (.str ⟨#[c i]⟩))).set l (some (d i))) (fun i x H H' hi ex y =>
    hg_pair (fun i => .str ⟨#[c i]⟩) d (n := n) (fun i hi => by rw [hc i hi]; rfl) (fun i hi => hd i hi) i x H H' hi ex y)
    (fun i _ => hw _ _) (fun i hi => ht i H1 (e.trans e1) hi) (fun i hi => he i H1 (e.trans e1) hi) fun p H2 hp e2 h2 => q p H2 (fresh_back e1 hp) (e1.trans e2) h2⟩
/-- [.. for a, b in zip(list, list)] -/
theorem el_lcZLL {b a : Addr} {xs ys : List V} {n : Nat} {c d : Nat → V} {ta : TA} {j l : Nat} {vs : List Nat} (f : Nat → Bool) (v : Nat → V) (h : EvA ta σ H [.ref b, .ref a]) (hp : SqL K H b xs) (hq : SqL K H a ys) (hsz : min xs.length ys.length = n) (hc : ∀ i, i < n → xs[i]? = some (c i)) (hd : ∀ i, i < n → ys[i]? = some (d i)) (hn : n ≤ 40000)
    (hw : ∀ x y, wipe (((wipe σ vs).set j (some x)).set l (some y)) vs = wipe σ vs) (ht : ∀ i H1, Ex H H1 → i < n → EvT t (((wipe σ vs).set j (some (c i))).set l (some (d i))) H1 (f i))
    (he : ∀ i H1, Ex H H1 → i < n → f i = true → Ev te (((wipe σ vs).set j (some (c i))).set l (some (d i))) H1 (v i)) :
    EvL (tLc (iZip K ta) (gTup K 2 (gCons (gName j) (gCons (gName l) gNil))) t te vs) σ H (given n f v) := fun H0 e Q q => h H0 e _ fun H1 e1 => ⟨b, a, xs, ys, rfl, ex_l (e.trans e1) hp, ex_l (e.trans e1) hq,
  lcW (walk_zip (a := b) (b := a) (xs := xs) (ys := ys) hsz.symm) hn (fun H' e' => ⟨ex_l ((e.trans e1).trans e') hp, ex_l ((e.trans e1).trans e') hq⟩) f v (fun i => ((wipe σ vs).set j (some (c i))).set l (some (d i))) (fun i x H H' hi ex y =>
    hg_pair c d (n := n) hc hd i x H H' hi ex y)
    (fun i _ => hw _ _) (fun i hi => ht i H1 (e.trans e1) hi) (fun i hi => he i H1 (e.trans e1) hi) fun p H2 hp e2 h2 => q p H2 (fresh_back e1 hp) (e1.trans e2) h2⟩
/-- [.. for i, x in enumerate(list)] -/
theorem el_lcEL {a : Addr} {xs : List V} {n : Nat} {d : Nat → V} {ta : TA} {j l : Nat} {vs : List Nat} (f : Nat → Bool) (v : Nat → V) (h : EvA ta σ H [.ref a]) (hq : SqL K H a xs) (hsz : xs.length = n) (hd : ∀ i, i < n → xs[i]? = some (d i)) (hn : n ≤ 40000)
    (hw : ∀ x y, wipe (((wipe σ vs).set j (some x)).set l (some y)) vs = wipe σ vs) (ht : ∀ i H1, Ex H H1 → i < n → EvT t (((wipe σ vs).set j (some (.int (i : Nat)))).set l (some (d i))) H1 (f i))
    (he : ∀ i H1, Ex H H1 → i < n → f i = true → Ev te (((wipe σ vs).set j (some (.int (i : Nat)))).set l (some (d i))) H1 (v i)) :
    EvL (tLc (iEnum K ta) (gTup K 2 (gCons (gName j) (gCons (gName l) gNil))) t te vs) σ H (given n f v) := fun H0 e Q q => h H0 e _ fun H1 e1 => ⟨a, xs, rfl, ex_l (e.trans e1) hq, by
  subst hsz
  exact lcW (walk_enum (a := a) (xs := xs)) hn (fun H' e' => ex_l ((e.trans e1).trans e') hq) f v (fun i => ((wipe σ vs).set j (some (.int (i : Nat)))).set l (some (d i))) (fun i x H H' hi ex y =>
    hg_pair (fun i => .int (i : Nat)) d (n := xs.length) (fun i _ => rfl) hd i x H H' hi ex y)
    (fun i _ => hw _ _) (fun i hi => ht i H1 (e.trans e1) hi) (fun i hi => he i H1 (e.trans e1) hi) fun p H2 hp e2 h2 => q p H2 (fresh_back e1 hp) (e1.trans e2) h2⟩
/-- all turns give -/
theorem given_all (n : Nat) (v : Nat → V) : given n (fun _ => true) v = (List.range n).map v := by
  unfold given
  rw [List.filter_eq_self.mpr fun _ _ => rfl]
theorem given_count (n : Nat) (f : Nat → Bool) (v : Nat → V) : (given n f v).length = ((List.range n).filter f).length := by
  unfold given
  rw [List.length_map]
theorem given_ext {n : Nat} {f : Nat → Bool} {v w : Nat → V} (h : ∀ i, i < n → v i = w i) : given n f v = given n f w := by
  unfold given
  exact List.map_congr_left fun i hi => h i (List.mem_range.mp (List.mem_filter.mp hi).1)
theorem ev_list {xs ys : List V} (h : EvL te σ H xs) (e : xs = ys) : EvL te σ H ys := by
  rw [← e]
  exact h
/-- the test of a comprehension without ifs -/
theorem et_yes : EvT (fun _ H Q => Q true H) σ H true := fun H1 _ _ q => q H1 (Ex.refl H1)
/-- for over any walk -/
theorem s_forW {J : It} {n : Nat} {G : Hp → Prop} {Y : Nat → Hp → V → Hp → Prop} (w : Walk J n G Y) {wi : TI} {g : TG} {tu : TS} {D : Ends} (hi : ∀ H1, Ex H H1 → ∀ R : It → Hp → Prop, (∀ H2, Ex H1 H2 → R J H2) → wi σ H1 R) (Pv : Nat → L2.St → Hp → Prop) (h0 : ∀ H1, Ex H H1 → Pv 0 σ H1)
    (hG : ∀ i σ' H', i ≤ n → Pv i σ' H' → G H') (hs : ∀ i x σ' H1 H', i < n → Pv i σ' H1 → Y i H1 x H' → g x σ' H' fun σ2 H2 => tu { D with nx := Pv (i + 1), ct := Pv (i + 1), bk := D.nx } σ2 H2) (hd : ∀ σ' H', Pv n σ' H' → D.nx σ' H') :
    tFor wi g tu D σ H := hi H (Ex.refl H) _ fun H1 e => for_it w Pv (h0 H1 e) hG hs hd
end
end HA

end
section
namespace HA
/-! Plain mathematics: sums, counts, half alike tables. -/
/-! ### sums -/
def S : Nat → (Nat → Int) → Int
  | 0, _ => 0
  | n + 1, g => S n g + g n
theorem S_congr : ∀ {n : Nat} {g h : Nat → Int}, (∀ k, k < n → g k = h k) → S n g = S n h
  | 0, _, _, _ => rfl
  | n + 1, g, h, e => by
    show S n g + g n = S n h + h n
    rw [S_congr (n := n) fun k hk => e k (by omega), e n (by omega)]
theorem S_add : ∀ (n : Nat) (g h : Nat → Int), S n (fun k => g k + h k) = S n g + S n h
  | 0, _, _ => rfl
  | n + 1, g, h => by
    show S n (fun k => g k + h k) + (g n + h n) = S n g + g n + (S n h + h n)
    rw [S_add n g h]
    omega
theorem S_zero : ∀ n : Nat, S n (fun _ => 0) = 0
  | 0 => rfl
  | n + 1 => by
    show S n (fun _ => 0) + 0 = 0
    rw [S_zero n]
    rfl
theorem S_mulL : ∀ (n : Nat) (c : Int) (g : Nat → Int), S n (fun k => c * g k) = c * S n g
  | 0, c, _ => (Int.mul_zero c).symm
  | n + 1, c, g => by
    show S n (fun k => c * g k) + c * g n = c * (S n g + g n)
    rw [S_mulL n c g, Int.mul_add]
theorem S_mulR (n : Nat) (c : Int) (g : Nat → Int) : S n (fun k => g k * c) = S n g * c := by
  rw [Int.mul_comm, ← S_mulL]
  exact S_congr fun k _ => Int.mul_comm _ _
theorem S_neg (n : Nat) (g : Nat → Int) : S n (fun k => -g k) = -S n g := by
  have h := S_mulL n (-1) g
  rw [Int.neg_one_mul] at h
  rw [← h]
  exact S_congr fun k _ => (Int.neg_one_mul _).symm
theorem S_const : ∀ (n : Nat) (c : Int), S n (fun _ => c) = n * c
  | 0, c => by simp [S]
  | n + 1, c => by
    show S n (fun _ => c) + c = ((n + 1 : Nat) : Int) * c
    rw [S_const n c, Int.natCast_add, Int.add_mul]
    simp
theorem S_swap : ∀ (n m : Nat) (F : Nat → Nat → Int), S n (fun a => S m (fun b => F a b)) = S m (fun b => S n (fun a => F a b))
  | 0, m, F => (S_zero m).symm
  | n + 1, m, F => by
    show S n (fun a => S m (fun b => F a b)) + S m (fun b => F n b) = S m (fun b => S n (fun a => F a b) + F n b)
    rw [S_add, S_swap n m F]
theorem S_nonneg : ∀ {n : Nat} {g : Nat → Int}, (∀ k, k < n → 0 ≤ g k) → 0 ≤ S n g
  | 0, _, _ => Int.le_refl _
  | n + 1, g, h => by
    have h1 := S_nonneg (n := n) fun k hk => h k (by omega)
    have h2 := h n (by omega)
    show 0 ≤ S n g + g n
    omega
theorem S_zero_each : ∀ {n : Nat} {g : Nat → Int}, (∀ k, k < n → 0 ≤ g k) → S n g = 0 → ∀ k, k < n → g k = 0
  | 0, _, _, _, k, hk => absurd hk (by omega)
  | n + 1, g, h, e, k, hk => by
    have h1 := S_nonneg (n := n) (g := g) fun k hk => h k (by omega)
    have h2 := h n (by omega)
    have e' : S n g + g n = 0 := e
    by_cases hkn : k = n
    · subst hkn; omega
    · exact S_zero_each (n := n) (fun k hk => h k (by omega)) (by omega) k (by omega)
theorem S_split (n : Nat) : ∀ (m : Nat) (g : Nat → Int), S (n + m) g = S n g + S m (fun k => g (n + k))
  | 0, g => by
    show S n g = S n g + 0
    omega
  | m + 1, g => by
    show S (n + m) g + g (n + m) = S n g + (S m (fun k => g (n + k)) + g (n + m))
    rw [S_split n m g]
    omega
theorem S_one : ∀ {n : Nat} {g : Nat → Int} {a : Nat}, a < n → (∀ k, k < n → k ≠ a → g k = 0) → S n g = g a
  | 0, _, _, h, _ => absurd h (by omega)
  | n + 1, g, a, h, z => by
    show S n g + g n = g a
    by_cases e : a = n
    · subst e
      rw [S_congr (h := fun _ => 0) fun k hk => z k (by omega) (by omega), S_zero]
      omega
    · rw [S_one (n := n) (a := a) (by omega) fun k hk hne => z k (by omega) hne, z n (by omega) (by omega)]
      omega
/-! ### counts -/
def cnt (n : Nat) (p : Nat → Bool) : Nat := ((List.range n).filter p).length
theorem cnt_zero (p : Nat → Bool) : cnt 0 p = 0 := rfl
theorem cnt_succ (n : Nat) (p : Nat → Bool) : cnt (n + 1) p = cnt n p + (if p n = true then 1 else 0) := by
  unfold cnt
  rw [List.range_succ, List.filter_append, List.length_append]
  cases h : p n with
  | true => simp [List.filter, h]
  | false => simp [List.filter, h]
theorem cnt_le (n : Nat) (p : Nat → Bool) : cnt n p ≤ n := by
  unfold cnt
  have h := List.length_filter_le p (List.range n)
  rwa [List.length_range] at h
theorem cnt_congr : ∀ {n : Nat} {p q : Nat → Bool}, (∀ k, k < n → p k = q k) → cnt n p = cnt n q
  | 0, _, _, _ => rfl
  | n + 1, p, q, h => by
    rw [cnt_succ, cnt_succ, cnt_congr (n := n) fun k hk => h k (by omega), h n (by omega)]
theorem cnt_not : ∀ (n : Nat) (p : Nat → Bool), cnt n p + cnt n (fun k => !p k) = n
  | 0, _ => rfl
  | n + 1, p => by
    have ih := cnt_not n p
    rw [cnt_succ, cnt_succ]
    cases h : p n <;> simp <;> omega
def sg (b : Bool) : Int := if b = true then 1 else -1
theorem sg_mul (a b : Bool) : sg a * sg b = if (a == b) = true then 1 else -1 := by cases a <;> cases b <;> rfl
theorem sg_sq (a : Bool) : sg a * sg a = 1 := by cases a <;> rfl
theorem sg_not (a : Bool) : sg (!a) = -sg a := by cases a <;> rfl
theorem sg_xor (a b : Bool) : sg (a ^^ b) = -(sg a * sg b) := by cases a <;> cases b <;> rfl
def ip (n : Nat) (g h : Nat → Bool) : Int := S n (fun k => sg (g k) * sg (h k))
def alk (n : Nat) (g h : Nat → Bool) : Nat := cnt n (fun k => g k == h k)
theorem ip_alk : ∀ (n : Nat) (g h : Nat → Bool), ip n g h = 2 * (alk n g h : Int) - n
  | 0, _, _ => rfl
  | n + 1, g, h => by
    have ih : S n (fun k => sg (g k) * sg (h k)) = 2 * ((cnt n (fun k => g k == h k) : Nat) : Int) - n := ip_alk n g h
    show S n (fun k => sg (g k) * sg (h k)) + sg (g n) * sg (h n) = 2 * ((cnt (n + 1) (fun k => g k == h k) : Nat) : Int) - ((n + 1 : Nat) : Int)
    rw [cnt_succ, ih, sg_mul]
    cases e : (g n == h n) <;> simp <;> omega
theorem alk_le (n : Nat) (g h : Nat → Bool) : alk n g h ≤ n := cnt_le _ _
theorem alk_comm (n : Nat) (g h : Nat → Bool) : alk n g h = alk n h g := cnt_congr fun k _ => by cases g k <;> cases h k <;> rfl
theorem alk_congr {n : Nat} {g h g' h' : Nat → Bool} (e : ∀ k, k < n → g k = g' k) (e' : ∀ k, k < n → h k = h' k) : alk n g h = alk n g' h' := cnt_congr fun k hk => by rw [e k hk, e' k hk]
theorem ip_comm (n : Nat) (g h : Nat → Bool) : ip n g h = ip n h g := S_congr fun k _ => Int.mul_comm _ _
theorem ip_congr {n : Nat} {g h g' h' : Nat → Bool} (e : ∀ k, k < n → g k = g' k) (e' : ∀ k, k < n → h k = h' k) : ip n g h = ip n g' h' := S_congr fun k hk => by rw [e k hk, e' k hk]
theorem ip_self (n : Nat) (g : Nat → Bool) : ip n g g = n := by
  show S n (fun k => sg (g k) * sg (g k)) = n
  rw [S_congr (h := fun _ => 1) fun k _ => sg_sq _, S_const]
  omega
theorem ip_zero_iff (n : Nat) (g h : Nat → Bool) : ip n g h = 0 ↔ 2 * alk n g h = n := by
  rw [ip_alk]
  omega
/-! ### half alike -/
def halfB (n : Nat) (f : Nat → Nat → Bool) : Bool := (List.range n).all fun j => (List.range j).all fun i => decide (2 * alk n (f i) (f j) = n)
def Had (n : Nat) (f : Nat → Nat → Bool) : Prop := ∀ i, i < n → ∀ j, j < n → i ≠ j → ip n (f i) (f j) = 0
theorem halfB_iff (n : Nat) (f : Nat → Nat → Bool) : halfB n f = true ↔ ∀ j, j < n → ∀ i, i < j → 2 * alk n (f i) (f j) = n := by
  unfold halfB
  simp only [List.all_eq_true, List.mem_range, decide_eq_true_eq]
theorem half_had {n : Nat} {f : Nat → Nat → Bool} (h : halfB n f = true) : Had n f := fun i hi j hj hne => by
  rw [halfB_iff] at h
  by_cases hlt : i < j
  · exact (ip_zero_iff _ _ _).mpr (h j hj i hlt)
  · rw [ip_comm]
    exact (ip_zero_iff _ _ _).mpr (h i hi j (by omega))
theorem had_half {n : Nat} {f : Nat → Nat → Bool} (h : Had n f) : halfB n f = true := by
  rw [halfB_iff]
  exact fun j hj i hi => (ip_zero_iff _ _ _).mp (h i (by omega) j hj (by omega))
theorem halfB_congr {n : Nat} {f g : Nat → Nat → Bool} (e : ∀ i, i < n → ∀ j, j < n → f i j = g i j) : halfB n f = halfB n g := by
  rw [Bool.eq_iff_iff, halfB_iff, halfB_iff]
  constructor
  · intro h j hj i hi
    rw [← h j hj i hi]
    exact congrArg (2 * ·) (by rw [h j hj i hi]; exact alk_congr (fun k hk => (e i (by omega) k hk).symm) (fun k hk => (e j hj k hk).symm))
  · intro h j hj i hi
    rw [← h j hj i hi]
    exact congrArg (2 * ·) (by rw [h j hj i hi]; exact alk_congr (fun k hk => e i (by omega) k hk) (fun k hk => e j hj k hk))
/-- the columns of a half alike table are half alike -/
theorem had_tr {n : Nat} {f : Nat → Nat → Bool} (h : Had n f) : Had n (fun i j => f j i) := by
  let s : Nat → Nat → Int := fun i k => sg (f i k)
  let C : Nat → Nat → Int := fun a b => S n (fun k => s k a * s k b)
  let R : Nat → Nat → Int := fun i j => S n (fun k => s i k * s j k)
  have hR : ∀ i, i < n → ∀ j, j < n → i ≠ j → R i j = 0 := fun i hi j hj hne => h i hi j hj hne
  have hRd : ∀ i, R i i = n := fun i => ip_self n (f i)
  have hCd : ∀ a, C a a = n := fun a => ip_self n (fun k => f k a)
  -- the sums of all squares are the same
  have e1 : S n (fun a => S n (fun b => C a b * C a b)) = S n (fun k => S n (fun l => R k l * R k l)) := by
    have x1 : ∀ a b, C a b * C a b = S n (fun k => S n (fun l => s k a * s k b * (s l a * s l b))) := fun a b => by
      show C a b * C a b = _
      rw [show (fun k => S n (fun l => s k a * s k b * (s l a * s l b))) = (fun k => s k a * s k b * C a b) from funext fun k => S_mulL n _ _, S_mulR]
    have x2 : ∀ k l, R k l * R k l = S n (fun a => S n (fun b => s k a * s l a * (s k b * s l b))) := fun k l => by
      show R k l * R k l = _
      rw [show (fun a => S n (fun b => s k a * s l a * (s k b * s l b))) = (fun a => s k a * s l a * R k l) from funext fun a => S_mulL n _ _, S_mulR]
    rw [S_congr (h := fun a => S n (fun b => S n (fun k => S n (fun l => s k a * s k b * (s l a * s l b))))) fun a _ => S_congr fun b _ => x1 a b]
    rw [S_congr (n := n) (g := fun k => S n (fun l => R k l * R k l)) (h := fun k => S n (fun l => S n (fun a => S n (fun b => s k a * s l a * (s k b * s l b))))) fun k _ => S_congr fun l _ => x2 k l]
    -- move a, b inside
    rw [S_congr (n := n) (h := fun a => S n (fun k => S n (fun l => S n (fun b => s k a * s k b * (s l a * s l b))))) fun a _ => by
      rw [S_swap]
      exact S_congr fun k _ => S_swap n n _]
    rw [S_swap]
    refine S_congr fun k _ => ?_
    rw [S_swap]
    refine S_congr fun l _ => S_congr fun a _ => S_congr fun b _ => ?_
    show s k a * s k b * (s l a * s l b) = s k a * s l a * (s k b * s l b)
    rw [Int.mul_assoc, Int.mul_assoc, Int.mul_left_comm (s k b)]
  have e2 : S n (fun k => S n (fun l => R k l * R k l)) = S n (fun _ => (n : Int) * n) := S_congr fun k hk => by
    rw [S_one (a := k) hk fun l hl hne => by rw [hR k hk l hl (Ne.symm hne)]; rfl, hRd]
  have e3 : S n (fun a => S n (fun b => C a b * C a b - (if a = b then (n : Int) * n else 0))) = 0 := by
    have y1 : S n (fun a => S n (fun b => C a b * C a b - (if a = b then (n : Int) * n else 0))) = S n (fun a => S n (fun b => C a b * C a b) + -S n (fun b => if a = b then (n : Int) * n else 0)) := S_congr fun a _ => by
      rw [← S_neg, ← S_add]
      exact S_congr fun b _ => by omega
    have y2 : S n (fun a => S n (fun b => if a = b then (n : Int) * n else 0)) = S n (fun _ => (n : Int) * n) := S_congr fun a ha => by
      rw [S_one (a := a) ha fun b hb hne => if_neg (Ne.symm hne), if_pos rfl]
    rw [y1, S_add, S_neg, y2, e1, e2]
    omega
  intro i hi j hj hne
  have z1 : ∀ a, a < n → ∀ b, b < n → 0 ≤ C a b * C a b - (if a = b then (n : Int) * n else 0) := fun a _ b _ => by
    by_cases e : a = b
    · subst e
      rw [if_pos rfl, hCd]
      omega
    · rw [if_neg e]
      have : 0 ≤ C a b * C a b := by
        rcases Int.le_total 0 (C a b) with q | q
        · exact Int.mul_nonneg q q
        · exact Int.mul_nonneg_of_nonpos_of_nonpos q q
      omega
  have z2 := S_zero_each (n := n) (fun a ha => S_nonneg fun b hb => z1 a ha b hb) e3 i hi
  have z3 := S_zero_each (n := n) (fun b hb => z1 i hi b hb) z2 j hj
  have z4 : C i j * C i j - (if i = j then (n : Int) * n else 0) = 0 := z3
  rw [if_neg hne] at z4
  have z5 : C i j * C i j = 0 := by omega
  rcases Int.mul_eq_zero.mp z5 with q | q <;> exact q
/-- rows in another turn, some turned -/
theorem had_perm {n : Nat} {f g : Nat → Nat → Bool} (π : Nat → Nat) (e : Nat → Bool) (hπ : ∀ i, i < n → π i < n) (inj : ∀ i, i < n → ∀ j, j < n → π i = π j → i = j) (hg : ∀ i, i < n → ∀ k, k < n → g i k = (f (π i) k ^^ e i)) (h : Had n f) : Had n g := fun i hi j hj hne => by
  have hz := h (π i) (hπ i hi) (π j) (hπ j hj) fun q => hne (inj i hi j hj q)
  have q : ip n (g i) (g j) = sg (e i) * sg (e j) * ip n (f (π i)) (f (π j)) := by
    show S n _ = _ * S n _
    rw [← S_mulL]
    refine S_congr fun k hk => ?_
    rw [hg i hi k hk, hg j hj k hk, sg_xor, sg_xor]
    cases f (π i) k <;> cases f (π j) k <;> cases e i <;> cases e j <;> rfl
  rw [q, hz, Int.mul_zero]
/-- each row twice, and once with its second half turned -/
def dbl (n : Nat) (f : Nat → Nat → Bool) (i j : Nat) : Bool := if i < n then f i (if j < n then j else j - n) else (if j < n then f (i - n) j else !f (i - n) (j - n))
theorem ip_split (n m : Nat) (g h : Nat → Bool) : ip (n + m) g h = ip n g h + ip m (fun k => g (n + k)) (fun k => h (n + k)) := S_split n m _
theorem had_dbl {n : Nat} {f : Nat → Nat → Bool} (h : Had n f) : Had (n + n) (dbl n f) := fun i hi j hj hne => by
  have lo : ∀ a, ip n (fun k => dbl n f a k) (fun k => dbl n f a k) = ip n (fun k => dbl n f a k) (fun k => dbl n f a k) := fun _ => rfl
  have lowA : ∀ a, a < n → ∀ k, k < n → dbl n f a k = f a k := fun a ha k hk => by unfold dbl; rw [if_pos ha, if_pos hk]
  have highA : ∀ a, a < n → ∀ k, k < n → dbl n f a (n + k) = f a k := fun a ha k hk => by
    unfold dbl
    rw [if_pos ha, if_neg (show ¬ n + k < n by omega), show n + k - n = k by omega]
  have lowB : ∀ a, ¬ a < n → ∀ k, k < n → dbl n f a k = f (a - n) k := fun a ha k hk => by unfold dbl; rw [if_neg ha, if_pos hk]
  have highB : ∀ a, ¬ a < n → ∀ k, k < n → dbl n f a (n + k) = !f (a - n) k := fun a ha k hk => by
    unfold dbl
    rw [if_neg ha, if_neg (show ¬ n + k < n by omega), show n + k - n = k by omega]
  have ngR : ∀ g k, ip n g (fun j => !k j) = -ip n g k := fun g k => by
    show S n _ = -S n _
    rw [← S_neg]
    exact S_congr fun j _ => by rw [sg_not, Int.mul_neg]
  have ngL : ∀ g k, ip n (fun j => !g j) k = -ip n g k := fun g k => by rw [ip_comm, ngR, ip_comm]
  rw [ip_split]
  by_cases hi' : i < n
  · by_cases hj' : j < n
    · rw [ip_congr (lowA i hi') (lowA j hj'), ip_congr (g := fun k => dbl n f i (n + k)) (highA i hi') (highA j hj'), h i hi' j hj' hne]
      rfl
    · rw [ip_congr (lowA i hi') (lowB j hj'), ip_congr (g := fun k => dbl n f i (n + k)) (h' := fun k => !f (j - n) k) (highA i hi') (highB j hj'), ngR]
      omega
  · by_cases hj' : j < n
    · rw [ip_congr (lowB i hi') (lowA j hj'), ip_congr (g := fun k => dbl n f i (n + k)) (g' := fun k => !f (i - n) k) (highB i hi') (highA j hj'), ngL]
      omega
    · rw [ip_congr (lowB i hi') (lowB j hj'), ip_congr (g := fun k => dbl n f i (n + k)) (g' := fun k => !f (i - n) k) (h' := fun k => !f (j - n) k) (highB i hi') (highB j hj'), ngL, ngR, h (i - n) (by omega) (j - n) (by omega) (by omega)]
      rfl
/-! ### the table of a prime and one -/
def isSq (p r : Nat) : Bool := (List.range (p - 1)).any fun k => (k + 1) * (k + 1) % p == r
def pri (p i j : Nat) : Bool := if i = 0 then true else if j = 0 then false else (decide (j = i) || isSq p ((j + p - i) % p))
end HA
namespace HA
theorem half_pri3 : halfB 4 (pri 3) = true := by decide +kernel
theorem half_pri7 : halfB 8 (pri 7) = true := by decide +kernel
theorem half_pri11 : halfB 12 (pri 11) = true := by decide +kernel
theorem half_pri19 : halfB 20 (pri 19) = true := by decide +kernel
/-- the squares as the bits of a number -/
def priM (m p i j : Nat) : Bool := if i = 0 then true else if j = 0 then false else (decide (j = i) || Nat.testBit m ((j + p - i) % p))
def sqMask (p : Nat) : Nat := (List.range p).foldl (fun a r => if isSq p r = true then a + 2 ^ r else a) 0
theorem half_priM {m p : Nat} (hp : 0 < p) (h : (List.range p).all (fun r => isSq p r == Nat.testBit m r) = true) (k : halfB (p + 1) (priM m p) = true) : halfB (p + 1) (pri p) = true := by
  rw [← k]
  refine halfB_congr fun i hi j hj => ?_
  have q : ∀ r, r < p → isSq p r = Nat.testBit m r := fun r hr => by
    have := List.all_eq_true.mp h r (List.mem_range.mpr hr)
    exact beq_iff_eq.mp this
  unfold pri priM
  rw [q _ (Nat.mod_lt _ hp)]
theorem half_pri31 : halfB 32 (pri 31) = true := half_priM (m := 303908790) (p := 31) (by decide) (by decide +kernel) (by decide +kernel)
theorem half_pri43 : halfB 44 (pri 43) = true := half_priM (m := 3678700564050) (p := 43) (by decide) (by decide +kernel) (by decide +kernel)
theorem half_pri67 : halfB 68 (pri 67) = true := half_priM (m := 61808106872519771730) (p := 67) (by decide) (by decide +kernel) (by decide +kernel)
end HA

end
section
set_option maxRecDepth 100000
set_option maxHeartbeats 4000000
namespace HA
open PySem PySem.Spec PyProof.Rows L2 Evl
/-! Promises that do not hang on the row. -/
/-- what isinstance asks of a class -/
structure IsC (K : PySem.W.Frag) (C : Addr) : Prop where
  ha : PySem.W.findIn K (.ref C) "__class__" = some (some (.builtin "object.__class__"))
  hn : PySem.W.specialIn K (.builtin "object.__class__") "__get__" = some (some (.builtin "getset_descriptor.__get__"))
  htk : PySem.W.takesIn K (.builtin "object.__class__") = some true
  hm : PySem.W.mroIn K C (.type "object") = some true
theorem IsC.ty {K : PySem.W.Frag} {C : Addr} (i : IsC K C) (c : Cls K C) {H : Hp} {a dx : Addr} {fs : List (Str × V)} (e : H a = some (.ins C dx fs)) : TyX K H (.ref a) (.ref C) := .base (.ins e c i.ha i.hn i.htk i.hm)
/-- a table that stands at a -/
def TabAt (K : PySem.W.Frag) (H : Hp) (a : Addr) (n : Nat) (f : Nat → Nat → Bool) : Prop := SqL K H a (tabV n f)
theorem TabAt.ex {K : PySem.W.Frag} {H H' : Hp} {a : Addr} {n : Nat} {f : Nat → Nat → Bool} (e : Ex H H') (h : TabAt K H a n f) : TabAt K H' a n f := ex_l e h

section
variable {K : PySem.W.Frag} {σ : L2.St} {H H' : Hp} {ta tb tc td te tx : TE} {t u : TT} {x y z v : V} {r r' r'' : R2}
theorem ev_lenT {p : Addr} {n : Nat} {f : Nat → Nat → Bool} (ha : Ev ta σ H (.ref p)) (h : TabAt K H p n f) : Ev (tCB (rLenS K) (tCons ta tNil)) σ H (.int (n : Int)) := by
  have q := ev_len (K := K) ha h
  rw [tabV_len] at q
  exact q
theorem ev_isi {ta : TA} {c : V} {tv u : Value} {b : Bool} (h : EvA ta σ H [x, c]) (hc : ClsV c u) (ht : ∀ H1, Ex H H1 → TyX K H1 x tv) (hk : PySem.W.kitOne K tv u = some b) : Ev (tCB (rIsi K) ta) σ H (.bl b) :=
  ev_cb h fun H1 e Q q => ⟨x, c, tv, u, b, rfl, hc, ht H1 e, hk, q H1 (Ex.refl H1)⟩
theorem ev_chain {k k' : Bool} {w : V} (h1 : Ev ta σ H x) (h2 : Ev tb σ H y) (hr : RV r x y H (.bl k)) (h3 : k = true → Ev tc σ H w) (hr' : k = true → RV r' y w H (.bl k')) : Ev (tChain r r' ta tb tc) σ H (.bl (k && k')) := fun H1 e Q q =>
  h1 H1 e _ fun H2 e2 => h2 H2 (e.trans e2) _ fun H3 e3 => hr H3 ((e.trans e2).trans e3) _ fun H4 e4 => ⟨k, rfl, by
    cases k with
    | true =>
      show tc σ H4 fun w' H5 => r' y w' H5 Q
      exact h3 rfl H4 (((e.trans e2).trans e3).trans e4) _ fun H5 e5 => hr' rfl H5 ((((e.trans e2).trans e3).trans e4).trans e5) Q fun H6 e6 => q H6 ((((e2.trans e3).trans e4).trans e5).trans e6)
    | false =>
      show Q (.bl false) H4
      exact q H4 ((e2.trans e3).trans e4)⟩
theorem ev_chain3 {k k' k'' : Bool} {w w2 : V} (h1 : Ev ta σ H x) (h2 : Ev tb σ H y) (hr : RV r x y H (.bl k)) (h3 : k = true → Ev tc σ H w) (hr' : k = true → RV r' y w H (.bl k')) (h4 : k = true → k' = true → Ev td σ H w2) (hr'' : k = true → k' = true → RV r'' w w2 H (.bl k'')) :
    Ev (tChain3 r r' r'' ta tb tc td) σ H (.bl (k && (k' && k''))) := fun H1 e Q q =>
  h1 H1 e _ fun H2 e2 => h2 H2 (e.trans e2) _ fun H3 e3 => hr H3 ((e.trans e2).trans e3) _ fun H4 e4 => ⟨k, rfl, by
    have E4 := ((e.trans e2).trans e3).trans e4
    have F4 := (e2.trans e3).trans e4
    cases k with
    | true =>
      show tc σ H4 fun y' H5 => r' y y' H5 fun z' H6 => ∃ k', z' = .bl k' ∧ (if k' = true then td σ H6 fun w' H7 => r'' y' w' H7 Q else Q (.bl false) H6)
      refine h3 rfl H4 E4 _ fun H5 e5 => hr' rfl H5 (E4.trans e5) _ fun H6 e6 => ⟨k', rfl, ?_⟩
      cases k' with
      | true =>
        show td σ H6 fun w' H7 => r'' w w' H7 Q
        exact h4 rfl rfl H6 ((E4.trans e5).trans e6) _ fun H7 e7 => hr'' rfl rfl H7 (((E4.trans e5).trans e6).trans e7) Q fun H8 e8 => q H8 ((((F4.trans e5).trans e6).trans e7).trans e8)
      | false =>
        show Q (.bl false) H6
        exact q H6 ((F4.trans e5).trans e6)
    | false =>
      show Q (.bl false) H4
      exact q H4 F4⟩
theorem ev_fld {p C dx : Addr} {fs : List (Str × V)} {f : Str} (ha : Ev ta σ H (.ref p)) (hp : H p = some (.ins C dx fs)) (c : Cls K C) (n : NoAttr K C f) (l : fs.lookup f = some v) : Ev (tFld K ta f) σ H v := fun H1 e Q q =>
  ha H1 e _ fun H2 e2 => ⟨p, C, dx, fs, v, rfl, (e.trans e2) p _ hp, c, n, l, q H2 e2⟩
theorem rv_isN : RV (fun x y H Q => y = V.non ∧ Q (V.bl (decide (x = V.non))) H) x .non H (.bl (decide (x = .non))) := fun H1 _ _ q => ⟨rfl, q H1 (Ex.refl H1)⟩
theorem rv_notB {a b : Bool} : RV rNotB (.bl a) (.bl b) H (.bl (!decide (a = b))) := fun H1 _ _ q => ⟨a, b, rfl, rfl, q H1 (Ex.refl H1)⟩
theorem rv_isB {a b : Bool} : RV rIsB (.bl a) (.bl b) H (.bl (decide (a = b))) := fun H1 _ _ q => ⟨a, b, rfl, rfl, q H1 (Ex.refl H1)⟩
theorem s_retIf {D : Ends} {b : Bool} (h : EvT t σ H b) (h1 : b = true → ∀ H1, Ex H H1 → tRet ta D σ H1) (h2 : b = false → ∀ H1, Ex H H1 → tRet tb D σ H1) : tRet (tIf t ta tb) D σ H := h H (Ex.refl H) _ fun H1 e => by
  cases b with
  | true => exact h1 rfl H1 e
  | false => exact h2 rfl H1 e
theorem s_retMk {D : Ends} {C : Addr} {sp : Sp} {dvs vs : List V} {E : XK} {t : TA} (h : EvA t σ H vs) (k : ∀ H1 x dx, Ex H H1 → H1 x = none → H1 dx = none → dx ≠ x → sp (.ref x :: (vs ++ dvs)) (upd (upd H1 dx (.own x)) x (.ins C dx [])) (fun v H2 => v = .non ∧ D.rt (.ref x) H2) E) : tRet (tMake C sp dvs E t) D σ H :=
  h H (Ex.refl H) _ fun H1 e x dx nx ndx ne => k H1 x dx e nx ndx ne
theorem bnot1 {b : Bool} (h : (!b) = true) : b = false := by
  cases b with
  | true => exact absurd h (by decide)
  | false => rfl
theorem bnot0 {b : Bool} (h : (!b) = false) : b = true := by
  cases b with
  | true => rfl
  | false => exact absurd h (by decide)
theorem dec_intB (a b : Int) : decide (V.int a = V.int b) = decide (a = b) := by
  rw [Bool.eq_iff_iff]
  simp
theorem dec_strB (a b : Str) : decide (V.str a = V.str b) = decide (a = b) := by
  rw [Bool.eq_iff_iff]
  simp
theorem dec_blB (a b : Bool) : decide (V.bl a = V.bl b) = decide (a = b) := by
  rw [Bool.eq_iff_iff]
  simp
end
def sp_is_row : Sp := fun vs H Q _ => ∃ (n : Nat) (g : Nat → Bool), vs = [.str (rowS n g), .int (n : Int)] ∧ n ≤ 1000 ∧ RetV (.bl true) H Q
def sp_asked_table (K : PySem.W.Frag) : Sp := fun vs H Q _ => ∃ (a : Addr) (n : Nat) (f : Nat → Nat → Bool), vs = [.ref a] ∧ TabAt K H a n f ∧ 1 ≤ n ∧ n ≤ 100 ∧ (∃ xs, H a = some (.lst xs)) ∧ RetV .non H Q
def sp_alike : Sp := fun vs H Q _ => ∃ (n : Nat) (g h : Nat → Bool), vs = [.str (rowS n g), .str (rowS n h)] ∧ n ≤ 1000 ∧ RetV (.int (alk n g h : Int)) H Q
def sp_first_unlike (K : PySem.W.Frag) : Sp := fun vs H Q _ => ∃ (a : Addr) (n : Nat) (f : Nat → Nat → Bool), vs = [.ref a] ∧ TabAt K H a n f ∧ n ≤ 1000 ∧ (halfB n f = true → RetV .non H Q) ∧
  (∀ i j : Nat, i < j → j < n → 2 * alk n (f i) (f j) ≠ n → ∀ p H2, H p = none → Ex H H2 → H2 p = some (.tup [.int (i : Int), .int (j : Int)]) → Q (.ref p) H2)
def sp_half (K : PySem.W.Frag) : Sp := fun vs H Q _ => ∃ (a : Addr) (n : Nat) (f : Nat → Nat → Bool), vs = [.ref a] ∧ TabAt K H a n f ∧ n ≤ 1000 ∧ RetV (.bl (halfB n f)) H Q
def sp_Half_shows (K : PySem.W.Frag) : Sp := fun vs H Q _ => ∃ (x : V) (a : Addr) (n : Nat) (f : Nat → Nat → Bool), vs = [x, .ref a] ∧ TabAt K H a n f ∧ n ≤ 1000 ∧ RetV (.bl (halfB n f)) H Q
/-- the fields of an Unlike -/
def uf (x y : V) : List (Str × V) := putF (Str.ofString "other") y (putF (Str.ofString "one") x [])
def nf (x y : V) : List (Str × V) := putF (Str.ofString "plain") y (putF (Str.ofString "row") x [])
theorem uf_one (x y : V) : (uf x y).lookup (Str.ofString "one") = some x := by
  unfold uf
  rw [lookup_putF, if_neg (by decide +kernel), lookup_putF, if_pos rfl]
theorem uf_other (x y : V) : (uf x y).lookup (Str.ofString "other") = some y := by
  unfold uf
  rw [lookup_putF, if_pos rfl]
theorem uf_no (x y : V) {m : Str} (h1 : ¬ m = Str.ofString "other") (h2 : ¬ m = Str.ofString "one") : (uf x y).lookup m = none := by
  unfold uf
  rw [lookup_putF, if_neg h1, lookup_putF, if_neg h2]
  all_goals rfl
theorem nf_row (x y : V) : (nf x y).lookup (Str.ofString "row") = some x := by
  unfold nf
  rw [lookup_putF, if_neg (by decide +kernel), lookup_putF, if_pos rfl]
theorem nf_plain (x y : V) : (nf x y).lookup (Str.ofString "plain") = some y := by
  unfold nf
  rw [lookup_putF, if_pos rfl]
theorem nf_no (x y : V) {m : Str} (h1 : ¬ m = Str.ofString "plain") (h2 : ¬ m = Str.ofString "row") : (nf x y).lookup m = none := by
  unfold nf
  rw [lookup_putF, if_neg h1, lookup_putF, if_neg h2]
  all_goals rfl
def sp_init2 (C : Addr) (mk : V → V → List (Str × V)) : Sp := fun vs H Q _ => ∃ (p dx : Addr) (x y : V), vs = [.ref p, x, y] ∧ H p = some (.ins C dx []) ∧ Q .non (upd H p (.ins C dx (mk x y)))
/-- whether two counts are those of rows that are not half alike -/
def unlB (n : Nat) (f : Nat → Nat → Bool) (i j : Int) : Bool := decide (0 ≤ i) && (decide (i < j) && (decide (j < n) && decide (2 * alk n (f i.toNat) (f j.toNat) ≠ n)))
def sp_Unlike_shows (K : PySem.W.Frag) (C : Addr) : Sp := fun vs H Q _ => ∃ (p dx a : Addr) (i j : Int) (n : Nat) (f : Nat → Nat → Bool), vs = [.ref p, .ref a] ∧ H p = some (.ins C dx (uf (.int i) (.int j))) ∧ TabAt K H a n f ∧ n ≤ 1000 ∧ RetV (.bl (unlB n f i j)) H Q
def sp_told (K : PySem.W.Frag) (CH CU : Addr) : Sp := fun vs H Q _ => ∃ (a : Addr) (n : Nat) (f : Nat → Nat → Bool), vs = [.ref a] ∧ TabAt K H a n f ∧ 1 ≤ n ∧ n ≤ 100 ∧ (∃ xs, H a = some (.lst xs)) ∧
  (halfB n f = true → ∀ p dx H2, H p = none → Ex H H2 → H2 p = some (.ins CH dx []) → Q (.ref p) H2) ∧
  (∀ i j : Nat, i < j → j < n → 2 * alk n (f i) (f j) ≠ n → ∀ p dx H2, H p = none → Ex H H2 → H2 p = some (.ins CU dx (uf (.int (i : Int)) (.int (j : Int)))) → Q (.ref p) H2)
/-! ### the law's own defs -/
/-- more bits than the script's numbers have -/
def BB : Nat := 1048700
def lawNum (c a w : Int) : Int := if (10 : Int) ^ 18 ≤ c then c / (1 + a % 7) else
  (((c + 977 * a) * 48271 + w) % 2147483647 * (c + 31 * a + 7)) * (((c + 977 * a) * 48271 + w) % 2147483647 + c + 5) * (((c + 977 * a) * 48271 + w) % 2147483647 * (((c + 977 * a) * 48271 + w) % 2147483647) + 11) / (1009 + a)
def sp_L_number : Sp := fun vs H Q _ => ∃ (c a w : Int), vs = [.int c, .int a, .int w] ∧ c.natAbs < 2 ^ BB ∧ 0 ≤ a ∧ a ≤ 10000 ∧ RetV (.int (lawNum c a w)) H Q
def sp_L_other : Sp := fun vs H Q _ => ∃ (n : Nat) (g : Nat → Bool), vs = [.str (rowS n g)] ∧ n ≤ 1000 ∧ RetV (.str (rowS n fun j => !g j)) H Q
def sp_L_doubled (K : PySem.W.Frag) : Sp := fun vs H Q _ => ∃ (a : Addr) (n : Nat) (f : Nat → Nat → Bool), vs = [.ref a] ∧ TabAt K H a n f ∧ n ≤ 1000 ∧ RetL (tabV (n + n) (dbl n f)) H Q
def sp_L_prime_table : Sp := fun vs H Q _ => ∃ (p : Nat), vs = [.int (p : Int)] ∧ 2 ≤ p ∧ p ≤ 100 ∧ RetL (tabV (p + 1) (pri p)) H Q
/-- the tables that the law makes: of 1 to 20 rows, half alike -/
def LT (n : Nat) (f : Nat → Nat → Bool) : Prop := 1 ≤ n ∧ n ≤ 20 ∧ Had n f
/-- the script's numbers -/
def Cells (ns : List Int) : Prop := ns.length ≤ 63 ∧ ∀ z ∈ ns, z.natAbs < 2 ^ BB
def sp_L_table (K : PySem.W.Frag) : Sp := fun vs H Q _ => ∃ (a : Addr) (ns : List Int), vs = [.ref a] ∧ SqL K H a (ns.map V.int) ∧ Cells ns ∧ ∀ n f, LT n f → RetL (tabV n f) H Q
def sp_law (K : PySem.W.Frag) : Sp := fun vs H Q _ => ∃ (a : Addr) (ns : List Int), vs = [.ref a] ∧ SqL K H a (ns.map V.int) ∧ ns.length ≤ 63 ∧ (∀ z ∈ ns, Builtin.Int.intBits z ≤ 1048576) ∧ ∀ H', Q (.bl true) H'
theorem bits_lt {z : Int} (h : Builtin.Int.intBits z ≤ 1048576) : z.natAbs < 2 ^ BB := by
  by_cases hz : z = 0
  · subst hz
    exact Nat.pow_pos (by decide)
  · have e : z.natAbs < 2 ^ (z.natAbs.log2 + 1) := Nat.lt_log2_self
    have k : z.natAbs.log2 + 1 ≤ 1048576 := by
      unfold Builtin.Int.intBits at h
      rw [if_neg (by simpa using hz)] at h
      exact h
    exact Nat.lt_of_lt_of_le e (Nat.pow_le_pow_right (by decide) (Nat.le_trans k (show (1048576 : Nat) ≤ 1048700 by decide)))
end HA

end
section
set_option maxRecDepth 100000
set_option maxHeartbeats 4000000
namespace HA
open PySem PySem.Spec PyProof.Rows L2 Evl
section
variable {K : PySem.W.Frag} {σ : L2.St} {H H' : Hp} {ta tb tc td te tx : TE} {t u : TT} {x y z v : V} {r r' r'' : R2}
theorem el_cat {xs ys : List V} (ha : EvL ta σ H xs) (hb : EvL tb σ H ys) (hz : xs.length + ys.length ≤ 100000) : EvL (tOp rCat ta tb) σ H (xs ++ ys) := fun H1 e Q q =>
  ha H1 e _ fun p H2 hp e2 h2 => hb H2 (e.trans e2) _ fun p' H3 hp' e3 h3 => ⟨p, p', xs, ys, rfl, rfl, e3 p _ h2, h3, sz_of hz, fun l hl => q l _ (fresh_back (e2.trans e3) hl) ((e2.trans e3).trans (Ex.new hl)) upd_same⟩
/-- a list that stands + a new one -/
theorem el_catV {a : Addr} {xs ys : List V} (ha : Ev ta σ H (.ref a)) (hx : H a = some (.lst xs)) (hb : EvL tb σ H ys) (hz : xs.length + ys.length ≤ 100000) : EvL (tOp rCat ta tb) σ H (xs ++ ys) := fun H1 e Q q =>
  ha H1 e _ fun H2 e2 => hb H2 (e.trans e2) _ fun p' H3 hp' e3 h3 => ⟨a, p', xs, ys, rfl, rfl, ((e.trans e2).trans e3) a _ hx, h3, sz_of hz, fun l hl => q l _ (fresh_back (e2.trans e3) hl) ((e2.trans e3).trans (Ex.new hl)) upd_same⟩
theorem el_if {b : Bool} {xs : List V} (h : EvT t σ H b) (h1 : b = true → EvL ta σ H xs) (h2 : b = false → EvL tb σ H xs) : EvL (tIf t ta tb) σ H xs := fun H1 e Q q => h H1 e _ fun H2 e2 => by
  cases b with
  | true =>
    show ta σ H2 Q
    exact h1 rfl H2 (e.trans e2) Q fun p H3 hp e3 h3 => q p H3 (fresh_back e2 hp) (e2.trans e3) h3
  | false =>
    show tb σ H2 Q
    exact h2 rfl H2 (e.trans e2) Q fun p H3 hp e3 h3 => q p H3 (fresh_back e2 hp) (e2.trans e3) h3
theorem el_rev {a : Addr} {xs : List V} (ha : Ev ta σ H (.ref a)) (hx : SqL K H a xs) : EvL (tRevL K ta) σ H xs.reverse := fun H1 e Q q =>
  ha H1 e _ fun H2 e2 => ⟨a, xs, rfl, ex_l (e.trans e2) hx, fun l hl => q l _ (fresh_back e2 hl) (e2.trans (Ex.new hl)) upd_same⟩
theorem el_listOf {a : Addr} {xs : List V} (ha : Ev ta σ H (.ref a)) (hx : SqL K H a xs) : EvL (tCB (rListS K) (tCons ta tNil)) σ H xs := el_list ha hx
end
/-! ### rows, more -/
theorem rowS_app (n m : Nat) (g h : Nat → Bool) : rowS n g ++ rowS m h = rowS (n + m) (fun j => if j < n then g j else h (j - n)) := by
  apply str_ext
  rw [app_cps, Array.toList_append]
  show ((List.range n).map fun j => cp (g j)) ++ ((List.range m).map fun j => cp (h j)) = (List.range (n + m)).map fun j => cp (if j < n then g j else h (j - n))
  rw [List.range_add, List.map_append, List.map_map]
  congr 1
  · exact List.map_congr_left fun j hj => by rw [if_pos (List.mem_range.mp hj)]
  · exact List.map_congr_left fun j hj => by
      show cp (h j) = cp (if n + j < n then g (n + j) else h (n + j - n))
      rw [if_neg (by omega), show n + j - n = j by omega]
theorem rowS_one (b : Bool) : rowS 1 (fun _ => b) = sgS b := rfl
theorem rowS_snoc (n : Nat) (g : Nat → Bool) : rowS n g ++ sgS (g n) = rowS (n + 1) g := by
  rw [← rowS_one, rowS_app]
  exact rowS_ext fun j hj => by
    by_cases h : j < n
    · rw [if_pos h]
    · rw [if_neg h, show j = n by omega]
theorem cutS_row (n : Nat) (g : Nat → Bool) (lo hi : Nat) : cutS (rowS n g) (some (lo : Int)) (some (hi : Int)) = rowS (min hi n - min lo n) (fun j => g (j + min lo n)) := by
  unfold cutS
  rw [rowS_len, HT.sIx_nat, HT.sIx_nat]
  apply str_ext
  show (((List.range n).map fun j => cp (g j)).drop (min lo n)).take (min hi n - min lo n) = (List.range (min hi n - min lo n)).map fun j => cp (g (j + min lo n))
  apply List.ext_getElem?
  intro i
  rw [List.getElem?_take]
  by_cases hi' : i < min hi n - min lo n
  · rw [if_pos hi', List.getElem?_drop, List.getElem?_map, List.getElem?_map, List.getElem?_range (by omega), List.getElem?_range hi']
    show some (cp (g (min lo n + i))) = some (cp (g (i + min lo n)))
    rw [Nat.add_comm]
  · rw [if_neg hi', List.getElem?_map, List.getElem?_eq_none (by rw [List.length_range]; omega)]
    rfl
theorem cutS_to (n : Nat) (g : Nat → Bool) (hi : Nat) : cutS (rowS n g) none (some (hi : Int)) = rowS (min hi n) g := by
  have e : cutS (rowS n g) none (some (hi : Int)) = cutS (rowS n g) (some ((0 : Nat) : Int)) (some (hi : Int)) := by
    unfold cutS
    rw [HT.sIx_none, show HT.sIx (rowS n g).length 0 (some ((0 : Nat) : Int)) = 0 from (HT.sIx_nat _ _ _).trans (Nat.zero_min _)]
  rw [e, cutS_row, Nat.zero_min]
  exact rowS_ext fun j hj => rfl
theorem cutS_from (n : Nat) (g : Nat → Bool) (lo : Nat) : cutS (rowS n g) (some (lo : Int)) none = rowS (n - min lo n) (fun j => g (j + min lo n)) := by
  have e : cutS (rowS n g) (some (lo : Int)) none = cutS (rowS n g) (some (lo : Int)) (some (n : Int)) := by
    unfold cutS
    rw [rowS_len, HT.sIx_none, HT.sIx_nat, HT.sIx_nat, Nat.min_self]
  rw [e, cutS_row, Nat.min_self]
/-- one sign of a row changed -/
def bend (g : Nat → Bool) (k : Nat) : Nat → Bool := fun j => if j = k then !g j else g j
theorem bend_row (n : Nat) (g : Nat → Bool) (k : Nat) (hk : k < n) : cutS (rowS n g) none (some (k : Int)) ++ sgS (!g k) ++ cutS (rowS n g) (some ((k + 1 : Nat) : Int)) none = rowS n (bend g k) := by
  rw [cutS_to, cutS_from, show min k n = k by omega, show min (k + 1) n = k + 1 by omega]
  have e : rowS k g ++ sgS (!g k) = rowS (k + 1) (bend g k) := by
    have q := rowS_snoc k (bend g k)
    have q1 : rowS k (bend g k) = rowS k g := rowS_ext fun j hj => by unfold bend; rw [if_neg (by omega)]
    have q2 : bend g k k = !g k := by unfold bend; rw [if_pos rfl]
    rw [q1, q2] at q
    exact q
  rw [e, rowS_app, show k + 1 + (n - (k + 1)) = n by omega]
  refine rowS_ext fun j hj => ?_
  by_cases h : j < k + 1
  · rw [if_pos h]
  · rw [if_neg h]
    show g (j - (k + 1) + (k + 1)) = bend g k j
    unfold bend
    rw [if_neg (by omega), show j - (k + 1) + (k + 1) = j by omega]
/-! ### comparisons of lists -/
def strG (z : Str) : Bool := PyData.canLay0 (.str z)
theorem rowS_ok (n : Nat) (g : Nat → Bool) : strG (rowS n g) = true := by
  unfold strG
  show ((rowS n g).cps.all (· < 0x110000)) = true
  have h : ∀ c ∈ (rowS n g).cps.toList, c = 43 ∨ c = 45 := fun c hc => by
    have hc' : c ∈ (List.range n).map fun j => cp (g j) := hc
    obtain ⟨j, _, rfl⟩ := List.mem_map.mp hc'
    unfold cp
    split
    · exact .inl rfl
    · exact .inr rfl
  first
    | (rw [Array.all_eq_true']; intro c hc; rcases h c (by simpa using hc) with rfl | rfl <;> decide)
    | (simp only [Array.all_eq_true, decide_eq_true_eq]; intro i hi; rcases h _ (Array.getElem_mem_toList hi) with q | q <;> rw [q] <;> decide)
theorem canLay_strs : ∀ zs : List Str, (∀ z ∈ zs, strG z = true) → PyData.canLayAll0 (zs.map .str) = true
  | [], _ => rfl
  | z :: r, h => by
    show (PyData.canLay0 (.str z) && PyData.canLayAll0 (r.map .str)) = true
    rw [show PyData.canLay0 (.str z) = true from h z (List.mem_cons_self ..), canLay_strs r fun y hy => h y (List.mem_cons_of_mem _ hy)]
    rfl
theorem depth_strs : ∀ zs : List Str, PyData.depthAll (zs.map .str) = 0
  | [] => rfl
  | z :: r => by
    show max (PyData.depth (.str z)) (PyData.depthAll (r.map .str)) = 0
    rw [depth_strs r]
    rfl
theorem canLay_ints : ∀ zs : List Int, PyData.canLayAll0 (zs.map .int) = true
  | [] => rfl
  | z :: r => canLay_ints r
theorem depth_ints : ∀ zs : List Int, PyData.depthAll (zs.map .int) = 0
  | [] => rfl
  | z :: r => by
    show max (PyData.depth (.int z)) (PyData.depthAll (r.map .int)) = 0
    rw [depth_ints r]
    rfl
theorem shaped_strs {zs : List Str} (h : ∀ z ∈ zs, strG z = true) : SeqAt.shaped (.list (zs.map .str)) = true := by
  unfold SeqAt.shaped
  have a : PyData.canLay0 (.list (zs.map .str)) = true := canLay_strs zs h
  have b : PyData.depth (.list (zs.map .str)) = 1 := by
    show PyData.depthAll (zs.map .str) + 1 = 1
    rw [depth_strs]
  rw [a, b]
  rfl
theorem shaped_ints (zs : List Int) : SeqAt.shaped (.list (zs.map .int)) = true := by
  unfold SeqAt.shaped
  have a : PyData.canLay0 (.list (zs.map .int)) = true := canLay_ints zs
  have b : PyData.depth (.list (zs.map .int)) = 1 := by
    show PyData.depthAll (zs.map .int) + 1 = 1
    rw [depth_ints]
  rw [a, b]
  rfl
theorem eqv_strs : ∀ xs ys : List Str, PyData.eqvAll (xs.map .str) (ys.map .str) = decide (xs = ys)
  | [], [] => rfl
  | [], _ :: _ => rfl
  | _ :: _, [] => rfl
  | x :: xs, y :: ys => by
    show ((x == y) && PyData.eqvAll (xs.map .str) (ys.map .str)) = decide (x :: xs = y :: ys)
    rw [eqv_strs xs ys, Bool.eq_iff_iff]
    simp
theorem eqv_ints : ∀ xs ys : List Int, PyData.eqvAll (xs.map .int) (ys.map .int) = decide (xs = ys)
  | [], [] => rfl
  | [], _ :: _ => rfl
  | _ :: _, [] => rfl
  | x :: xs, y :: ys => by
    show ((x == y) && PyData.eqvAll (xs.map .int) (ys.map .int)) = decide (x :: xs = y :: ys)
    rw [eqv_ints xs ys, Bool.eq_iff_iff]
    simp
section
variable {K : PySem.W.Frag} {H : Hp}
theorem dp_strs : ∀ zs : List Str, DpAll K H (zs.map V.str) (zs.map .str)
  | [] => .nil
  | z :: r => .cons (.str z) (dp_strs r)
theorem dp_ints : ∀ zs : List Int, DpAll K H (zs.map V.int) (zs.map .int)
  | [] => .nil
  | z :: r => .cons (.int z) (dp_ints r)
theorem tabV_strs (n : Nat) (f : Nat → Nat → Bool) : tabV n f = ((List.range n).map fun i => rowS n (f i)).map V.str := by
  unfold tabV
  rw [List.map_map]
  rfl
theorem tab_good (n : Nat) (f : Nat → Nat → Bool) : ∀ z ∈ ((List.range n).map fun i => rowS n (f i)), strG z = true := fun z hz => by
  obtain ⟨i, _, rfl⟩ := List.mem_map.mp hz
  exact rowS_ok n (f i)
theorem rv_neS {a b : Addr} {xs ys : List Str} (ha : SqL K H a (xs.map V.str)) (hb : SqL K H b (ys.map V.str)) (gx : ∀ z ∈ xs, strG z = true) (gy : ∀ z ∈ ys, strG z = true) : RV (rNeD K) (.ref a) (.ref b) H (.bl (!decide (xs = ys))) := fun H1 e Q q =>
  ⟨_, _, .lst (ex_l e ha) (dp_strs xs), .lst (ex_l e hb) (dp_strs ys), shaped_strs gx, shaped_strs gy, by
    rw [show PyData.eqv (.list (xs.map .str)) (.list (ys.map .str)) = decide (xs = ys) from eqv_strs xs ys]
    exact q H1 (Ex.refl H1)⟩
theorem rv_eqS {a b : Addr} {xs ys : List Str} (ha : SqL K H a (xs.map V.str)) (hb : SqL K H b (ys.map V.str)) (gx : ∀ z ∈ xs, strG z = true) (gy : ∀ z ∈ ys, strG z = true) : RV (rEqD K) (.ref a) (.ref b) H (.bl (decide (xs = ys))) := fun H1 e Q q =>
  ⟨_, _, .lst (ex_l e ha) (dp_strs xs), .lst (ex_l e hb) (dp_strs ys), shaped_strs gx, shaped_strs gy, by
    rw [show PyData.eqv (.list (xs.map .str)) (.list (ys.map .str)) = decide (xs = ys) from eqv_strs xs ys]
    exact q H1 (Ex.refl H1)⟩
theorem rv_neI {a b : Addr} {xs ys : List Int} (ha : SqL K H a (xs.map V.int)) (hb : SqL K H b (ys.map V.int)) : RV (rNeD K) (.ref a) (.ref b) H (.bl (!decide (xs = ys))) := fun H1 e Q q =>
  ⟨_, _, .lst (ex_l e ha) (dp_ints xs), .lst (ex_l e hb) (dp_ints ys), shaped_ints xs, shaped_ints ys, by
    rw [show PyData.eqv (.list (xs.map .int)) (.list (ys.map .int)) = decide (xs = ys) from eqv_ints xs ys]
    exact q H1 (Ex.refl H1)⟩
theorem rv_eqI {a b : Addr} {xs ys : List Int} (ha : SqL K H a (xs.map V.int)) (hb : SqL K H b (ys.map V.int)) : RV (rEqD K) (.ref a) (.ref b) H (.bl (decide (xs = ys))) := fun H1 e Q q =>
  ⟨_, _, .lst (ex_l e ha) (dp_ints xs), .lst (ex_l e hb) (dp_ints ys), shaped_ints xs, shaped_ints ys, by
    rw [show PyData.eqv (.list (xs.map .int)) (.list (ys.map .int)) = decide (xs = ys) from eqv_ints xs ys]
    exact q H1 (Ex.refl H1)⟩
/-- two lists of the same table -/
theorem rv_neTab {a b : Addr} {n : Nat} {f : Nat → Nat → Bool} (ha : TabAt K H a n f) (hb : TabAt K H b n f) : RV (rNeD K) (.ref a) (.ref b) H (.bl false) := by
  unfold TabAt at ha hb
  rw [tabV_strs] at ha hb
  have q := rv_neS ha hb (tab_good n f) (tab_good n f)
  rw [decide_eq_true rfl] at q
  exact q
theorem rv_eqTab {a b : Addr} {n : Nat} {f : Nat → Nat → Bool} (ha : TabAt K H a n f) (hb : TabAt K H b n f) : RV (rEqD K) (.ref a) (.ref b) H (.bl true) := by
  unfold TabAt at ha hb
  rw [tabV_strs] at ha hb
  have q := rv_eqS ha hb (tab_good n f) (tab_good n f)
  rw [decide_eq_true rfl] at q
  exact q
end
theorem strp : (Str.ofString "+") = sgS true := sg_plus
end HA
namespace HA
open PySem PySem.Spec PyProof.Rows L2 Evl
section
variable {K : PySem.W.Frag} {σ : L2.St} {H H' : Hp} {ta tb tc td te tx : TE} {t u : TT} {x y z v : V} {r r' r'' : R2} {D : Ends}
theorem s_asgIf {i : Nat} {b : Bool} (h : EvT t σ H b) (h1 : b = true → ∀ H1, Ex H H1 → tAsg ta (gName i) D σ H1) (h2 : b = false → ∀ H1, Ex H H1 → tAsg tb (gName i) D σ H1) : tAsg (tIf t ta tb) (gName i) D σ H := h H (Ex.refl H) _ fun H1 e => by
  cases b with
  | true => exact h1 rfl H1 e
  | false => exact h2 rfl H1 e
/-- xs.insert(i, e) -/
def rIns : V → List V → Hp → VK → Prop := fun x vs H Q => ∃ (l : Addr) (xs : List V) (i : Int) (y : V), x = .ref l ∧ vs = [.int i, y] ∧ H l = some (.lst xs) ∧ xs.length < sizeLine ∧ 0 ≤ i ∧ i < 2 ^ 63 ∧ Q .non (upd H l (.lst (xs.take i.toNat ++ [y] ++ xs.drop i.toNat)))
theorem s_ins {l : Addr} {xs : List V} {m : Nat} (hl : H l = some (.lst xs)) (ha : Ev ta σ H (.ref l)) (hi : Ev tb σ H (.int (m : Int))) (h : Ev te σ H v) (hz : xs.length < 100000) (hm : m ≤ xs.length) (k : ∀ H1, Ex H H1 → D.nx σ (upd H1 l (.lst (xs.take m ++ [v] ++ xs.drop m)))) :
    tDrop (tBM K "list" rIns ta (tCons tb (tCons te tNil))) D σ H := ha H (Ex.refl H) _ fun H1 e1 =>
  ⟨Or.inl ⟨rfl, xs, sq_of (e1 l _ hl)⟩, hi H1 e1 _ fun H2 e2 => h H2 (e1.trans e2) _ fun H3 e3 => ⟨l, xs, (m : Int), v, rfl, rfl, ((e1.trans e2).trans e3) l _ hl, sz_lt hz, by omega, by omega, k H3 ((e1.trans e2).trans e3)⟩⟩
/-- the columns of rows that stand -/
theorem tr_comp {a : Addr} {n j l : Nat} {g : Nat → Nat → Bool} {vs ws : List Nat} {ta tb tx ty : TE} (ha : ∀ x H1, Ex H H1 → Ev ta ((wipe σ vs).set j (some x)) H1 (.ref a)) (hl : EvA (tCons (tCB (rLenS K) (tCons tb tNil)) tNil) σ H [.int (n : Int)]) (hx : SqL K H a ((List.range n).map fun k => V.str (rowS n (g k)))) (hn : n ≤ 1000)
    (hw : ∀ x, wipe ((wipe σ vs).set j (some x)) vs = wipe σ vs) (hw2 : ∀ x y, wipe ((wipe ((wipe σ vs).set j (some x)) ws).set l (some y)) ws = wipe ((wipe σ vs).set j (some x)) ws)
    (hy : ∀ x y H1, Ex H H1 → Ev tx ((wipe ((wipe σ vs).set j (some x)) ws).set l (some y)) H1 y) (hz : ∀ x y H1, Ex H H1 → Ev ty ((wipe ((wipe σ vs).set j (some x)) ws).set l (some y)) H1 x) :
    EvL (tLc (iRng1 (tCons (tCB (rLenS K) (tCons tb tNil)) tNil)) (gName j) tYes (tM1 (rJoin K) (tC (.str (Str.ofString ""))) (tLc (iList K ta) (gName l) tYes (tOp rIxS tx ty) ws)) vs) σ H (tabV n fun i k => g k i) := by
  refine ev_list (el_lcR1 (n := (n : Int)) (fun _ => true) (fun i => V.str (rowS n fun k => g k i)) hl ⟨by omega, by omega⟩ hw (fun i H1 e hi => et_yes) (fun i H1 e hi _ => ?_)) ?_
  · refine ev_joinRow (K := K) (g := fun k => g k i) (ev_list (el_lcL (K := K) (xs := (List.range n).map fun k => V.str (rowS n (g k))) (fun _ => true) (fun k => V.str (sgS (g k i))) (ha _ H1 e) (ex_l e hx) (by rw [List.length_map, List.length_range]; omega) (hw2 _) (fun k x H2 e2 hk => et_yes) (fun k x H2 e2 hk _ => ?_)) ?_) (by omega)
    · have hk' : k < n := by
        have q := (List.getElem?_eq_some_iff.mp hk).1
        rwa [List.length_map, List.length_range] at q
      rw [List.getElem?_map, List.getElem?_range hk'] at hk
      cases hk
      exact ev_itS (hy _ _ H2 (e.trans e2)) (hz _ _ H2 (e.trans e2)) (by omega) (by omega)
    · rw [given_all, List.length_map, List.length_range]
  · rw [given_all, Int.toNat_natCast]
    rfl
end
theorem q_forW {σ : L2.St} {H : Hp} {D : Ends} {J : It} {n : Nat} {G : Hp → Prop} {Y : Nat → Hp → V → Hp → Prop} (w : Walk J n G Y) {wi : TI} {g : TG} {tu tz : TS} (hi : ∀ H1, Ex H H1 → ∀ R : It → Hp → Prop, (∀ H2, Ex H1 H2 → R J H2) → wi σ H1 R) (Pv : Nat → L2.St → Hp → Prop) (h0 : ∀ H1, Ex H H1 → Pv 0 σ H1)
    (hG : ∀ i σ' H', i ≤ n → Pv i σ' H' → G H') (hs : ∀ i x σ' H1 H', i < n → Pv i σ' H1 → Y i H1 x H' → g x σ' H' fun σ2 H2 => tu { D with nx := Pv (i + 1), ct := Pv (i + 1), bk := tz D } σ2 H2) (hd : ∀ σ' H', Pv n σ' H' → tz D σ' H') :
    tSeq (tFor wi g tu) tz D σ H := s_forW (D := { D with nx := tz D }) w hi Pv h0 hG hs hd
/-! ### rows laid in another turn -/
/-- i rows of f, in some turn, some of them turned -/
def Laid (n i : Nat) (f g : Nat → Nat → Bool) : Prop := ∃ (π : Nat → Nat) (e : Nat → Bool), (∀ k, k < i → π k < i) ∧ (∀ a, a < i → ∀ b, b < i → π a = π b → a = b) ∧ ∀ k, k < i → ∀ j, j < n → g k j = (f (π k) j ^^ e k)
theorem laid_zero (n : Nat) (f g : Nat → Nat → Bool) : Laid n 0 f g := ⟨id, fun _ => false, fun k hk => absurd hk (by omega), fun a ha => absurd ha (by omega), fun k hk => absurd hk (by omega)⟩
def insF (m : Nat) (g : Nat → Nat → Bool) (x : Nat → Bool) : Nat → Nat → Bool := fun k => if k < m then g k else if k = m then x else g (k - 1)
theorem laid_ins {n i m : Nat} {f g : Nat → Nat → Bool} {x : Nat → Bool} {b : Bool} (h : Laid n i f g) (hm : m ≤ i) (hx : ∀ j, j < n → x j = (f i j ^^ b)) : Laid n (i + 1) f (insF m g x) := by
  obtain ⟨π, e, h1, h2, h3⟩ := h
  refine ⟨fun k => if k < m then π k else if k = m then i else π (k - 1), fun k => if k < m then e k else if k = m then b else e (k - 1), fun k hk => ?_, fun a ha c hc hac => ?_, fun k hk j hj => ?_⟩
  · by_cases c1 : k < m
    · simp only [if_pos c1]
      have := h1 k (by omega)
      omega
    · by_cases c2 : k = m
      · simp only [if_neg c1, if_pos c2]
        omega
      · simp only [if_neg c1, if_neg c2]
        have := h1 (k - 1) (by omega)
        omega
  · by_cases a1 : a < m
    · by_cases c1 : c < m
      · simp only [if_pos a1, if_pos c1] at hac
        exact h2 a (by omega) c (by omega) hac
      · by_cases c2 : c = m
        · simp only [if_pos a1, if_neg c1, if_pos c2] at hac
          have := h1 a (by omega)
          omega
        · simp only [if_pos a1, if_neg c1, if_neg c2] at hac
          have := h2 a (by omega) (c - 1) (by omega) hac
          omega
    · by_cases a2 : a = m
      · by_cases c1 : c < m
        · simp only [if_neg a1, if_pos a2, if_pos c1] at hac
          have := h1 c (by omega)
          omega
        · by_cases c2 : c = m
          · omega
          · simp only [if_neg a1, if_pos a2, if_neg c1, if_neg c2] at hac
            have := h1 (c - 1) (by omega)
            omega
      · by_cases c1 : c < m
        · simp only [if_neg a1, if_neg a2, if_pos c1] at hac
          have := h2 (a - 1) (by omega) c (by omega) hac
          omega
        · by_cases c2 : c = m
          · simp only [if_neg a1, if_neg a2, if_neg c1, if_pos c2] at hac
            have := h1 (a - 1) (by omega)
            omega
          · simp only [if_neg a1, if_neg a2, if_neg c1, if_neg c2] at hac
            have := h2 (a - 1) (by omega) (c - 1) (by omega) hac
            omega
  · unfold insF
    by_cases c1 : k < m
    · simp only [if_pos c1]
      exact h3 k (by omega) j hj
    · by_cases c2 : k = m
      · simp only [if_neg c1, if_pos c2]
        exact hx j hj
      · simp only [if_neg c1, if_neg c2]
        exact h3 (k - 1) (by omega) j hj
theorem insF_list (n i m : Nat) (hm : m ≤ i) (g : Nat → Nat → Bool) (x : Nat → Bool) : ((List.range i).map fun k => V.str (rowS n (g k))).take m ++ [V.str (rowS n x)] ++ ((List.range i).map fun k => V.str (rowS n (g k))).drop m = (List.range (i + 1)).map fun k => V.str (rowS n (insF m g x k)) := by
  apply List.ext_getElem?
  intro k
  rw [List.append_assoc]
  by_cases c1 : k < m
  · rw [List.getElem?_append_left (by rw [List.length_take, List.length_map, List.length_range]; omega), List.getElem?_take, if_pos c1, List.getElem?_map, List.getElem?_map, List.getElem?_range (by omega), List.getElem?_range (by omega)]
    simp only [Option.map_some, insF, if_pos c1]
  · have lt : (((List.range i).map fun k => V.str (rowS n (g k))).take m).length = m := by rw [List.length_take, List.length_map, List.length_range]; omega
    rw [List.getElem?_append_right (by rw [lt]; omega), lt]
    by_cases c2 : k = m
    · subst c2
      rw [Nat.sub_self, List.getElem?_map, List.getElem?_range (by omega)]
      show some (V.str (rowS n x)) = _
      simp only [Option.map_some, insF, if_neg c1, if_true]
    · rw [show k - m = (k - m - 1) + 1 by omega]
      show (((List.range i).map fun k => V.str (rowS n (g k))).drop m)[k - m - 1]? = _
      rw [List.getElem?_drop, show m + (k - m - 1) = k - 1 by omega, List.getElem?_map, List.getElem?_map]
      by_cases c3 : k < i + 1
      · rw [List.getElem?_range (by omega), List.getElem?_range c3]
        simp only [Option.map_some, insF, if_neg c1, if_neg c2]
      · rw [List.getElem?_eq_none (by rw [List.length_range]; omega), List.getElem?_eq_none (by rw [List.length_range]; omega)]
        rfl
theorem laid_had {n : Nat} {f g : Nat → Nat → Bool} (h : Laid n n f g) (k : Had n f) : Had n g := by
  obtain ⟨π, e, h1, h2, h3⟩ := h
  exact had_perm π e h1 h2 h3 k
/-! ### the script's cells -/
def cellsOf (d : Int) (ns : List Int) : List Int := if ns = [] then [d] else ns
theorem cellsOf_ok {d : Int} {ns : List Int} (hd : d.natAbs < 2 ^ 40) (h : Cells ns) : Cells (cellsOf d ns) ∧ 1 ≤ (cellsOf d ns).length := by
  unfold cellsOf
  by_cases e : ns = []
  · rw [if_pos e]
    refine ⟨⟨by show 1 ≤ 63; decide, fun z hz => ?_⟩, Nat.le_refl 1⟩
    rw [List.mem_singleton.mp hz]
    exact Nat.lt_of_lt_of_le hd (Nat.pow_le_pow_right (by decide) (show 40 ≤ 1048700 by decide))
  · rw [if_neg e]
    refine ⟨h, ?_⟩
    cases ns with
    | nil => exact absurd rfl e
    | cons a r =>
      rw [List.length_cons]
      omega
theorem cut63 {xs : List V} (h : xs.length ≤ 63) : cutV xs none (some 63) = xs := by
  unfold cutV
  rw [HT.sIx_none, show HT.sIx xs.length xs.length (some (63 : Int)) = min 63 xs.length from HT.sIx_nat xs.length xs.length 63, List.drop_zero, Nat.sub_zero]
  exact List.take_of_length_le (by omega)
/-- script[:63] if script != [] else [d] -/
theorem el_cells {K : PySem.W.Frag} {σ : L2.St} {H : Hp} {ta tb : TE} {a : Addr} {ns : List Int} {d : Int} (ha : Ev ta σ H (.ref a)) (hb : Ev tb σ H (.ref a)) (h : SqL K H a (ns.map V.int)) (hl : ns.length ≤ 63) :
    EvL (tIf (tTest (tOp (rNeD K) ta (tLst tNil))) (tSl (rSlL K) tb tNoPart (tPart (tC (.int 63)))) (tLst (tCons (tC (.int d)) tNil))) σ H ((cellsOf d ns).map V.int) := by
  refine el_if (et_test (ev_opL ha (el_lst ea_nil (by show 0 ≤ 100000; decide)) fun p H1 hp e => rv_neI (xs := ns) (ys := []) (ex_l e h) (sq_of hp))) (fun hb' => ?_) (fun hb' => ?_)
  · have hne : ¬ ns = [] := by simpa using hb'
    refine ev_list (el_sl hb eo_none (eo_some ev_c) h) ?_
    rw [cut63 (by rw [List.length_map]; exact hl)]
    unfold cellsOf
    rw [if_neg hne]
  · have he : ns = [] := by simpa using hb'
    refine ev_list (el_lst (ea_cons ev_c ea_nil) (by show 1 ≤ 100000; decide)) ?_
    unfold cellsOf
    rw [if_pos he]
    rfl
theorem getI {xs : List Int} {i : Nat} (h : i < xs.length) : (xs.map V.int)[i]? = some (.int xs[i]) := by
  rw [List.getElem?_map, List.getElem?_eq_getElem h]
  rfl
end HA

end
section
set_option maxRecDepth 100000
set_option maxHeartbeats 4000000
namespace HA
open PySem PySem.Spec PyProof.Rows L2 Evl
section
variable {K : PySem.W.Frag} {σ : L2.St} {H H' : Hp} {ta tb tc td te tx : TE} {t u : TT} {x y z v : V} {r r' r'' : R2} {D : Ends} {tz : TS}
theorem ev_meth {C p dx : Addr} {m : Str} {sp : Sp} {dvs vs : List V} {E : XK} {fs : List (Str × V)} {ts : TA} (ha : Ev ta σ H (.ref p)) (hp : H p = some (.ins C dx fs)) (hm : fs.lookup m = none) (hs : EvA ts σ H vs) (h : SpV sp (.ref p :: (vs ++ dvs)) H z) : Ev (tMeth C m sp dvs E ta ts) σ H z := fun H1 e Q q =>
  ha H1 e _ fun H2 e2 => ⟨p, dx, fs, rfl, (e.trans e2) p _ hp, hm, hs H2 (e.trans e2) _ fun H3 e3 => h H3 ((e.trans e2).trans e3) Q (fun H4 e4 => q H4 ((e2.trans e3).trans e4)) E⟩
theorem ev_inl (h : Ev ta σ H v) : Ev (fun σ H Q => ta σ H Q ∨ tb σ H Q) σ H v := fun H1 e Q q => .inl (h H1 e Q q)
theorem ev_inr (h : Ev tb σ H v) : Ev (fun σ H Q => ta σ H Q ∨ tb σ H Q) σ H v := fun H1 e Q q => .inr (h H1 e Q q)
theorem q_asgC {i : Nat} {sp : Sp} {dvs vs : List V} {E : XK} {ts : TA} (h : EvA ts σ H vs) (k : ∀ H1, Ex H H1 → sp (vs ++ dvs) H1 (fun v H2 => tz D (σ.set i (some v)) H2) E) : tSeq (tAsg (tCall sp dvs E ts) (gName i)) tz D σ H := h H (Ex.refl H) _ fun H1 e => k H1 e
theorem s_asgC {i : Nat} {sp : Sp} {dvs vs : List V} {E : XK} {ts : TA} (h : EvA ts σ H vs) (k : ∀ H1, Ex H H1 → sp (vs ++ dvs) H1 (fun v H2 => D.nx (σ.set i (some v)) H2) E) : tAsg (tCall sp dvs E ts) (gName i) D σ H := h H (Ex.refl H) _ fun H1 e => k H1 e
theorem q_par {i j : Nat} {ts : TA} (h : EvA ts σ H [x, y]) (k : ∀ H1, Ex H H1 → tz D ((σ.set i (some x)).set j (some y)) H1) : tSeq (tPar i j ts) tz D σ H := h H (Ex.refl H) _ fun H1 e => ⟨x, y, rfl, k H1 e⟩
/-! what is known of a value -/
theorem er_call {sp : Sp} {dvs vs : List V} {E : XK} {ts : TA} {R : V → Hp → Prop} (h : EvA ts σ H vs) (hs : ∀ H1, Ex H H1 → ∀ Q : VK, (∀ v H2, Ex H1 H2 → R v H2 → Q v H2) → sp (vs ++ dvs) H1 Q E) : EvR (tCall sp dvs E ts) σ H R := fun H1 e Q q =>
  h H1 e _ fun H2 e2 => hs H2 (e.trans e2) Q fun v H3 e3 hv => q v H3 (e2.trans e3) hv
/-- the argument a new list -/
theorem er_callL {sp : Sp} {dvs xs : List V} {E : XK} {R : V → Hp → Prop} (h : EvL ta σ H xs) (hs : ∀ p H1, Ex H H1 → H1 p = some (.lst xs) → ∀ Q : VK, (∀ v H2, Ex H1 H2 → R v H2 → Q v H2) → sp ([.ref p] ++ dvs) H1 Q E) : EvR (tCall sp dvs E (tCons ta tNil)) σ H R := fun H1 e Q q =>
  h H1 e _ fun p H2 _ e2 h2 => hs p H2 (e.trans e2) h2 Q fun v H3 e3 hv => q v H3 (e2.trans e3) hv
theorem ev_isiR {c : V} {tv w : Value} {b : Bool} (h : EvR ta σ H (fun v H2 => TyX K H2 v tv)) (hc : ClsV c w) (hk : PySem.W.kitOne K tv w = some b) : Ev (tCB (rIsi K) (tCons ta (tCons (tC c) tNil))) σ H (.bl b) := fun H1 e Q q =>
  h H1 e _ fun v H2 e2 hv => ⟨v, c, tv, w, b, rfl, hc, hv, hk, q H2 e2⟩
theorem ev_fldR {f : Str} {R : V → Prop} (h : EvR ta σ H (fun v H2 => ∃ p C dx fs, v = .ref p ∧ H2 p = some (.ins C dx fs) ∧ Cls K C ∧ NoAttr K C f ∧ fs.lookup f = some z)) : Ev (tFld K ta f) σ H z := fun H1 e Q q =>
  h H1 e _ fun v H2 e2 ⟨p, C, dx, fs, hv, hp, c, n, l⟩ => ⟨p, C, dx, fs, z, hv, hp, c, n, l, q H2 e2⟩
theorem ev_callR {sp : Sp} {E : XK} {R : V → Hp → Prop} (hb : Ev tb σ H y) (h : EvR ta σ H R) (hs : ∀ v H1, Ex H H1 → R v H1 → SpV sp [y, v] H1 z) : Ev (tCall sp [] E (tCons tb (tCons ta tNil))) σ H z := fun H1 e Q q =>
  hb H1 e _ fun H2 e2 => h H2 (e.trans e2) _ fun v H3 e3 hv => hs v H3 ((e.trans e2).trans e3) hv H3 (Ex.refl H3) Q (fun H4 e4 => q H4 ((e2.trans e3).trans e4)) E
end
/-! ### tables changed -/
def bendT (f : Nat → Nat → Bool) (a k : Nat) : Nat → Nat → Bool := fun i => if i = a then bend (f i) k else f i
theorem tab_set {n : Nat} {f : Nat → Nat → Bool} {a : Nat} (x : Nat → Bool) (ha : a < n) : (tabV n f).set a (V.str (rowS n x)) = tabV n (fun i => if i = a then x else f i) := by
  apply List.ext_getElem?
  intro k
  by_cases hk : k < n
  · by_cases h : a = k
    · subst h
      rw [List.getElem?_set_self (by rw [tabV_len]; exact ha), tabV_get ha, if_pos rfl]
    · rw [List.getElem?_set_ne h, tabV_get hk, tabV_get hk, if_neg (Ne.symm h)]
  · rw [List.getElem?_eq_none (by rw [List.length_set, tabV_len]; omega), List.getElem?_eq_none (by rw [tabV_len]; omega)]
theorem tab_rev (n : Nat) (f : Nat → Nat → Bool) : (tabV n f).reverse = tabV n (fun i => f (n - 1 - i)) := by
  apply List.ext_getElem?
  intro k
  by_cases hk : k < n
  · rw [List.getElem?_reverse (by rw [tabV_len]; exact hk), tabV_len, tabV_get (by omega), tabV_get hk]
  · rw [List.getElem?_eq_none (by rw [List.length_reverse, tabV_len]; omega), List.getElem?_eq_none (by rw [tabV_len]; omega)]
theorem ip_bend {n : Nat} (g h : Nat → Bool) {k : Nat} (hk : k < n) : ip n g (bend h k) = ip n g h - 2 * (sg (g k) * sg (h k)) := by
  have e : ip n g (bend h k) = S n (fun j => sg (g j) * sg (h j) + (if j = k then -(2 * (sg (g j) * sg (h j))) else 0)) := S_congr fun j _ => by
    unfold bend
    by_cases c : j = k
    · rw [if_pos c, if_pos c, sg_not]
      cases g j <;> cases h j <;> rfl
    · rw [if_neg c, if_neg c]
      omega
  rw [e, S_add, S_one (a := k) hk fun j _ hne => if_neg hne, if_pos rfl]
  show ip n g h + _ = _
  omega
theorem bent_not_half {n : Nat} {f : Nat → Nat → Bool} (h : halfB n f = true) {a b k : Nat} (ha : a < n) (hb : b < n) (hab : b ≠ a) (hk : k < n) : halfB n (bendT f a k) = false := by
  cases hq : halfB n (bendT f a k) with
  | false => rfl
  | true =>
    have h1 := half_had hq b hb a ha hab
    have e1 : bendT f a k b = f b := by unfold bendT; rw [if_neg hab]
    have e2 : bendT f a k a = bend (f a) k := by unfold bendT; rw [if_pos rfl]
    rw [e1, e2, ip_bend _ _ hk, half_had h b hb a ha hab] at h1
    have q : ∀ x y : Bool, ¬ (0 - 2 * (sg x * sg y) = 0) := by decide
    exact absurd h1 (q _ _)
/-! ### any signs by digits -/
def bitsF (d : List Int) (w : Int) (r s : Nat) : Bool := decide (lawNum (d.getD (r % d.length) 0) (r : Int) w / 2 ^ s % 2 = 0)
theorem pm_at (z : Int) : ∃ c, atI (Str.ofString "+-").cps.toList (Builtin.bitAnd z 1) = some c ∧ (⟨#[c]⟩ : Str) = sgS (decide (z % 2 = 0)) := by
  rw [show Builtin.bitAnd z 1 = z % 2 from PySem.W.kbt_mask z 1]
  have c : z % 2 = 0 ∨ z % 2 = 1 := by omega
  rcases c with c | c
  · rw [c]
    exact ⟨43, by decide +kernel, rfl⟩
  · rw [c]
    exact ⟨45, by decide +kernel, rfl⟩
/-- "+-"[number >> sign & 1] for each sign below n -/
theorem el_bits {K : PySem.W.Frag} {σ : L2.St} {H : Hp} {ta : TA} {tb tc : TE} {j n : Nat} {vs : List Nat} {nh : Int} (h : EvA ta σ H [.int (n : Int)]) (hn : n ≤ 1000) (hw : ∀ x, wipe ((wipe σ vs).set j (some x)) vs = wipe σ vs) (hb : ∀ x H1, Ex H H1 → Ev tb ((wipe σ vs).set j (some x)) H1 (.int nh)) (hc : ∀ x H1, Ex H H1 → Ev tc ((wipe σ vs).set j (some x)) H1 x) :
    Ev (tM1 (rJoin K) (tC (.str (Str.ofString ""))) (tLc (iRng1 ta) (gName j) tYes (tOp rIxS (tC (.str (Str.ofString "+-"))) (tOp (rI0 fun i j => .int (Builtin.bitAnd i j)) (tOp (rI (fun _ j => 0 ≤ j) fun i j => .int (i / 2 ^ j.toNat)) tb tc) (tC (.int 1)))) vs)) σ H (.str (rowS n fun s => decide (nh / 2 ^ s % 2 = 0))) := by
  refine ev_joinRow (K := K) (g := fun s => decide (nh / 2 ^ s % 2 = 0)) (ev_list (el_lcR1 (n := (n : Int)) (fun _ => true) (fun s => V.str (sgS (decide (nh / 2 ^ s % 2 = 0)))) h ⟨by omega, by omega⟩ hw (fun i H1 e hi => et_yes) (fun i H1 e hi _ => ?_)) (by rw [given_all, Int.toNat_natCast])) (by omega)
  obtain ⟨c, h1, h2⟩ := pm_at (nh / 2 ^ i)
  rw [← h2]
  exact ev_op (y := .int (Builtin.bitAnd (nh / 2 ^ i) 1)) ev_c (ev_op (ev_is (ev_op (hb _ H1 e) (hc _ H1 e) (rv_I (show (0 : Int) ≤ (i : Int) by omega))) (by rw [Int.toNat_natCast])) ev_c rv_I0) (rv_ixS (by decide +kernel) h1)
theorem rows_one (n k : Nat) (g : Nat → Nat → Bool) : ((List.range k).map fun r => V.str (rowS n (g r))) ++ [V.str (rowS n (g k))] = (List.range (k + 1)).map fun r => V.str (rowS n (g r)) := by
  rw [List.range_succ, List.map_append]
  rfl
/-- rows given one by one -/
theorem tab_init (n : Nat) (f : Nat → Nat → Bool) : cutV (tabV n f) none (some (-1)) = (List.range (n - 1)).map fun i => V.str (rowS n (f i)) := by
  unfold cutV
  have e : HT.sIx n n (some (-1 : Int)) = n - 1 := by
    show (if (-1 : Int) < 0 then ((-1 : Int) + (n : Int)).toNat else min (-1 : Int).toNat n) = n - 1
    rw [if_pos (by decide)]
    omega
  rw [tabV_len, HT.sIx_none, List.drop_zero, Nat.sub_zero, e]
  unfold tabV
  rw [← List.map_take, List.take_range, Nat.min_eq_left (Nat.sub_le _ _)]
theorem tab_last {n : Nat} (hn : 1 ≤ n) (f : Nat → Nat → Bool) : atI (tabV n f) (-1) = some (V.str (rowS n (f (n - 1)))) := by
  unfold atI ixN
  rw [tabV_len]
  rw [if_neg (by decide)]
  first
    | (rw [if_pos (by omega)]; show (tabV n f)[((-1 : Int) + (n : Int)).toNat]? = _; rw [show ((-1 : Int) + (n : Int)).toNat = n - 1 by omega]; exact tabV_get (by omega))
    | (simp; rw [show n - 1 = n - 1 from rfl]; exact tabV_get (by omega))
/-! ### the answers of the first kind -/
def sp_L_due (K : PySem.W.Frag) (CH CU : Addr) : Sp := fun vs H Q _ => ∃ (a p : Addr) (n : Nat) (f : Nat → Nat → Bool), vs = [.ref a, .ref p] ∧ TabAt K H a n f ∧ n ≤ 1000 ∧
  ((∃ dx, H p = some (.ins CH dx []) ∧ RetV (.bl (halfB n f)) H Q) ∨ (∃ dx i j, H p = some (.ins CU dx (uf (.int i) (.int j))) ∧ RetV (.bl (unlB n f i j)) H Q))
/-- tables by their places -/
structure Tb where
  a : Addr
  n : Nat
  f : Nat → Nat → Bool
def TbAt (K : PySem.W.Frag) (H : Hp) (q : Tb) : Prop := TabAt K H q.a q.n q.f ∧ 1 ≤ q.n ∧ q.n ≤ 100
theorem TbAt.ex {K : PySem.W.Frag} {H H' : Hp} {q : Tb} (e : Ex H H') (h : TbAt K H q) : TbAt K H' q := ⟨TabAt.ex e h.1, h.2⟩
def sp_L_right1 (K : PySem.W.Frag) : Sp := fun vs H Q _ => ∃ (q : Tb) (b : Addr) (qs : List Tb), vs = [.ref q.a, .ref b] ∧ TbAt K H q ∧ SqL K H b (qs.map fun q => V.ref q.a) ∧ (∀ q ∈ qs, TbAt K H q) ∧ RetV (.bl true) H Q
theorem unlB_true {n : Nat} {f : Nat → Nat → Bool} {i j : Nat} (h1 : i < j) (h2 : j < n) (h3 : 2 * alk n (f i) (f j) ≠ n) : unlB n f (i : Int) (j : Int) = true := by
  unfold unlB
  rw [decide_eq_true (show (0 : Int) ≤ (i : Int) by omega), decide_eq_true (show (i : Int) < (j : Int) by omega), decide_eq_true (show (j : Int) < (n : Int) by omega)]
  simp [h3]
theorem half_no {n : Nat} {f : Nat → Nat → Bool} {i j : Nat} (h1 : i < j) (h2 : j < n) (h3 : 2 * alk n (f i) (f j) ≠ n) : halfB n f = false := by
  cases hb : halfB n f with
  | false => rfl
  | true => exact absurd ((halfB_iff n f).mp hb j h2 i h1) h3
end HA

end
section
set_option maxRecDepth 100000
set_option maxHeartbeats 4000000
namespace HA
open PySem PySem.Spec PyProof.Rows L2 Evl
section
variable {K : PySem.W.Frag} {σ : L2.St} {H H' : Hp} {ta tb tc td te tx : TE} {t u : TT} {x y z v : V} {r r' r'' : R2} {D : Ends} {tz : TS}
/-! ### made instances -/
theorem q_asgR {i : Nat} {R : V → Hp → Prop} (h : EvR te σ H R) (k : ∀ v H1, Ex H H1 → R v H1 → tz D (σ.set i (some v)) H1) : tSeq (tAsg te (gName i)) tz D σ H := h H (Ex.refl H) _ k
theorem er_mk2 {C : Addr} {mk : V → V → List (Str × V)} {E : XK} {ts : TA} (h : EvA ts σ H [x, y]) : EvR (tMake C (sp_init2 C mk) [] E ts) σ H (fun v H2 => ∃ p dx, v = .ref p ∧ H2 p = some (.ins C dx (mk x y))) := fun H1 e Q q =>
  h H1 e _ fun H2 e2 p dx np nd ne => ⟨p, dx, x, y, rfl, upd_same, rfl, by
    rw [upd_upd]
    have ex : Ex H2 (upd (upd H2 dx (.own p)) p (.ins C dx (mk x y))) := (Ex.new nd).trans (Ex.new (by rw [upd_ne (Ne.symm ne)]; exact np))
    exact q _ _ (e2.trans ex) ⟨p, dx, rfl, upd_same⟩⟩
theorem er_mk0 {C : Addr} : EvR (tMake0 C) σ H (fun v H2 => ∃ p dx, v = .ref p ∧ H2 p = some (.ins C dx [])) := fun H1 e Q q p dx np nd ne =>
  q _ _ ((Ex.new nd).trans (Ex.new (by rw [upd_ne (Ne.symm ne)]; exact np))) ⟨p, dx, rfl, upd_same⟩
theorem ev_methR {C : Addr} {m : Str} {sp : Sp} {dvs vs : List V} {E : XK} {fs : List (Str × V)} {ts : TA} (ha : EvR ta σ H (fun v H2 => ∃ p dx, v = .ref p ∧ H2 p = some (.ins C dx fs))) (hm : fs.lookup m = none) (hs : EvA ts σ H vs)
    (h : ∀ p dx H1, Ex H H1 → H1 p = some (.ins C dx fs) → SpV sp (.ref p :: (vs ++ dvs)) H1 z) : Ev (tMeth C m sp dvs E ta ts) σ H z := fun H1 e Q q =>
  ha H1 e _ fun v H2 e2 ⟨p, dx, hv, hp⟩ => ⟨p, dx, fs, hv, hp, hm, hs H2 (e.trans e2) _ fun H3 e3 => by
    subst hv
    exact h p dx H3 ((e.trans e2).trans e3) (e3 p _ hp) H3 (Ex.refl H3) Q (fun H4 e4 => q H4 ((e2.trans e3).trans e4)) E⟩
/-- the argument a new list -/
theorem ev_methL {C : Addr} {m : Str} {sp : Sp} {dvs xs : List V} {E : XK} {fs : List (Str × V)} (ha : EvR ta σ H (fun v H2 => ∃ p dx, v = .ref p ∧ H2 p = some (.ins C dx fs))) (hm : fs.lookup m = none) (hs : EvL tb σ H xs)
    (h : ∀ p dx q H1, Ex H H1 → H1 p = some (.ins C dx fs) → H1 q = some (.lst xs) → SpV sp (.ref p :: ([.ref q] ++ dvs)) H1 z) : Ev (tMeth C m sp dvs E ta (tCons tb tNil)) σ H z := fun H1 e Q q =>
  ha H1 e _ fun v H2 e2 ⟨p, dx, hv, hp⟩ => ⟨p, dx, fs, hv, hp, hm, hs H2 (e.trans e2) _ fun l H3 _ e3 hl => by
    subst hv
    exact h p dx l H3 ((e.trans e2).trans e3) (e3 p _ hp) hl H3 (Ex.refl H3) Q (fun H4 e4 => q H4 ((e2.trans e3).trans e4)) E⟩
theorem ev_methL2 {C : Addr} {m : Str} {sp : Sp} {dvs xs : List V} {E : XK} {fs : List (Str × V)} (ha : EvR ta σ H (fun v H2 => ∃ p dx, v = .ref p ∧ H2 p = some (.ins C dx fs))) (hm : fs.lookup m = none) (hs : EvL tb σ H xs) (hc : Ev tc σ H y)
    (h : ∀ p dx q H1, Ex H H1 → H1 p = some (.ins C dx fs) → H1 q = some (.lst xs) → SpV sp (.ref p :: ([.ref q, y] ++ dvs)) H1 z) : Ev (tMeth C m sp dvs E ta (tCons tb (tCons tc tNil))) σ H z := fun H1 e Q q =>
  ha H1 e _ fun v H2 e2 ⟨p, dx, hv, hp⟩ => ⟨p, dx, fs, hv, hp, hm, hs H2 (e.trans e2) _ fun l H3 _ e3 hl => hc H3 ((e.trans e2).trans e3) _ fun H4 e4 => by
    subst hv
    exact h p dx l H4 (((e.trans e2).trans e3).trans e4) ((e3.trans e4) p _ hp) (e4 l _ hl) H4 (Ex.refl H4) Q (fun H5 e5 => q H5 (((e2.trans e3).trans e4).trans e5)) E⟩
/-! ### pairs compared -/
theorem rv_eqII {a b : Addr} {i j k l : Int} (ha : H a = some (.tup [.int i, .int j])) (hb : H b = some (.tup [.int k, .int l])) : RV (rEqD K) (.ref a) (.ref b) H (.bl (decide (i = k) && decide (j = l))) := fun H1 e Q q =>
  ⟨.tuple [.int i, .int j], .tuple [.int k, .int l], .tup (st_of (e a _ ha)) (.cons (.int i) (.cons (.int j) .nil)), .tup (st_of (e b _ hb)) (.cons (.int k) (.cons (.int l) .nil)), rfl, rfl, by
    have w : PyData.eqv (.tuple [.int i, .int j]) (.tuple [.int k, .int l]) = (decide (i = k) && decide (j = l)) := by
      show ((i == k) && ((j == l) && true)) = _
      rw [Bool.eq_iff_iff]
      simp
    rw [w]
    exact q H1 (Ex.refl H1)⟩
theorem rv_eqIB {a b : Addr} {i : Int} {c : Bool} (ha : H a = some (.tup [.int i, .bl c])) (hb : H b = some (.tup [.int i, .bl c])) : RV (rEqD K) (.ref a) (.ref b) H (.bl true) := fun H1 e Q q =>
  ⟨.tuple [.int i, .bool c], .tuple [.int i, .bool c], .tup (st_of (e a _ ha)) (.cons (.int i) (.cons (.bl c) .nil)), .tup (st_of (e b _ hb)) (.cons (.int i) (.cons (.bl c) .nil)), rfl, rfl, by
    have w : PyData.eqv (.tuple [.int i, .bool c]) (.tuple [.int i, .bool c]) = true := by
      show ((i == i) && ((c == c) && true)) = true
      simp
    rw [w]
    exact q H1 (Ex.refl H1)⟩
/-! ### lists of pairs -/
def Pairs (H : Hp) : List V → List (Int × Int) → Prop
  | [], [] => True
  | x :: xs, q :: qs => (∃ a, x = .ref a ∧ H a = some (.tup [.int q.1, .int q.2])) ∧ Pairs H xs qs
  | _, _ => False
theorem Pairs.ex (e : Ex H H') : ∀ {xs : List V} {qs : List (Int × Int)}, Pairs H xs qs → Pairs H' xs qs
  | [], [], _ => trivial
  | _ :: _, _ :: _, h => ⟨h.1.imp fun a p => ⟨p.1, e a _ p.2⟩, Pairs.ex e h.2⟩
  | [], _ :: _, h => h
  | _ :: _, [], h => h
theorem Pairs.len : ∀ {xs : List V} {qs : List (Int × Int)}, Pairs H xs qs → xs.length = qs.length
  | [], [], _ => rfl
  | _ :: xs, _ :: qs, h => by
    rw [List.length_cons, List.length_cons, Pairs.len h.2]
  | [], _ :: _, h => h.elim
  | _ :: _, [], h => h.elim
theorem Pairs.app : ∀ {xs ys : List V} {qs rs : List (Int × Int)}, Pairs H xs qs → Pairs H ys rs → Pairs H (xs ++ ys) (qs ++ rs)
  | [], _, [], _, _, k => k
  | _ :: _, _, _ :: _, _, h, k => ⟨h.1, Pairs.app h.2 k⟩
  | [], _, _ :: _, _, h, _ => h.elim
  | _ :: _, _, [], _, h, _ => h.elim
theorem Pairs.get : ∀ {xs : List V} {qs : List (Int × Int)} {i : Nat} {x : V}, Pairs H xs qs → xs[i]? = some x → ∃ q a, q ∈ qs ∧ x = .ref a ∧ H a = some (.tup [.int q.1, .int q.2])
  | x :: xs, q :: qs, 0, y, h, e => by
    obtain ⟨a, rfl, ha⟩ := h.1
    have e' : some (V.ref a) = some y := e
    cases e'
    exact ⟨q, a, List.mem_cons_self .., rfl, ha⟩
  | _ :: xs, q :: qs, i + 1, y, h, e => by
    have e' : xs[i]? = some y := e
    obtain ⟨q', a, m, r⟩ := Pairs.get h.2 e'
    exact ⟨q', a, List.mem_cons_of_mem _ m, r⟩
  | [], [], _, _, _, e => nomatch e
  | [], _ :: _, _, _, h, _ => h.elim
  | _ :: _, [], _, _, h, _ => h.elim
def EvAP (ts : TA) (σ : L2.St) (H : Hp) (ps : List (Int × Int)) : Prop := ∀ H1, Ex H H1 → ∀ Q : List V → Hp → Prop, (∀ xs H2, Ex H1 H2 → Pairs H2 xs ps → Q xs H2) → ts σ H1 Q
def EvP (te : TE) (σ : L2.St) (H : Hp) (ps : List (Int × Int)) : Prop := ∀ H1, Ex H H1 → ∀ Q : VK, (∀ p xs H2, Ex H1 H2 → H2 p = some (.lst xs) → Pairs H2 xs ps → Q (.ref p) H2) → te σ H1 Q
theorem eap_nil : EvAP tNil σ H [] := fun H1 _ Q q => q [] H1 (Ex.refl H1) trivial
theorem eap_cons {ts : TA} {i j : Int} {ps : List (Int × Int)} (ha : Ev ta σ H (.int i)) (hb : Ev tb σ H (.int j)) (hs : EvAP ts σ H ps) : EvAP (tCons (tTup (tCons ta (tCons tb tNil))) ts) σ H ((i, j) :: ps) := fun H1 e Q q =>
  eu_tup (ea_cons ha (ea_cons hb ea_nil)) (by show 2 ≤ 100000; decide) H1 e _ fun p H2 _ e2 h2 => hs H2 (e.trans e2) _ fun xs H3 e3 h3 => q (.ref p :: xs) H3 (e2.trans e3) ⟨⟨p, rfl, e3 p _ h2⟩, h3⟩
theorem ep_lst {ts : TA} {ps : List (Int × Int)} (h : EvAP ts σ H ps) (hl : ps.length ≤ 1000) : EvP (tLst ts) σ H ps := fun H1 e Q q =>
  h H1 e _ fun xs H2 e2 h2 => ⟨sz_of (by rw [h2.len]; omega), fun p hp => q p xs _ (e2.trans (Ex.new hp)) upd_same (h2.ex (Ex.new hp))⟩
theorem ep_cat {a : Addr} {xs : List V} {ps qs : List (Int × Int)} (ha : Ev ta σ H (.ref a)) (hx : H a = some (.lst xs)) (hp : Pairs H xs ps) (hb : EvP tb σ H qs) (hl : ps.length + qs.length ≤ 1000) : EvP (tOp rCat ta tb) σ H (ps ++ qs) := fun H1 e Q q =>
  ha H1 e _ fun H2 e2 => hb H2 (e.trans e2) _ fun b ys H3 e3 h3 k3 => ⟨a, b, xs, ys, rfl, rfl, ((e.trans e2).trans e3) a _ hx, h3, sz_of (by rw [hp.len, k3.len]; omega), fun p hp' => q p (xs ++ ys) _ ((e2.trans e3).trans (Ex.new hp')) upd_same (((hp.ex ((e.trans e2).trans e3)).app k3).ex (Ex.new hp'))⟩
/-- a pair's two names -/
theorem g_pair {j l : Nat} {a : Addr} {k : L2.St → Hp → Prop} (ha : H a = some (.tup [x, y])) (h : k ((σ.set j (some x)).set l (some y)) H) : gTup K 2 (gCons (gName j) (gCons (gName l) gNil)) (.ref a) σ H k :=
  ⟨a, _, rfl, st_of ha, rfl, _, _, rfl, _, _, rfl, rfl, h⟩
theorem s_forP {ps : List (Int × Int)} {tl : TE} {j l : Nat} {tu : TS} (h : EvP tl σ H ps) (Pv : L2.St → Hp → Prop) (h0 : ∀ H1, Ex H H1 → Pv σ H1)
    (hs : ∀ H1, Ex H H1 → ∀ q σ' H', q ∈ ps → Pv σ' H' → Ex H1 H' → tu { D with nx := fun s h => Pv s h ∧ Ex H1 h, ct := fun s h => Pv s h ∧ Ex H1 h, bk := D.nx } ((σ'.set j (some (.int q.1))).set l (some (.int q.2))) H') (hd : ∀ σ' H', Pv σ' H' → D.nx σ' H') : tFor (iList K tl) (gTup K 2 (gCons (gName j) (gCons (gName l) gNil))) tu D σ H := by
  refine h H (Ex.refl H) _ fun p xs H1 e h1 hp => ⟨p, rfl, ⟨xs, sq_of h1⟩, for_list (K := K) (xs := xs) (fun i σ' H' => Pv σ' H' ∧ Ex H1 H') ⟨h0 H1 e, Ex.refl H1⟩ (fun i σ' H' _ q => sq_of (q.2 p _ h1)) (fun i x σ' H' hx q => ?_) (fun σ' H' q => hd σ' H' q.1)⟩
  obtain ⟨qq, a, m, rfl, ha⟩ := (hp.ex q.2).get hx
  exact g_pair ha (hs H1 e qq σ' H' m q.1 q.2)
end
/-! ### near rows -/
def nearB (n : Nat) (g h : Nat → Bool) (p : Bool) : Bool := decide (4 * (if p = true then n - alk n g h else alk n g h) < n)
theorem nearB_int (n : Nat) (g h : Nat → Bool) (p : Bool) : decide (4 * (if p = true then (n : Int) - (alk n g h : Int) else (alk n g h : Int)) < (n : Int)) = nearB n g h p := by
  have := alk_le n g h
  unfold nearB
  rw [Bool.eq_iff_iff, decide_eq_true_eq, decide_eq_true_eq]
  cases p
  · simp only [Bool.false_eq_true, if_false]
    omega
  · simp only [if_true]
    omega
def sp_is_near : Sp := fun vs H Q _ => ∃ (n : Nat) (g h : Nat → Bool) (p : Bool), vs = [.str (rowS n g), .str (rowS n h), .bl p] ∧ n ≤ 1000 ∧ RetV (.bl (nearB n g h p)) H Q
def nearR (n : Nat) (f : Nat → Nat → Bool) (h : Nat → Bool) (i : Int) (p : Bool) : Bool := (decide (0 ≤ i) && decide (i < n)) && nearB n (f i.toNat) h p
def sp_Near_shows (K : PySem.W.Frag) (C : Addr) : Sp := fun vs H Q _ => ∃ (p dx a : Addr) (i : Int) (b : Bool) (n : Nat) (f : Nat → Nat → Bool) (h : Nat → Bool), vs = [.ref p, .ref a, .str (rowS n h)] ∧ H p = some (.ins C dx (nf (.int i) (.bl b))) ∧ TabAt K H a n f ∧ n ≤ 1000 ∧ RetV (.bl (nearR n f h i b)) H Q
def farB (n : Nat) (f : Nat → Nat → Bool) (h : Nat → Bool) : Bool := !((List.range n).any fun i => nearB n (f i) h true || nearB n (f i) h false)
def sp_Far_shows (K : PySem.W.Frag) : Sp := fun vs H Q _ => ∃ (x : V) (a : Addr) (n : Nat) (f : Nat → Nat → Bool) (h : Nat → Bool), vs = [x, .ref a, .str (rowS n h)] ∧ TabAt K H a n f ∧ n ≤ 1000 ∧ RetV (.bl (farB n f h)) H Q
def sp_says : Sp := fun vs H Q _ => ∃ (a b : Bool), vs = [.bl a, .bl b] ∧ RetV (.bl (a == b)) H Q
def sp_rows_right (K : PySem.W.Frag) : Sp := fun vs H Q _ => ∃ (a : Addr) (i j : Int) (n : Nat) (f : Nat → Nat → Bool), vs = [.ref a, .int i, .int j] ∧ TabAt K H a n f ∧ n ≤ 1000 ∧ RetV (.bl true) H Q
def sp_near_right (K : PySem.W.Frag) : Sp := fun vs H Q _ => ∃ (a : Addr) (i : Int) (b : Bool) (n : Nat) (f : Nat → Nat → Bool) (h : Nat → Bool), vs = [.ref a, .str (rowS n h), .int i, .bl b] ∧ TabAt K H a n f ∧ n ≤ 1000 ∧ RetV (.bl true) H Q
def sp_right6 (K : PySem.W.Frag) : Sp := fun vs H Q _ => ∃ (a b : Addr) (c : Int) (n : Nat) (f g : Nat → Nat → Bool), vs = [.ref a, .ref b, .int c] ∧ TabAt K H a n f ∧ TabAt K H b n g ∧ 1 ≤ n ∧ n ≤ 100 ∧ RetV (.bl true) H Q
/-! ### a chain of three as a value -/
section
variable {X : Cx} {a b c d : Expr} {ta tb tc td : TE} {pos : Pos}
theorem pe_chain3 {op op' op'' : CmpOp} {r r' r'' : R2} (ho : OpR X (compareOp op) r) (ho' : OpR X (compareOp op') r') (ho'' : OpR X (compareOp op'') r'') (ha : PE X a ta) (hb : PE X b tb) (hc : PE X c tc) (hd : PE X d td)
    (hm : lastMarks [op, op', op''] [b, c, d] = false := by with_unfolding_all rfl) : PE X (.Compare a [op, op', op''] [b, c, d] pos) (tChain3 r r' r'' ta tb tc td) := by
  refine ⟨fun pins s σ H Q I h => ?_⟩
  refine Compare_chain (thn (ha.run pins s σ H _ I h) fun v s1 ⟨x, H1, I1, r1, q1⟩ => chain_link (thn (hb.run pins s1 σ H1 _ I1 q1) fun u s2 ⟨y, H2, I2, r2, q2⟩ =>
    thn (ho pins s2 σ H2 x y v u _ I2 r1 r2 q2) fun d' s3 ⟨z, H3, I3, r3, k, e, q3⟩ => ?_)) hm
  subst e
  cases r3
  refine wpAny_truthy_bool ?_
  cases k with
  | false => exact ite_ff ⟨.bl false, H3, I3, rfl, q3⟩
  | true =>
    refine ite_tt (chain_link (thn (hc.run pins s3 σ H3 _ I3 q3) fun u2 s4 ⟨y2, H4, I4, r4, q4⟩ => thn (ho' pins s4 σ H4 y y2 u u2 _ I4 r2 r4 q4) fun d2 s5 ⟨z2, H5, I5, r5, k2, e2, q5⟩ => ?_))
    subst e2
    cases r5
    refine wpAny_truthy_bool ?_
    cases k2 with
    | false => exact ite_ff ⟨.bl false, H5, I5, rfl, q5⟩
    | true => exact ite_tt (chain_last (thn (hd.run pins s5 σ H5 _ I5 q5) fun w' s6 ⟨z3, H6, I6, r6, q6⟩ => ho'' pins s6 σ H6 y2 z3 u2 w' Q I6 r4 r6 q6))
end
theorem mem_cutV {xs : List V} {lo hi : Option Int} {x : V} (h : x ∈ cutV xs lo hi) : x ∈ xs := by
  unfold cutV at h
  first
    | exact List.mem_of_mem_drop (List.mem_of_mem_take h)
    | exact List.mem_of_mem_take (List.mem_of_mem_drop h)
theorem len_cutV (xs : List V) (lo hi : Option Int) : (cutV xs lo hi).length ≤ xs.length := by
  unfold cutV
  rw [List.length_take, List.length_drop]
  omega
theorem q_asgP {σ : L2.St} {H : Hp} {te : TE} {tz : TS} {D : Ends} {i : Nat} {ps : List (Int × Int)} (h : EvP te σ H ps) (k : ∀ p xs H1, Ex H H1 → H1 p = some (.lst xs) → Pairs H1 xs ps → tz D (σ.set i (some (.ref p))) H1) : tSeq (tAsg te (gName i)) tz D σ H := h H (Ex.refl H) _ k
/-- the signs of g with the k-th turned, as the law writes it -/
theorem ev_bent {σ : L2.St} {H : Hp} {ta tb tc td tf tg : TE} {E1 : XK} {n k : Nat} {g : Nat → Bool} (hk : k < n) (hn : n ≤ 1000) (ha : Ev ta σ H (.str (rowS n g))) (hb : Ev tb σ H (.int (k : Int))) (hc : Ev tc σ H (.str (rowS n g))) (hd : Ev td σ H (.int (k : Int))) (hf : Ev tf σ H (.str (rowS n g))) (hg : Ev tg σ H (.int (k : Int))) :
    Ev (tOp (fun x y H Q => ∃ i j, x = V.str i ∧ y = V.str j ∧ i.length + j.length ≤ sizeLine ∧ Q (V.str (i ++ j)) H) (tOp (fun x y H Q => ∃ i j, x = V.str i ∧ y = V.str j ∧ i.length + j.length ≤ sizeLine ∧ Q (V.str (i ++ j)) H) (tSl rSlS ta tNoPart (tPart tb)) (tCall sp_L_other [] E1 (tCons (tOp rIxS tc td) tNil))) (tSl rSlS tf (tPart (tOp (rI0 fun i j => .int (i + j)) tg (tC (.int 1)))) tNoPart)) σ H (.str (rowS n (bend g k))) := by
  refine ev_is (ev_op (ev_op (ev_slS ha eo_none (eo_some hb) (by rw [rowS_len]; omega)) (ev_call (z := .str (sgS (!g k))) (ea_cons (ev_itS hc hd hk (by omega)) ea_nil) (fun H8 e8 Q8 q8 _ => ⟨1, fun _ => g k, rfl, by decide, q8⟩)) (rv_addS ?_)) (ev_slS hf (eo_some (ev_op hg ev_c rv_I0)) eo_none (by rw [rowS_len]; omega)) (rv_addS ?_)) ?_
  · rw [cutS_to, rowS_len]
    show min k n + 1 ≤ 100000
    omega
  · rw [show ((k : Int) + 1) = ((k + 1 : Nat) : Int) by omega, cutS_to, cutS_from, ← rowS_one, rowS_app, rowS_len, rowS_len]
    omega
  · rw [show ((k : Int) + 1) = ((k + 1 : Nat) : Int) by omega]
    exact congrArg V.str (bend_row n g k hk)
theorem nat_of {z : Int} (h : 0 ≤ z) : ∃ m : Nat, z = (m : Int) := ⟨z.toNat, by omega⟩
theorem modNat (z : Int) {n : Nat} (hn : 1 ≤ n) : ∃ m : Nat, z % (n : Int) = (m : Int) ∧ m < n := by
  have h1 := Int.emod_nonneg z (show (n : Int) ≠ 0 by omega)
  have h2 := Int.emod_lt_of_pos z (show (0 : Int) < (n : Int) by omega)
  exact ⟨(z % (n : Int)).toNat, by omega, by omega⟩
end HA

end
section
set_option maxRecDepth 100000
set_option maxHeartbeats 4000000
namespace HA
open PySem PySem.Spec PyProof.Rows L2 Evl
/-! ### at most one row is near -/
theorem tri : ∀ (n : Nat) (a b c : Nat → Bool), alk n a b + alk n b c ≤ n + alk n a c
  | 0, _, _, _ => Nat.le_refl 0
  | n + 1, a, b, c => by
    have ih := tri n a b c
    unfold alk at ih ⊢
    rw [cnt_succ, cnt_succ, cnt_succ]
    cases a n <;> cases b n <;> cases c n <;> simp <;> omega
theorem alk_not (n : Nat) (a b : Nat → Bool) : alk n (fun j => !a j) b + alk n a b = n := by
  have h := cnt_not n (fun k => a k == b k)
  have e : alk n (fun j => !a j) b = cnt n (fun k => !(a k == b k)) := cnt_congr fun k _ => by
    show ((!a k) == b k) = !(a k == b k)
    cases a k <;> cases b k <;> rfl
  rw [e]
  unfold alk
  omega
theorem alk_self (n : Nat) (a : Nat → Bool) : alk n a a = n := by
  have h := ip_alk n a a
  rw [ip_self] at h
  omega
def sgn (p : Bool) (g : Nat → Bool) : Nat → Bool := fun j => if p = true then g j else !g j
theorem near_alk (n : Nat) (g k : Nat → Bool) (p : Bool) : nearB n g k p = true ↔ 3 * n < 4 * alk n (sgn p g) k := by
  have h := alk_le n g k
  have h2 := alk_not n g k
  unfold nearB sgn
  rw [decide_eq_true_eq]
  cases p
  · simp only [Bool.false_eq_true, if_false]
    omega
  · simp only [if_true]
    have e : alk n (fun j => g j) k = alk n g k := rfl
    rw [e]
    omega
theorem alk_sgn (n : Nat) (a b : Nat → Bool) (p p' : Bool) : alk n (sgn p a) (sgn p' b) = if p = p' then alk n a b else n - alk n a b := by
  have h1 := alk_not n a b
  have h2 := alk_not n b a
  have h3 := alk_not n a (fun j => !b j)
  rw [alk_comm n a (fun j => !b j)] at h3
  rw [alk_comm n b a] at h2
  have h4 := alk_le n a b
  cases p <;> cases p'
  · show alk n (fun j => !a j) (fun j => !b j) = _
    rw [if_pos rfl]
    omega
  · show alk n (fun j => !a j) (fun j => b j) = _
    rw [if_neg (by decide)]
    have e : alk n (fun j => !a j) (fun j => b j) = alk n (fun j => !a j) b := rfl
    omega
  · show alk n (fun j => a j) (fun j => !b j) = _
    rw [if_neg (by decide), alk_comm]
    have e : alk n (fun j => !b j) (fun j => a j) = alk n (fun j => !b j) a := rfl
    omega
  · show alk n (fun j => a j) (fun j => b j) = _
    rw [if_pos rfl]
theorem near_unique {n : Nat} {f : Nat → Nat → Bool} {k : Nat → Bool} (had : Had n f) {i j : Nat} (hi : i < n) (hj : j < n) {p p' : Bool} (h1 : nearB n (f i) k p = true) (h2 : nearB n (f j) k p' = true) : i = j ∧ p = p' := by
  rw [near_alk] at h1 h2
  have t := tri n (sgn p (f i)) k (sgn p' (f j))
  rw [alk_comm n k] at t
  rw [alk_sgn] at t
  by_cases c : i = j
  · subst c
    refine ⟨rfl, ?_⟩
    by_cases d : p = p'
    · exact d
    · rw [if_neg d, alk_self] at t
      omega
  · have z := (ip_zero_iff n (f i) (f j)).mp (had i hi j hj c)
    by_cases d : p = p'
    · rw [if_pos d] at t
      omega
    · rw [if_neg d] at t
      omega
/-- the rows that are near, in turn -/
def nearUp (n : Nat) (f : Nat → Nat → Bool) (k : Nat → Bool) (m : Nat) : List (Nat × Bool) := (List.range m).flatMap fun i => (if nearB n (f i) k true = true then [(i, true)] else []) ++ (if nearB n (f i) k false = true then [(i, false)] else [])
theorem nearUp_succ (n : Nat) (f : Nat → Nat → Bool) (k : Nat → Bool) (m : Nat) : nearUp n f k (m + 1) = nearUp n f k m ++ (if nearB n (f m) k true = true then [(m, true)] else []) ++ (if nearB n (f m) k false = true then [(m, false)] else []) := by
  unfold nearUp
  rw [List.range_succ, List.flatMap_append]
  simp
theorem nearUp_none {n : Nat} {f : Nat → Nat → Bool} {k : Nat → Bool} : ∀ {m : Nat}, (∀ i, i < m → ∀ p, nearB n (f i) k p = false) → nearUp n f k m = []
  | 0, _ => rfl
  | m + 1, h => by
    rw [nearUp_succ, nearUp_none fun i hi => h i (by omega), h m (by omega), h m (by omega)]
    rfl
theorem nearUp_one {n : Nat} {f : Nat → Nat → Bool} {k : Nat → Bool} (had : Had n f) {i : Nat} (hi : i < n) {p : Bool} (h : nearB n (f i) k p = true) : ∀ m, m ≤ n → nearUp n f k m = if i < m then [(i, p)] else []
  | 0, _ => by
    rw [if_neg (by omega)]
    rfl
  | m + 1, hm => by
    rw [nearUp_succ, nearUp_one had hi h m (by omega)]
    by_cases c : i = m
    · subst c
      rw [if_neg (Nat.lt_irrefl i), if_pos (Nat.lt_succ_self i)]
      have no : nearB n (f i) k (!p) = false := by
        cases q : nearB n (f i) k (!p) with
        | false => rfl
        | true =>
          have z := (near_unique had hi hi h q).2
          cases p <;> exact absurd z (by decide)
      cases p
      · rw [show nearB n (f i) k true = false from no, h]
        rfl
      · rw [show nearB n (f i) k false = false from no, h]
        rfl
    · have no : ∀ q, nearB n (f m) k q = false := fun q => by
        cases w : nearB n (f m) k q with
        | false => rfl
        | true => exact absurd (near_unique had hi (by omega) h w).1 c
      rw [no, no]
      by_cases d : i < m
      · rw [if_pos d, if_pos (show i < m + 1 by omega)]
        rfl
      · rw [if_neg d, if_neg (show ¬ i < m + 1 by omega)]
        rfl
/-- which row is near -/
def NearO (n : Nat) (f : Nat → Nat → Bool) (k : Nat → Bool) (o : Option (Nat × Bool)) : Prop := nearUp n f k n = o.toList ∧ (∀ i b, o = some (i, b) → i < n ∧ nearB n (f i) k b = true) ∧ (o = none → ∀ i, i < n → ∀ b, nearB n (f i) k b = false)
theorem nearO_none {n : Nat} {f : Nat → Nat → Bool} {k : Nat → Bool} (h : ∀ i, i < n → ∀ p, nearB n (f i) k p = false) : NearO n f k none := ⟨nearUp_none h, fun _ _ e => (nomatch e), fun _ => h⟩
theorem nearO_some {n : Nat} {f : Nat → Nat → Bool} {k : Nat → Bool} (had : Had n f) {i : Nat} (hi : i < n) {p : Bool} (h : nearB n (f i) k p = true) : NearO n f k (some (i, p)) :=
  ⟨by rw [nearUp_one had hi h n (Nat.le_refl n), if_pos hi]; rfl, fun j b e => by cases e; exact ⟨hi, h⟩, fun e => (nomatch e)⟩
theorem nearO_ex {n : Nat} {f : Nat → Nat → Bool} (had : Had n f) (k : Nat → Bool) : ∃ o, NearO n f k o := by
  by_cases h : ∃ i p, i < n ∧ nearB n (f i) k p = true
  · obtain ⟨i, p, hi, hp⟩ := h
    exact ⟨_, nearO_some had hi hp⟩
  · refine ⟨none, nearO_none fun i hi p => ?_⟩
    cases q : nearB n (f i) k p with
    | false => rfl
    | true => exact absurd ⟨i, p, hi, q⟩ h
theorem far_isNone {n : Nat} {f : Nat → Nat → Bool} {k : Nat → Bool} {o : Option (Nat × Bool)} (h : NearO n f k o) : farB n f k = o.isNone := by
  unfold farB
  cases o with
  | none =>
    have e : ((List.range n).any fun i => nearB n (f i) k true || nearB n (f i) k false) = false := by
      rw [List.any_eq_false]
      intro i hi
      rw [h.2.2 rfl i (List.mem_range.mp hi), h.2.2 rfl i (List.mem_range.mp hi)]
      decide
    rw [e]
    rfl
  | some q =>
    obtain ⟨i, b⟩ := q
    obtain ⟨hi, hb⟩ := h.2.1 i b rfl
    have e : ((List.range n).any fun i => nearB n (f i) k true || nearB n (f i) k false) = true := by
      rw [List.any_eq_true]
      refine ⟨i, List.mem_range.mpr hi, ?_⟩
      cases b
      · rw [hb, Bool.or_true]
      · rw [hb, Bool.true_or]
    rw [e]
    rfl
theorem near_is {n : Nat} {f : Nat → Nat → Bool} {k : Nat → Bool} {o : Option (Nat × Bool)} (had : Had n f) (h : NearO n f k o) {i : Nat} (hi : i < n) (b : Bool) : nearR n f k (i : Int) b = decide (o = some (i, b)) := by
  unfold nearR
  rw [decide_eq_true (show (0 : Int) ≤ (i : Int) by omega), decide_eq_true (show (i : Int) < (n : Int) by omega), Int.toNat_natCast]
  show nearB n (f i) k b = _
  cases q : nearB n (f i) k b with
  | true =>
    cases o with
    | none => exact absurd (q.symm.trans (h.2.2 rfl i hi b)) (by decide)
    | some r =>
      obtain ⟨j, b'⟩ := r
      obtain ⟨hj, hb⟩ := h.2.1 j b' rfl
      obtain ⟨rfl, rfl⟩ := near_unique had hi hj q hb
      exact (decide_eq_true rfl).symm
  | false =>
    symm
    rw [decide_eq_false_iff_not]
    intro e
    exact absurd (q.symm.trans (h.2.1 i b e).2) (by decide)
/-! ### lists of new tuples -/
section
variable {K : PySem.W.Frag} {σ : L2.St} {H H' : Hp} {ta tb tc td te tx : TE} {t u : TT} {x y z v : V} {r r' r'' : R2} {D : Ends} {tz : TS}
def Tups (H : Hp) : List V → List (List V) → Prop
  | [], [] => True
  | x :: xs, q :: qs => (∃ a, x = .ref a ∧ H a = some (.tup q)) ∧ Tups H xs qs
  | _, _ => False
theorem Tups.ex (e : Ex H H') : ∀ {xs : List V} {qs : List (List V)}, Tups H xs qs → Tups H' xs qs
  | [], [], _ => trivial
  | _ :: _, _ :: _, h => ⟨h.1.imp fun a p => ⟨p.1, e a _ p.2⟩, Tups.ex e h.2⟩
  | [], _ :: _, h => h
  | _ :: _, [], h => h
theorem Tups.len : ∀ {xs : List V} {qs : List (List V)}, Tups H xs qs → xs.length = qs.length
  | [], [], _ => rfl
  | _ :: xs, _ :: qs, h => by
    rw [List.length_cons, List.length_cons, Tups.len h.2]
  | [], _ :: _, h => h.elim
  | _ :: _, [], h => h.elim
theorem Tups.snoc {a : Addr} {q : List V} (ha : H a = some (.tup q)) : ∀ {xs : List V} {qs : List (List V)}, Tups H xs qs → Tups H (xs ++ [.ref a]) (qs ++ [q])
  | [], [], _ => ⟨⟨a, rfl, ha⟩, trivial⟩
  | _ :: _, _ :: _, h => ⟨h.1, Tups.snoc ha h.2⟩
  | [], _ :: _, h => h.elim
  | _ :: _, [], h => h.elim
/-- a list is written anew: the tuples stay -/
theorem Tups.upd {l : Addr} {ys zs : List V} (hl : H l = some (.lst ys)) : ∀ {xs : List V} {qs : List (List V)}, Tups H xs qs → Tups (upd H l (.lst zs)) xs qs
  | [], [], _ => trivial
  | _ :: _, _ :: _, h => by
    obtain ⟨⟨a, e, ha⟩, k⟩ := h
    refine ⟨⟨a, e, ?_⟩, Tups.upd hl k⟩
    rw [upd_ne]
    · exact ha
    · rintro rfl
      rw [hl] at ha
      cases ha
  | [], _ :: _, h => h.elim
  | _ :: _, [], h => h.elim
def nvs (l : List (Nat × Bool)) : List (List V) := l.map fun q => [.int (q.1 : Int), .bl q.2]
theorem nvs_snoc (l : List (Nat × Bool)) (i : Nat) (b : Bool) : nvs (l ++ [(i, b)]) = nvs l ++ [[.int (i : Int), .bl b]] := by
  unfold nvs
  rw [List.map_append]
  rfl
/-- a list of at most one near row -/
def NearAt (H : Hp) (p : Addr) (o : Option (Nat × Bool)) : Prop := ∃ xs, H p = some (.lst xs) ∧ Tups H xs (nvs o.toList)
theorem NearAt.ex {p : Addr} {o : Option (Nat × Bool)} (e : Ex H H') (h : NearAt H p o) : NearAt H' p o := h.imp fun _ k => ⟨e p _ k.1, k.2.ex e⟩
def pdO (o : Option (Nat × Bool)) : List PyData := o.toList.map fun q => .tuple [.int (q.1 : Int), .bool q.2]
theorem NearAt.dp {p : Addr} {o : Option (Nat × Bool)} (h : NearAt H p o) : Dp K H (.ref p) (.list (pdO o)) := by
  obtain ⟨xs, hp, ht⟩ := h
  cases o with
  | none =>
    cases xs with
    | nil => exact .lst (sq_of hp) .nil
    | cons a b => exact ht.elim
  | some q =>
    match xs, ht with
    | [x], ht =>
      obtain ⟨⟨a, rfl, ha⟩, _⟩ := ht
      exact .lst (sq_of hp) (.cons (.tup (st_of ha) (.cons (.int _) (.cons (.bl _) .nil))) .nil)
theorem shO (o : Option (Nat × Bool)) : SeqAt.shaped (.list (pdO o)) = true := by
  cases o <;> rfl
theorem eqv_O (o o' : Option (Nat × Bool)) : PyData.eqv (.list (pdO o)) (.list (pdO o')) = decide (o = o') := by
  cases o with
  | none =>
    cases o' with
    | none => rfl
    | some q => rfl
  | some q =>
    cases o' with
    | none => rfl
    | some q' =>
      obtain ⟨i, b⟩ := q
      obtain ⟨j, c⟩ := q'
      show ((((i : Int) == (j : Int)) && ((b == c) && true)) && true) = _
      rw [Bool.eq_iff_iff]
      simp
      try omega
theorem rv_eqO {p q : Addr} {o o' : Option (Nat × Bool)} (hp : NearAt H p o) (hq : NearAt H q o') : RV (rEqD K) (.ref p) (.ref q) H (.bl (decide (o = o'))) := fun H1 e Q k =>
  ⟨_, _, (hp.ex e).dp, (hq.ex e).dp, shO o, shO o', by rw [eqv_O]; exact k H1 (Ex.refl H1)⟩
theorem rv_neO {p q : Addr} {o o' : Option (Nat × Bool)} (hp : NearAt H p o) (hq : NearAt H q o') : RV (rNeD K) (.ref p) (.ref q) H (.bl (!decide (o = o'))) := fun H1 e Q k =>
  ⟨_, _, (hp.ex e).dp, (hq.ex e).dp, shO o, shO o', by rw [eqv_O]; exact k H1 (Ex.refl H1)⟩
theorem rv_inO {p q : Addr} {o : Option (Nat × Bool)} {i : Nat} {b : Bool} (hp : H p = some (.tup [.int (i : Int), .bl b])) (hq : NearAt H q o) : RV (rInD K) (.ref p) (.ref q) H (.bl (decide (o = some (i, b)))) := fun H1 e Q k =>
  ⟨.tuple [.int (i : Int), .bool b], _, .tup (st_of (e p _ hp)) (.cons (.int _) (.cons (.bl _) .nil)), (hq.ex e).dp, rfl, shO o, by
    have w : ((pdO o).any fun z => PyData.eqv z (.tuple [.int (i : Int), .bool b])) = decide (o = some (i, b)) := by
      cases o with
      | none => rfl
      | some q' =>
        obtain ⟨j, c⟩ := q'
        show ((((j : Int) == (i : Int)) && ((c == b) && true)) || false) = _
        rw [Bool.eq_iff_iff]
        simp
        try omega
    rw [w]
    exact k H1 (Ex.refl H1)⟩
theorem near_nil {q : Addr} (h : H q = some (.lst [])) : NearAt H q none := ⟨[], h, trivial⟩
/-- [(a, b)] -/
theorem er_lst1 {i : Nat} {b : Bool} (ha : Ev ta σ H (.int (i : Int))) (hb : Ev tb σ H (.bl b)) : EvR (tLst (tCons (tTup (tCons ta (tCons tb tNil))) tNil)) σ H (fun v H2 => ∃ q, v = .ref q ∧ NearAt H2 q (some (i, b))) := fun H1 e Q k => by
  show (tTup (tCons ta (tCons tb tNil))) σ H1 (fun x H2 => [x].length ≤ sizeLine ∧ ∀ p, H2 p = none → Q (.ref p) (upd H2 p (.lst [x])))
  exact eu_tup (ea_cons ha (ea_cons hb ea_nil)) (by show 2 ≤ 100000; decide) H1 e _ fun p H2 _ e2 h2 => ⟨sz_of (show 1 ≤ 100000 by decide), fun l hl => k _ _ (e2.trans (Ex.new hl)) ⟨l, rfl, [.ref p], upd_same, ⟨⟨p, rfl, Ex.new hl p _ h2⟩, trivial⟩⟩⟩
theorem ev_opR {R : V → Hp → Prop} (ha : Ev ta σ H x) (hb : EvR tb σ H R) (hr : ∀ v H1, Ex H H1 → R v H1 → RV r x v H1 z) : Ev (tOp r ta tb) σ H z := fun H1 e Q q =>
  ha H1 e _ fun H2 e2 => hb H2 (e.trans e2) _ fun v H3 e3 hv => hr v H3 ((e.trans e2).trans e3) hv H3 (Ex.refl H3) Q fun H4 e4 => q H4 ((e2.trans e3).trans e4)
theorem ev_opUV {xs : List V} (ha : EvU ta σ H xs) (hb : Ev tb σ H y) (hr : ∀ p H1, H1 p = some (.tup xs) → Ex H H1 → RV r (.ref p) y H1 z) : Ev (tOp r ta tb) σ H z := fun H1 e Q q =>
  ha H1 e _ fun p H2 _ e2 h2 => hb H2 (e.trans e2) _ fun H3 e3 => hr p H3 (e3 p _ h2) ((e.trans e2).trans e3) H3 (Ex.refl H3) Q fun H4 e4 => q H4 ((e2.trans e3).trans e4)
theorem er_if {b : Bool} {R : V → Hp → Prop} (h : EvT t σ H b) (h1 : b = true → EvR ta σ H R) (h2 : b = false → EvR tb σ H R) : EvR (tIf t ta tb) σ H R := fun H1 e Q q => h H1 e _ fun H2 e2 => by
  cases b with
  | true => exact h1 rfl H2 (e.trans e2) Q fun v H3 e3 hv => q v H3 (e2.trans e3) hv
  | false => exact h2 rfl H2 (e.trans e2) Q fun v H3 e3 hv => q v H3 (e2.trans e3) hv
theorem er_callL2 {sp : Sp} {dvs xs : List V} {E : XK} {R : V → Hp → Prop} (h : EvL ta σ H xs) (hb : Ev tb σ H y) (hs : ∀ p H1, Ex H H1 → H1 p = some (.lst xs) → ∀ Q : VK, (∀ v H2, Ex H1 H2 → R v H2 → Q v H2) → sp ([.ref p, y] ++ dvs) H1 Q E) : EvR (tCall sp dvs E (tCons ta (tCons tb tNil))) σ H R := fun H1 e Q q =>
  h H1 e _ fun p H2 _ e2 h2 => hb H2 (e.trans e2) _ fun H3 e3 => hs p H3 ((e.trans e2).trans e3) (e3 p _ h2) Q fun v H4 e4 hv => q v H4 ((e2.trans e3).trans e4) hv
/-- over a new tuple -/
theorem s_forU {xs : List V} {tl : TE} {j : Nat} {tu : TS} (h : EvU tl σ H xs) (Pv : Nat → L2.St → Hp → Prop) (h0 : ∀ H1, Ex H H1 → Pv 0 σ H1)
    (hs : ∀ H1, Ex H H1 → ∀ i x σ' H', xs[i]? = some x → Pv i σ' H' → Ex H1 H' → tu { D with nx := fun s h => Pv (i + 1) s h ∧ Ex H1 h, ct := fun s h => Pv (i + 1) s h ∧ Ex H1 h, bk := D.nx } (σ'.set j (some x)) H') (hd : ∀ σ' H', Pv xs.length σ' H' → D.nx σ' H') : tFor (iTup K tl) (gName j) tu D σ H :=
  h H (Ex.refl H) _ fun p H1 _ e h1 => ⟨p, rfl, ⟨xs, st_of h1⟩, for_tup (K := K) (fun i σ' H' => Pv i σ' H' ∧ Ex H1 H') ⟨h0 H1 e, Ex.refl H1⟩ (fun i σ' H' _ q => st_of (q.2 p _ h1)) (fun i x σ' H' hx q => hs H1 e i x σ' H' hx q.1 q.2) (fun σ' H' q => hd σ' H' q.1)⟩
end
/-! ### promises -/
def sp_asked_half (K : PySem.W.Frag) : Sp := fun vs H Q _ => ∃ (a : Addr) (n : Nat) (f : Nat → Nat → Bool), vs = [.ref a] ∧ TabAt K H a n f ∧ 1 ≤ n ∧ n ≤ 100 ∧ (∃ xs, H a = some (.lst xs)) ∧ halfB n f = true ∧ RetV .non H Q
def sp_read (K : PySem.W.Frag) (CN CF : Addr) : Sp := fun vs H Q _ => ∃ (a : Addr) (n : Nat) (f : Nat → Nat → Bool) (k : Nat → Bool), vs = [.ref a, .str (rowS n k)] ∧ TabAt K H a n f ∧ 1 ≤ n ∧ n ≤ 100 ∧ (∃ xs, H a = some (.lst xs)) ∧ halfB n f = true ∧
  (∀ i b, i < n → nearB n (f i) k b = true → ∀ p dx H2, H p = none → Ex H H2 → H2 p = some (.ins CN dx (nf (.int (i : Int)) (.bl b))) → Q (.ref p) H2) ∧
  ((∀ i, i < n → ∀ b, nearB n (f i) k b = false) → ∀ p dx H2, H p = none → Ex H H2 → H2 p = some (.ins CF dx []) → Q (.ref p) H2)
def sp_L_near (K : PySem.W.Frag) : Sp := fun vs H Q _ => ∃ (a : Addr) (n : Nat) (f : Nat → Nat → Bool) (k : Nat → Bool), vs = [.ref a, .str (rowS n k)] ∧ TabAt K H a n f ∧ n ≤ 1000 ∧ ∀ p xs H2, H p = none → Ex H H2 → H2 p = some (.lst xs) → Tups H2 xs (nvs (nearUp n f k n)) → Q (.ref p) H2
def sp_right5 (K : PySem.W.Frag) : Sp := fun vs H Q _ => ∃ (a b : Addr) (n : Nat) (f : Nat → Nat → Bool) (k : Nat → Bool) (ks : List (Nat → Bool)), vs = [.ref a, .str (rowS n k), .ref b] ∧ TabAt K H a n f ∧ SqL K H b (ks.map fun g => V.str (rowS n g)) ∧ 1 ≤ n ∧ n ≤ 100 ∧ halfB n f = true ∧ RetV (.bl true) H Q
theorem near_t (n : Nat) (g k : Nat → Bool) : decide (4 * ((n : Int) - (alk n g k : Int)) < (n : Int)) = nearB n g k true := by
  have h := nearB_int n g k true
  rw [if_pos rfl] at h
  exact h
theorem near_f (n : Nat) (g k : Nat → Bool) : decide (4 * (alk n g k : Int) < (n : Int)) = nearB n g k false := by
  have h := nearB_int n g k false
  rw [if_neg (by decide)] at h
  exact h
theorem nearUp_len (n : Nat) (f : Nat → Nat → Bool) (k : Nat → Bool) : ∀ m, (nearUp n f k m).length ≤ 2 * m
  | 0 => Nat.le_refl 0
  | m + 1 => by
    have ih := nearUp_len n f k m
    rw [nearUp_succ, List.length_append, List.length_append]
    have a : (if nearB n (f m) k true = true then [(m, true)] else []).length ≤ 1 := by
      split <;> simp
    have b : (if nearB n (f m) k false = true then [(m, false)] else []).length ≤ 1 := by
      split <;> simp
    omega
/-- what read answered -/
def Fnd (CN CF : Addr) (H : Hp) (p : Addr) (o : Option (Nat × Bool)) : Prop := match o with
  | some (i, b) => ∃ dx, H p = some (.ins CN dx (nf (.int (i : Int)) (.bl b)))
  | none => ∃ dx, H p = some (.ins CF dx [])
theorem Fnd.ex {CN CF : Addr} {H H' : Hp} {p : Addr} (e : Ex H H') : ∀ {o : Option (Nat × Bool)}, Fnd CN CF H p o → Fnd CN CF H' p o
  | some (_, _), ⟨dx, h⟩ => ⟨dx, e p _ h⟩
  | none, ⟨dx, h⟩ => ⟨dx, e p _ h⟩
theorem er_read {K : PySem.W.Frag} {σ : L2.St} {H : Hp} {CN CF : Addr} {E : XK} {ts : TA} {a : Addr} {n : Nat} {f : Nat → Nat → Bool} {k : Nat → Bool} {xs : List V} (h : EvA ts σ H [.ref a, .str (rowS n k)]) (hT : TabAt K H a n f) (h1 : 1 ≤ n) (h2 : n ≤ 100) (hx : H a = some (.lst xs)) (hh : halfB n f = true) :
    EvR (tCall (sp_read K CN CF) [] E ts) σ H (fun v H2 => ∃ p o, v = .ref p ∧ Fnd CN CF H2 p o ∧ NearO n f k o) :=
  er_call h fun H1 e1 Q q => ⟨a, n, f, k, rfl, TabAt.ex e1 hT, h1, h2, ⟨xs, e1 a _ hx⟩, hh, fun i b hi hb p dx H2 _ e2 h2' => q _ H2 e2 ⟨p, some (i, b), rfl, ⟨dx, h2'⟩, nearO_some (half_had hh) hi hb⟩, fun hf p dx H2 _ e2 h2' => q _ H2 e2 ⟨p, none, rfl, ⟨dx, h2'⟩, nearO_none hf⟩⟩
theorem er_near {K : PySem.W.Frag} {σ : L2.St} {H : Hp} {E : XK} {ts : TA} {a : Addr} {n : Nat} {f : Nat → Nat → Bool} {k : Nat → Bool} {o : Option (Nat × Bool)} (h : EvA ts σ H [.ref a, .str (rowS n k)]) (hT : TabAt K H a n f) (h2 : n ≤ 1000) (hO : NearO n f k o) :
    EvR (tCall (sp_L_near K) [] E ts) σ H (fun v H2 => ∃ p, v = .ref p ∧ NearAt H2 p o) :=
  er_call h fun H1 e1 Q q => ⟨a, n, f, k, rfl, TabAt.ex e1 hT, h2, fun p xs H2 _ e2 h2' ht => q _ H2 e2 ⟨p, rfl, xs, h2', by rw [hO.1] at ht; exact ht⟩⟩
theorem atI_last {xs : List V} {v : V} (hl : 1 ≤ xs.length) (h : xs[xs.length - 1]? = some v) : atI xs (-1) = some v := by
  unfold atI ixN
  rw [if_neg (by decide)]
  first
    | (rw [if_pos (by omega)]; show xs[((-1 : Int) + (xs.length : Int)).toNat]? = _; rw [show ((-1 : Int) + (xs.length : Int)).toNat = xs.length - 1 by omega]; exact h)
    | (simp; exact h)
theorem units65 {k : Nat} {A : Around} (r : Room k A) : A.units + 65 < cLine := by
  have := r.un
  omega
def dueO (o o' : Option (Nat × Bool)) : Bool := match o with
  | some r => decide (o' = some r)
  | none => o'.isNone
end HA

end
section
set_option maxRecDepth 100000
set_option maxHeartbeats 4000000
namespace HA
open PySem PySem.Spec PyProof.Rows L2 Evl
/-! ### tables changed stay half alike -/
def trn (f : Nat → Nat → Bool) : Nat → Nat → Bool := fun i j => f j i
def trd (r : Nat) (f : Nat → Nat → Bool) : Nat → Nat → Bool := fun i j => if i = r then !f i j else f i j
def pfs (f : Nat → Nat → Bool) : Nat → Nat → Bool := fun i j => f i j == f i 0
def evn (f : Nat → Nat → Bool) : Nat → Nat → Bool := fun i j => (f i j == f 0 j) == (f i 0 == f 0 0)
def kron (m : Nat) (f g : Nat → Nat → Bool) : Nat → Nat → Bool := fun i j => f (i / m) (j / m) == g (i % m) (j % m)
theorem had_col {n : Nat} {f : Nat → Nat → Bool} (c : Nat → Bool) (h : Had n f) : Had n (fun i j => f i j == c j) := fun i hi j hj hne => by
  rw [← h i hi j hj hne]
  show S n _ = S n _
  refine S_congr fun k _ => ?_
  show sg (f i k == c k) * sg (f j k == c k) = sg (f i k) * sg (f j k)
  cases f i k <;> cases f j k <;> cases c k <;> rfl
theorem had_trd {n : Nat} {f : Nat → Nat → Bool} (r : Nat) (h : Had n f) : Had n (trd r f) :=
  had_perm id (fun i => decide (i = r)) (fun i hi => hi) (fun i _ j _ e => e) (fun i _ k _ => by
    show trd r f i k = (f i k ^^ decide (i = r))
    unfold trd
    by_cases e : i = r
    · rw [if_pos e, decide_eq_true e]
      cases f i k <;> rfl
    · rw [if_neg e, decide_eq_false e]
      cases f i k <;> rfl) h
theorem had_evn {n : Nat} {f : Nat → Nat → Bool} (h : Had n f) : Had n (evn f) :=
  had_perm id (fun i => !(f i 0 == f 0 0)) (fun i hi => hi) (fun i _ j _ e => e) (fun i _ k _ => by
    show ((f i k == f 0 k) == (f i 0 == f 0 0)) = ((f i k == f 0 k) ^^ !(f i 0 == f 0 0))
    cases (f i k == f 0 k) <;> cases (f i 0 == f 0 0) <;> rfl) (had_col (f 0) h)
theorem S_mul (m : Nat) : ∀ (n : Nat) (F : Nat → Int), S (n * m) F = S n fun a => S m fun b => F (a * m + b)
  | 0, F => by
    rw [Nat.zero_mul]
    rfl
  | n + 1, F => by
    rw [Nat.succ_mul, S_split, S_mul m n F]
    rfl
theorem had_kron {n m : Nat} {f g : Nat → Nat → Bool} (hf : Had n f) (hg : Had m g) : Had (n * m) (kron m f g) := fun i hi j hj hne => by
  have hm : 0 < m := by
    rcases Nat.eq_zero_or_pos m with q | q
    · rw [q, Nat.mul_zero] at hi
      exact absurd hi (by omega)
    · exact q
  have key : ip (n * m) (kron m f g i) (kron m f g j) = ip n (f (i / m)) (f (j / m)) * ip m (g (i % m)) (g (j % m)) := by
    show S (n * m) _ = S n _ * _
    rw [S_mul, ← S_mulR]
    refine S_congr fun a _ => ?_
    show S m _ = _ * S m _
    rw [← S_mulL]
    refine S_congr fun b hb => ?_
    have e1 : (a * m + b) / m = a := by
      rw [Nat.mul_comm, Nat.mul_add_div hm, Nat.div_eq_of_lt hb]
      rfl
    have e2 : (a * m + b) % m = b := by
      rw [Nat.mul_comm, Nat.mul_add_mod, Nat.mod_eq_of_lt hb]
    unfold kron
    rw [e1, e2]
    cases f (i / m) a <;> cases f (j / m) a <;> cases g (i % m) b <;> cases g (j % m) b <;> rfl
  rw [key]
  have hi1 : i / m < n := (Nat.div_lt_iff_lt_mul hm).mpr hi
  have hj1 : j / m < n := (Nat.div_lt_iff_lt_mul hm).mpr hj
  by_cases c : i / m = j / m
  · have d : i % m ≠ j % m := fun e => hne (by rw [← Nat.div_add_mod i m, ← Nat.div_add_mod j m, c, e])
    rw [hg _ (Nat.mod_lt _ hm) _ (Nat.mod_lt _ hm) d, Int.mul_zero]
  · rw [hf _ hi1 _ hj1 c, Int.zero_mul]
theorem half_trn {n : Nat} {f : Nat → Nat → Bool} (h : halfB n f = true) : halfB n (trn f) = true := had_half (had_tr (half_had h))
theorem half_trd {n : Nat} {f : Nat → Nat → Bool} (r : Nat) (h : halfB n f = true) : halfB n (trd r f) = true := had_half (had_trd r (half_had h))
theorem half_evn {n : Nat} {f : Nat → Nat → Bool} (h : halfB n f = true) : halfB n (evn f) = true := had_half (had_evn (half_had h))
theorem half_kron {n m : Nat} {f g : Nat → Nat → Bool} (hf : halfB n f = true) (hg : halfB m g = true) : halfB (n * m) (kron m f g) = true := had_half (had_kron (half_had hf) (half_had hg))
theorem evn_is (f : Nat → Nat → Bool) : pfs (trn (pfs (trn f))) = evn f := rfl
/-! ### joins of rows -/
theorem join_snoc (ys : List Str) (y : Str) : Txt.join ⟨#[]⟩ (ys ++ [y]) = Txt.join ⟨#[]⟩ ys ++ y := by
  apply str_ext
  rw [join_toList, app_cps, Array.toList_append, join_toList, List.map_append, List.flatten_append]
  simp
theorem join_rows (m : Nat) (h : Nat → Nat → Bool) : ∀ n, Txt.join ⟨#[]⟩ ((List.range n).map fun a => rowS m (h a)) = rowS (n * m) fun j => h (j / m) (j % m)
  | 0 => by
    rw [Nat.zero_mul]
    rfl
  | n + 1 => by
    rw [List.range_succ, List.map_append]
    show Txt.join ⟨#[]⟩ (((List.range n).map fun a => rowS m (h a)) ++ [rowS m (h n)]) = _
    rw [join_snoc, join_rows m h n, rowS_app, Nat.succ_mul]
    refine rowS_ext fun j hj => ?_
    by_cases c : j < n * m
    · rw [if_pos c]
    · have hm : 0 < m := by omega
      obtain ⟨b, rfl⟩ : ∃ b, j = n * m + b := ⟨j - n * m, by omega⟩
      have hb : b < m := by omega
      have e1 : (n * m + b) / m = n := by
        rw [Nat.mul_comm, Nat.mul_add_div hm, Nat.div_eq_of_lt hb]
        rfl
      have e2 : (n * m + b) % m = b := by
        rw [Nat.mul_comm, Nat.mul_add_mod, Nat.mod_eq_of_lt hb]
      rw [if_neg c, e1, e2, show n * m + b - n * m = b by omega]
theorem sum_lens (m : Nat) (h : Nat → Nat → Bool) : ∀ n, (((List.range n).map fun a => rowS m (h a)).map (·.length)).sum = n * m
  | 0 => by
    rw [Nat.zero_mul]
    rfl
  | n + 1 => by
    rw [List.range_succ, List.map_append, List.map_append, List.sum_append, sum_lens m h n, Nat.succ_mul]
    show n * m + ((rowS m (h n)).length + 0) = _
    rw [rowS_len]
    rfl
/-- a table's rows as far as k -/
def rowsTo (n : Nat) (f : Nat → Nat → Bool) (k : Nat) : List V := (List.range k).map fun i => V.str (rowS n (f i))
theorem rowsTo_len (n : Nat) (f : Nat → Nat → Bool) (k : Nat) : (rowsTo n f k).length = k := by
  unfold rowsTo
  rw [List.length_map, List.length_range]
/-! ### what is known of arguments -/
section
variable {K : PySem.W.Frag} {σ : L2.St} {H H' : Hp} {ta tb tc td te tx : TE} {t u : TT} {x y z v : V} {r r' r'' : R2} {D : Ends} {tz : TS}
def EvAR (ts : TA) (σ : L2.St) (H : Hp) (R : List V → Hp → Prop) : Prop := ∀ H1, Ex H H1 → ∀ Q : List V → Hp → Prop, (∀ vs H2, Ex H1 H2 → R vs H2 → Q vs H2) → ts σ H1 Q
def Kept {α : Type} (R : α → Hp → Prop) : Prop := ∀ v H H', Ex H H' → R v H → R v H'
theorem ear_nil : EvAR tNil σ H (fun vs _ => vs = []) := fun H1 _ Q q => q [] H1 (Ex.refl H1) rfl
theorem ear_cons {ts : TA} {R1 : V → Hp → Prop} {R2 : List V → Hp → Prop} (k : Kept R1) (ha : EvR ta σ H R1) (hs : EvAR ts σ H R2) : EvAR (tCons ta ts) σ H (fun vs H => ∃ v r, vs = v :: r ∧ R1 v H ∧ R2 r H) := fun H1 e Q q =>
  ha H1 e _ fun v H2 e2 hv => hs H2 (e.trans e2) _ fun vs H3 e3 hvs => q (v :: vs) H3 (e2.trans e3) ⟨v, vs, rfl, k v H2 H3 e3 hv, hvs⟩
theorem er_ev (h : Ev ta σ H x) : EvR ta σ H (fun v _ => v = x) := fun H1 e Q q => h H1 e Q fun H2 e2 => q x H2 e2 rfl
theorem er_tup {ts : TA} {R : List V → Hp → Prop} (k : Kept R) (hl : ∀ vs H, R vs H → vs.length ≤ 100000) (h : EvAR ts σ H R) : EvR (tTup ts) σ H (fun v H => ∃ p vs, v = .ref p ∧ H p = some (.tup vs) ∧ R vs H) := fun H1 e Q q =>
  h H1 e _ fun vs H2 e2 hv => ⟨sz_of (hl vs H2 hv), fun p hp => q _ _ (e2.trans (Ex.new hp)) ⟨p, vs, rfl, upd_same, k vs H2 _ (Ex.new hp) hv⟩⟩
theorem er_lst {ts : TA} {R : List V → Hp → Prop} (k : Kept R) (hl : ∀ vs H, R vs H → vs.length ≤ 100000) (h : EvAR ts σ H R) : EvR (tLst ts) σ H (fun v H => ∃ p vs, v = .ref p ∧ H p = some (.lst vs) ∧ R vs H) := fun H1 e Q q =>
  h H1 e _ fun vs H2 e2 hv => ⟨sz_of (hl vs H2 hv), fun p hp => q _ _ (e2.trans (Ex.new hp)) ⟨p, vs, rfl, upd_same, k vs H2 _ (Ex.new hp) hv⟩⟩
/-- a new list of the items xs -/
def IsL (xs : List V) : V → Hp → Prop := fun v H => ∃ p, v = .ref p ∧ H p = some (.lst xs)
theorem kept_isL (xs : List V) : Kept (IsL xs) := fun v H H' e ⟨p, h1, h2⟩ => ⟨p, h1, e p _ h2⟩
theorem kept_eq (x : V) : Kept (fun v (_ : Hp) => v = x) := fun _ _ _ _ h => h
theorem er_isL {xs : List V} (h : EvL ta σ H xs) : EvR ta σ H (IsL xs) := EvL.evR h
theorem ev_opLR {xs ys : List V} (ha : EvL ta σ H xs) (hb : EvL tb σ H ys) (hr : ∀ p q H1, H1 p = some (.lst xs) → H1 q = some (.lst ys) → Ex H H1 → RV r (.ref p) (.ref q) H1 z) : Ev (tOp r ta tb) σ H z := fun H1 e Q k =>
  ha H1 e _ fun p H2 _ e2 h2 => hb H2 (e.trans e2) _ fun q H3 _ e3 h3 => hr p q H3 (e3 p _ h2) h3 ((e.trans e2).trans e3) H3 (Ex.refl H3) Q fun H4 e4 => k H4 ((e2.trans e3).trans e4)
theorem ev_opLV {xs : List V} (ha : EvL ta σ H xs) (hb : Ev tb σ H y) (hr : ∀ p H1, H1 p = some (.lst xs) → Ex H H1 → RV r (.ref p) y H1 z) : Ev (tOp r ta tb) σ H z := fun H1 e Q k =>
  ha H1 e _ fun p H2 _ e2 h2 => hb H2 (e.trans e2) _ fun H3 e3 => hr p H3 (e3 p _ h2) ((e.trans e2).trans e3) H3 (Ex.refl H3) Q fun H4 e4 => k H4 ((e2.trans e3).trans e4)
/-- f(g(..)): the argument a new list -/
theorem el_callL {sp : Sp} {xs zs : List V} {E : XK} (h : EvL ta σ H xs) (hs : ∀ p H1, Ex H H1 → H1 p = some (.lst xs) → ∀ Q, RetL zs H1 Q → ∀ E', sp [.ref p] H1 Q E') : EvL (tCall sp [] E (tCons ta tNil)) σ H zs := fun H1 e Q q =>
  h H1 e _ fun p H2 hp e2 h2 => hs p H2 (e.trans e2) h2 Q (fun p' H3 hp' e3 h3 => q p' H3 (fresh_back e2 hp') (e2.trans e3) h3) E
theorem el_callLV {sp : Sp} {xs zs : List V} {E : XK} (h : EvL ta σ H xs) (hb : Ev tb σ H y) (hs : ∀ p H1, Ex H H1 → H1 p = some (.lst xs) → ∀ Q, RetL zs H1 Q → ∀ E', sp [.ref p, y] H1 Q E') : EvL (tCall sp [] E (tCons ta (tCons tb tNil))) σ H zs := fun H1 e Q q =>
  h H1 e _ fun p H2 hp e2 h2 => hb H2 (e.trans e2) _ fun H3 e3 => hs p H3 ((e.trans e2).trans e3) (e3 p _ h2) Q (fun p' H4 hp' e4 h4 => q p' H4 (fresh_back (e2.trans e3) hp') ((e2.trans e3).trans e4) h4) E
theorem el_callVL {sp : Sp} {ys zs : List V} {E : XK} (h : Ev ta σ H x) (hb : EvL tb σ H ys) (hs : ∀ p H1, Ex H H1 → H1 p = some (.lst ys) → ∀ Q, RetL zs H1 Q → ∀ E', sp [x, .ref p] H1 Q E') : EvL (tCall sp [] E (tCons ta (tCons tb tNil))) σ H zs := fun H1 e Q q =>
  h H1 e _ fun H2 e2 => hb H2 (e.trans e2) _ fun p H3 hp e3 h3 => hs p H3 ((e.trans e2).trans e3) h3 Q (fun p' H4 hp' e4 h4 => q p' H4 (fresh_back (e2.trans e3) hp') ((e2.trans e3).trans e4) h4) E
end
/-! ### promises -/
def sp_is_number : Sp := fun vs H Q _ => ∃ z : Int, vs = [.int z] ∧ RetV (.bl true) H Q
def sp_tab (K : PySem.W.Frag) (F : (Nat → Nat → Bool) → Nat → Nat → Bool) : Sp := fun vs H Q _ => ∃ (a : Addr) (n : Nat) (f : Nat → Nat → Bool), vs = [.ref a] ∧ TabAt K H a n f ∧ 1 ≤ n ∧ n ≤ 100 ∧ (∃ xs, H a = some (.lst xs)) ∧ RetL (tabV n (F f)) H Q
def sp_turned (K : PySem.W.Frag) : Sp := fun vs H Q _ => ∃ (a : Addr) (n r : Nat) (f : Nat → Nat → Bool), vs = [.ref a, .int (r : Int)] ∧ TabAt K H a n f ∧ r < n ∧ n ≤ 100 ∧ (∃ xs, H a = some (.lst xs)) ∧ RetL (tabV n (trd r f)) H Q
def sp_product (K : PySem.W.Frag) : Sp := fun vs H Q _ => ∃ (a b : Addr) (n m : Nat) (f g : Nat → Nat → Bool), vs = [.ref a, .ref b] ∧ TabAt K H a n f ∧ TabAt K H b m g ∧ 1 ≤ n ∧ 1 ≤ m ∧ n * m ≤ 100 ∧ (∃ xs, H a = some (.lst xs)) ∧ (∃ xs, H b = some (.lst xs)) ∧ RetL (tabV (n * m) (kron m f g)) H Q
def sp_is_table (K : PySem.W.Frag) : Sp := fun vs H Q _ => ∃ (a : Addr) (n : Nat) (f : Nat → Nat → Bool), vs = [.ref a, .int (n : Int)] ∧ H a = some (.lst (tabV n f)) ∧ n ≤ 1000 ∧ RetV (.bl true) H Q
def sp_right3 (K : PySem.W.Frag) : Sp := fun vs H Q _ => ∃ (a : Addr) (n r : Nat) (f : Nat → Nat → Bool), vs = [.ref a, .int (r : Int)] ∧ TabAt K H a n f ∧ r < n ∧ n ≤ 100 ∧ (∃ xs, H a = some (.lst xs)) ∧ RetV (.bl true) H Q
theorem strip_all3 {goes : Nat → Bool} {x : Str} (h : ∀ c ∈ x.cps.toList, goes c = true) : Txt.stripBy goes true true x = ⟨#[]⟩ := by
  have tw : x.cps.toList.takeWhile goes = x.cps.toList := by
    have : ∀ l : List Nat, (∀ c ∈ l, goes c = true) → l.takeWhile goes = l := fun l => by
      induction l with
      | nil => intro _; rfl
      | cons a r ih =>
        intro hl
        rw [List.takeWhile_cons, if_pos (hl a (List.mem_cons_self ..)), ih fun c hc => hl c (List.mem_cons_of_mem _ hc)]
    exact this _ h
  have lo : PySem.stripLo goes true x = x.length := by
    unfold PySem.stripLo
    rw [if_pos rfl, tw]
    rfl
  have hi : PySem.stripHi goes true x x.length = x.length := by
    unfold PySem.stripHi
    have hd : List.drop x.length x.cps.toList = [] := List.drop_of_length_le (Nat.le_of_eq (by simp [Str.length]))
    rw [if_pos rfl, hd]
    rfl
  unfold Txt.stripBy PySem.stripSame PySem.stripped
  rw [lo, hi]
  by_cases e : x.length = 0
  · rw [if_pos (by simp [e])]
    obtain ⟨a⟩ := x
    have : a = #[] := Array.eq_empty_of_size_eq_zero e
    rw [this]
  · rw [if_neg (by simp [e])]
    unfold Builtin.Str.strSub
    apply str_ext
    simp
theorem row_strip3 (n : Nat) (g : Nat → Bool) : Txt.stripChars (rowS n g) (Str.ofString "+-") = ⟨#[]⟩ := by
  unfold Txt.stripChars
  refine strip_all3 fun c hc => ?_
  have hc' : c ∈ (List.range n).map fun j => cp (g j) := hc
  obtain ⟨j, _, rfl⟩ := List.mem_map.mp hc'
  cases g j <;> decide +kernel
/-! ### lists of lists and of pairs -/
section
variable {K : PySem.W.Frag} {σ : L2.St} {H H' : Hp} {ta tb tc td te tx : TE} {t u : TT} {x y z v : V} {r r' r'' : R2} {D : Ends} {tz : TS}
def PL (w : Int) (xs : List V) : V → Hp → Prop := fun v H => ∃ t d, v = .ref t ∧ H t = some (.tup [.int w, .ref d]) ∧ H d = some (.lst xs)
theorem kept_PL (w : Int) (xs : List V) : Kept (PL w xs) := fun v H H' e ⟨t, d, h1, h2, h3⟩ => ⟨t, d, h1, e t _ h2, e d _ h3⟩
theorem er_PL {w : Int} {xs : List V} (ha : Ev ta σ H (.int w)) (hb : EvR tb σ H (IsL xs)) : EvR (tTup (tCons ta (tCons tb tNil))) σ H (PL w xs) := fun H1 e Q q =>
  ha H1 e _ fun H2 e2 => hb H2 (e.trans e2) _ fun v H3 e3 ⟨d, hv, hd⟩ => ⟨sz_of (show 2 ≤ 100000 by decide), fun p hp => by
    subst hv
    exact q _ _ ((e2.trans e3).trans (Ex.new hp)) ⟨p, d, rfl, upd_same, Ex.new hp d _ hd⟩⟩
theorem er_varL {p : Addr} {xs : List V} (ha : Ev ta σ H (.ref p)) (hp : H p = some (.lst xs)) : EvR ta σ H (IsL xs) := fun H1 e Q q => ha H1 e _ fun H2 e2 => q _ H2 e2 ⟨p, rfl, (e.trans e2) p _ hp⟩
theorem er_lst3 {R1 R2 R3 : V → Hp → Prop} (k1 : Kept R1) (k2 : Kept R2) (k3 : Kept R3) (h1 : EvR ta σ H R1) (h2 : EvR tb σ H R2) (h3 : EvR tc σ H R3) : EvR (tLst (tCons ta (tCons tb (tCons tc tNil)))) σ H (fun v H => ∃ l x y z, v = .ref l ∧ H l = some (.lst [x, y, z]) ∧ R1 x H ∧ R2 y H ∧ R3 z H) := fun H1 e Q q =>
  h1 H1 e _ fun x H2 e2 hx => h2 H2 (e.trans e2) _ fun y H3 e3 hy => h3 H3 ((e.trans e2).trans e3) _ fun z H4 e4 hz => ⟨sz_of (show 3 ≤ 100000 by decide), fun p hp =>
    q _ _ (((e2.trans e3).trans e4).trans (Ex.new hp)) ⟨p, x, y, z, rfl, upd_same, k1 x _ _ ((e3.trans e4).trans (Ex.new hp)) hx, k2 y _ _ (e4.trans (Ex.new hp)) hy, k3 z _ _ (Ex.new hp) hz⟩⟩
/-- one of four new lists -/
theorem er_pick4 {x1 x2 x3 x4 : List V} {m : Nat} (hm : m < 4) (h1 : EvL ta σ H x1) (h2 : EvL tb σ H x2) (h3 : EvL tc σ H x3) (h4 : EvL td σ H x4) (hi : Ev te σ H (.int (m : Int))) : EvR (tOp (rIxL K) (tLst (tCons ta (tCons tb (tCons tc (tCons td tNil))))) te) σ H (fun v H => ∃ xs, xs ∈ [x1, x2, x3, x4] ∧ IsL xs v H) := fun H1 e Q q =>
  h1 H1 e _ fun p1 H2 _ e2 q1 => h2 H2 (e.trans e2) _ fun p2 H3 _ e3 q2 => h3 H3 ((e.trans e2).trans e3) _ fun p3 H4 _ e4 q3 => h4 H4 (((e.trans e2).trans e3).trans e4) _ fun p4 H5 _ e5 q4 => ⟨sz_of (show 4 ≤ 100000 by decide), fun p hp =>
    hi _ (((((e.trans e2).trans e3).trans e4).trans e5).trans (Ex.new hp)) _ fun H6 e6 => by
      have E5 := (Ex.new hp (o := .lst [.ref p1, .ref p2, .ref p3, .ref p4])).trans e6
      have F : Ex H1 H6 := ((((e2.trans e3).trans e4).trans e5)).trans E5
      have hl : H6 p = some (.lst [.ref p1, .ref p2, .ref p3, .ref p4]) := e6 p _ upd_same
      match m, hm with
      | 0, _ => exact ⟨p, _, _, .ref p1, rfl, rfl, sq_of hl, rfl, q _ H6 F ⟨x1, by simp, p1, rfl, (((e3.trans e4).trans e5).trans E5) p1 _ q1⟩⟩
      | 1, _ => exact ⟨p, _, _, .ref p2, rfl, rfl, sq_of hl, rfl, q _ H6 F ⟨x2, by simp, p2, rfl, ((e4.trans e5).trans E5) p2 _ q2⟩⟩
      | 2, _ => exact ⟨p, _, _, .ref p3, rfl, rfl, sq_of hl, rfl, q _ H6 F ⟨x3, by simp, p3, rfl, (e5.trans E5) p3 _ q3⟩⟩
      | 3, _ => exact ⟨p, _, _, .ref p4, rfl, rfl, sq_of hl, rfl, q _ H6 F ⟨x4, by simp, p4, rfl, E5 p4 _ q4⟩⟩⟩
theorem Tups.get : ∀ {xs : List V} {qs : List (List V)} {i : Nat} {x : V}, Tups H xs qs → xs[i]? = some x → ∃ q a, q ∈ qs ∧ x = .ref a ∧ H a = some (.tup q)
  | x :: xs, q :: qs, 0, y, h, e => by
    obtain ⟨a, rfl, ha⟩ := h.1
    have e' : some (V.ref a) = some y := e
    cases e'
    exact ⟨q, a, List.mem_cons_self .., rfl, ha⟩
  | _ :: xs, q :: qs, i + 1, y, h, e => by
    have e' : xs[i]? = some y := e
    obtain ⟨q', a, m, r⟩ := Tups.get h.2 e'
    exact ⟨q', a, List.mem_cons_of_mem _ m, r⟩
  | [], [], _, _, _, e => nomatch e
  | [], _ :: _, _, _, h, _ => h.elim
  | _ :: _, [], _, _, h, _ => h.elim
def EvTs (ts : TA) (σ : L2.St) (H : Hp) (qs : List (List V)) : Prop := EvAR ts σ H (fun xs H => Tups H xs qs)
theorem ets_nil : EvTs tNil σ H [] := fun H1 _ Q q => q [] H1 (Ex.refl H1) trivial
theorem ets_cons {ta ts : TA} {vs : List V} {qs : List (List V)} (h : EvA ta σ H vs) (hl : vs.length ≤ 1000) (hs : EvTs ts σ H qs) : EvTs (tCons (tTup ta) ts) σ H (vs :: qs) := fun H1 e Q q =>
  eu_tup h (by omega) H1 e _ fun p H2 _ e2 h2 => hs H2 (e.trans e2) _ fun xs H3 e3 h3 => q (.ref p :: xs) H3 (e2.trans e3) ⟨⟨p, rfl, e3 p _ h2⟩, h3⟩
/-- for a, b in [(..), ..] -/
theorem q_forTs {ts : TA} {qs : List (List V)} {j l : Nat} {tu : TS} (h : EvTs ts σ H qs) (hl : qs.length ≤ 1000) (Pv : L2.St → Hp → Prop) (h0 : ∀ H1, Ex H H1 → Pv σ H1)
    (hs : ∀ H1, Ex H H1 → ∀ q σ' H', q ∈ qs → Pv σ' H' → Ex H1 H' → ∃ x y, q = [x, y] ∧ tu { D with nx := fun s h => Pv s h ∧ Ex H1 h, ct := fun s h => Pv s h ∧ Ex H1 h, bk := tz D } ((σ'.set j (some x)).set l (some y)) H') (hd : ∀ σ' H', Pv σ' H' → tz D σ' H') : tSeq (tFor (iList K (tLst ts)) (gTup K 2 (gCons (gName j) (gCons (gName l) gNil))) tu) tz D σ H := by
  refine h H (Ex.refl H) _ fun xs H1 e hx => ⟨sz_of (by rw [hx.len]; omega), fun p hp => ⟨p, rfl, ⟨xs, sq_of upd_same⟩, ?_⟩⟩
  have e2 : Ex H (upd H1 p (.lst xs)) := e.trans (Ex.new hp)
  have hx2 : Tups (upd H1 p (.lst xs)) xs qs := hx.ex (Ex.new hp)
  have hp2 : (upd H1 p (.lst xs)) p = some (.lst xs) := upd_same
  generalize upd H1 p (.lst xs) = H2 at e2 hx2 hp2 ⊢
  refine for_list (K := K) (xs := xs) (fun i σ' H' => Pv σ' H' ∧ Ex H2 H') ⟨h0 H2 e2, Ex.refl H2⟩ (fun i σ' H' _ q => sq_of (q.2 p _ hp2)) (fun i x σ' H' hx' q => ?_) (fun σ' H' q => hd σ' H' q.1)
  obtain ⟨qq, a, m, rfl, ha⟩ := (hx2.ex q.2).get hx'
  obtain ⟨x, y, rfl, k⟩ := hs H2 e2 qq σ' H' m q.1 q.2
  exact g_pair ha k
end
theorem cutV_to (xs : List V) (k : Nat) : cutV xs none (some (k : Int)) = xs.take k := by
  unfold cutV
  rw [HT.sIx_none, HT.sIx_nat, List.drop_zero, Nat.sub_zero, ← List.take_eq_take_min]
theorem cutV_from (xs : List V) (k : Nat) : cutV xs (some (k : Int)) none = xs.drop k := by
  unfold cutV
  rw [HT.sIx_none, HT.sIx_nat]
  by_cases h : k ≤ xs.length
  · rw [Nat.min_eq_left h]
    exact List.take_of_length_le (by rw [List.length_drop]; exact Nat.le_refl _)
  · rw [Nat.min_eq_right (by omega), Nat.sub_self, List.take_zero, List.drop_eq_nil_of_le (show xs.length ≤ k by omega)]
theorem tab_trd {n r : Nat} (f : Nat → Nat → Bool) (hr : r < n) : (tabV n f).take r ++ [V.str (rowS n fun j => !f r j)] ++ (tabV n f).drop (r + 1) = tabV n (trd r f) := by
  apply List.ext_getElem?
  intro k
  have lt : ((tabV n f).take r).length = r := by rw [List.length_take, tabV_len]; omega
  rw [List.append_assoc]
  by_cases c1 : k < r
  · rw [List.getElem?_append_left (by rw [lt]; exact c1), List.getElem?_take, if_pos c1, tabV_get (by omega), tabV_get (by omega)]
    refine congrArg (fun z => some (V.str z)) (rowS_ext fun j _ => ?_)
    unfold trd
    rw [if_neg (by omega)]
  · rw [List.getElem?_append_right (by rw [lt]; omega), lt]
    by_cases c2 : k = r
    · subst c2
      rw [Nat.sub_self, tabV_get hr]
      refine congrArg (fun z => some (V.str z)) (rowS_ext fun j _ => ?_)
      unfold trd
      rw [if_pos rfl]
    · rw [show k - r = (k - r - 1) + 1 by omega]
      show ((tabV n f).drop (r + 1))[k - r - 1]? = _
      rw [List.getElem?_drop, show r + 1 + (k - r - 1) = k by omega]
      by_cases c3 : k < n
      · rw [tabV_get c3, tabV_get c3]
        refine congrArg (fun z => some (V.str z)) (rowS_ext fun j _ => ?_)
        unfold trd
        rw [if_neg c2]
      · rw [List.getElem?_eq_none (by rw [tabV_len]; omega), List.getElem?_eq_none (by rw [tabV_len]; omega)]
theorem trd_trd (n r : Nat) (f : Nat → Nat → Bool) : tabV n (trd r (trd r f)) = tabV n f := tabV_ext fun i _ j _ => by
  unfold trd
  by_cases c : i = r
  · rw [if_pos c, if_pos c, Bool.not_not]
  · rw [if_neg c, if_neg c]
def chg (r : Nat) (f : Nat → Nat → Bool) (w : Nat) : Nat → Nat → Bool := if w = 0 then trn f else if w = 1 then trd r f else evn f
theorem half_chg {n : Nat} {f : Nat → Nat → Bool} (r w : Nat) (h : halfB n f = true) : halfB n (chg r f w) = true := by
  unfold chg
  split
  · exact half_trn h
  · split
    · exact half_trd r h
    · exact half_evn h
theorem q_for3 {K : PySem.W.Frag} {σ : L2.St} {H : Hp} {D : Ends} {tz tu : TS} {tl : TE} {g : TG} {R1 R2 R3 : V → Hp → Prop} (k1 : Kept R1) (k2 : Kept R2) (k3 : Kept R3) (h : EvR tl σ H (fun v H => ∃ l x y z, v = .ref l ∧ H l = some (.lst [x, y, z]) ∧ R1 x H ∧ R2 y H ∧ R3 z H)) (Pv : L2.St → Hp → Prop) (h0 : ∀ H1, Ex H H1 → Pv σ H1)
    (hs : ∀ H1, Ex H H1 → ∀ x σ' H', (R1 x H' ∨ R2 x H' ∨ R3 x H') → Pv σ' H' → Ex H1 H' → g x σ' H' fun σ2 H2 => tu { D with nx := fun s h => Pv s h ∧ Ex H1 h, ct := fun s h => Pv s h ∧ Ex H1 h, bk := tz D } σ2 H2) (hd : ∀ σ' H', Pv σ' H' → tz D σ' H') : tSeq (tFor (iList K tl) g tu) tz D σ H := by
  refine h H (Ex.refl H) _ fun v H1 e hv => ?_
  obtain ⟨l, x, y, z, rfl, hl, h1, h2, h3⟩ := hv
  refine ⟨l, rfl, ⟨_, sq_of hl⟩, for_list (K := K) (xs := [x, y, z]) (fun i σ' H' => Pv σ' H' ∧ Ex H1 H') ⟨h0 H1 e, Ex.refl H1⟩ (fun i σ' H' _ q => sq_of (q.2 l _ hl)) (fun i w σ' H' hx q => hs H1 e w σ' H' ?_ q.1 q.2) (fun σ' H' q => hd σ' H' q.1)⟩
  match i, hx with
  | 0, hx =>
    cases hx
    exact .inl (k1 _ _ _ q.2 h1)
  | 1, hx =>
    cases hx
    exact .inr (.inl (k2 _ _ _ q.2 h2))
  | 2, hx =>
    cases hx
    exact .inr (.inr (k3 _ _ _ q.2 h3))
  | _ + 3, hx => cases hx
end HA

end
section
set_option maxRecDepth 100000
set_option maxHeartbeats 4000000
namespace HA
open PySem PySem.Spec PyProof.Rows L2 Evl HotX L2H
/-! ### any(list) where an exception is handled -/
section
variable {prog : Program} {w : World} {A : Around} {E : Value → Shared → Prop} {s : Shared}
theorem next_end_hot {J L x1 : Addr} {k : Nat} {ys : Array Value} {Q : Option Value → Shared → Prop} (hot : HotAt A x1 s.heap) (nx : x1 ≠ J) (hJ : s.heap.IsListIter J L k) (hL : s.heap.IsList L ys) (hk : ys[k]? = none)
    (fin : ∀ h', (∀ b u, b ≠ J → s.heap.get? b = some u → h'.get? b = some u) → Q none { s with heap := h' }) : wpAny (model prog w) A (pyNext (.ref J)) Q E s := by
  obtain ⟨oJ, gJ, cJ, dJ⟩ := id hJ
  obtain ⟨oL, gL, _, mL, dL⟩ := hL
  obtain ⟨hh, o1, vs1, g1, d1, c1⟩ := hot
  unfold pyNext
  refine wpAny_bind (wpAny_attempt (wpAny_callSpecial?_slot (name := Str.ofString "__next__") hJ.typeIs slot_listiter_next (wpAny_call_entry slot_listiter_next hJ.typeIs entry_listiter_next ?_ (args_listiter_next _))))
  show wpAny _ _ (field (.ref J) 0 >>= _) _ _ s
  refine wpAny_bind (wpAny_field gJ dJ (x := .ref L) rfl ?_)
  show wpAny _ _ (if (Value.ref L == Value.none) = true then _ else _) _ _ s
  rw [if_neg (c := (Value.ref L == Value.none) = true) Bool.false_ne_true]
  show wpAny _ _ (field (.ref J) 1 >>= _) _ _ s
  refine wpAny_bind (wpAny_field gJ dJ (x := .int k 0) rfl ?_)
  show wpAny _ _ (seqItems? (.ref L) >>= _) _ _ s
  refine wpAny_bind (wpAny_seqItems gL dL ?_)
  simp only [Int.toNat_natCast, hk]
  refine wpAny_bind (wpAny_rule (wpAny_bind (wpAny_setField gJ dJ (by simp) ?_)))
  show wpAny _ _ (newExc (.type "StopIteration") [] >>= _) _ _ _
  refine wpAny_bind ?_
  simp only [newExc, newTuple]
  refine wpAny_bind (wpAny_newObj_type ?_ (by size_fits))
  refine wpAny_bind (m := firstArgMember _ _) (wpAny_of_eq (a := .none) (by first | rfl | (simp only [firstArgMember]; rfl)) ?_)
  refine wpAny_newObj_type ?_ (by size_fits)
  have old : ∀ b u, b ≠ J → s.heap.get? b = some u → ((s.heap.update J (Obj.mapFields (·.setIfInBounds 0 .none))).get? b) = some u := fun b u hb e => by
    rw [Heap.get?_update_other _ _ (Ne.symm hb)]
    exact e
  have g2 := Heap.get?_push_of_some { cls := Value.type "tuple", data := Data.seq #[] } (old x1 o1 nx g1)
  refine raiseNew_hot (x1 := x1) ⟨hh, o1, vs1, Heap.get?_push_of_some _ g2, d1, c1⟩ (Nat.ne_of_lt (Heap.lt_size g2)) (Heap.get?_push_size _ rfl) rfl (by first | (simp; done) | (simp; omega) | (simp only [Array.size_append]; simp; omega)) ?_
  refine wpAny_bind (wpAny_isInstance (b := true) (T := "StopIteration") ⟨_, Heap.get?_update_self _ (Heap.get?_push_size _ rfl) rfl, rfl⟩ isSubtype_stop ?_)
  refine wpAny_pure (fin _ fun b u hb e => ?_)
  have e2 := Heap.get?_push_of_some { cls := Value.type "tuple", data := Data.seq #[] } (old b u hb e)
  rw [Heap.get?_update_other _ _ (Nat.ne_of_gt (Heap.lt_size e2))]
  exact Heap.get?_push_of_some _ e2
/-- a list's walk there -/
theorem walks_hot (I ax x1 : Addr) (hne : ax ≠ I) (nx : x1 ≠ I) (hh : A.handled = some (.ref x1)) (items : Array Value) :
    Walks prog w A I [I, ax, x1] [I] items.size (fun i v => items[i]? = some v) (fun i h => h.IsListIter I ax i ∧ h.IsList ax items ∧ HotAt A x1 h) where
  sub := fun b hb => by
    have e : b = I := by simpa using hb
    simp [e]
  frame := fun i h h' st hk => ⟨st.1.at fun o e => hk I (by simp) o e, st.2.1.at fun o e => hk ax (by simp) o e, st.2.2.1, by
    obtain ⟨_, o, vs, g, d, c⟩ := st.2.2
    exact ⟨o, vs, hk x1 (by simp) o g, d, c⟩⟩
  item := fun i s Q E hi st hQ => by
    refine wpAny_pyNext_list_item st.1 st.2.1 (x := items[i]) (by simp [hi]) fun h' hit' hs' => ?_
    refine hQ _ h' s.toks (by simp [hi]) ⟨hit', st.2.1.extBut hs'.extBut hne, st.2.2.1, ?_⟩ fun b o hb e => hs'.extBut b o (fun h => hb (by simp [h])) e
    obtain ⟨_, o, vs, g, d, c⟩ := st.2.2
    exact ⟨o, vs, hs'.extBut x1 o nx g, d, c⟩
  done := fun s Q E st hQ => next_end_hot st.2.2 nx st.1 st.2.1 (by simp) fun h' he' => hQ h' s.toks fun b o hb e => he' b o (fun h => hb (by simp [h])) e
  self := fun _ _ _ _ st hQ => wpAny_pyIter_listiter st.1 hQ
end
theorem cr_anyH {X : Cx} (hc : HotC X) : CallR X (.builtin "any") (rAny X.K) := by
  intro pins s σ H vs us Q I r h
  obtain ⟨a, bs, rfl, hs, q⟩ := h
  obtain ⟨its, rv, hl, _⟩ := I.list hs
  obtain ⟨x1, hot⟩ := hc.at I
  rw [Vals.ref1 r]
  have hb := rv.bls
  refine call_any_walk (iter_any hl.isList fun s₂ e2 st hne => ?_)
  subst e2
  obtain ⟨hh, o1, vs1, g1, d1, c1⟩ := hot
  have nx : x1 ≠ s.heap.objs.size := Nat.ne_of_lt (Heap.lt_size g1)
  refine ⟨_, _, _, _, _, _, _, rfl, walks_hot (A := X.A.in1) _ a x1 hne nx hh its.toArray, ⟨st.1, st.2, hh, o1, vs1, Heap.get?_push_of_some _ g1, d1, c1⟩, truth_bools hb, fun h' tk hk => ?_⟩
  refine ⟨.bl _, H, I.kept fun b o eo => hk b o (fun hmem => ?_) (Heap.get?_push_of_some _ eo), ?_, q⟩
  · have e1 : b = s.heap.objs.size := by simpa using hmem
    exact absurd (e1 ▸ Heap.lt_size eo) (Nat.lt_irrefl _)
  · show Value.bool _ = Value.bool _
    rw [← L2.any_range, List.size_toArray, hb, List.length_map]
/-! ### defs that raise, their exceptions without a context -/
theorem passLN {X : Cx} : Passes (L2N.CX X.prog X.w) X E0 := fun _ _ _ _ _ _ _ h => by
  obtain ⟨_, _, _, _, _, _, _, _, _, _, _, _, z⟩ := h
  exact z.elim
theorem takesN {X : Cx} : L2N.Takes X (fun _ _ _ _ => False) := fun _ _ x => by
  obtain ⟨_, _, _, _, _, _, _, _, _, _, _, _, _, _, _, _, z⟩ := x
  exact z.elim
section
variable {P : Program} {w : World} {K : PySem.W.Frag} {mg : Str → Option Value} {base : Heap}
theorem okN {x qual : Str} {st : Stmt} {f : Addr} {fd : FuncData} {N ps : List Str} {k : Nat} {sp : Sp} (F : Fun K x qual st f fd) (S : FnScope N ps (defScope st)) (len : ∀ vs H Q E, sp vs H Q E → vs.length = ps.length)
    (hbody : ∀ (cdv : Value) (A : Around) (outer : List Env) (s : Shared) (H : Hp) (vs : List V) (Q : VK) (E : XK), Room k (A.deeper (envOfC qual (defScope st) s.heap.objs.size f cdv)) → sp vs H Q E →
      ∃ t, PSs (cxOf (L2N.CX P w) P w K mg base N qual (defScope st) f cdv A outer s H E) (defBody st) t ∧ t { nx := fun _ H' => Q .non H', rt := Q } (start N vs) H) : FnOk P w K mg base (L2N.CX P w) (k + 1) f fd ps sp := by
  obtain ⟨oc, od, kV, doc, pm, an, cdv, ct, osl, rfl, lk, hcd⟩ := F.ex
  exact fn_of lk hcd S len fun A' outer' s' H' vs' Q' E' hr' hsp' => hbody cdv A' outer' s' H' vs' Q' E' hr' hsp'
end
/-- isinstance(e, c) in the suite: what e's class says -/
def rIsG (K : PySem.W.Frag) (cls : Value) (d : Option Addr) (a : Addr) : List V → Hp → VK → Prop := fun xs H Q => ∃ D, cls = .ref D ∧ d = none ∧ ExcC K D ∧ rIsE K D a xs H Q
theorem call_isG {X : Cx} {a : Addr} {cls : Value} {d : Option Addr} {oe : Obj} {pn : List (Addr × Obj)} (hz : Zc cls d oe) (hf : ∃ vs, oe.data = .fields vs) : CallR (X.suite a ((a, oe) :: pn)) (.builtin "isinstance") (rIsG X.K cls d a) := by
  intro pins s σ H xs us Q I r h
  obtain ⟨D, rfl, rfl, C, h⟩ := h
  exact call_isE C hz hf pins s σ H xs us Q I r h
theorem hot_suite {X : Cx} {a : Addr} {cls : Value} {d : Option Addr} {oe : Obj} {pn : List (Addr × Obj)} (hz : L2N.Zn cls d oe) (hf : ∃ vs, oe.data = .fields vs) : HotC (X.suite a ((a, oe) :: pn)) := by
  obtain ⟨vs, hv⟩ := hf
  exact ⟨(a, oe), ⟨rfl, vs, hv, hz.2.2 vs hv⟩, List.mem_cons_self ..⟩
/-- two readings of a walk -/
theorem pi_either {X : Cx} {tg it : Expr} {u v : TI} (h : PI X tg it u) (k : PI X tg it v) : PI X tg it (fun σ H R => u σ H R ∨ v σ H R) :=
  ⟨fun pins s σ H R I q => q.elim (h.run pins s σ H R I) (k.run pins s σ H R I)⟩
theorem cr_anyS {X : Cx} {a : Addr} {cls : Value} {d : Option Addr} {oe : Obj} {pn : List (Addr × Obj)} (hz : L2N.Zn cls d oe) (hf : ∃ vs, oe.data = .fields vs) : CallR (X.suite a ((a, oe) :: pn)) (.builtin "any") (rAny X.K) := cr_anyH (X := X.suite a ((a, oe) :: pn)) (hot_suite hz hf)
end HA

end
section
set_option maxRecDepth 100000
set_option maxHeartbeats 4000000
namespace HA
open PySem PySem.Spec PyProof.Rows L2 Evl
/-! ### worths and the numbers back -/
def ws (n : Nat) (f : Nat → Nat → Bool) (u : Nat → Int) (i : Nat) : Int := S n fun k => sg (f i k) * u k
def cs (n : Nat) (f : Nat → Nat → Bool) (w : Nat → Int) (p : Nat) : Int := S n fun r => sg (f r p) * w r
theorem ws_back {n : Nat} {f : Nat → Nat → Bool} (had : Had n f) (u : Nat → Int) {p : Nat} (hp : p < n) : cs n f (ws n f u) p = (n : Int) * u p := by
  have e1 : cs n f (ws n f u) p = S n fun r => S n fun k => sg (f r p) * (sg (f r k) * u k) := S_congr fun r _ => by
    show sg (f r p) * S n _ = _
    rw [← S_mulL]
  have e2 : (S n fun k => S n fun r => sg (f r p) * (sg (f r k) * u k)) = S n fun k => ip n (trn f p) (trn f k) * u k := S_congr fun k _ => by
    show _ = S n _ * u k
    rw [← S_mulR]
    exact S_congr fun r _ => (Int.mul_assoc _ _ _).symm
  rw [e1, S_swap, e2, S_one (a := p) hp fun k hk hne => ?_]
  · show ip n (trn f p) (trn f p) * u p = _
    rw [ip_self]
  · have h := had_tr had p hp k hk (Ne.symm hne)
    have h' : ip n (trn f p) (trn f k) = 0 := h
    rw [h', Int.zero_mul]
theorem ws_norm {n : Nat} {f : Nat → Nat → Bool} (had : Had n f) (u : Nat → Int) : (S n fun i => ws n f u i * ws n f u i) = (n : Int) * S n fun k => u k * u k := by
  have e1 : (S n fun i => ws n f u i * ws n f u i) = S n fun i => S n fun k => u k * (sg (f i k) * ws n f u i) := S_congr fun i _ => by
    have e : ws n f u i * ws n f u i = (S n fun k => sg (f i k) * u k) * ws n f u i := rfl
    rw [e, ← S_mulR]
    refine S_congr fun k _ => ?_
    rw [Int.mul_comm (sg (f i k)) (u k), Int.mul_assoc]
  have e2 : (S n fun k => S n fun i => u k * (sg (f i k) * ws n f u i)) = S n fun k => (n : Int) * (u k * u k) := S_congr fun k hk => by
    rw [S_mulL]
    have e := ws_back had u hk
    unfold cs at e
    rw [e, Int.mul_left_comm]
  rw [e1, S_swap, e2, S_mulL]
theorem sum_S (u : Nat → Int) : ∀ n, ((List.range n).map u).sum = S n u
  | 0 => rfl
  | n + 1 => by
    rw [List.range_succ, List.map_append, List.sum_append, sum_S u n]
    show S n u + (u n + 0) = S n u + u n
    rw [Int.add_zero]
/-- a list of numbers -/
def numV (n : Nat) (u : Nat → Int) : List V := (List.range n).map fun i => V.int (u i)
theorem numV_len (n : Nat) (u : Nat → Int) : (numV n u).length = n := by
  unfold numV
  rw [List.length_map, List.length_range]
theorem numV_get {n : Nat} {u : Nat → Int} {i : Nat} (h : i < n) : (numV n u)[i]? = some (.int (u i)) := by
  unfold numV
  rw [List.getElem?_map, List.getElem?_range h]
  rfl
theorem numV_some {n : Nat} {u : Nat → Int} {i : Nat} {x : V} (h : (numV n u)[i]? = some x) : i < n ∧ x = .int (u i) := by
  have hi : i < n := by
    have q := (List.getElem?_eq_some_iff.mp h).1
    rwa [numV_len] at q
  rw [numV_get hi] at h
  exact ⟨hi, (Option.some.inj h).symm⟩
theorem numV_ext {n : Nat} {u v : Nat → Int} (e : ∀ i, i < n → u i = v i) : numV n u = numV n v := List.map_congr_left fun i hi => by rw [e i (List.mem_range.mp hi)]
theorem numV_ints (n : Nat) (u : Nat → Int) : numV n u = ((List.range n).map u).map V.int := by
  unfold numV
  rw [List.map_map]
  rfl
def NumAt (K : PySem.W.Frag) (H : Hp) (a : Addr) (n : Nat) (u : Nat → Int) : Prop := SqL K H a (numV n u)
theorem NumAt.ex {K : PySem.W.Frag} {H H' : Hp} {a : Addr} {n : Nat} {u : Nat → Int} (e : Ex H H') (h : NumAt K H a n u) : NumAt K H' a n u := ex_l e h
theorem numV_inj {n : Nat} {u v : Nat → Int} (h : ∀ i, i < n → u i = v i) : (List.range n).map u = (List.range n).map v := List.map_congr_left fun i hi => h i (List.mem_range.mp hi)
/-! ### promises -/
def sp_asked_numbers (K : PySem.W.Frag) : Sp := fun vs H Q _ => ∃ (a b : Addr) (n : Nat) (f : Nat → Nat → Bool) (u : Nat → Int), vs = [.ref a, .ref b] ∧ TabAt K H a n f ∧ 1 ≤ n ∧ n ≤ 100 ∧ (∃ xs, H a = some (.lst xs)) ∧ halfB n f = true ∧ H b = some (.lst (numV n u)) ∧ RetV .non H Q
def sp_signed_sum (K : PySem.W.Frag) : Sp := fun vs H Q _ => ∃ (b : Addr) (n : Nat) (g : Nat → Bool) (u : Nat → Int), NumAt K H b n u ∧ n ≤ 1000 ∧ (vs = [.str (rowS n g), .ref b] ∨ ∃ c, vs = [.ref c, .ref b] ∧ SqL K H c ((List.range n).map fun k => V.str (sgS (g k)))) ∧ RetV (.int (S n fun k => sg (g k) * u k)) H Q
def sp_worths (K : PySem.W.Frag) : Sp := fun vs H Q _ => ∃ (a b : Addr) (n : Nat) (f : Nat → Nat → Bool) (u : Nat → Int), vs = [.ref a, .ref b] ∧ TabAt K H a n f ∧ 1 ≤ n ∧ n ≤ 100 ∧ (∃ xs, H a = some (.lst xs)) ∧ halfB n f = true ∧ H b = some (.lst (numV n u)) ∧ RetL (numV n (ws n f u)) H Q
/-- all sums are of whole numbers -/
def allB (n : Nat) (f : Nat → Nat → Bool) (u : Nat → Int) : Bool := (List.range n).all fun p => decide (cs n f u p % (n : Int) = 0)
def sp_numbers_of (K : PySem.W.Frag) (C : Addr) : Sp := fun vs H Q E => ∃ (a b : Addr) (n : Nat) (f : Nat → Nat → Bool) (u : Nat → Int), vs = [.ref a, .ref b] ∧ TabAt K H a n f ∧ 1 ≤ n ∧ n ≤ 100 ∧ (∃ xs, H a = some (.lst xs)) ∧ halfB n f = true ∧ H b = some (.lst (numV n u)) ∧
  (allB n f u = true → RetL (numV n fun p => cs n f u p / (n : Int)) H Q) ∧ (allB n f u = false → ∀ H', Ex H H' → E (.ref C) none H')
def sp_L_sums (K : PySem.W.Frag) : Sp := fun vs H Q _ => ∃ (a b : Addr) (n : Nat) (f : Nat → Nat → Bool) (u : Nat → Int), vs = [.ref a, .ref b] ∧ TabAt K H a n f ∧ n ≤ 1000 ∧ NumAt K H b n u ∧ RetL (numV n (ws n f u)) H Q
def sp_L_numbers (K : PySem.W.Frag) : Sp := fun vs H Q _ => ∃ (a : Addr) (n : Nat) (u : Nat → Int), vs = [.ref a] ∧ H a = some (.lst (numV n u)) ∧ n ≤ 1000 ∧ RetV (.bl true) H Q
def sp_L_none (K : PySem.W.Frag) : Sp := fun vs H Q _ => ∃ (a b : Addr) (n : Nat) (f : Nat → Nat → Bool) (u : Nat → Int), vs = [.ref a, .ref b] ∧ TabAt K H a n f ∧ 1 ≤ n ∧ n ≤ 100 ∧ (∃ xs, H a = some (.lst xs)) ∧ halfB n f = true ∧ H b = some (.lst (numV n u)) ∧ allB n f u = false ∧ RetV (.bl true) H Q
theorem ev_callLV {σ : L2.St} {H : Hp} {ta tb : TE} {sp : Sp} {xs : List V} {y z : V} {E : XK} (h : EvL ta σ H xs) (hb : Ev tb σ H y) (hs : ∀ p H1, Ex H H1 → H1 p = some (.lst xs) → SpV sp [.ref p, y] H1 z) : Ev (tCall sp [] E (tCons ta (tCons tb tNil))) σ H z := fun H1 e Q q =>
  h H1 e _ fun p H2 _ e2 h2 => hb H2 (e.trans e2) _ fun H3 e3 => hs p H3 ((e.trans e2).trans e3) (e3 p _ h2) H3 (Ex.refl H3) Q (fun H4 e4 => q H4 ((e2.trans e3).trans e4)) E
theorem any_not_all (n : Nat) (p : Nat → Bool) : ((List.range n).map fun i => !p i).any id = !((List.range n).all p) := by
  rw [List.any_map]
  induction n with
  | zero => rfl
  | succ n ih =>
    rw [List.range_succ, List.any_append, List.all_append, Bool.not_and, ih]
    simp
def sp_wide_right (K : PySem.W.Frag) : Sp := fun vs H Q _ => ∃ (c : Addr) (cl : List Int) (wh : Int), vs = [.ref c, .int wh] ∧ H c = some (.lst (cl.map V.int)) ∧ Cells cl ∧ 1 ≤ cl.length ∧ RetV (.bl true) H Q
theorem all_back {n : Nat} {f : Nat → Nat → Bool} (had : Had n f) (hn : 1 ≤ n) (u : Nat → Int) : allB n f (ws n f u) = true := by
  unfold allB
  rw [List.all_eq_true]
  intro p hp
  rw [ws_back had u (List.mem_range.mp hp), Int.mul_emod_right]
  exact decide_eq_true rfl
theorem num_back {n : Nat} {f : Nat → Nat → Bool} (had : Had n f) (hn : 1 ≤ n) (u : Nat → Int) : (numV n fun p => cs n f (ws n f u) p / (n : Int)) = numV n u := numV_ext fun p hp => by
  rw [ws_back had u hp, Int.mul_ediv_cancel_left _ (by omega)]
theorem rv_neN {K : PySem.W.Frag} {H : Hp} {a b : Addr} {n : Nat} {u v : Nat → Int} (ha : NumAt K H a n u) (hb : NumAt K H b n v) (h : ∀ i, i < n → u i = v i) : RV (rNeD K) (.ref a) (.ref b) H (.bl false) := by
  unfold NumAt at ha hb
  rw [numV_ints] at ha hb
  have q := rv_neI ha hb
  rw [decide_eq_true (numV_inj h)] at q
  exact q
theorem rv_eqN {K : PySem.W.Frag} {H : Hp} {a b : Addr} {n : Nat} {u v : Nat → Int} (ha : NumAt K H a n u) (hb : NumAt K H b n v) (h : ∀ i, i < n → u i = v i) : RV (rEqD K) (.ref a) (.ref b) H (.bl true) := by
  unfold NumAt at ha hb
  rw [numV_ints] at ha hb
  have q := rv_eqI ha hb
  rw [decide_eq_true (numV_inj h)] at q
  exact q
theorem S_bound {B : Nat} : ∀ {n : Nat} {g : Nat → Int}, (∀ k, k < n → (g k).natAbs ≤ B) → (S n g).natAbs ≤ n * B
  | 0, _, _ => by
    rw [Nat.zero_mul]
    exact Nat.le_refl 0
  | n + 1, g, h => by
    have ih := S_bound (n := n) fun k hk => h k (by omega)
    have h1 := h n (by omega)
    show (S n g + g n).natAbs ≤ _
    rw [Nat.succ_mul]
    have h2 := Int.natAbs_add_le (S n g) (g n)
    omega
theorem sg_abs (b : Bool) (x : Int) : (sg b * x).natAbs = x.natAbs := by
  cases b
  · show ((-1) * x).natAbs = _
    rw [Int.neg_mul, Int.one_mul, Int.natAbs_neg]
  · show (1 * x).natAbs = _
    rw [Int.one_mul]
theorem ws_bound {B n : Nat} {f : Nat → Nat → Bool} {u : Nat → Int} (h : ∀ k, k < n → (u k).natAbs ≤ B) (i : Nat) : (ws n f u i).natAbs ≤ n * B := S_bound fun k hk => by
  rw [sg_abs]
  exact h k hk
end HA
namespace HA
open PySem PySem.Spec PyProof.Rows L2 Evl
/-- [table, numbers] -/
def PairAt (H : Hp) (l : Addr) (n : Nat) (f : Nat → Nat → Bool) (u : Nat → Int) : Prop := ∃ p q, H l = some (.lst [.ref p, .ref q]) ∧ H p = some (.lst (tabV n f)) ∧ H q = some (.lst (numV n u))
theorem PairAt.ex {H H' : Hp} {l : Addr} {n : Nat} {f : Nat → Nat → Bool} {u : Nat → Int} (e : Ex H H') (h : PairAt H l n f u) : PairAt H' l n f u := by
  obtain ⟨p, q, h1, h2, h3⟩ := h
  exact ⟨p, q, e l _ h1, e p _ h2, e q _ h3⟩
def pdP (n : Nat) (f : Nat → Nat → Bool) (u : Nat → Int) : PyData := .list [.list (((List.range n).map fun i => rowS n (f i)).map .str), .list (((List.range n).map u).map .int)]
theorem PairAt.dp {K : PySem.W.Frag} {H : Hp} {l : Addr} {n : Nat} {f : Nat → Nat → Bool} {u : Nat → Int} (h : PairAt H l n f u) : Dp K H (.ref l) (pdP n f u) := by
  obtain ⟨p, q, h1, h2, h3⟩ := h
  rw [tabV_strs] at h2
  rw [numV_ints] at h3
  exact .lst (sq_of h1) (.cons (.lst (sq_of h2) (dp_strs _)) (.cons (.lst (sq_of h3) (dp_ints _)) .nil))
theorem shP (n : Nat) (f : Nat → Nat → Bool) (u : Nat → Int) : SeqAt.shaped (pdP n f u) = true := by
  unfold SeqAt.shaped pdP
  have a : PyData.canLay0 (.list [.list (((List.range n).map fun i => rowS n (f i)).map .str), .list (((List.range n).map u).map .int)]) = true := by
    show (PyData.canLayAll0 (((List.range n).map fun i => rowS n (f i)).map .str) && (PyData.canLayAll0 (((List.range n).map u).map .int) && true)) = true
    rw [canLay_strs _ (tab_good n f), canLay_ints]
    rfl
  have b : PyData.depth (.list [.list (((List.range n).map fun i => rowS n (f i)).map .str), .list (((List.range n).map u).map .int)]) = 2 := by
    show (max (PyData.depthAll (((List.range n).map fun i => rowS n (f i)).map .str) + 1) (max (PyData.depthAll (((List.range n).map u).map .int) + 1) 0)) + 1 = 2
    rw [depth_strs, depth_ints]
    rfl
  rw [a, b]
  rfl
theorem eqv_P (n : Nat) (f : Nat → Nat → Bool) (u : Nat → Int) : PyData.eqv (pdP n f u) (pdP n f u) = true := by
  show (PyData.eqvAll (((List.range n).map fun i => rowS n (f i)).map .str) (((List.range n).map fun i => rowS n (f i)).map .str) && (PyData.eqvAll (((List.range n).map u).map .int) (((List.range n).map u).map .int) && true)) = true
  rw [eqv_strs, eqv_ints, decide_eq_true rfl, decide_eq_true rfl]
  rfl
theorem rv_neP {K : PySem.W.Frag} {H : Hp} {l l' : Addr} {n : Nat} {f : Nat → Nat → Bool} {u : Nat → Int} (h : PairAt H l n f u) (h' : PairAt H l' n f u) : RV (rNeD K) (.ref l) (.ref l') H (.bl false) := fun H1 e Q q =>
  ⟨_, _, (h.ex e).dp, (h'.ex e).dp, shP n f u, shP n f u, by rw [eqv_P]; exact q H1 (Ex.refl H1)⟩
theorem er_two {σ : L2.St} {H : Hp} {ta tb : TE} {n : Nat} {f : Nat → Nat → Bool} {u : Nat → Int} (h1 : EvL ta σ H (tabV n f)) (h2 : EvL tb σ H (numV n u)) : EvR (tLst (tCons ta (tCons tb tNil))) σ H (fun v H => ∃ l, v = .ref l ∧ PairAt H l n f u) := fun H1 e Q q =>
  h1 H1 e _ fun p H2 _ e2 k2 => h2 H2 (e.trans e2) _ fun r H3 _ e3 k3 => ⟨sz_of (show 2 ≤ 100000 by decide), fun l hl => q _ _ ((e2.trans e3).trans (Ex.new hl)) ⟨l, rfl, p, r, upd_same, ((e3.trans (Ex.new hl)) p _ k2), Ex.new hl r _ k3⟩⟩
end HA
namespace HA
open PySem PySem.Spec PyProof.Rows L2 Evl
/-- the columns of rows that stand, by any count -/
theorem tr_compG {K : PySem.W.Frag} {σ : L2.St} {H : Hp} {a : Addr} {n j l : Nat} {g : Nat → Nat → Bool} {vs ws : List Nat} {ta tx ty : TE} {tr : TA} (ha : ∀ x H1, Ex H H1 → Ev ta ((wipe σ vs).set j (some x)) H1 (.ref a)) (hl : EvA tr σ H [.int (n : Int)]) (hx : SqL K H a ((List.range n).map fun k => V.str (rowS n (g k)))) (hn : n ≤ 1000)
    (hw : ∀ x, wipe ((wipe σ vs).set j (some x)) vs = wipe σ vs) (hw2 : ∀ x y, wipe ((wipe ((wipe σ vs).set j (some x)) ws).set l (some y)) ws = wipe ((wipe σ vs).set j (some x)) ws)
    (hy : ∀ x y H1, Ex H H1 → Ev tx ((wipe ((wipe σ vs).set j (some x)) ws).set l (some y)) H1 y) (hz : ∀ x y H1, Ex H H1 → Ev ty ((wipe ((wipe σ vs).set j (some x)) ws).set l (some y)) H1 x) :
    EvL (tLc (iRng1 tr) (gName j) tYes (tM1 (rJoin K) (tC (.str (Str.ofString ""))) (tLc (iList K ta) (gName l) tYes (tOp rIxS tx ty) ws)) vs) σ H (tabV n fun i k => g k i) := by
  refine ev_list (el_lcR1 (n := (n : Int)) (fun _ => true) (fun i => V.str (rowS n fun k => g k i)) hl ⟨by omega, by omega⟩ hw (fun i H1 e hi => et_yes) (fun i H1 e hi _ => ?_)) ?_
  · refine ev_joinRow (K := K) (g := fun k => g k i) (ev_list (el_lcL (K := K) (xs := (List.range n).map fun k => V.str (rowS n (g k))) (fun _ => true) (fun k => V.str (sgS (g k i))) (ha _ H1 e) (ex_l e hx) (by rw [List.length_map, List.length_range]; omega) (hw2 _) (fun k x H2 e2 hk => et_yes) (fun k x H2 e2 hk _ => ?_)) ?_) (by omega)
    · have hk' : k < n := by
        have q := (List.getElem?_eq_some_iff.mp hk).1
        rwa [List.length_map, List.length_range] at q
      rw [List.getElem?_map, List.getElem?_range hk'] at hk
      cases hk
      exact ev_itS (hy _ _ H2 (e.trans e2)) (hz _ _ H2 (e.trans e2)) (by omega) (by omega)
    · rw [given_all, List.length_map, List.length_range]
  · rw [given_all, Int.toNat_natCast]
    rfl
theorem num_set {n m : Nat} {u : Nat → Int} (z : Int) (hm : m < n) : (numV n u).set m (.int z) = numV n (fun i => if i = m then z else u i) := by
  apply List.ext_getElem?
  intro k
  by_cases hk : k < n
  · by_cases h : m = k
    · subst h
      rw [List.getElem?_set_self (by rw [numV_len]; exact hm), numV_get hm, if_pos rfl]
    · rw [List.getElem?_set_ne h, numV_get hk, numV_get hk, if_neg (Ne.symm h)]
  · rw [List.getElem?_eq_none (by rw [List.length_set, numV_len]; omega), List.getElem?_eq_none (by rw [numV_len]; omega)]
/-- the sum of all squares -/
theorem ev_sqs {K : PySem.W.Frag} {σ : L2.St} {H : Hp} {tl ta tb : TE} {p : Addr} {n j : Nat} {u : Nat → Int} {vs : List Nat} (h : Ev tl σ H (.ref p)) (hp : NumAt K H p n u) (hn : n ≤ 1000) (hB : ∀ k, k < n → CMulB (u k) (u k)) (hw : ∀ x, wipe ((wipe σ vs).set j (some x)) vs = wipe σ vs)
    (ha : ∀ x H1, Ex H H1 → Ev ta ((wipe σ vs).set j (some x)) H1 x) (hb : ∀ x H1, Ex H H1 → Ev tb ((wipe σ vs).set j (some x)) H1 x) :
    Ev (tCB (rSum K) (tCons (tLc (iList K tl) (gName j) tYes (tOp (rI CMulB fun i j => .int (i * j)) ta tb) vs) tNil)) σ H (.int (S n fun k => u k * u k)) := by
  refine ev_is (ev_sumN (K := K) (ns := (List.range n).map fun k => u k * u k) (ev_list (el_lcL (K := K) (xs := numV n u) (fun _ => true) (fun k => .int (u k * u k)) h hp (by rw [numV_len]; omega) hw (fun i x H1 e hx => et_yes) (fun i x H1 e hx _ => ?_)) (by rw [given_all, numV_len, List.map_map]; rfl))) (by rw [sum_S])
  obtain ⟨hi, rfl⟩ := numV_some hx
  exact ev_op (ha _ H1 e) (hb _ H1 e) (rv_I (hB i hi))
theorem mulB_of {x y : Int} {B : Nat} (hx : x.natAbs ≤ B) (hy : y.natAbs ≤ B) (hB : B < 2 ^ 1000) : CMulB x y := by
  have l : ∀ z : Int, z.natAbs ≤ B → z.natAbs.log2 ≤ 1000 := fun z hz => by
    by_cases h0 : z.natAbs = 0
    · rw [h0]
      decide
    · have h1 : 2 ^ z.natAbs.log2 ≤ z.natAbs := Nat.log2_self_le h0
      have h2 : 2 ^ z.natAbs.log2 < 2 ^ 1000 := by omega
      exact Nat.le_of_lt ((Nat.pow_lt_pow_iff_right (by decide)).mp h2)
  have a := l x hx
  have b := l y hy
  show x.natAbs.log2 + y.natAbs.log2 < 134217000
  omega
theorem pos_rest {n : Nat} (hn : 1 ≤ n) (z : Int) : decide (z % (n : Int) > 0) = !decide (z % (n : Int) = 0) := by
  have h := Int.emod_nonneg z (show (n : Int) ≠ 0 by omega)
  rw [Bool.eq_iff_iff]
  simp only [decide_eq_true_eq, Bool.not_eq_true', decide_eq_false_iff_not]
  omega
theorem el_callLL {σ : L2.St} {H : Hp} {ta tb : TE} {sp : Sp} {xs ys zs : List V} {E : XK} (h : EvL ta σ H xs) (hb : EvL tb σ H ys) (hs : ∀ p q H1, Ex H H1 → H1 p = some (.lst xs) → H1 q = some (.lst ys) → ∀ Q, RetL zs H1 Q → ∀ E', sp [.ref p, .ref q] H1 Q E') : EvL (tCall sp [] E (tCons ta (tCons tb tNil))) σ H zs := fun H1 e Q q =>
  h H1 e _ fun p H2 hp e2 h2 => hb H2 (e.trans e2) _ fun p' H3 hp' e3 h3 => hs p p' H3 ((e.trans e2).trans e3) (e3 p _ h2) h3 Q (fun p2 H4 hp2 e4 h4 => q p2 H4 (fresh_back (e2.trans e3) hp2) ((e2.trans e3).trans e4) h4) E
end HA

end
section
set_option maxRecDepth 100000
set_option maxHeartbeats 4000000
namespace HA
open PySem PySem.Spec PyProof.Rows L2 Evl
/-! ### tables by parts: what the program reckons -/
/-- the trial of divisors from b on -/
def prF : Nat → Int → Int → Bool
  | 0, _, _ => false
  | k + 1, b, n => if b * b ≤ n then (if n % b = 0 then false else prF k (b + 1) n) else decide (n > 1)
def isPr (n : Int) : Bool := prF 100 2 n
/-- a power by squaring: found, base, left -/
def pwF : Nat → Int → Int → Nat → Int → Int
  | 0, f, _, _, _ => f
  | k + 1, f, b, l, p => if l = 0 then f else pwF k (if l % 2 = 1 then f * b % p else f) (b * b % p) (l / 2) p
def isSqr (n p : Int) : Bool := decide (pwF 14 1 (n % p) ((p - 1) / 2).toNat p = 1)
def isPart (z : Int) : Bool := (decide (2 ≤ z) && decide (z ≤ 10000)) && (decide (z = 2) || (decide (z % 4 = 0) && isPr (z - 1)))
def isM (p r c : Int) : Bool := if p = 2 then (decide (r = 1) && decide (c = 1)) else (if (decide (r = 0) || decide (r = c)) = true then false else (decide (c = 0) || !isSqr (c - r) (p - 1)))
def prodI : List Int → Int
  | [] => 1
  | p :: ps => p * prodI ps
/-- whether a minus stands there, the first part the highest -/
def mA : List Int → Int → Int → Bool
  | [], _, _ => false
  | p :: ps, r, c => isM p (r / prodI ps % p) (c / prodI ps % p) != mA ps r c
def tabM (ps : List Int) : Nat → Nat → Bool := fun i j => !mA ps (i : Int) (j : Int)
def GP (ps : List Int) : Prop := ps.length ≤ 600 ∧ ∀ p ∈ ps, 2 ≤ p ∧ p ≤ 10000
theorem isPart_gp {z : Int} (h : isPart z = true) : 2 ≤ z ∧ z ≤ 10000 := by
  unfold isPart at h
  rw [Bool.and_eq_true, Bool.and_eq_true, decide_eq_true_eq, decide_eq_true_eq] at h
  exact h.1
theorem gp_of {ps : List Int} (hl : ps.length ≤ 600) (h : ps.all isPart = true) : GP ps := ⟨hl, fun p hp => isPart_gp (List.all_eq_true.mp h p hp)⟩
theorem prod_pos : ∀ {ps : List Int}, (∀ p ∈ ps, 2 ≤ p ∧ p ≤ 10000) → 0 < prodI ps
  | [], _ => by decide
  | p :: ps, h => by
    have h1 := h p (List.mem_cons_self ..)
    have h2 := prod_pos (ps := ps) fun q hq => h q (List.mem_cons_of_mem _ hq)
    exact Int.mul_pos (by omega) h2
theorem prod_lt : ∀ {ps : List Int}, (∀ p ∈ ps, 2 ≤ p ∧ p ≤ 10000) → (prodI ps).natAbs < 2 ^ (14 * ps.length + 1)
  | [], _ => by decide
  | p :: ps, h => by
    have h1 := h p (List.mem_cons_self ..)
    have h2 := prod_lt (ps := ps) fun q hq => h q (List.mem_cons_of_mem _ hq)
    have h3 : p.natAbs < 2 ^ 14 := by
      have : (2 : Nat) ^ 14 = 16384 := by decide
      omega
    have h4 := wide_lt h3 h2
    rw [show 14 + (14 * ps.length + 1) = 14 * (p :: ps).length + 1 by rw [List.length_cons]; omega] at h4
    exact h4
theorem prod_log {ps : List Int} (h : ∀ p ∈ ps, 2 ≤ p ∧ p ≤ 10000) (hl : ps.length ≤ 600) : (prodI ps).natAbs.log2 < 9000 := by
  have := PySem.Flt.log2_lt_of (by omega) (prod_lt h)
  omega
theorem gp_drop {ps : List Int} (h : GP ps) (k : Nat) : ∀ p ∈ ps.drop k, 2 ≤ p ∧ p ≤ 10000 := fun p hp => h.2 p (List.mem_of_mem_drop hp)
theorem drop_at {ps : List Int} {i : Nat} (h : i < ps.length) : ps.drop i = ps[i] :: ps.drop (i + 1) := List.drop_eq_getElem_cons h
theorem prod_snoc : ∀ (ps : List Int) (p : Int), prodI (ps ++ [p]) = prodI ps * p
  | [], p => by
    show p * 1 = 1 * p
    rw [Int.mul_one, Int.one_mul]
  | q :: ps, p => by
    show q * prodI (ps ++ [p]) = q * prodI ps * p
    rw [prod_snoc ps p, Int.mul_assoc]
theorem prod_take {ps : List Int} {i : Nat} (h : i < ps.length) : prodI (ps.take (i + 1)) = prodI (ps.take i) * ps[i] := by
  rw [List.take_succ_eq_append_getElem h, prod_snoc]
theorem intG (ps : List Int) {i : Nat} {x : V} (h : (ps.map V.int)[i]? = some x) : ∃ hi : i < ps.length, x = .int ps[i] := by
  have hi : i < ps.length := by
    have q := (List.getElem?_eq_some_iff.mp h).1
    rwa [List.length_map] at q
  rw [getI hi] at h
  exact ⟨hi, (Option.some.inj h).symm⟩
theorem range_map (ps : List Int) (F : Int → V) : (List.range ps.length).map (fun i => F ps[i]!) = ps.map F := by
  apply List.ext_getElem?
  intro k
  by_cases hk : k < ps.length
  · rw [List.getElem?_map, List.getElem?_range hk, List.getElem?_map, List.getElem?_eq_getElem hk]
    show some (F ps[k]!) = some (F ps[k])
    rw [getElem!_pos ps k hk]
  · rw [List.getElem?_eq_none (by rw [List.length_map, List.length_range]; omega), List.getElem?_eq_none (by rw [List.length_map]; omega)]
theorem cut_last (xs : List V) (y : V) : cutV (xs ++ [y]) none (some (-1)) = xs := by
  unfold cutV
  have e : HT.sIx (xs ++ [y]).length (xs ++ [y]).length (some (-1 : Int)) = xs.length := by
    show (if (-1 : Int) < 0 then ((-1 : Int) + ((xs ++ [y]).length : Int)).toNat else min (-1 : Int).toNat (xs ++ [y]).length) = xs.length
    rw [if_pos (by decide), List.length_append]
    show ((-1 : Int) + ((xs.length + 1 : Nat) : Int)).toNat = xs.length
    omega
  rw [HT.sIx_none, List.drop_zero, Nat.sub_zero, e, List.take_left]
theorem range_self (ps : List Int) : (List.range ps.length).map (fun i => ps[i]!) = ps := by
  apply List.ext_getElem?
  intro k
  by_cases hk : k < ps.length
  · rw [List.getElem?_map, List.getElem?_range hk, List.getElem?_eq_getElem hk]
    show some ps[k]! = some ps[k]
    rw [getElem!_pos ps k hk]
  · rw [List.getElem?_eq_none (by rw [List.length_map, List.length_range]; omega), List.getElem?_eq_none (by omega)]
theorem given_filter (ps : List Int) (p : Int → Bool) : given ps.length (fun i => p ps[i]!) (fun i => .int ps[i]!) = (ps.filter p).map V.int := by
  unfold given
  have e : ps.filter p = ((List.range ps.length).filter (fun i => p ps[i]!)).map (fun i => ps[i]!) := by
    conv => lhs; rw [← range_self ps, List.filter_map]
    rfl
  rw [e, List.map_map]
  rfl
def menuL : List Int := [2, 4, 8, 12, 20, 24, 32, 44, 2, 4, 48, 60, 68, 72, 80, 84, 2, 1020, 9860, 104]
theorem menu_part : menuL.all isPart = true := by decide +kernel
theorem menu_few : ∀ x ∈ menuL, x < 9 → x = 2 ∨ x = 4 ∨ x = 8 := by decide
def someL : List (List Int) := [[44], [4, 24], [84], [2, 2, 2, 12], [48, 2], [80], [2, 32], [20, 4]]
theorem some_ok : ∀ ps ∈ someL, ps.all isPart = true ∧ 1 ≤ prodI ps ∧ prodI ps ≤ 100 ∧ ps.length ≤ 600 := by decide +kernel
/-! ### the sign of a table of parts: half alike -/
theorem half_2 : halfB 2 (tabM [2]) = true := by decide +kernel
theorem half_4 : halfB 4 (tabM [4]) = true := by decide +kernel
theorem half_8 : halfB 8 (tabM [8]) = true := by decide +kernel
theorem half_12 : halfB 12 (tabM [12]) = true := by decide +kernel
theorem half_20 : halfB 20 (tabM [20]) = true := by decide +kernel
theorem half_1 : halfB 1 (tabM []) = true := by decide +kernel
theorem tabM_two {p q : Nat} (hp : 1 ≤ p) (hq : 1 ≤ q) : ∀ i, i < p * q → ∀ j, j < p * q → kron q (tabM [(p : Int)]) (tabM [(q : Int)]) i j = tabM [(p : Int), (q : Int)] i j := fun i hi j hj => by
  have m1 : ∀ i : Nat, ((i / q : Nat) : Int) = (i : Int) / (q : Int) := fun i => Int.natCast_ediv i q
  have m2 : ∀ i : Nat, ((i % q : Nat) : Int) = (i : Int) % (q : Int) := fun i => Int.natCast_emod i q
  have e1 : ∀ z : Int, z / (1 : Int) = z := Int.ediv_one
  unfold kron tabM
  show ((!(isM p (((i / q : Nat) : Int) / 1 % p) (((j / q : Nat) : Int) / 1 % p) != false)) == (!(isM q (((i % q : Nat) : Int) / 1 % q) (((j % q : Nat) : Int) / 1 % q) != false))) = !(isM p ((i : Int) / ((q : Int) * 1) % p) ((j : Int) / ((q : Int) * 1) % p) != (isM q ((i : Int) / 1 % q) ((j : Int) / 1 % q) != false))
  rw [Int.mul_one, e1, e1, e1, e1, e1, e1, m1, m1, m2, m2, Int.emod_emod_of_dvd _ (Int.dvd_refl _), Int.emod_emod_of_dvd _ (Int.dvd_refl _)]
  cases isM p ((i : Int) / (q : Int) % p) ((j : Int) / (q : Int) % p) <;> cases isM q ((i : Int) % (q : Int)) ((j : Int) % (q : Int)) <;> rfl
theorem half_two {p q : Nat} (hp : 1 ≤ p) (hq : 1 ≤ q) (h1 : halfB p (tabM [(p : Int)]) = true) (h2 : halfB q (tabM [(q : Int)]) = true) : halfB (p * q) (tabM [(p : Int), (q : Int)]) = true := by
  rw [← halfB_congr (tabM_two hp hq)]
  exact half_kron h1 h2
/-- few parts: good, of at most 64 rows, half alike -/
def Few (ps : List Int) : Prop := ps.all isPart = true ∧ ∃ n : Nat, prodI ps = (n : Int) ∧ 1 ≤ n ∧ n ≤ 64 ∧ halfB n (tabM ps) = true ∧ ps.length ≤ 2
theorem few_one {x : Int} (h : x = 2 ∨ x = 4 ∨ x = 8) : ∃ p : Nat, x = (p : Int) ∧ 1 ≤ p ∧ p ≤ 8 ∧ halfB p (tabM [(p : Int)]) = true ∧ isPart x = true := by
  rcases h with rfl | rfl | rfl
  · exact ⟨2, rfl, by decide, by decide, half_2, by decide +kernel⟩
  · exact ⟨4, rfl, by decide, by decide, half_4, by decide +kernel⟩
  · exact ⟨8, rfl, by decide, by decide, half_8, by decide +kernel⟩
theorem few_ok {ps : List Int} (hl : ps.length ≤ 2) (h : ∀ x ∈ ps, x = 2 ∨ x = 4 ∨ x = 8) : Few ps := by
  match ps, hl, h with
  | [], _, _ => exact ⟨rfl, 1, rfl, by decide, by decide, half_1, by decide⟩
  | [x], _, h =>
    obtain ⟨p, rfl, h1, h2, h3, h4⟩ := few_one (h x (List.mem_cons_self ..))
    refine ⟨by rw [List.all_cons, h4]; rfl, p, ?_, h1, by omega, h3, by show 1 ≤ 2; decide⟩
    show (p : Int) * 1 = p
    rw [Int.mul_one]
  | [x, y], _, h =>
    obtain ⟨p, rfl, h1, h2, h3, h4⟩ := few_one (h x (List.mem_cons_self ..))
    obtain ⟨q, rfl, k1, k2, k3, k4⟩ := few_one (h y (List.mem_cons_of_mem _ (List.mem_cons_self ..)))
    refine ⟨by rw [List.all_cons, List.all_cons, h4, k4]; rfl, p * q, ?_, Nat.mul_pos h1 k1, Nat.mul_le_mul h2 k2, half_two h1 k1 h3 k3, Nat.le_refl 2⟩
    show (p : Int) * ((q : Int) * 1) = ((p * q : Nat) : Int)
    rw [Int.mul_one, Int.natCast_mul]
  | _ :: _ :: _ :: _, hl, _ => exact absurd hl (by simp)
theorem few_12 : Few [12] := ⟨by decide +kernel, 12, by decide, by decide, by decide, half_12, by decide⟩
/-! ### promises -/
def sp_is_prime : Sp := fun vs H Q _ => ∃ n : Int, vs = [.int n] ∧ n ≤ 9999 ∧ RetV (.bl (isPr n)) H Q
def sp_is_part : Sp := fun vs H Q _ => ∃ z : Int, vs = [.int z] ∧ RetV (.bl (isPart z)) H Q
def PartsAt (H : Hp) (a : Addr) (ps : List Int) : Prop := H a = some (.lst (ps.map V.int)) ∧ ps.length ≤ 600
theorem PartsAt.ex {H H' : Hp} {a : Addr} {ps : List Int} (e : Ex H H') (h : PartsAt H a ps) : PartsAt H' a ps := ⟨e a _ h.1, h.2⟩
def sp_asked_parts (C : Addr) : Sp := fun vs H Q E => ∃ (a : Addr) (ps : List Int), vs = [.ref a] ∧ PartsAt H a ps ∧ (ps.all isPart = true → RetV .non H Q) ∧ (ps.all isPart = false → ∀ H', Ex H H' → E (.ref C) none H')
def sp_multiplied : Sp := fun vs H Q _ => ∃ (a : Addr) (ps : List Int), vs = [.ref a] ∧ PartsAt H a ps ∧ GP ps ∧ RetV (.int (prodI ps)) H Q
def sp_order (C : Addr) : Sp := fun vs H Q E => ∃ (a : Addr) (ps : List Int), vs = [.ref a] ∧ PartsAt H a ps ∧ (ps.all isPart = true → RetV (.int (prodI ps)) H Q) ∧ (ps.all isPart = false → ∀ H', Ex H H' → E (.ref C) none H')
def sp_is_square : Sp := fun vs H Q _ => ∃ (n p : Int), vs = [.int n, .int p] ∧ 1 ≤ p ∧ p ≤ 10000 ∧ RetV (.bl (isSqr n p)) H Q
def sp_is_minus : Sp := fun vs H Q _ => ∃ (p r c : Int), vs = [.int p, .int r, .int c] ∧ 2 ≤ p ∧ p ≤ 10000 ∧ RetV (.bl (isM p r c)) H Q
def sp_minus_at : Sp := fun vs H Q _ => ∃ (a : Addr) (ps : List Int) (r c : Int), vs = [.ref a, .int r, .int c] ∧ PartsAt H a ps ∧ GP ps ∧ RetV (.bl (mA ps r c)) H Q
def sp_sign_at : Sp := fun vs H Q _ => ∃ (a : Addr) (ps : List Int) (r c : Int), vs = [.ref a, .int r, .int c] ∧ PartsAt H a ps ∧ ps.all isPart = true ∧ 0 ≤ r ∧ r < prodI ps ∧ 0 ≤ c ∧ c < prodI ps ∧ RetV (.str (sgS (!mA ps r c))) H Q
def sp_made (C : Addr) : Sp := fun vs H Q E => ∃ (a : Addr) (ps : List Int), vs = [.ref a] ∧ PartsAt H a ps ∧ ps.all isPart = true ∧ (∀ n : Nat, prodI ps = (n : Int) → n ≤ 100 → RetL (tabV n (tabM ps)) H Q) ∧ (prodI ps > 100 → ∀ H', Ex H H' → E (.ref C) none H')
def sp_L_power : Sp := fun vs H Q _ => ∃ (b l p : Int), vs = [.int b, .int l, .int p] ∧ 0 ≤ l ∧ l ≤ 9999 ∧ 1 ≤ p ∧ p ≤ 10000 ∧ 0 ≤ b ∧ b ≤ 10000 ∧ RetV (.int (pwF 14 1 b l.toNat p)) H Q
def sp_L_sign : Sp := fun vs H Q _ => ∃ (p r c : Int), vs = [.int p, .int r, .int c] ∧ 2 ≤ p ∧ p ≤ 10000 ∧ RetV (.int (sg (!isM p r c))) H Q
def sp_L_at : Sp := fun vs H Q _ => ∃ (a : Addr) (ps : List Int) (r c : Int), vs = [.ref a, .int r, .int c] ∧ PartsAt H a ps ∧ GP ps ∧ RetV (.str (sgS (!mA ps r c))) H Q
def sp_L_too_great : Sp := fun vs H Q _ => ∃ (a : Addr) (ps : List Int), vs = [.ref a] ∧ PartsAt H a ps ∧ ps.all isPart = true ∧ prodI ps > 100 ∧ RetV (.bl true) H Q
def sp_L_part_right : Sp := fun vs H Q _ => ∃ (k : Nat) (c : Int), vs = [.int (4 + 4 * (k : Int)), .int c] ∧ k < 2500 ∧ RetV (.bl true) H Q
def sp_L_wide2 : Sp := fun vs H Q _ => ∃ (a : Addr) (ps : List Int) (n : Nat) (w : Int), vs = [.ref a, .int w] ∧ PartsAt H a ps ∧ ps.all isPart = true ∧ prodI ps = (n : Int) ∧ 1 ≤ n ∧ n ≤ 100 ∧ RetV (.bl true) H Q
/-! ### what a raising def's callee lets out, is the def's own -/
theorem passEN {X : Cx} {E : XK} (hs : X.stack = X.env :: X.outer) (hf : X.env.frame = some X.env.locals) (hex : X.ex = []) {E₁ : Value → Shared → Prop}
    (hx : X.xe = fun e s' => wpAny (model X.prog X.w) X.A (leaving X.env e) (fun _ s'' => L2N.CX X.prog X.w X.outer X.H_0 X.s_0 E e s'') E₁ s') : Passes (L2N.CX X.prog X.w) X E :=
  L2N.passes_call (W := fun cls d _ H => E cls d H) (L2N.takes_of hs hf hex hx) fun _ _ _ _ h => h
section
variable {K : PySem.W.Frag} {σ : L2.St} {H H' : Hp} {ta tb tc td te tx : TE} {t u : TT} {x y z v : V} {r r' r'' : R2} {D : Ends} {tz : TS}
theorem ev_callLA {sp : Sp} {xs vs : List V} {E : XK} {ts : TA} (h : EvL ta σ H xs) (hs : EvA ts σ H vs) (k : ∀ p H1, Ex H H1 → H1 p = some (.lst xs) → SpV sp ((.ref p :: vs) ++ []) H1 z) : Ev (tCall sp [] E (tCons ta ts)) σ H z := fun H1 e Q q =>
  h H1 e _ fun p H2 _ e2 h2 => hs H2 (e.trans e2) _ fun H3 e3 => k p H3 ((e.trans e2).trans e3) (e3 p _ h2) H3 (Ex.refl H3) Q (fun H4 e4 => q H4 ((e2.trans e3).trans e4)) E
theorem el_slN {tl th : TO} {xs : List V} {lo hi : Option Int} (h : EvL te σ H xs) (h1 : EvO tl σ H lo) (h2 : EvO th σ H hi) : EvL (tSl (rSlL K) te tl th) σ H (cutV xs lo hi) := fun H1 e _ q =>
  h H1 e _ fun a H2 ha e2 hx => h1 H2 (e.trans e2) _ fun H3 e3 => h2 H3 ((e.trans e2).trans e3) _ fun H4 e4 =>
    ⟨a, xs, rfl, sq_of ((e3.trans e4) a _ hx), fun p hp => q p _ (fresh_back ((e2.trans e3).trans e4) hp) (((e2.trans e3).trans e4).trans (Ex.new hp)) upd_same⟩
/-- [.. for i, x in enumerate(new list)] -/
theorem el_lcEN {xs : List V} {n : Nat} {d : Nat → V} {j l : Nat} {vs : List Nat} (f : Nat → Bool) (v : Nat → V) (h : EvL ta σ H xs) (hsz : xs.length = n) (hd : ∀ i, i < n → xs[i]? = some (d i)) (hn : n ≤ 40000)
    (hw : ∀ x y, wipe (((wipe σ vs).set j (some x)).set l (some y)) vs = wipe σ vs) (ht : ∀ i H1, Ex H H1 → i < n → EvT t (((wipe σ vs).set j (some (.int (i : Nat)))).set l (some (d i))) H1 (f i))
    (he : ∀ i H1, Ex H H1 → i < n → f i = true → Ev te (((wipe σ vs).set j (some (.int (i : Nat)))).set l (some (d i))) H1 (v i)) :
    EvL (tLc (iEnum K (tCons ta tNil)) (gTup K 2 (gCons (gName j) (gCons (gName l) gNil))) t te vs) σ H (given n f v) := fun H0 e Q q => h H0 e _ fun a H1 ha e1 hx => ⟨a, xs, rfl, sq_of hx, by
  subst hsz
  exact lcW (walk_enum (K := K) (a := a) (xs := xs)) hn (fun H' e' => sq_of (e' a _ hx)) f v (fun i => ((wipe σ vs).set j (some (.int (i : Nat)))).set l (some (d i))) (fun i x H H' hi ex y =>
    hg_pair (fun i => .int (i : Nat)) d (n := xs.length) (fun i _ => rfl) hd i x H H' hi ex y)
    (fun i _ => hw _ _) (fun i hi => ht i H1 (e.trans e1) hi) (fun i hi => he i H1 (e.trans e1) hi) fun p H2 hp e2 h2 => q p H2 (fresh_back e1 hp) (e1.trans e2) h2⟩
/-- for i, x in enumerate(new list) -/
theorem q_forEN {xs : List V} {j l : Nat} {tu : TS} (h : EvL ta σ H xs) (Pv : Nat → L2.St → Hp → Prop) (h0 : ∀ H1, Ex H H1 → Pv 0 σ H1)
    (hs : ∀ H1, Ex H H1 → ∀ i x σ' H', xs[i]? = some x → Pv i σ' H' → Ex H1 H' → ∀ H2, Ex H' H2 → tu { D with nx := fun s h => Pv (i + 1) s h ∧ Ex H1 h, ct := fun s h => Pv (i + 1) s h ∧ Ex H1 h, bk := tz D } ((σ'.set j (some (.int (i : Nat)))).set l (some x)) H2)
    (hd : ∀ σ' H', Pv xs.length σ' H' → tz D σ' H') : tSeq (tFor (iEnum K (tCons ta tNil)) (gTup K 2 (gCons (gName j) (gCons (gName l) gNil))) tu) tz D σ H := by
  refine h H (Ex.refl H) _ fun a H1 ha e hx => ⟨a, xs, rfl, sq_of hx, ?_⟩
  refine for_it (walk_enum (K := K) (a := a) (xs := xs)) (fun i σ' H' => Pv i σ' H' ∧ Ex H1 H') ⟨h0 H1 e, Ex.refl H1⟩ (fun i σ' H' _ q => sq_of (q.2 a _ hx)) (fun i x σ' H' H2 hi q y => ?_) (fun σ' H' q => hd σ' H' q.1)
  obtain ⟨Tp, y1, y2, rfl, hTp, rfl, hy1, hy2⟩ := y
  cases hy1
  exact ⟨Tp, _, rfl, st_of upd_same, rfl, _, _, rfl, _, _, rfl, rfl, hs H1 e i y2 σ' H' hy2 q.1 q.2 _ (Ex.new hTp)⟩
theorem q_dropC {sp : Sp} {dvs vs : List V} {E : XK} {ts : TA} (h : EvA ts σ H vs) (k : ∀ H1, Ex H H1 → sp (vs ++ dvs) H1 (fun _ H2 => tz D σ H2) E) : tSeq (tDrop (tCall sp dvs E ts)) tz D σ H := h H (Ex.refl H) _ fun H1 e => k H1 e
theorem q_forU {xs : List V} {tl : TE} {j : Nat} {tu : TS} (h : EvU tl σ H xs) (Pv : Nat → L2.St → Hp → Prop) (h0 : ∀ H1, Ex H H1 → Pv 0 σ H1)
    (hs : ∀ H1, Ex H H1 → ∀ i x σ' H', xs[i]? = some x → Pv i σ' H' → Ex H1 H' → tu { D with nx := fun s h => Pv (i + 1) s h ∧ Ex H1 h, ct := fun s h => Pv (i + 1) s h ∧ Ex H1 h, bk := tz D } (σ'.set j (some x)) H') (hd : ∀ σ' H', Pv xs.length σ' H' → tz D σ' H') : tSeq (tFor (iTup K tl) (gName j) tu) tz D σ H :=
  s_forU (K := K) (D := { D with nx := tz D }) h Pv h0 hs hd
/-- for i, x in enumerate(list that stands) -/
theorem q_forEL {a : Addr} {xs : List V} {j l : Nat} {tu : TS} (h : Ev ta σ H (.ref a)) (hx : H a = some (.lst xs)) (Pv : Nat → L2.St → Hp → Prop) (h0 : ∀ H1, Ex H H1 → Pv 0 σ H1) (hk : ∀ i σ' H', Pv i σ' H' → Ex H H')
    (hs : ∀ i x σ' H', xs[i]? = some x → Pv i σ' H' → ∀ H2, Ex H' H2 → tu { D with nx := Pv (i + 1), ct := Pv (i + 1), bk := tz D } ((σ'.set j (some (.int (i : Nat)))).set l (some x)) H2)
    (hd : ∀ σ' H', Pv xs.length σ' H' → tz D σ' H') : tSeq (tFor (iEnum K (tCons ta tNil)) (gTup K 2 (gCons (gName j) (gCons (gName l) gNil))) tu) tz D σ H := by
  refine h H (Ex.refl H) _ fun H1 e => ⟨a, xs, rfl, sq_of (e a _ hx), ?_⟩
  refine for_it (walk_enum (K := K) (a := a) (xs := xs)) Pv (h0 H1 e) (fun i σ' H' _ q => sq_of (hk i σ' H' q a _ hx)) (fun i x σ' H' H2 hi q y => ?_) hd
  obtain ⟨Tp, y1, y2, rfl, hTp, rfl, hy1, hy2⟩ := y
  cases hy1
  exact ⟨Tp, _, rfl, st_of upd_same, rfl, _, _, rfl, _, _, rfl, rfl, hs i y2 σ' H' hy2 q _ (Ex.new hTp)⟩
/-- new lists, one behind the other -/
def Lsts (H : Hp) (vs : List V) (qs : List (List V)) : Prop := vs.length = qs.length ∧ ∀ (i : Nat) (x : V), vs[i]? = some x → ∃ xs, xs ∈ qs ∧ IsL xs x H
theorem kept_lsts (qs : List (List V)) : Kept (fun vs H => Lsts H vs qs) := fun vs H H' e h => ⟨h.1, fun i x hx => by
  obtain ⟨xs, hm, p, h1, h2⟩ := h.2 i x hx
  exact ⟨xs, hm, p, h1, e p _ h2⟩⟩
theorem els_nil : EvAR tNil σ H (fun vs H => Lsts H vs []) := fun H1 _ Q q => q [] H1 (Ex.refl H1) ⟨rfl, fun i x hx => nomatch hx⟩
theorem els_cons {ts : TA} {xs : List V} {qs : List (List V)} (h : EvL ta σ H xs) (hs : EvAR ts σ H (fun vs H => Lsts H vs qs)) : EvAR (tCons ta ts) σ H (fun vs H => Lsts H vs (xs :: qs)) := fun H1 e Q q =>
  h H1 e _ fun p H2 _ e2 h2 => hs H2 (e.trans e2) _ fun vs H3 e3 h3 => q (.ref p :: vs) H3 (e2.trans e3) ⟨by rw [List.length_cons, List.length_cons, h3.1], fun i x hx => by
    cases i with
    | zero =>
      have hx' : some (V.ref p) = some x := hx
      cases hx'
      exact ⟨xs, List.mem_cons_self .., p, rfl, e3 p _ h2⟩
    | succ i =>
      have hx' : vs[i]? = some x := hx
      obtain ⟨ys, hm, k⟩ := h3.2 i x hx'
      exact ⟨ys, List.mem_cons_of_mem _ hm, k⟩⟩
/-- one of some new lists in a new tuple -/
theorem er_pickU {ts : TA} {qs : List (List V)} {m : Nat} (h : EvAR ts σ H (fun vs H => Lsts H vs qs)) (hl : qs.length ≤ 1000) (hm : m < qs.length) (hi : Ev te σ H (.int (m : Int))) : EvR (tOp (rIxT K) (tTup ts) te) σ H (fun v H => ∃ xs, xs ∈ qs ∧ IsL xs v H) := fun H1 e Q q =>
  h H1 e _ fun vs H2 e2 hv => ⟨sz_of (by rw [hv.1]; omega), fun p hp => hi _ ((e.trans e2).trans (Ex.new hp)) _ fun H3 e3 => by
    have E3 := (Ex.new hp (o := .tup vs)).trans e3
    have hm' : m < vs.length := by rw [hv.1]; exact hm
    obtain ⟨xs, hx, k⟩ := (kept_lsts qs vs H2 H3 E3 hv).2 m vs[m] (List.getElem?_eq_getElem hm')
    exact ⟨p, vs, (m : Int), vs[m], rfl, rfl, st_of (e3 p _ upd_same), atI_nat (List.getElem?_eq_getElem hm'), q _ H3 (e2.trans E3) ⟨xs, hx, k⟩⟩⟩
end
end HA

end
section
set_option maxRecDepth 100000
set_option maxHeartbeats 4000000
namespace HA
open PySem PySem.Spec PyProof.Rows L2 Evl
section
variable {K : PySem.W.Frag} {σ : L2.St} {H H' : Hp} {ta tb tc td te tx : TE} {t u : TT} {x y z v : V} {r r' r'' : R2} {D : Ends} {tz : TS}
/-! ### list * int, two lists at once -/
theorem el_rep {xs : List V} {k : Nat} (ha : EvL ta σ H xs) (hb : Ev tb σ H (.int (k : Int))) (hk : k ≤ 100000) (hz : xs.length * k ≤ 100000) : EvL (tOp rRep ta tb) σ H (List.replicate k xs).flatten := fun H1 e Q q =>
  ha H1 e _ fun p H2 hp e2 h2 => hb H2 (e.trans e2) _ fun H3 e3 => ⟨p, (k : Int), xs, rfl, rfl, e3 p _ h2, by omega, by omega, by rw [Int.toNat_natCast]; exact sz_of hz, fun l hl => by
    rw [Int.toNat_natCast]
    exact q l _ (fresh_back (e2.trans e3) hl) ((e2.trans e3).trans (Ex.new hl)) upd_same⟩
theorem q_parLL {i j : Nat} {xs ys : List V} (ha : EvL ta σ H xs) (hb : EvL tb σ H ys) (k : ∀ p q H1, H p = none → H q = none → p ≠ q → Ex H H1 → H1 p = some (.lst xs) → H1 q = some (.lst ys) → tz D ((σ.set i (some (.ref p))).set j (some (.ref q))) H1) : tSeq (tPar i j (tCons ta (tCons tb tNil))) tz D σ H :=
  ha H (Ex.refl H) _ fun p H2 hp e2 h2 => hb H2 e2 _ fun q H3 hq e3 h3 => ⟨.ref p, .ref q, rfl, k p q H3 hp (fresh_back e2 hq) (ne_of_none h2 hq) (e2.trans e3) (e3 p _ h2) h3⟩
/-! ### lists all of whose items are of a kind -/
def AllV (R : V → Hp → Prop) (m : Nat) (vs : List V) (H : Hp) : Prop := vs.length ≤ m ∧ ∀ x ∈ vs, R x H
def LstR (R : V → Hp → Prop) (m : Nat) : V → Hp → Prop := fun v H => ∃ p vs, v = .ref p ∧ H p = some (.lst vs) ∧ AllV R m vs H
theorem kept_all {R : V → Hp → Prop} {m : Nat} (k : Kept R) : Kept (AllV R m) := fun vs H H' e h => ⟨h.1, fun x hx => k x H H' e (h.2 x hx)⟩
theorem eal_nil {R : V → Hp → Prop} : EvAR tNil σ H (AllV R 0) := fun H1 _ Q q => q [] H1 (Ex.refl H1) ⟨Nat.le_refl 0, fun x hx => nomatch hx⟩
theorem eal_cons {R : V → Hp → Prop} {m : Nat} {ts : TA} (k : Kept R) (ha : EvR ta σ H R) (hs : EvAR ts σ H (AllV R m)) : EvAR (tCons ta ts) σ H (AllV R (m + 1)) := fun H1 e Q q =>
  ha H1 e _ fun v H2 e2 hv => hs H2 (e.trans e2) _ fun vs H3 e3 h3 => q (v :: vs) H3 (e2.trans e3) ⟨by rw [List.length_cons]; have := h3.1; omega, fun x hx => by
    rcases List.mem_cons.mp hx with rfl | hx
    · exact k _ H2 H3 e3 hv
    · exact h3.2 x hx⟩
theorem er_lstA {R : V → Hp → Prop} {m : Nat} {ts : TA} (k : Kept R) (h : EvAR ts σ H (AllV R m)) (hm : m ≤ 1000) : EvR (tLst ts) σ H (LstR R m) := fun H1 e Q q =>
  h H1 e _ fun vs H2 e2 hv => ⟨sz_of (by have := hv.1; omega), fun p hp => q _ _ (e2.trans (Ex.new hp)) ⟨p, vs, rfl, upd_same, kept_all k vs H2 _ (Ex.new hp) hv⟩⟩
theorem er_catA {R : V → Hp → Prop} {m m' : Nat} {p : Addr} {vs : List V} (k : Kept R) (ha : Ev ta σ H (.ref p)) (hp : H p = some (.lst vs)) (hv : AllV R m vs H) (hb : EvR tb σ H (LstR R m')) (hm : m + m' ≤ 1000) : EvR (tOp rCat ta tb) σ H (LstR R (m + m')) := fun H1 e Q q =>
  ha H1 e _ fun H2 e2 => hb H2 (e.trans e2) _ fun w H3 e3 ⟨p', vs', hw, hp', hv'⟩ => by
    have E3 := (e.trans e2).trans e3
    have h1 := hv.1
    have h2 := hv'.1
    refine ⟨p, p', vs, vs', rfl, hw, E3 p _ hp, hp', sz_of (by omega), fun l hl => q _ _ ((e2.trans e3).trans (Ex.new hl)) ⟨l, vs ++ vs', rfl, upd_same, by rw [List.length_append]; omega, fun x hx => ?_⟩⟩
    rcases List.mem_append.mp hx with hx | hx
    · exact k x _ _ (E3.trans (Ex.new hl)) (hv.2 x hx)
    · exact k x _ _ (Ex.new hl) (hv'.2 x hx)
/-- for .. in a list that stands -/
theorem q_forA {R : V → Hp → Prop} {m : Nat} {p : Addr} {vs : List V} {tl : TE} {g : TG} {tu : TS} (k : Kept R) (h : Ev tl σ H (.ref p)) (hp : H p = some (.lst vs)) (hv : AllV R m vs H) (Pv : L2.St → Hp → Prop) (h0 : ∀ H1, Ex H H1 → Pv σ H1)
    (hs : ∀ x σ' H', R x H' → Pv σ' H' → Ex H H' → g x σ' H' fun σ2 H2 => tu { D with nx := fun s h => Pv s h ∧ Ex H h, ct := fun s h => Pv s h ∧ Ex H h, bk := tz D } σ2 H2) (hd : ∀ σ' H', Pv σ' H' → Ex H H' → tz D σ' H') : tSeq (tFor (iList K tl) g tu) tz D σ H :=
  q_forL (K := K) (xs := vs) h (sq_of hp) (fun _ s h => Pv s h ∧ Ex H h) (fun H1 e => ⟨h0 H1 e, e⟩) (fun i σ' H' _ q => sq_of (q.2 p _ hp)) (fun i x σ' H' hx q => hs x σ' H' (k x _ _ q.2 (hv.2 x (List.mem_of_getElem? hx))) q.1 q.2) (fun σ' H' q => hd σ' H' q.1 q.2)
/-- for .. in a new list -/
theorem q_forLA {R : V → Hp → Prop} {m : Nat} {ts : TA} {g : TG} {tu : TS} (k : Kept R) (h : EvAR ts σ H (AllV R m)) (hm : m ≤ 1000) (Pv : L2.St → Hp → Prop) (h0 : ∀ H1, Ex H H1 → Pv σ H1)
    (hs : ∀ x σ' H', R x H' → Pv σ' H' → Ex H H' → ∀ N : L2.St → Hp → Prop, (∀ s h, Pv s h → Ex H' h → N s h) → g x σ' H' fun σ2 H2 => tu { D with nx := N, ct := N, bk := tz D } σ2 H2) (hd : ∀ σ' H', Pv σ' H' → Ex H H' → tz D σ' H') : tSeq (tFor (iList K (tLst ts)) g tu) tz D σ H := by
  refine h H (Ex.refl H) _ fun vs H1 e hv => ⟨sz_of (by have := hv.1; omega), fun p hp => ⟨p, rfl, ⟨vs, sq_of upd_same⟩, ?_⟩⟩
  have e2 : Ex H (upd H1 p (.lst vs)) := e.trans (Ex.new hp)
  have hv2 := kept_all k vs H1 _ (Ex.new hp (o := .lst vs)) hv
  have hp2 : (upd H1 p (.lst vs)) p = some (.lst vs) := upd_same
  generalize upd H1 p (.lst vs) = H2 at e2 hv2 hp2 ⊢
  exact for_list (K := K) (xs := vs) (fun i σ' H' => Pv σ' H' ∧ Ex H2 H') ⟨h0 H2 e2, Ex.refl H2⟩ (fun i σ' H' _ q => sq_of (q.2 p _ hp2)) (fun i x σ' H' hx q => hs x σ' H' (k x _ _ q.2 (hv2.2 x (List.mem_of_getElem? hx))) q.1 (e2.trans q.2) _ fun s h ps eh => ⟨ps, q.2.trans eh⟩) (fun σ' H' q => hd σ' H' q.1 (e2.trans q.2))
theorem g_four {i1 i2 i3 i4 : Nat} {a : Addr} {x1 x2 x3 x4 : V} {k : L2.St → Hp → Prop} (ha : H a = some (.tup [x1, x2, x3, x4])) (h : k ((((σ.set i1 (some x1)).set i2 (some x2)).set i3 (some x3)).set i4 (some x4)) H) : gTup K 4 (gCons (gName i1) (gCons (gName i2) (gCons (gName i3) (gCons (gName i4) gNil)))) (.ref a) σ H k :=
  ⟨a, _, rfl, st_of ha, rfl, _, _, rfl, _, _, rfl, _, _, rfl, _, _, rfl, rfl, h⟩
theorem g_three {i1 i2 i3 : Nat} {a : Addr} {x1 x2 x3 : V} {k : L2.St → Hp → Prop} (ha : H a = some (.tup [x1, x2, x3])) (h : k (((σ.set i1 (some x1)).set i2 (some x2)).set i3 (some x3)) H) : gTup K 3 (gCons (gName i1) (gCons (gName i2) (gCons (gName i3) gNil))) (.ref a) σ H k :=
  ⟨a, _, rfl, st_of ha, rfl, _, _, rfl, _, _, rfl, _, _, rfl, rfl, h⟩
/-- a comprehension over a new list -/
theorem el_lcAR {ts : TA} {R : List V → Hp → Prop} {n j : Nat} {ws : List Nat} (v : Nat → V) (kR : Kept R) (h : EvAR ts σ H R) (hl : ∀ vs H', R vs H' → vs.length = n) (hn : n ≤ 1000) (hw : ∀ x, wipe ((wipe σ ws).set j (some x)) ws = wipe σ ws)
    (he : ∀ vs H1, Ex H H1 → R vs H1 → ∀ (i : Nat) (x : V), vs[i]? = some x → Ev te ((wipe σ ws).set j (some x)) H1 (v i)) : EvL (tLc (iList K (tLst ts)) (gName j) tYes te ws) σ H ((List.range n).map v) := fun H0 e Q q => by
  refine h H0 e _ fun vs H1 e1 hv => ⟨sz_of (by rw [hl vs H1 hv]; omega), fun a ha => ⟨a, rfl, ⟨vs, sq_of upd_same⟩, ?_⟩⟩
  have e2 : Ex H0 (upd H1 a (.lst vs)) := e1.trans (Ex.new ha)
  have hv2 := kR vs H1 _ (Ex.new ha (o := .lst vs)) hv
  have hp2 : (upd H1 a (.lst vs)) a = some (.lst vs) := upd_same
  generalize upd H1 a (.lst vs) = H2 at e2 hv2 hp2 ⊢
  have hlen := hl vs H2 hv2
  intro Dl hD
  refine lc_list (K := K) (xs := vs) (Cw H2 (fun _ => true) v Dl) ⟨hD, Ex.new hD, upd_same⟩ (fun i H' _ p => sq_of (p.2.1 a _ hp2)) (fun i x H' hi p => ⟨hw x, cw_turn p (by have := (List.getElem?_eq_some_iff.mp hi).1; omega) et_yes (fun _ => he vs H2 (e.trans e2) hv2 i x hi)⟩) (fun H' p => q Dl H' (fresh_back e2 p.1) (e2.trans p.2.1) ?_)
  have h3 := p.2.2
  rw [hlen, given_all] at h3
  exact h3
/-! ### new lists of new lists -/
def LstsN (H0 H : Hp) (vs : List V) (qs : List (List V)) : Prop := vs.length = qs.length ∧ ∀ (i : Nat) (x : V), vs[i]? = some x → ∃ xs p, xs ∈ qs ∧ x = .ref p ∧ H0 p = none ∧ H p = some (.lst xs)
def EvLN (ts : TA) (σ : L2.St) (H : Hp) (qs : List (List V)) : Prop := ∀ H1, Ex H H1 → ∀ Q : List V → Hp → Prop, (∀ vs H2, Ex H1 H2 → LstsN H1 H2 vs qs → Q vs H2) → ts σ H1 Q
theorem eln_nil : EvLN tNil σ H [] := fun H1 _ Q q => q [] H1 (Ex.refl H1) ⟨rfl, fun i x hx => nomatch hx⟩
theorem eln_cons {ts : TA} {xs : List V} {qs : List (List V)} (h : EvL ta σ H xs) (hs : EvLN ts σ H qs) : EvLN (tCons ta ts) σ H (xs :: qs) := fun H1 e Q q =>
  h H1 e _ fun p H2 hp e2 h2 => hs H2 (e.trans e2) _ fun vs H3 e3 h3 => q (.ref p :: vs) H3 (e2.trans e3) ⟨by rw [List.length_cons, List.length_cons, h3.1], fun i x hx => by
    cases i with
    | zero =>
      have hx' : some (V.ref p) = some x := hx
      cases hx'
      exact ⟨xs, p, List.mem_cons_self .., rfl, hp, e3 p _ h2⟩
    | succ i =>
      have hx' : vs[i]? = some x := hx
      obtain ⟨ys, p', hm, k1, k2, k3⟩ := h3.2 i x hx'
      exact ⟨ys, p', List.mem_cons_of_mem _ hm, k1, fresh_back e2 k2, k3⟩⟩
theorem q_forLs {ts : TA} {qs : List (List V)} {j : Nat} {tu : TS} (h : EvLN ts σ H qs) (hl : qs.length ≤ 1000)
    (k : ∀ p vs H1, Ex H H1 → H p = none → H1 p = some (.lst vs) → LstsN H H1 vs qs → ∃ Pv : Nat → L2.St → Hp → Prop, Pv 0 σ H1 ∧ (∀ i σ' H', Pv i σ' H' → H' p = some (.lst vs)) ∧ (∀ i x σ' H', vs[i]? = some x → Pv i σ' H' → tu { D with nx := Pv (i + 1), ct := Pv (i + 1), bk := tz D } (σ'.set j (some x)) H') ∧ (∀ σ' H', Pv vs.length σ' H' → tz D σ' H')) :
    tSeq (tFor (iList K (tLst ts)) (gName j) tu) tz D σ H := by
  refine h H (Ex.refl H) _ fun vs H1 e hv => ⟨sz_of (by rw [hv.1]; omega), fun p hp => ⟨p, rfl, ⟨vs, sq_of upd_same⟩, ?_⟩⟩
  obtain ⟨Pv, h0, hk, hs, hd⟩ := k p vs (upd H1 p (.lst vs)) (e.trans (Ex.new hp)) (fresh_back e hp) upd_same ⟨hv.1, fun i x hx => by
    obtain ⟨xs, q, m, k1, k2, k3⟩ := hv.2 i x hx
    exact ⟨xs, q, m, k1, k2, Ex.new hp q _ k3⟩⟩
  exact for_list (K := K) (xs := vs) Pv h0 (fun i σ' H' _ q => sq_of (hk i σ' H' q)) hs hd
/-! ### methods, their argument a list of which the items are known -/
theorem ev_methI {C : Addr} {m : Str} {sp : Sp} {dvs xs : List V} {E : XK} {fs : List (Str × V)} (ha : EvR ta σ H (fun v H2 => ∃ p dx, v = .ref p ∧ H2 p = some (.ins C dx fs))) (hm : fs.lookup m = none) (hs : EvR tb σ H (IsL xs))
    (h : ∀ p dx q H1, Ex H H1 → H1 p = some (.ins C dx fs) → H1 q = some (.lst xs) → SpV sp (.ref p :: ([.ref q] ++ dvs)) H1 z) : Ev (tMeth C m sp dvs E ta (tCons tb tNil)) σ H z := fun H1 e Q q =>
  ha H1 e _ fun v H2 e2 ⟨p, dx, hv, hp⟩ => ⟨p, dx, fs, hv, hp, hm, hs H2 (e.trans e2) _ fun w H3 e3 ⟨l, hw, hl⟩ => by
    subst hv hw
    exact h p dx l H3 ((e.trans e2).trans e3) (e3 p _ hp) hl H3 (Ex.refl H3) Q (fun H4 e4 => q H4 ((e2.trans e3).trans e4)) E⟩
theorem ev_methI2 {C : Addr} {m : Str} {sp : Sp} {dvs xs : List V} {E : XK} {fs : List (Str × V)} (ha : EvR ta σ H (fun v H2 => ∃ p dx, v = .ref p ∧ H2 p = some (.ins C dx fs))) (hm : fs.lookup m = none) (hs : EvR tb σ H (IsL xs)) (hc : Ev tc σ H y)
    (h : ∀ p dx q H1, Ex H H1 → H1 p = some (.ins C dx fs) → H1 q = some (.lst xs) → SpV sp (.ref p :: ([.ref q, y] ++ dvs)) H1 z) : Ev (tMeth C m sp dvs E ta (tCons tb (tCons tc tNil))) σ H z := fun H1 e Q q =>
  ha H1 e _ fun v H2 e2 ⟨p, dx, hv, hp⟩ => ⟨p, dx, fs, hv, hp, hm, hs H2 (e.trans e2) _ fun w H3 e3 ⟨l, hw, hl⟩ => hc H3 ((e.trans e2).trans e3) _ fun H4 e4 => by
    subst hv hw
    exact h p dx l H4 (((e.trans e2).trans e3).trans e4) ((e3.trans e4) p _ hp) (e4 l _ hl) H4 (Ex.refl H4) Q (fun H5 e5 => q H5 (((e2.trans e3).trans e4).trans e5)) E⟩
theorem el_callI {sp : Sp} {xs zs : List V} {E : XK} (h : EvR ta σ H (IsL xs)) (hs : ∀ p H1, Ex H H1 → H1 p = some (.lst xs) → ∀ Q, RetL zs H1 Q → ∀ E', sp [.ref p] H1 Q E') : EvL (tCall sp [] E (tCons ta tNil)) σ H zs := fun H1 e Q q =>
  h H1 e _ fun w H2 e2 ⟨p, hw, h2⟩ => by
    subst hw
    exact hs p H2 (e.trans e2) h2 Q (fun p' H3 hp' e3 h3 => q p' H3 (fresh_back e2 hp') (e2.trans e3) h3) E
theorem el_callII {sp : Sp} {xs ys zs : List V} {E : XK} (h : EvR ta σ H (IsL xs)) (hb : EvR tb σ H (IsL ys)) (hs : ∀ p q H1, Ex H H1 → H1 p = some (.lst xs) → H1 q = some (.lst ys) → ∀ Q, RetL zs H1 Q → ∀ E', sp [.ref p, .ref q] H1 Q E') : EvL (tCall sp [] E (tCons ta (tCons tb tNil))) σ H zs := fun H1 e Q q =>
  h H1 e _ fun w H2 e2 ⟨p, hw, h2⟩ => hb H2 (e.trans e2) _ fun w' H3 e3 ⟨p', hw', h3⟩ => by
    subst hw hw'
    exact hs p p' H3 ((e.trans e2).trans e3) (e3 p _ h2) h3 Q (fun p2 H4 hp2 e4 h4 => q p2 H4 (fresh_back (e2.trans e3) hp2) ((e2.trans e3).trans e4) h4) E
theorem ev_callI {sp : Sp} {xs vs : List V} {E : XK} {ts : TA} (h : EvR ta σ H (IsL xs)) (hs : EvA ts σ H vs) (k : ∀ p H1, Ex H H1 → H1 p = some (.lst xs) → SpV sp ((.ref p :: vs) ++ []) H1 z) : Ev (tCall sp [] E (tCons ta ts)) σ H z := fun H1 e Q q =>
  h H1 e _ fun w H2 e2 ⟨p, hw, h2⟩ => hs H2 (e.trans e2) _ fun H3 e3 => by
    subst hw
    exact k p H3 ((e.trans e2).trans e3) (e3 p _ h2) H3 (Ex.refl H3) Q (fun H4 e4 => q H4 ((e2.trans e3).trans e4)) E
theorem ev_callII {sp : Sp} {xs ys : List V} {E : XK} (h : EvR ta σ H (IsL xs)) (hb : EvR tb σ H (IsL ys)) (k : ∀ p q H1, Ex H H1 → H1 p = some (.lst xs) → H1 q = some (.lst ys) → SpV sp [.ref p, .ref q] H1 z) : Ev (tCall sp [] E (tCons ta (tCons tb tNil))) σ H z := fun H1 e Q q =>
  h H1 e _ fun w H2 e2 ⟨p, hw, h2⟩ => hb H2 (e.trans e2) _ fun w' H3 e3 ⟨p', hw', h3⟩ => by
    subst hw hw'
    exact k p p' H3 ((e.trans e2).trans e3) (e3 p _ h2) h3 H3 (Ex.refl H3) Q (fun H4 e4 => q H4 ((e2.trans e3).trans e4)) E
/-- an item of a new list -/
theorem ev_itN {xs : List V} {i : Nat} (ha : EvL ta σ H xs) (hb : Ev tb σ H (.int (i : Int))) (hx : xs[i]? = some v) : Ev (tOp (rIxL K) ta tb) σ H v := ev_opLV ha hb fun p H1 hp e => rv_ixL (sq_of hp) (atI_nat hx)
/-! ### parts -/
theorem el_made {C : Addr} {ps : List Int} {n : Nat} {E : XK} (h : EvR ta σ H (IsL (ps.map V.int))) (hp : ps.all isPart = true) (hn : prodI ps = (n : Int)) (hn2 : n ≤ 100) (hl : ps.length ≤ 600) : EvL (tCall (sp_made C) [] E (tCons ta tNil)) σ H (tabV n (tabM ps)) :=
  el_callI h fun p H1 e h1 Q q E' => ⟨p, ps, rfl, ⟨h1, hl⟩, hp, fun m hm hm2 => by rw [hn] at hm; cases Int.ofNat.inj hm; exact q, fun hgt => absurd hgt (by omega)⟩
theorem ev_order {C : Addr} {ps : List Int} {E : XK} (h : EvR ta σ H (IsL (ps.map V.int))) (hp : ps.all isPart = true) (hl : ps.length ≤ 600) : Ev (tCall (sp_order C) [] E (tCons ta tNil)) σ H (.int (prodI ps)) :=
  ev_callI h ea_nil fun p H1 e h1 H2 e2 Q q E' => ⟨p, ps, rfl, ⟨e2 p _ h1, hl⟩, fun _ => q, fun hz => absurd (hz.symm.trans hp) (by decide)⟩
theorem ev_signAt {ps : List Int} {r c : Int} {E : XK} (h : EvR ta σ H (IsL (ps.map V.int))) (hb : Ev tb σ H (.int r)) (hc : Ev tc σ H (.int c)) (hp : ps.all isPart = true) (hl : ps.length ≤ 600) (h1 : 0 ≤ r ∧ r < prodI ps) (h2 : 0 ≤ c ∧ c < prodI ps) : Ev (tCall sp_sign_at [] E (tCons ta (tCons tb (tCons tc tNil)))) σ H (.str (sgS (!mA ps r c))) :=
  ev_callI h (ea_cons hb (ea_cons hc ea_nil)) fun p H1 e k1 H2 e2 Q q E' => ⟨p, ps, r, c, rfl, ⟨e2 p _ k1, hl⟩, hp, h1.1, h1.2, h2.1, h2.2, q⟩
/-! ### the cases of Unlike -/
def CaseV : V → Hp → Prop := fun v H => ∃ (t a : Addr) (i j : Int) (n : Nat) (f : Nat → Nat → Bool) (b : Bool), v = .ref t ∧ H t = some (.tup [.int i, .int j, .ref a, .bl b]) ∧ H a = some (.lst (tabV n f)) ∧ n ≤ 1000 ∧ unlB n f i j = b
theorem kept_case : Kept CaseV := fun v H H' e ⟨t, a, i, j, n, f, b, h1, h2, h3, h4⟩ => ⟨t, a, i, j, n, f, b, h1, e t _ h2, e a _ h3, h4⟩
theorem er_case {n : Nat} {f : Nat → Nat → Bool} {i j : Int} {b : Bool} (hi : Ev ta σ H (.int i)) (hj : Ev tb σ H (.int j)) (hl : EvR tc σ H (IsL (tabV n f))) (hb : Ev td σ H (.bl b)) (hn : n ≤ 1000) (hu : unlB n f i j = b) : EvR (tTup (tCons ta (tCons tb (tCons tc (tCons td tNil))))) σ H CaseV := fun H1 e Q q =>
  hi H1 e _ fun H2 e2 => hj H2 (e.trans e2) _ fun H3 e3 => hl H3 ((e.trans e2).trans e3) _ fun w H4 e4 ⟨a, hw, ha⟩ => hb H4 (((e.trans e2).trans e3).trans e4) _ fun H5 e5 => by
    subst hw
    exact ⟨sz_of (show 4 ≤ 100000 by decide), fun p hp => q _ _ ((((e2.trans e3).trans e4).trans e5).trans (Ex.new hp)) ⟨p, a, i, j, n, f, b, rfl, upd_same, (e5.trans (Ex.new hp)) a _ ha, hn, hu⟩⟩
/-! ### signs, the row that they are near, whether as it is -/
def SigV (n : Nat) (f : Nat → Nat → Bool) : V → Hp → Prop := fun v H => ∃ (t : Addr) (k : Nat → Bool) (i : Nat) (b : Bool), v = .ref t ∧ H t = some (.tup [.str (rowS n k), .int (i : Int), .bl b]) ∧ i < n ∧ nearB n (f i) k b = true
theorem kept_sig (n : Nat) (f : Nat → Nat → Bool) : Kept (SigV n f) := fun v H H' e ⟨t, k, i, b, h1, h2, h3⟩ => ⟨t, k, i, b, h1, e t _ h2, h3⟩
theorem er_sig {n : Nat} {f : Nat → Nat → Bool} {k : Nat → Bool} {i : Nat} {b : Bool} (hk : Ev ta σ H (.str (rowS n k))) (hi : Ev tb σ H (.int (i : Int))) (hb : Ev tc σ H (.bl b)) (hin : i < n) (hn : nearB n (f i) k b = true) : EvR (tTup (tCons ta (tCons tb (tCons tc tNil)))) σ H (SigV n f) := fun H1 e Q q =>
  eu_tup (ea_cons hk (ea_cons hi (ea_cons hb ea_nil))) (by show 3 ≤ 100000; decide) H1 e _ fun p H2 _ e2 h2 => q _ H2 e2 ⟨p, k, i, b, rfl, h2, hin, hn⟩
theorem rv_neIB {a b : Addr} {i : Int} {c : Bool} (ha : H a = some (.tup [.int i, .bl c])) (hb : H b = some (.tup [.int i, .bl c])) : RV (rNeD K) (.ref a) (.ref b) H (.bl false) := fun H1 e Q q =>
  ⟨.tuple [.int i, .bool c], .tuple [.int i, .bool c], .tup (st_of (e a _ ha)) (.cons (.int i) (.cons (.bl c) .nil)), .tup (st_of (e b _ hb)) (.cons (.int i) (.cons (.bl c) .nil)), rfl, rfl, by
    have w : PyData.eqv (.tuple [.int i, .bool c]) (.tuple [.int i, .bool c]) = true := by
      show ((i == i) && ((c == c) && true)) = true
      simp
    rw [w]
    exact q H1 (Ex.refl H1)⟩
/-! ### what is told: whole numbers, and lists of them -/
def Plain1 (H : Hp) (v : V) : Prop := (∃ z : Int, v = .int z) ∨ ∃ (a : Addr) (ns : List Int), v = .ref a ∧ H a = some (.lst (ns.map V.int)) ∧ ns.length ≤ 1000
theorem Plain1.ex (e : Ex H H') (h : Plain1 H v) : Plain1 H' v := by
  rcases h with h | ⟨a, ns, h1, h2, h3⟩
  · exact .inl h
  · exact .inr ⟨a, ns, h1, e a _ h2, h3⟩
def sp_plain0 : Sp := fun vs H Q _ => ∃ z : Int, vs = [.int z] ∧ RetV (.bl true) H Q
def sp_plain1 : Sp := fun vs H Q _ => ∃ v, vs = [v] ∧ Plain1 H v ∧ RetV (.bl true) H Q
def sp_plain2 : Sp := fun vs H Q _ => ∃ a xs, vs = [.ref a] ∧ H a = some (.lst xs) ∧ xs.length ≤ 10000 ∧ (∀ x ∈ xs, Plain1 H x) ∧ RetV (.bl true) H Q
def sp_truths : Sp := fun vs H Q _ => ∃ (a : Addr) (bs : List Bool), vs = [.ref a] ∧ H a = some (.lst (bs.map V.bl)) ∧ bs.length ≤ 10000 ∧ RetV (.bl true) H Q
def sp_true0 : Sp := fun vs H Q _ => vs = [] ∧ RetV (.bl true) H Q
def sp_four : Sp := fun vs H Q _ => ∃ a, vs = [.ref a] ∧ H a = some (.lst (tabV 4 (tabM [2, 2]))) ∧ RetV (.bl true) H Q
/-- what is found and shown so far: pf, ps; the rest stands in Hb -/
structure Acc (Hb H : Hp) (pf ps : Addr) (nF nS : Nat) : Prop where
  ex : Ex Hb H
  nf : Hb pf = none
  ns : Hb ps = none
  ne : pf ≠ ps
  f : ∃ xs, H pf = some (.lst xs) ∧ xs.length ≤ nF ∧ ∀ x ∈ xs, Plain1 Hb x
  s : ∃ bs : List Bool, H ps = some (.lst (bs.map V.bl)) ∧ bs.length ≤ nS
/-- all but two -/
def less2 (H : Hp) (p q : Addr) : Hp := fun a => if a = p then none else if a = q then none else H a
theorem less2_ex (H : Hp) (p q : Addr) : Ex (less2 H p q) H := fun a o h => by
  unfold less2 at h
  by_cases h1 : a = p
  · rw [if_pos h1] at h
    cases h
  · rw [if_neg h1] at h
    by_cases h2 : a = q
    · rw [if_pos h2] at h
      cases h
    · rw [if_neg h2] at h
      exact h
theorem less2_p (H : Hp) (p q : Addr) : less2 H p q p = none := if_pos rfl
theorem less2_q (H : Hp) (p q : Addr) : less2 H p q q = none := by
  unfold less2
  by_cases h : q = p
  · rw [if_pos h]
  · rw [if_neg h, if_pos rfl]
theorem less2_at {H : Hp} {p q a : Addr} (h1 : a ≠ p) (h2 : a ≠ q) : less2 H p q a = H a := by
  unfold less2
  rw [if_neg h1, if_neg h2]
theorem less2_of {H0 H : Hp} {p q : Addr} (e : Ex H0 H) (h1 : H0 p = none) (h2 : H0 q = none) : Ex H0 (less2 H p q) := fun a o h => by
  rw [less2_at (ne_of_none h h1) (ne_of_none h h2)]
  exact e a o h
theorem Acc.mono {Hb H H' : Hp} {pf ps : Addr} {nF nS : Nat} (e : Ex H H') (h : Acc Hb H pf ps nF nS) : Acc Hb H' pf ps nF nS := ⟨h.ex.trans e, h.nf, h.ns, h.ne, by
  obtain ⟨xs, h1, h2⟩ := h.f
  exact ⟨xs, e pf _ h1, h2⟩, by
  obtain ⟨bs, h1, h2⟩ := h.s
  exact ⟨bs, e ps _ h1, h2⟩⟩
/-- all that stands but what is found and shown -/
theorem Acc.base {Hb H : Hp} {pf ps : Addr} {nF nS : Nat} (h : Acc Hb H pf ps nF nS) : Acc (less2 H pf ps) H pf ps nF nS := ⟨less2_ex H pf ps, less2_p H pf ps, less2_q H pf ps, h.ne, by
  obtain ⟨xs, h1, h2, h3⟩ := h.f
  exact ⟨xs, h1, h2, fun x hx => (h3 x hx).ex (less2_of h.ex h.nf h.ns)⟩, h.s⟩
theorem Acc.appF {Hb H : Hp} {pf ps : Addr} {nF nS : Nat} {xs : List V} {z : Int} (h : Acc Hb H pf ps nF nS) (hx : H pf = some (.lst xs)) : Acc Hb (upd H pf (.lst (xs ++ [.int z]))) pf ps (nF + 1) nS := ⟨Ex.mut h.ex h.nf, h.nf, h.ns, h.ne, by
  obtain ⟨ys, h1, h2, h3⟩ := h.f
  rw [hx] at h1
  cases h1
  refine ⟨_, upd_same, by rw [List.length_append]; show xs.length + 1 ≤ nF + 1; omega, fun x hx => ?_⟩
  rcases List.mem_append.mp hx with hx | hx
  · exact h3 x hx
  · rw [List.mem_singleton.mp hx]
    exact .inl ⟨z, rfl⟩, by
  obtain ⟨bs, h1, h2⟩ := h.s
  exact ⟨bs, by rw [upd_ne (Ne.symm h.ne)]; exact h1, h2⟩⟩
theorem Acc.appS {Hb H : Hp} {pf ps : Addr} {nF nS : Nat} {bs : List Bool} {b : Bool} (h : Acc Hb H pf ps nF nS) (hx : H ps = some (.lst (bs.map V.bl))) : Acc Hb (upd H ps (.lst (bs.map V.bl ++ [.bl b]))) pf ps nF (nS + 1) := ⟨Ex.mut h.ex h.ns, h.nf, h.ns, h.ne, by
  obtain ⟨ys, h1, h2, h3⟩ := h.f
  exact ⟨ys, by rw [upd_ne h.ne]; exact h1, h2, h3⟩, by
  obtain ⟨bs', h1, h2⟩ := h.s
  rw [hx] at h1
  have h1' : bs.map V.bl = bs'.map V.bl := by
    injection h1 with h1
    injection h1
  have hl : bs.length = bs'.length := by
    have := congrArg List.length h1'
    rwa [List.length_map, List.length_map] at this
  refine ⟨bs ++ [b], ?_, by rw [List.length_append]; show bs.length + 1 ≤ nS + 1; omega⟩
  rw [upd_same, List.map_append]
  rfl⟩
/-- a new list of what is found -/
theorem Acc.newF {Hb H H' : Hp} {pf ps p : Addr} {nF nS m : Nat} {xs ys : List V} (h : Acc Hb H pf ps nF nS) (hx : H pf = some (.lst xs)) (e : Ex H H') (hp : H p = none) (hp' : H' p = some (.lst (xs ++ ys))) (hm : ys.length ≤ m) (hy : ∀ y ∈ ys, Plain1 (less2 H' p ps) y) : Acc (less2 H' p ps) H' p ps (nF + m) nS := by
  obtain ⟨bs, b1, b2⟩ := h.s
  obtain ⟨zs, h1, h2, h3⟩ := h.f
  rw [hx] at h1
  cases h1
  have hbp : Hb p = none := fresh_back h.ex hp
  refine ⟨less2_ex H' p ps, less2_p H' p ps, less2_q H' p ps, Ne.symm (ne_of_none b1 hp), ⟨xs ++ ys, hp', by rw [List.length_append]; omega, fun x hx => ?_⟩, ⟨bs, e ps _ b1, b2⟩⟩
  rcases List.mem_append.mp hx with hx | hx
  · exact (h3 x hx).ex (less2_of (h.ex.trans e) hbp h.ns)
  · exact hy x hx
/-- a new list of what is shown -/
theorem Acc.newS {Hb H H' : Hp} {pf ps p : Addr} {nF nS : Nat} {bs cs : List Bool} (h : Acc Hb H pf ps nF nS) (hx : H ps = some (.lst (bs.map V.bl))) (e : Ex H H') (hp : H p = none) (hp' : H' p = some (.lst (bs.map V.bl ++ cs.map V.bl))) : Acc Hb H' pf p nF (nS + cs.length) := by
  obtain ⟨bs', b1, b2⟩ := h.s
  obtain ⟨zs, h1, h2, h3⟩ := h.f
  rw [hx] at b1
  have h1' : bs.map V.bl = bs'.map V.bl := by
    injection b1 with b1
    injection b1
  have hl : bs.length = bs'.length := by
    have := congrArg List.length h1'
    rwa [List.length_map, List.length_map] at this
  refine ⟨h.ex.trans e, h.nf, fresh_back h.ex hp, ne_of_none h1 hp, ⟨zs, e pf _ h1, h2, h3⟩, ⟨bs ++ cs, ?_, by rw [List.length_append]; omega⟩⟩
  rw [hp', List.map_append]
/-! ### the steps of the last law -/
theorem Acc.weak {Hb H : Hp} {pf ps : Addr} {nF nS nF' nS' : Nat} (h : Acc Hb H pf ps nF nS) (h1 : nF ≤ nF') (h2 : nS ≤ nS') : Acc Hb H pf ps nF' nS' := ⟨h.ex, h.nf, h.ns, h.ne, by
  obtain ⟨xs, k1, k2, k3⟩ := h.f
  exact ⟨xs, k1, Nat.le_trans k2 h1, k3⟩, by
  obtain ⟨bs, k1, k2⟩ := h.s
  exact ⟨bs, k1, Nat.le_trans k2 h2⟩⟩
/-- a number, or a list of numbers at another place -/
def RP (ps : Addr) : V → Hp → Prop := fun v H => (∃ z : Int, v = .int z) ∨ ∃ (a : Addr) (ns : List Int), v = .ref a ∧ a ≠ ps ∧ H a = some (.lst (ns.map V.int)) ∧ ns.length ≤ 1000
theorem kept_RP (ps : Addr) : Kept (RP ps) := fun v H H' e h => by
  rcases h with h | ⟨a, ns, h1, h2, h3, h4⟩
  · exact .inl h
  · exact .inr ⟨a, ns, h1, h2, e a _ h3, h4⟩
theorem er_RP {ps : Addr} {ns : List Int} {o : HO} (h : EvL te σ H (ns.map V.int)) (hps : H ps = some o) (hl : ns.length ≤ 1000) : EvR te σ H (RP ps) := fun H1 e Q q =>
  h H1 e _ fun p H2 hp e2 h2 => q _ H2 e2 (.inr ⟨p, ns, rfl, Ne.symm (ne_of_none (e ps _ hps) hp), h2, hl⟩)
theorem er_RPi {ps : Addr} {z : Int} (h : Ev te σ H (.int z)) : EvR te σ H (RP ps) := fun H1 e Q q => h H1 e Q fun H2 e2 => q _ H2 e2 (.inl ⟨z, rfl⟩)
theorem er_RPv {ps a : Addr} {ns : List Int} (h : Ev te σ H (.ref a)) (ha : H a = some (.lst (ns.map V.int))) (hne : a ≠ ps) (hl : ns.length ≤ 1000) : EvR te σ H (RP ps) := fun H1 e Q q => h H1 e Q fun H2 e2 => q _ H2 e2 (.inr ⟨a, ns, rfl, hne, (e.trans e2) a _ ha, hl⟩)
theorem q_asgCatR {i m : Nat} {p : Addr} {xs : List V} {R : V → Hp → Prop} (kR : Kept R) (ha : Ev ta σ H (.ref p)) (hp : H p = some (.lst xs)) (hb : EvR tb σ H (LstR R m)) (hz : xs.length + m ≤ 100000) (k : ∀ p' ys Hm, Ex H Hm → Hm p' = none → AllV R m ys Hm → tz D (σ.set i (some (.ref p'))) (upd Hm p' (.lst (xs ++ ys)))) : tSeq (tAsg (tOp rCat ta tb) (gName i)) tz D σ H :=
  ha H (Ex.refl H) _ fun H2 e2 => hb H2 e2 _ fun w H3 e3 ⟨q, ys, hw, hq, hv⟩ => ⟨p, q, xs, ys, rfl, hw, (e2.trans e3) p _ hp, hq, sz_of (by have := hv.1; omega), fun l hl => k l ys H3 (e2.trans e3) hl hv⟩
theorem Acc.newR {Hb H Hm : Hp} {pf ps p : Addr} {nF nS m : Nat} {xs ys : List V} (h : Acc Hb H pf ps nF nS) (hx : H pf = some (.lst xs)) (e : Ex H Hm) (hp : Hm p = none) (hy : AllV (RP ps) m ys Hm) : Acc (less2 (upd Hm p (.lst (xs ++ ys))) p ps) (upd Hm p (.lst (xs ++ ys))) p ps (nF + m) nS :=
  h.newF hx (e.trans (Ex.new hp)) (fresh_back e hp) upd_same hy.1 fun y hyy => by
    rcases hy.2 y hyy with hz | ⟨a, ns, rfl, h2, h3, h4⟩
    · exact .inl hz
    · refine .inr ⟨a, ns, rfl, ?_, h4⟩
      rw [less2_at (ne_of_none h3 hp) h2, upd_ne (ne_of_none h3 hp)]
      exact h3
/-- an answer of read -/
def AnsAt (CN CF p : Addr) (H : Hp) : Prop := (∃ (i : Int) (b : Bool) (dx : Addr), H p = some (.ins CN dx (nf (.int i) (.bl b)))) ∨ ∃ dx : Addr, H p = some (.ins CF dx [])
theorem AnsAt.ex {CN CF p : Addr} (e : Ex H H') (h : AnsAt CN CF p H) : AnsAt CN CF p H' := by
  rcases h with ⟨i, b, dx, h⟩ | ⟨dx, h⟩
  · exact .inl ⟨i, b, dx, e p _ h⟩
  · exact .inr ⟨dx, e p _ h⟩
theorem q_asgRead {i : Nat} {CN CF a : Addr} {n : Nat} {f : Nat → Nat → Bool} {k : Nat → Bool} {E : XK} {ts : TA} (h : EvA ts σ H [.ref a, .str (rowS n k)]) (hT : H a = some (.lst (tabV n f))) (h1 : 1 ≤ n) (h2 : n ≤ 100) (hh : halfB n f = true) (kk : ∀ p H1, H p = none → Ex H H1 → AnsAt CN CF p H1 → tz D (σ.set i (some (.ref p))) H1) : tSeq (tAsg (tCall (sp_read K CN CF) [] E ts) (gName i)) tz D σ H :=
  h H (Ex.refl H) _ fun H1 e => ⟨a, n, f, k, rfl, sq_of (e a _ hT), h1, h2, ⟨_, e a _ hT⟩, hh, fun i b _ _ p dx H2 hp e2 h2 => kk p H2 (fresh_back e hp) (e.trans e2) (.inl ⟨_, b, dx, h2⟩), fun _ p dx H2 hp e2 h2 => kk p H2 (fresh_back e hp) (e.trans e2) (.inr ⟨dx, h2⟩)⟩
theorem q_asgTold {i : Nat} {CH CU a : Addr} {n : Nat} {f : Nat → Nat → Bool} {E : XK} {ts : TA} (h : EvA ts σ H [.ref a]) (hT : H a = some (.lst (tabV n f))) (h1 : 1 ≤ n) (h2 : n ≤ 100) (hh : halfB n f = false) (kk : ∀ p H1 dx (x y : Int), H p = none → Ex H H1 → H1 p = some (.ins CU dx (uf (.int x) (.int y))) → tz D (σ.set i (some (.ref p))) H1) : tSeq (tAsg (tCall (sp_told K CH CU) [] E ts) (gName i)) tz D σ H :=
  h H (Ex.refl H) _ fun H1 e => ⟨a, n, f, rfl, sq_of (e a _ hT), h1, h2, ⟨_, e a _ hT⟩, fun hz => absurd (hz.symm.trans hh) (by decide), fun i j _ _ _ p dx H2 hp e2 h2 => kk p H2 dx _ _ (fresh_back e hp) (e.trans e2) h2⟩
theorem er_toldH {CH CU : Addr} {n : Nat} {f : Nat → Nat → Bool} {E : XK} (h : EvR ta σ H (IsL (tabV n f))) (h1 : 1 ≤ n) (h2 : n ≤ 100) (hh : halfB n f = true) : EvR (tCall (sp_told K CH CU) [] E (tCons ta tNil)) σ H (fun v H2 => ∃ p dx, v = .ref p ∧ H2 p = some (.ins CH dx [])) := fun H1 e Q q =>
  h H1 e _ fun v H2 e2 ⟨p, hv, hp⟩ => by
    subst hv
    exact ⟨p, n, f, rfl, sq_of hp, h1, h2, ⟨_, hp⟩, fun _ p' dx H3 _ e3 h3 => q _ H3 (e2.trans e3) ⟨p', dx, rfl, h3⟩, fun i j hij hj hu => absurd ((halfB_iff _ _).mp hh j hj i hij) hu⟩
theorem kept_ins (C : Addr) (fs : List (Str × V)) : Kept (fun v (H : Hp) => ∃ p dx, v = V.ref p ∧ H p = some (.ins C dx fs)) := fun v H H' e ⟨p, dx, h1, h2⟩ => ⟨p, dx, h1, e p _ h2⟩
/-- three of which something is known -/
def R3 (R1 R2 R3 : V → Hp → Prop) : List V → Hp → Prop := fun vs H => ∃ x y z, vs = [x, y, z] ∧ R1 x H ∧ R2 y H ∧ R3 z H
theorem kept_R3 {R1 R2 R3' : V → Hp → Prop} (k1 : Kept R1) (k2 : Kept R2) (k3 : Kept R3') : Kept (R3 R1 R2 R3') := fun vs H H' e ⟨x, y, z, h, h1, h2, h3⟩ => ⟨x, y, z, h, k1 x _ _ e h1, k2 y _ _ e h2, k3 z _ _ e h3⟩
theorem er_R3 {R1 R2 R3' : V → Hp → Prop} (k1 : Kept R1) (k2 : Kept R2) (h1 : EvR ta σ H R1) (h2 : EvR tb σ H R2) (h3 : EvR tc σ H R3') : EvAR (tCons ta (tCons tb (tCons tc tNil))) σ H (R3 R1 R2 R3') := fun H1 e Q q =>
  h1 H1 e _ fun x H2 e2 hx => h2 H2 (e.trans e2) _ fun y H3 e3 hy => h3 H3 ((e.trans e2).trans e3) _ fun z H4 e4 hz => q _ H4 ((e2.trans e3).trans e4) ⟨x, y, z, rfl, k1 x _ _ (e3.trans e4) hx, k2 y _ _ e4 hy, hz⟩
theorem el_lc3 {ts : TA} {R1 R2 R3' : V → Hp → Prop} {j : Nat} {ws : List Nat} {b0 b1 b2 : Bool} (k1 : Kept R1) (k2 : Kept R2) (k3 : Kept R3') (h : EvAR ts σ H (R3 R1 R2 R3')) (hw : ∀ x, wipe ((wipe σ ws).set j (some x)) ws = wipe σ ws)
    (h0 : ∀ x H1, Ex H H1 → R1 x H1 → Ev te ((wipe σ ws).set j (some x)) H1 (.bl b0)) (h1 : ∀ x H1, Ex H H1 → R2 x H1 → Ev te ((wipe σ ws).set j (some x)) H1 (.bl b1)) (h2 : ∀ x H1, Ex H H1 → R3' x H1 → Ev te ((wipe σ ws).set j (some x)) H1 (.bl b2)) : EvL (tLc (iList K (tLst ts)) (gName j) tYes te ws) σ H ([b0, b1, b2].map V.bl) := by
  refine ev_list (el_lcAR (K := K) (n := 3) (fun i => .bl (if i = 0 then b0 else if i = 1 then b1 else b2)) (kept_R3 k1 k2 k3) h (fun vs H' hv => ?_) (by decide) hw (fun vs H1 e hv i x hx => ?_)) rfl
  · obtain ⟨x, y, z, rfl, _⟩ := hv
    rfl
  · obtain ⟨y0, y1, y2, rfl, r0, r1, r2⟩ := hv
    match i, hx with
    | 0, hx =>
      cases hx
      exact h0 _ H1 e r0
    | 1, hx =>
      cases hx
      exact h1 _ H1 e r1
    | 2, hx =>
      cases hx
      exact h2 _ H1 e r2
    | k + 3, hx => exact absurd hx (by simp)
theorem ev_abs {ts : TA} {z : Int} (h : EvA ts σ H [.int z]) : Ev (tCB (fun xs H Q => ∃ i, xs = [V.int i] ∧ Q (.int (if i < 0 then -i else i)) H) ts) σ H (.int (if z < 0 then -z else z)) := ev_cb h fun H1 e Q q => ⟨z, rfl, q H1 (Ex.refl H1)⟩
end
theorem sum_bits : ∀ {ns : List Int}, (∀ z ∈ ns, Builtin.Int.intBits z ≤ 1048576) → ns.sum.natAbs ≤ ns.length * 2 ^ 1048576
  | [], _ => Nat.zero_le _
  | z :: ns, h => by
    have h1 := sum_bits (ns := ns) fun y hy => h y (List.mem_cons_of_mem _ hy)
    have h2 : z.natAbs ≤ 2 ^ 1048576 := by
      have hz := h z (List.mem_cons_self ..)
      by_cases h0 : z = 0
      · subst h0
        exact Nat.zero_le _
      · have e : z.natAbs < 2 ^ (z.natAbs.log2 + 1) := Nat.lt_log2_self
        have k : z.natAbs.log2 + 1 ≤ 1048576 := by
          unfold Builtin.Int.intBits at hz
          rw [if_neg (by simpa using h0)] at hz
          exact hz
        exact Nat.le_of_lt (Nat.lt_of_lt_of_le e (Nat.pow_le_pow_right (by decide) k))
    rw [List.sum_cons, List.length_cons, Nat.succ_mul]
    generalize 2 ^ 1048576 = G at h1 h2 ⊢
    have h3 := Int.natAbs_add_le z ns.sum
    omega
theorem sum_lt {ns : List Int} (hl : ns.length ≤ 63) (h : ∀ z ∈ ns, Builtin.Int.intBits z ≤ 1048576) : ns.sum.natAbs < 2 ^ BB := by
  have h1 := sum_bits h
  have h2 : ns.length * 2 ^ 1048576 ≤ 63 * 2 ^ 1048576 := Nat.mul_le_mul_right _ hl
  have h3 : 63 * 2 ^ 1048576 < 2 ^ 6 * 2 ^ 1048576 := Nat.mul_lt_mul_of_pos_right (by decide) (Nat.pow_pos (by decide))
  rw [← Nat.pow_add] at h3
  exact Nat.lt_of_le_of_lt (Nat.le_trans h1 h2) (Nat.lt_of_lt_of_le h3 (Nat.pow_le_pow_right (by decide) (show 6 + 1048576 ≤ 1048700 by decide)))
theorem half_20' : Few [20] := ⟨by decide +kernel, 20, by decide, by decide, by decide, half_20, by decide⟩
theorem foldl_one8 (c : Nat) : ∀ (n : Nat) (a : Array Nat), (List.replicate n (#[c] : Array Nat)).foldl (· ++ ·) a = a ++ (List.replicate n c).toArray
  | 0, a => by simp
  | n + 1, a => by
    rw [List.replicate_succ, List.foldl_cons, foldl_one8 c n, List.replicate_succ]
    apply Array.ext'
    simp
theorem mul_sg8 (b : Bool) (n : Nat) (hn : 1 ≤ n) : Txt.mul (sgS b) (n : Int) = rowS n (fun _ => b) := by
  unfold Txt.mul
  rw [if_neg (by omega)]
  by_cases h : n = 1
  · subst h
    rw [if_pos (by rfl)]
    rfl
  · have e : ((n : Int) == 1 || (sgS b).length == 0) = false := by
      have e1 : ((n : Int) == 1) = false := by
        rw [beq_eq_false_iff_ne]
        omega
      rw [e1]
      rfl
    rw [e, if_neg (by decide)]
    apply str_ext
    show ((List.replicate (n : Int).toNat (#[cp b] : Array Nat)).foldl (· ++ ·) #[]).toList = (List.range n).map fun j => cp b
    rw [foldl_one8, Int.toNat_natCast, List.map_const', List.length_range]
    simp
theorem rep_one (x : V) (n : Nat) : (List.replicate n [x]).flatten = List.replicate n x := by
  induction n with
  | zero => rfl
  | succ n ih =>
    rw [List.replicate_succ, List.replicate_succ, List.flatten_cons, ih]
    rfl
theorem rep_num (z : Int) (n : Nat) : List.replicate n (V.int z) = numV n fun _ => z := by
  unfold numV
  apply List.ext_getElem?
  intro k
  by_cases hk : k < n
  · rw [List.getElem?_replicate, if_pos hk, List.getElem?_map, List.getElem?_range hk]
    rfl
  · rw [List.getElem?_replicate, if_neg hk, List.getElem?_eq_none (by rw [List.length_map, List.length_range]; omega)]
theorem rep_map (z : Int) (n : Nat) : List.replicate n (V.int z) = (List.replicate n z).map V.int := by rw [List.map_replicate]
theorem litL {σ : L2.St} {H : Hp} {ts : TA} {vs ys : List V} (h : EvA ts σ H vs) (l : vs.length ≤ 100000) (e : vs = ys) : EvL (tLst ts) σ H ys := by
  rw [← e]
  exact el_lst h l
end HA

end
section
set_option maxRecDepth 100000
set_option maxHeartbeats 4000000
namespace HA
open PySem PySem.Spec PyProof.Rows L2 Evl
/-! ### values of any kind -/
/-- neither a text nor a number -/
def OthAt (H : Hp) (v : V) : Prop := v = .non ∨ (∃ b, v = .bl b) ∨ (∃ a xs, v = .ref a ∧ H a = some (.lst xs)) ∨ (∃ a xs, v = .ref a ∧ H a = some (.tup xs)) ∨ ∃ a, v = .ref a ∧ H a = some (.dK [])
/-- no list -/
def NotL (H : Hp) (v : V) : Prop := v = .non ∨ (∃ b, v = .bl b) ∨ (∃ z : Int, v = .int z) ∨ (∃ s : Str, v = .str s) ∨ (∃ a xs, v = .ref a ∧ H a = some (.tup xs)) ∨ ∃ a, v = .ref a ∧ H a = some (.dK [])
section
variable {K : PySem.W.Frag} {σ : L2.St} {H H' : Hp} {ta tb tc td te tx : TE} {t u : TT} {x y z v : V} {r r' r'' : R2} {D : Ends} {tz : TS}
theorem OthAt.ex (e : Ex H H') (h : OthAt H v) : OthAt H' v := by
  rcases h with h | h | ⟨a, xs, h1, h2⟩ | ⟨a, xs, h1, h2⟩ | ⟨a, h1, h2⟩
  · exact .inl h
  · exact .inr (.inl h)
  · exact .inr (.inr (.inl ⟨a, xs, h1, e a _ h2⟩))
  · exact .inr (.inr (.inr (.inl ⟨a, xs, h1, e a _ h2⟩)))
  · exact .inr (.inr (.inr (.inr ⟨a, h1, e a _ h2⟩)))
theorem NotL.ex (e : Ex H H') (h : NotL H v) : NotL H' v := by
  rcases h with h | h | h | h | ⟨a, xs, h1, h2⟩ | ⟨a, h1, h2⟩
  · exact .inl h
  · exact .inr (.inl h)
  · exact .inr (.inr (.inl h))
  · exact .inr (.inr (.inr (.inl h)))
  · exact .inr (.inr (.inr (.inr (.inl ⟨a, xs, h1, e a _ h2⟩))))
  · exact .inr (.inr (.inr (.inr (.inr ⟨a, h1, e a _ h2⟩))))
def TyN (K : PySem.W.Frag) (H : Hp) (v : V) (n : String) : Prop := ∀ H', Ex H H' → TyX K H' v (.type n)
theorem OthAt.ty (h : OthAt H v) : TyN K H v "NoneType" ∨ TyN K H v "bool" ∨ TyN K H v "list" ∨ TyN K H v "tuple" ∨ TyN K H v "dict" := by
  rcases h with rfl | ⟨b, rfl⟩ | ⟨a, xs, rfl, h⟩ | ⟨a, xs, rfl, h⟩ | ⟨a, rfl, h⟩
  · exact .inl fun H' e => .base .non
  · exact .inr (.inl fun H' e => .base (.bl b))
  · exact .inr (.inr (.inl fun H' e => .base (.lst (e a _ h))))
  · exact .inr (.inr (.inr (.inl fun H' e => .base (.tup (e a _ h)))))
  · exact .inr (.inr (.inr (.inr fun H' e => .base (.dK (e a _ h)))))
theorem ev_isiN {n c : String} {b : Bool} (h : Ev ta σ H v) (ht : TyN K H v n) (hk : kitB n c = some b) : Ev (tCB (rIsi K) (tCons ta (tCons (tC (.ty c)) tNil))) σ H (.bl b) := ev_isi (ea_cons h (ea_cons ev_c ea_nil)) (.ty _) ht (kit_ty hk)
theorem NotL.isi (h : NotL H v) (ha : Ev ta σ H v) : Ev (tCB (rIsi K) (tCons ta (tCons (tC (.ty "list")) tNil))) σ H (.bl false) := by
  rcases h with rfl | ⟨b, rfl⟩ | ⟨b, rfl⟩ | ⟨b, rfl⟩ | ⟨a, xs, rfl, h⟩ | ⟨a, rfl, h⟩
  · exact ev_isiN (n := "NoneType") ha (fun H' e => .base .non) (by decide +kernel)
  · exact ev_isiN (n := "bool") ha (fun H' e => .base (.bl b)) (by decide +kernel)
  · exact ev_isiN (n := "int") ha (fun H' e => .base (.int b)) (by decide +kernel)
  · exact ev_isiN (n := "str") ha (fun H' e => .base (.str b)) (by decide +kernel)
  · exact ev_isiN (n := "tuple") ha (fun H' e => .base (.tup (e a _ h))) (by decide +kernel)
  · exact ev_isiN (n := "dict") ha (fun H' e => .base (.dK (e a _ h))) (by decide +kernel)
theorem isiL {a : Addr} {xs : List V} (h : H a = some (.lst xs)) (ha : Ev ta σ H (.ref a)) : Ev (tCB (rIsi K) (tCons ta (tCons (tC (.ty "list")) tNil))) σ H (.bl true) := ev_isiN (n := "list") ha (fun H' e => .base (.lst (e a _ h))) (by decide +kernel)
/-! ### what the program asks of a value -/
def NumB (H : Hp) (v : V) (b : Bool) : Prop := (∃ z : Int, v = .int z ∧ b = true) ∨ (∃ s : Str, v = .str s ∧ b = false) ∨ (OthAt H v ∧ b = false)
def RowB (n : Nat) (H : Hp) (v : V) (b : Bool) : Prop := (∃ s : Str, v = .str s ∧ s.length ≤ 1000 ∧ b = (decide (s.length = n) && decide (Txt.stripChars s (Str.ofString "+-") = ⟨#[]⟩))) ∨ ((∃ z : Int, v = .int z) ∧ b = false) ∨ (OthAt H v ∧ b = false)
def PartB (H : Hp) (v : V) (b : Bool) : Prop := (∃ z : Int, v = .int z ∧ b = isPart z) ∨ (∃ s : Str, v = .str s ∧ b = false) ∨ (OthAt H v ∧ b = false)
def PlaceB (n : Int) (H : Hp) (v : V) (b : Bool) : Prop := (∃ z : Int, v = .int z ∧ b = (decide (0 ≤ z) && decide (z < n))) ∨ (∃ s : Str, v = .str s ∧ b = false) ∨ (OthAt H v ∧ b = false)
def ItB (R : Hp → V → Bool → Prop) (H : Hp) (vs : List V) (g : Bool) : Prop := ∃ b : Nat → Bool, (∀ (i : Nat) (x : V), vs[i]? = some x → R H x (b i)) ∧ g = (List.range vs.length).all b
def TabB (H : Hp) (v : V) (g : Bool) : Prop := (NotL H v ∧ g = false) ∨ ∃ a vs, v = .ref a ∧ H a = some (.lst vs) ∧ ((¬ (1 ≤ vs.length ∧ vs.length ≤ 100) ∧ g = false) ∨ (1 ≤ vs.length ∧ vs.length ≤ 100 ∧ ItB (RowB vs.length) H vs g))
def PartsB (H : Hp) (v : V) (g : Bool) : Prop := (NotL H v ∧ g = false) ∨ ∃ a vs, v = .ref a ∧ H a = some (.lst vs) ∧ vs.length ≤ 600 ∧ ItB PartB H vs g
/-- no numbers -/
def NumsN (n : Nat) (H : Hp) (v : V) : Prop := NotL H v ∨ ∃ a vs, v = .ref a ∧ H a = some (.lst vs) ∧ vs.length ≤ 1000 ∧ (vs.length ≠ n ∨ ItB NumB H vs false)
theorem NumB.ex {b : Bool} (e : Ex H H') (h : NumB H v b) : NumB H' v b := by
  rcases h with h | h | ⟨h, h2⟩
  · exact .inl h
  · exact .inr (.inl h)
  · exact .inr (.inr ⟨h.ex e, h2⟩)
theorem RowB.ex {n : Nat} {b : Bool} (e : Ex H H') (h : RowB n H v b) : RowB n H' v b := by
  rcases h with h | h | ⟨h, h2⟩
  · exact .inl h
  · exact .inr (.inl h)
  · exact .inr (.inr ⟨h.ex e, h2⟩)
theorem PartB.ex {b : Bool} (e : Ex H H') (h : PartB H v b) : PartB H' v b := by
  rcases h with h | h | ⟨h, h2⟩
  · exact .inl h
  · exact .inr (.inl h)
  · exact .inr (.inr ⟨h.ex e, h2⟩)
theorem PlaceB.ex {n : Int} {b : Bool} (e : Ex H H') (h : PlaceB n H v b) : PlaceB n H' v b := by
  rcases h with h | h | ⟨h, h2⟩
  · exact .inl h
  · exact .inr (.inl h)
  · exact .inr (.inr ⟨h.ex e, h2⟩)
theorem ItB.ex {R : Hp → V → Bool → Prop} (kR : ∀ {H H' v b}, Ex H H' → R H v b → R H' v b) {vs : List V} {g : Bool} (e : Ex H H') (h : ItB R H vs g) : ItB R H' vs g := by
  obtain ⟨b, h1, h2⟩ := h
  exact ⟨b, fun i x hx => kR e (h1 i x hx), h2⟩
theorem TabB.ex {g : Bool} (e : Ex H H') (h : TabB H v g) : TabB H' v g := by
  rcases h with ⟨h, h2⟩ | ⟨a, vs, h1, h2, h3 | ⟨h3, h4, h5⟩⟩
  · exact .inl ⟨h.ex e, h2⟩
  · exact .inr ⟨a, vs, h1, e a _ h2, .inl h3⟩
  · exact .inr ⟨a, vs, h1, e a _ h2, .inr ⟨h3, h4, ItB.ex (R := RowB vs.length) (fun e h => RowB.ex e h) e h5⟩⟩
theorem PartsB.ex {g : Bool} (e : Ex H H') (h : PartsB H v g) : PartsB H' v g := by
  rcases h with ⟨h, h2⟩ | ⟨a, vs, h1, h2, h3, h4⟩
  · exact .inl ⟨h.ex e, h2⟩
  · exact .inr ⟨a, vs, h1, e a _ h2, h3, ItB.ex (R := PartB) (fun e h => PartB.ex e h) e h4⟩
theorem NumsN.ex {n : Nat} (e : Ex H H') (h : NumsN n H v) : NumsN n H' v := by
  rcases h with h | ⟨a, vs, h1, h2, h3, h4 | h4⟩
  · exact .inl (h.ex e)
  · exact .inr ⟨a, vs, h1, e a _ h2, h3, .inl h4⟩
  · exact .inr ⟨a, vs, h1, e a _ h2, h3, .inr (ItB.ex (R := NumB) (fun e h => NumB.ex e h) e h4)⟩
/-- all(..) over items -/
theorem ev_allB {a : Addr} {vs : List V} {R : Hp → V → Bool → Prop} {g : Bool} {tl : TE} {j : Nat} {ws : List Nat} (kR : ∀ {H H' v b}, Ex H H' → R H v b → R H' v b) (h : Ev tl σ H (.ref a)) (ha : H a = some (.lst vs)) (hl : vs.length ≤ 1000) (hv : ItB R H vs g) (hw : ∀ x, wipe ((wipe σ ws).set j (some x)) ws = wipe σ ws)
    (he : ∀ x b H1, Ex H H1 → R H1 x b → Ev te ((wipe σ ws).set j (some x)) H1 (.bl b)) : Ev (tCB (rAll K) (tCons (tLc (iList K tl) (gName j) tYes te ws) tNil)) σ H (.bl g) := by
  obtain ⟨b, h1, rfl⟩ := hv
  refine ev_is (ev_allN (K := K) (bs := (List.range vs.length).map b) (ev_list (el_lcL (K := K) (xs := vs) (fun _ => true) (fun i => .bl (b i)) h (sq_of ha) (by omega) hw (fun i x H1 e hx => et_yes) (fun i x H1 e hx _ => he x (b i) H1 e (kR e (h1 i x hx)))) (by rw [given_all, List.map_map]; rfl))) ?_
  rw [List.all_map]
  rfl
/-! ### good ones -/
theorem tab_B {a : Addr} {n : Nat} {f : Nat → Nat → Bool} (h : H a = some (.lst (tabV n f))) (h1 : 1 ≤ n) (h2 : n ≤ 100) : TabB H (.ref a) true := by
  refine .inr ⟨a, _, rfl, h, .inr ⟨by rw [tabV_len]; exact h1, by rw [tabV_len]; exact h2, fun _ => true, fun i x hx => ?_, by simp⟩⟩
  obtain ⟨hi, rfl⟩ := tabV_some hx
  refine .inl ⟨_, rfl, by rw [rowS_len]; omega, ?_⟩
  rw [rowS_len, tabV_len, row_strip3, decide_eq_true rfl, decide_eq_true rfl]
  rfl
theorem parts_B {a : Addr} {ps : List Int} (h : H a = some (.lst (ps.map V.int))) (hl : ps.length ≤ 600) : PartsB H (.ref a) (ps.all isPart) := by
  refine .inr ⟨a, _, rfl, h, by rw [List.length_map]; exact hl, fun i => isPart ps[i]!, fun i x hx => ?_, ?_⟩
  · obtain ⟨hi, rfl⟩ := intG ps hx
    refine .inl ⟨_, rfl, ?_⟩
    show isPart ps[i]! = isPart ps[i]
    rw [getElem!_pos ps i hi]
  · rw [List.length_map]
    conv => lhs; rw [← range_self ps]
    rw [List.all_map]
    rfl
/-! ### calls that end in a raise -/
theorem s_retC {sp : Sp} {dvs vs : List V} {E : XK} {ts : TA} (h : EvA ts σ H vs) (k : ∀ H1, Ex H H1 → sp (vs ++ dvs) H1 D.rt E) : tRet (tCall sp dvs E ts) D σ H := h H (Ex.refl H) _ fun H1 e => k H1 e
theorem s_dropC {sp : Sp} {dvs vs : List V} {E : XK} {ts : TA} (h : EvA ts σ H vs) (k : ∀ H1, Ex H H1 → sp (vs ++ dvs) H1 (fun _ H2 => D.nx σ H2) E) : tDrop (tCall sp dvs E ts) D σ H := h H (Ex.refl H) _ fun H1 e => k H1 e
theorem s_retCR {sp : Sp} {dvs : List V} {E : XK} {ts : TA} {R : List V → Hp → Prop} (h : EvAR ts σ H R) (k : ∀ vs H1, Ex H H1 → R vs H1 → sp (vs ++ dvs) H1 D.rt E) : tRet (tCall sp dvs E ts) D σ H := h H (Ex.refl H) _ fun vs H1 e hv => k vs H1 e hv
theorem s_dropCR {sp : Sp} {dvs : List V} {E : XK} {ts : TA} {R : List V → Hp → Prop} (h : EvAR ts σ H R) (k : ∀ vs H1, Ex H H1 → R vs H1 → sp (vs ++ dvs) H1 (fun _ H2 => D.nx σ H2) E) : tDrop (tCall sp dvs E ts) D σ H := h H (Ex.refl H) _ fun vs H1 e hv => k vs H1 e hv
/-- what is raised -/
def Out (C : Addr) (H : Hp) (E : XK) : Prop := ∀ H', Ex H H' → E (.ref C) none H'
theorem Out.ex {C : Addr} {E : XK} (e : Ex H H') (h : Out C H E) : Out C H' E := fun H2 e2 => h H2 (e.trans e2)
/-- a table that is good and half alike, or not -/
def HalfB (H : Hp) (v : V) (n : Nat) (g : Bool) : Prop := ∃ (a : Addr) (f : Nat → Nat → Bool), v = .ref a ∧ H a = some (.lst (tabV n f)) ∧ 1 ≤ n ∧ n ≤ 100 ∧ halfB n f = g
theorem HalfB.ex {n : Nat} {g : Bool} (e : Ex H H') (h : HalfB H v n g) : HalfB H' v n g := by
  obtain ⟨a, f, h1, h2, h3⟩ := h
  exact ⟨a, f, h1, e a _ h2, h3⟩
def BadT (H : Hp) (v : V) : Prop := TabB H v false ∨ ∃ n, HalfB H v n false
theorem BadT.ex (e : Ex H H') (h : BadT H v) : BadT H' v := by
  rcases h with h | ⟨n, h⟩
  · exact .inl (h.ex e)
  · exact .inr ⟨n, h.ex e⟩
/-! ### promises -/
def sp_number7 : Sp := fun vs H Q _ => ∃ v b, vs = [v] ∧ NumB H v b ∧ RetV (.bl b) H Q
def sp_row7 : Sp := fun vs H Q _ => ∃ v n b, vs = [v, .int ((n : Nat) : Int)] ∧ RowB n H v b ∧ RetV (.bl b) H Q
def sp_part7 : Sp := fun vs H Q _ => ∃ v b, vs = [v] ∧ PartB H v b ∧ RetV (.bl b) H Q
def sp_asked_table7 (C : Addr) : Sp := fun vs H Q E => ∃ v g, vs = [v] ∧ TabB H v g ∧ (g = true → RetV .non H Q) ∧ (g = false → Out C H E)
def sp_asked_half7 (C : Addr) : Sp := fun vs H Q E => ∃ v, vs = [v] ∧ ((BadT H v ∧ Out C H E) ∨ ((∃ n, HalfB H v n true) ∧ RetV .non H Q))
def sp_asked_parts7 (C : Addr) : Sp := fun vs H Q E => ∃ v g, vs = [v] ∧ PartsB H v g ∧ (g = true → RetV .non H Q) ∧ (g = false → Out C H E)
def sp_bad1 (C : Addr) : Sp := fun vs H _ E => ∃ v, vs = [v] ∧ TabB H v false ∧ Out C H E
def sp_exchanged7 (C : Addr) : Sp := fun vs H Q E => ∃ v, vs = [v] ∧ ((TabB H v false ∧ Out C H E) ∨ ∃ (a : Addr) (n : Nat) (f : Nat → Nat → Bool), v = .ref a ∧ H a = some (.lst (tabV n f)) ∧ 1 ≤ n ∧ n ≤ 100 ∧ RetL (tabV n (trn f)) H Q)
def sp_turned7 (CT CP : Addr) : Sp := fun vs H _ E => ∃ v w, vs = [v, w] ∧ ((TabB H v false ∧ Out CT H E) ∨ ∃ (a : Addr) (n : Nat) (f : Nat → Nat → Bool), v = .ref a ∧ H a = some (.lst (tabV n f)) ∧ 1 ≤ n ∧ n ≤ 100 ∧ PlaceB (n : Int) H w false ∧ Out CP H E)
def sp_product7 (C : Addr) : Sp := fun vs H _ E => ∃ v w, vs = [v, w] ∧ Out C H E ∧ (TabB H v false ∨ ∃ (a : Addr) (n : Nat) (f : Nat → Nat → Bool), v = .ref a ∧ H a = some (.lst (tabV n f)) ∧ 1 ≤ n ∧ n ≤ 100 ∧ (TabB H w false ∨ ∃ (b : Addr) (m : Nat) (g : Nat → Nat → Bool), w = .ref b ∧ H b = some (.lst (tabV m g)) ∧ 1 ≤ m ∧ m ≤ 100 ∧ 100 < n * m))
def sp_order7 (C : Addr) : Sp := fun vs H Q E => ∃ v, vs = [v] ∧ ((PartsB H v false ∧ Out C H E) ∨ ∃ a ps, v = .ref a ∧ PartsAt H a ps ∧ ps.all isPart = true ∧ RetV (.int (prodI ps)) H Q)
def sp_made7 (C : Addr) : Sp := fun vs H _ E => ∃ v, vs = [v] ∧ PartsB H v false ∧ Out C H E
def sp_sign7 (CB CP : Addr) : Sp := fun vs H _ E => ∃ v r c, vs = [v, r, c] ∧ ((PartsB H v false ∧ Out CB H E) ∨ ∃ a ps g, v = .ref a ∧ PartsAt H a ps ∧ ps.all isPart = true ∧ PlaceB (prodI ps) H r g ∧ (g = true → PlaceB (prodI ps) H c false) ∧ Out CP H E)
def sp_asked_numbers7 (CT CN : Addr) : Sp := fun vs H _ E => ∃ v w, vs = [v, w] ∧ ((BadT H v ∧ Out CT H E) ∨ ∃ n, HalfB H v n true ∧ NumsN n H w ∧ Out CN H E)
def sp_read7 (CT CS : Addr) : Sp := fun vs H _ E => ∃ v w, vs = [v, w] ∧ ((BadT H v ∧ Out CT H E) ∨ ∃ n, HalfB H v n true ∧ RowB n H w false ∧ Out CS H E)
def sp_with_table (C : Addr) : Sp := fun vs H _ E => ∃ v, ∃ d : Nat, vs = [.int (d : Int), v] ∧ d < 9 ∧ TabB H v false ∧ Out C H E
def sp_with_half (C : Addr) : Sp := fun vs H _ E => ∃ v, ∃ d : Nat, vs = [.int (d : Int), v] ∧ d < 3 ∧ BadT H v ∧ Out C H E
def sp_bad_table : Sp := fun vs H Q _ => ∃ w m : Nat, vs = [.int (w : Int), .int (m : Int)] ∧ ∀ v H2, Ex H H2 → TabB H2 v false → Q v H2
def sp_others (CB CP CS CN : Addr) : Sp := fun vs H _ E => ∃ k w m : Nat, vs = [.int (k : Int), .int (w : Int), .int (m : Int)] ∧ ((k = 2 ∧ Out CB H E) ∨ (k = 3 ∧ Out CP H E) ∨ (k = 4 ∧ Out CS H E) ∨ (k = 5 ∧ Out CN H E))
/-- which of eight classes: by the kind -/
def dueB (k : Nat) : List Bool := (List.range 7).map (fun i => decide ((if k ≤ 1 then 0 else k - 1) = i)) ++ [true]
def sp_told7 : Sp := fun vs H Q _ => ∃ k w m : Nat, vs = [.int (k : Int), .int (w : Int), .int (m : Int)] ∧ k < 6 ∧ RetL ((dueB k).map V.bl) H Q
/-! ### new lists, of just so many items -/
def AllN (R : V → Hp → Prop) (m : Nat) (vs : List V) (H : Hp) : Prop := vs.length = m ∧ ∀ x ∈ vs, R x H
def LstN (R : V → Hp → Prop) (m : Nat) : V → Hp → Prop := fun v H => ∃ p vs, v = .ref p ∧ H p = some (.lst vs) ∧ AllN R m vs H
theorem kept_allN {R : V → Hp → Prop} {m : Nat} (k : Kept R) : Kept (AllN R m) := fun vs H H' e h => ⟨h.1, fun x hx => k x H H' e (h.2 x hx)⟩
theorem kept_lstN {R : V → Hp → Prop} {m : Nat} (k : Kept R) : Kept (LstN R m) := fun v H H' e ⟨p, vs, h1, h2, h3⟩ => ⟨p, vs, h1, e p _ h2, kept_allN k vs H H' e h3⟩
theorem ean_nil {R : V → Hp → Prop} : EvAR tNil σ H (AllN R 0) := fun H1 _ Q q => q [] H1 (Ex.refl H1) ⟨rfl, fun x hx => nomatch hx⟩
theorem ean_cons {R : V → Hp → Prop} {m : Nat} {ts : TA} (k : Kept R) (ha : EvR ta σ H R) (hs : EvAR ts σ H (AllN R m)) : EvAR (tCons ta ts) σ H (AllN R (m + 1)) := fun H1 e Q q =>
  ha H1 e _ fun v H2 e2 hv => hs H2 (e.trans e2) _ fun vs H3 e3 h3 => q (v :: vs) H3 (e2.trans e3) ⟨by rw [List.length_cons, h3.1], fun x hx => by
    rcases List.mem_cons.mp hx with rfl | hx
    · exact k _ H2 H3 e3 hv
    · exact h3.2 x hx⟩
theorem er_lstN {R : V → Hp → Prop} {m : Nat} {ts : TA} (k : Kept R) (h : EvAR ts σ H (AllN R m)) (hm : m ≤ 1000) : EvR (tLst ts) σ H (LstN R m) := fun H1 e Q q =>
  h H1 e _ fun vs H2 e2 hv => ⟨sz_of (by rw [hv.1]; omega), fun p hp => q _ _ (e2.trans (Ex.new hp)) ⟨p, vs, rfl, upd_same, kept_allN k vs H2 _ (Ex.new hp) hv⟩⟩
theorem er_catN {R : V → Hp → Prop} {m m' : Nat} (k : Kept R) (ha : EvR ta σ H (LstN R m)) (hb : EvR tb σ H (LstN R m')) (hm : m + m' ≤ 1000) : EvR (tOp rCat ta tb) σ H (LstN R (m + m')) := fun H1 e Q q =>
  ha H1 e _ fun w H2 e2 ⟨p, vs, hw, hp, hv⟩ => hb H2 (e.trans e2) _ fun w' H3 e3 ⟨p', vs', hw', hp', hv'⟩ => by
    have h1 := hv.1
    have h2 := hv'.1
    refine ⟨p, p', vs, vs', hw, hw', e3 p _ hp, hp', sz_of (by omega), fun l hl => q _ _ ((e2.trans e3).trans (Ex.new hl)) ⟨l, vs ++ vs', rfl, upd_same, by rw [List.length_append, h1, h2], fun x hx => ?_⟩⟩
    rcases List.mem_append.mp hx with hx | hx
    · exact k x _ _ (e3.trans (Ex.new hl)) (hv.2 x hx)
    · exact k x _ _ (Ex.new hl) (hv'.2 x hx)
theorem er_varN {R : V → Hp → Prop} {m : Nat} {p : Addr} {vs : List V} (k : Kept R) (ha : Ev ta σ H (.ref p)) (hp : H p = some (.lst vs)) (hv : AllN R m vs H) : EvR ta σ H (LstN R m) := fun H1 e Q q => ha H1 e _ fun H2 e2 => q _ H2 e2 ⟨p, vs, rfl, (e.trans e2) p _ hp, kept_allN k vs _ _ (e.trans e2) hv⟩
theorem er_ixN {R : V → Hp → Prop} {m i : Nat} (k : Kept R) (ha : EvR ta σ H (LstN R m)) (hb : Ev tb σ H (.int (i : Int))) (hi : i < m) : EvR (tOp (rIxL K) ta tb) σ H R := fun H1 e Q q =>
  ha H1 e _ fun w H2 e2 ⟨p, vs, hw, hp, hv⟩ => hb H2 (e.trans e2) _ fun H3 e3 => by
    have h1 : i < vs.length := by rw [hv.1]; exact hi
    exact ⟨p, vs, (i : Int), vs[i], hw, rfl, sq_of (e3 p _ hp), atI_nat (List.getElem?_eq_getElem h1), q _ H3 (e2.trans e3) (k _ _ _ e3 (hv.2 _ (List.getElem_mem h1)))⟩
theorem er_mono {R R' : V → Hp → Prop} (h : EvR te σ H R) (k : ∀ v H', R v H' → R' v H') : EvR te σ H R' := fun H1 e Q q => h H1 e Q fun v H2 e2 hv => q v H2 e2 (k v H2 hv)
/-- {} -/
theorem er_dict : EvR tDNewK σ H (fun v H => ∃ a, v = .ref a ∧ H a = some (.dK [])) := fun H1 e Q q p hp => q _ _ (Ex.new hp) ⟨p, rfl, upd_same⟩
theorem er_tupV {ts : TA} {vs : List V} (h : EvA ts σ H vs) (hl : vs.length ≤ 1000) : EvR (tTup ts) σ H (fun v H => ∃ a xs, v = .ref a ∧ H a = some (.tup xs)) := fun H1 e Q q => eu_tup h (by omega) H1 e _ fun p H2 _ e2 h2 => q _ H2 e2 ⟨p, vs, rfl, h2⟩
/-- [[x] for x in xs], each item with what is known of it -/
theorem er_lcOne {R R' : V → Hp → Prop} {m : Nat} {p : Addr} {vs : List V} {tl : TE} {j : Nat} {ws : List Nat} (kR : Kept R) (h : Ev tl σ H (.ref p)) (hp : H p = some (.lst vs)) (hv : AllN R m vs H) (hm : m ≤ 1000) (hw : ∀ x, wipe ((wipe σ ws).set j (some x)) ws = wipe σ ws) (he : ∀ x H1, Ex H H1 → EvL te ((wipe σ ws).set j (some x)) H1 [x])
    (kR' : Kept R') (hR : ∀ a x H', R x H' → H' a = some (.lst [x]) → R' (.ref a) H') : EvR (tLc (iList K tl) (gName j) tYes te ws) σ H (LstN R' m) := fun H0 e Q q => by
  refine h H0 e _ fun H1 e1 => ⟨p, rfl, ⟨vs, sq_of ((e.trans e1) p _ hp)⟩, fun Dl hD => ?_⟩
  have E1 := e.trans e1
  refine lc_list (K := K) (xs := vs) (fun i H' => Ex H1 H' ∧ ∃ acc, H' Dl = some (.lst acc) ∧ acc.length = i ∧ ∀ x ∈ acc, ∃ a y, x = .ref a ∧ a ≠ Dl ∧ H' a = some (.lst [y]) ∧ R y H1) ⟨Ex.new hD, [], upd_same, rfl, fun x hx => nomatch hx⟩ (fun i H' _ q' => sq_of (q'.1 p _ (E1 p _ hp))) (fun i x H' hi q' => ⟨hw x, ?_⟩) (fun H' q' => ?_)
  · obtain ⟨e2, acc, ha, hl, hx⟩ := q'
    have hil : i < 1000 := by
      have z := (List.getElem?_eq_some_iff.mp hi).1
      rw [hv.1] at z
      omega
    show te _ H' _
    refine he x H' (E1.trans e2) H' (Ex.refl H') _ fun a H2 haN e3 h2 => ⟨acc, e3 Dl _ ha, sz_lt (by omega), ?_, acc ++ [.ref a], upd_same, by rw [List.length_append, hl]; rfl, fun y hy => ?_⟩
    · exact Ex.mut (e2.trans e3) hD
    · have hne : a ≠ Dl := Ne.symm (ne_of_none ha haN)
      rcases List.mem_append.mp hy with hy | hy
      · obtain ⟨a', y', h1, h2', h3, h4⟩ := hx y hy
        exact ⟨a', y', h1, h2', by rw [upd_ne h2']; exact e3 a' _ h3, h4⟩
      · rw [List.mem_singleton.mp hy]
        exact ⟨a, x, rfl, hne, by rw [upd_ne hne]; exact h2, kR x _ _ E1 (hv.2 x (List.mem_of_getElem? hi))⟩
  · obtain ⟨e2, acc, ha, hl, hx⟩ := q'
    refine q _ H' (e1.trans e2) ⟨Dl, acc, rfl, ha, by rw [hl, hv.1], fun x hxx => ?_⟩
    obtain ⟨a, y, rfl, _, h3, h4⟩ := hx x hxx
    exact hR a y H' (kR y _ _ e2 h4) h3
theorem s_dropS {sp : Sp} {E : L2.St → XK} {ts : TA} {R : List V → Hp → Prop} (h : EvAR ts σ H R) (k : ∀ vs H1, Ex H H1 → R vs H1 → sp vs H1 (fun _ H2 => D.nx σ H2) (E σ)) : tDrop (tCallS sp E ts) D σ H := h H (Ex.refl H) _ fun vs H1 e hv => k vs H1 e hv
theorem ear_LV {ts : TA} {xs vs : List V} (h : EvR ta σ H (IsL xs)) (hb : EvA ts σ H vs) : EvAR (tCons ta ts) σ H (fun ws H => ∃ p, ws = .ref p :: vs ∧ H p = some (.lst xs)) := fun H1 e Q q =>
  h H1 e _ fun w H2 e2 ⟨p, hw, hp⟩ => hb H2 (e.trans e2) _ fun H3 e3 => q _ H3 (e2.trans e3) ⟨p, by rw [hw], e3 p _ hp⟩
theorem ear_VR {R : V → Hp → Prop} (ha : Ev ta σ H x) (hb : EvR tb σ H R) : EvAR (tCons ta (tCons tb tNil)) σ H (fun ws H => ∃ v, ws = [x, v] ∧ R v H) := fun H1 e Q q =>
  ha H1 e _ fun H2 e2 => hb H2 (e.trans e2) _ fun v H3 e3 hv => q _ H3 (e2.trans e3) ⟨v, rfl, hv⟩
theorem ear_LR {R : V → Hp → Prop} {xs : List V} (h : EvR ta σ H (IsL xs)) (hb : EvR tb σ H R) : EvAR (tCons ta (tCons tb tNil)) σ H (fun ws H => ∃ p v, ws = [.ref p, v] ∧ H p = some (.lst xs) ∧ R v H) := fun H1 e Q q =>
  h H1 e _ fun w H2 e2 ⟨p, hw, hp⟩ => hb H2 (e.trans e2) _ fun v H3 e3 hv => q _ H3 (e2.trans e3) ⟨p, v, by rw [hw], e3 p _ hp, hv⟩
theorem ear_A {ts : TA} {vs : List V} (h : EvA ts σ H vs) : EvAR ts σ H (fun ws _ => ws = vs) := fun H1 e Q q => h H1 e Q fun H2 e2 => q _ H2 e2 rfl
/-! ### bad ones of all kinds -/
def BT : V → Hp → Prop := fun v H => TabB H v false
def PB : V → Hp → Prop := fun v H => PartsB H v false
def RB2 : V → Hp → Prop := fun v H => RowB 2 H v false
def NB2 : V → Hp → Prop := fun v H => NumsN 2 H v
def PlB : V → Hp → Prop := fun v H => PlaceB 8 H v false
def StrV : V → Hp → Prop := fun v H => OthAt H v ∨ (∃ s : Str, v = .str s) ∨ ∃ z : Int, v = .int z ∧ z < 0
theorem kept_BT : Kept BT := fun v H H' e h => TabB.ex e h
theorem kept_PB : Kept PB := fun v H H' e h => PartsB.ex e h
theorem kept_RB2 : Kept RB2 := fun v H H' e h => RowB.ex e h
theorem kept_NB2 : Kept NB2 := fun v H H' e h => NumsN.ex e h
theorem kept_PlB : Kept PlB := fun v H H' e h => PlaceB.ex e h
theorem kept_StrV : Kept StrV := fun v H H' e h => by
  rcases h with h | h | h
  · exact .inl (h.ex e)
  · exact .inr (.inl h)
  · exact .inr (.inr h)
theorem er_v {R : V → Hp → Prop} (h : Ev te σ H v) (hr : ∀ H', R v H') : EvR te σ H R := fun H1 e Q q => h H1 e Q fun H2 e2 => q _ H2 e2 (hr H2)
theorem er_l {R : V → Hp → Prop} {xs : List V} (h : EvL te σ H xs) (hr : ∀ a H', H' a = some (.lst xs) → R (.ref a) H') : EvR te σ H R := fun H1 e Q q => h H1 e Q fun p H2 _ e2 h2 => q _ H2 e2 (hr p H2 h2)
def rowOk (n : Nat) (s : Str) : Bool := decide (s.length = n) && decide (Txt.stripChars s (Str.ofString "+-") = ⟨#[]⟩)
theorem strs_bad {a : Addr} {ss : List Str} (h : H a = some (.lst (ss.map V.str))) (h1 : 1 ≤ ss.length) (h2 : ss.length ≤ 100) (hs : ss.all (fun s => decide (s.length ≤ 1000)) = true) (hb : ss.all (rowOk ss.length) = false) : BT (.ref a) H := by
  refine .inr ⟨a, _, rfl, h, .inr ⟨by rw [List.length_map]; exact h1, by rw [List.length_map]; exact h2, fun i => rowOk ss.length ss[i]!, fun i x hx => ?_, ?_⟩⟩
  · have hi : i < ss.length := by
      have z := (List.getElem?_eq_some_iff.mp hx).1
      rwa [List.length_map] at z
    rw [List.getElem?_map, List.getElem?_eq_getElem hi] at hx
    cases hx
    refine .inl ⟨_, rfl, of_decide_eq_true (List.all_eq_true.mp hs _ (List.getElem_mem hi)), ?_⟩
    show rowOk ss.length ss[i]! = _
    rw [getElem!_pos ss i hi, List.length_map]
    rfl
  · rw [List.length_map, ← hb]
    have e : ss = (List.range ss.length).map (fun i => ss[i]!) := by
      apply List.ext_getElem?
      intro k
      by_cases hk : k < ss.length
      · rw [List.getElem?_map, List.getElem?_range hk, List.getElem?_eq_getElem hk]
        show some ss[k] = some ss[k]!
        rw [getElem!_pos ss k hk]
      · rw [List.getElem?_eq_none (by omega), List.getElem?_eq_none (by rw [List.length_map, List.length_range]; omega)]
    have g : ∀ F : Str → Bool, ss.all F = (List.range ss.length).all fun i => F ss[i]! := fun F => by
      conv => lhs; rw [e]
      rw [List.all_map]
      rfl
    exact g _
/-- a list of one or two, an item that is no row -/
theorem oth_bad {a : Addr} {vs : List V} {k : Nat} {x : V} (h : H a = some (.lst vs)) (h1 : 1 ≤ vs.length) (h2 : vs.length ≤ 100) (hx : vs[k]? = some x) (ho : RowB vs.length H x false) (hr : ∀ (i : Nat) (y : V), vs[i]? = some y → ∃ b, RowB vs.length H y b) : BT (.ref a) H := by
  have hk : k < vs.length := (List.getElem?_eq_some_iff.mp hx).1
  let b : Nat → Bool := fun i => if hi : i < vs.length then (if i = k then false else Classical.choose (hr i vs[i] (List.getElem?_eq_getElem hi))) else false
  refine .inr ⟨a, vs, rfl, h, .inr ⟨h1, h2, b, fun i y hy => ?_, ?_⟩⟩
  · have hi : i < vs.length := (List.getElem?_eq_some_iff.mp hy).1
    by_cases c : i = k
    · subst c
      rw [hx] at hy
      cases hy
      show RowB vs.length H x (b i)
      have e : b i = false := by
        show (if hi : i < vs.length then (if i = i then false else _) else false) = false
        rw [dif_pos hi, if_pos rfl]
      rw [e]
      exact ho
    · have e : b i = Classical.choose (hr i vs[i] (List.getElem?_eq_getElem hi)) := by
        show (if hi : i < vs.length then (if i = k then false else _) else false) = _
        rw [dif_pos hi, if_neg c]
      have ey : vs[i] = y := by
        rw [List.getElem?_eq_getElem hi] at hy
        exact Option.some.inj hy
      have z := Classical.choose_spec (hr i vs[i] (List.getElem?_eq_getElem hi))
      rw [e, ← ey]
      exact z
  · symm
    rw [List.all_eq_false]
    refine ⟨k, List.mem_range.mpr hk, ?_⟩
    show ¬ (if hi : k < vs.length then (if k = k then false else _) else false) = true
    rw [dif_pos hk, if_pos rfl]
    decide
theorem row_any (n : Nat) (s : Str) (hs : s.length ≤ 1000) : RowB n H (.str s) (rowOk n s) := .inl ⟨s, rfl, hs, rfl⟩
theorem one_part {a : Addr} {x : V} {H : Hp} (h : StrV x H) (ha : H a = some (.lst [x])) : PB (.ref a) H := by
  refine .inr ⟨a, [x], rfl, ha, by show 1 ≤ 600; decide, fun _ => false, fun i y hy => ?_, rfl⟩
  have ey : y = x := by
    cases i with
    | zero => exact (Option.some.inj (show some x = some y from hy)).symm
    | succ i => exact absurd hy (by simp)
  subst ey
  rcases h with h | ⟨s, h⟩ | ⟨z, h, hz⟩
  · exact .inr (.inr ⟨h, rfl⟩)
  · exact .inr (.inl ⟨s, h, rfl⟩)
  · refine .inl ⟨z, h, ?_⟩
    unfold isPart
    rw [decide_eq_false (show ¬ (2 : Int) ≤ z by omega)]
    rfl
theorem str_place {x : V} {H : Hp} (h : StrV x H) : PlB x H := by
  rcases h with h | ⟨s, h⟩ | ⟨z, h, hz⟩
  · exact .inr (.inr ⟨h, rfl⟩)
  · exact .inr (.inl ⟨s, h, rfl⟩)
  · refine .inl ⟨z, h, ?_⟩
    rw [decide_eq_false (show ¬ (0 : Int) ≤ z by omega)]
    rfl
theorem int_place {z : Int} {H : Hp} (h : 8 ≤ z) : PlB (.int z) H := by
  refine .inl ⟨z, rfl, ?_⟩
  rw [decide_eq_false (show ¬ z < (8 : Int) by omega), Bool.and_false]
theorem ints_bad {a : Addr} {ps : List Int} (h : H a = some (.lst (ps.map V.int))) (hl : ps.length ≤ 600) (hb : ps.all isPart = false) : PB (.ref a) H := by
  have z := parts_B h hl
  rw [hb] at z
  exact z
theorem part_great {m : Nat} : isPart (10004 + 4 * (m : Int)) = false := by
  unfold isPart
  rw [decide_eq_false (show ¬ (10004 + 4 * (m : Int)) ≤ 10000 by omega), Bool.and_false]
  rfl
theorem nums_bad {a : Addr} {vs : List V} (h : H a = some (.lst vs)) (hl : vs.length ≤ 1000) (hc : vs.length ≠ 2 ∨ ItB NumB H vs false) : NB2 (.ref a) H := .inr ⟨a, vs, rfl, h, hl, hc⟩
/-- [[..]] and [x, (..)] -/
theorem er_listOf {xs : List V} (h : EvL ta σ H xs) : EvR (tLst (tCons ta tNil)) σ H (fun v H => ∃ l p, v = .ref l ∧ H l = some (.lst [.ref p]) ∧ H p = some (.lst xs)) := fun H1 e Q q =>
  h H1 e _ fun p H2 _ e2 h2 => ⟨sz_of (show 1 ≤ 100000 by decide), fun l hl => q _ _ (e2.trans (Ex.new hl)) ⟨l, p, rfl, upd_same, Ex.new hl p _ h2⟩⟩
theorem er_listVU {xs : List V} (ha : Ev ta σ H x) (h : EvU tb σ H xs) : EvR (tLst (tCons ta (tCons tb tNil))) σ H (fun v H => ∃ l p, v = .ref l ∧ H l = some (.lst [x, .ref p]) ∧ H p = some (.tup xs)) := fun H1 e Q q =>
  ha H1 e _ fun H2 e2 => h H2 (e.trans e2) _ fun p H3 _ e3 h3 => ⟨sz_of (show 2 ≤ 100000 by decide), fun l hl => q _ _ ((e2.trans e3).trans (Ex.new hl)) ⟨l, p, rfl, upd_same, Ex.new hl p _ h3⟩⟩
/-! ### lists of truths compared -/
theorem canLay_bls : ∀ zs : List Bool, PyData.canLayAll0 (zs.map .bool) = true
  | [] => rfl
  | z :: r => canLay_bls r
theorem depth_bls : ∀ zs : List Bool, PyData.depthAll (zs.map .bool) = 0
  | [] => rfl
  | z :: r => by
    show max (PyData.depth (.bool z)) (PyData.depthAll (r.map .bool)) = 0
    rw [depth_bls r]
    rfl
theorem shaped_bls (zs : List Bool) : SeqAt.shaped (.list (zs.map .bool)) = true := by
  unfold SeqAt.shaped
  have a : PyData.canLay0 (.list (zs.map .bool)) = true := canLay_bls zs
  have b : PyData.depth (.list (zs.map .bool)) = 1 := by
    show PyData.depthAll (zs.map .bool) + 1 = 1
    rw [depth_bls]
  rw [a, b]
  rfl
theorem eqv_bls : ∀ xs : List Bool, PyData.eqvAll (xs.map .bool) (xs.map .bool) = true
  | [] => rfl
  | x :: xs => by
    show ((x == x) && PyData.eqvAll (xs.map .bool) (xs.map .bool)) = true
    rw [eqv_bls xs]
    simp
theorem dp_bls : ∀ zs : List Bool, DpAll K H (zs.map V.bl) (zs.map .bool)
  | [] => .nil
  | z :: r => .cons (.bl z) (dp_bls r)
theorem rv_neBl {a b : Addr} {xs : List Bool} (ha : SqL K H a (xs.map V.bl)) (hb : SqL K H b (xs.map V.bl)) : RV (rNeD K) (.ref a) (.ref b) H (.bl false) := fun H1 e Q q =>
  ⟨_, _, .lst (ex_l e ha) (dp_bls xs), .lst (ex_l e hb) (dp_bls xs), shaped_bls xs, shaped_bls xs, by
    rw [show PyData.eqv (.list (xs.map .bool)) (.list (xs.map .bool)) = true from eqv_bls xs]
    exact q H1 (Ex.refl H1)⟩
end
theorem strip0 (n : Nat) (h1 : 2 ≤ n) (h2 : n ≤ 6) : decide (Txt.stripChars (rowS (n - 1) (fun _ => true) ++ Str.ofString "0") (Str.ofString "+-") = ⟨#[]⟩) = false := by
  have c : n = 2 ∨ n = 3 ∨ n = 4 ∨ n = 5 ∨ n = 6 := by omega
  rcases c with rfl | rfl | rfl | rfl | rfl <;> decide +kernel
/-- what is put in for a row -/
def badL (n : Nat) : List V := [.str (rowS (n + 1) fun _ => true), .str (rowS (n - 1) fun _ => true), .str (rowS (n - 1) (fun _ => true) ++ Str.ofString "0"), .non]
theorem badL_bad {n : Nat} {j : Nat} {x : V} {H : Hp} (h1 : 2 ≤ n) (h2 : n ≤ 6) (hx : (badL n)[j]? = some x) : RowB n H x false := by
  have len0 : (rowS (n - 1) (fun _ => true) ++ Str.ofString "0").length = n := by
    show ((rowS (n - 1) (fun _ => true) ++ Str.ofString "0" : Str).cps).size = n
    rw [app_cps, Array.size_append, rowS_size]
    show n - 1 + 1 = n
    omega
  match j, hx with
  | 0, hx =>
    cases hx
    refine .inl ⟨_, rfl, by rw [rowS_len]; omega, ?_⟩
    rw [rowS_len, decide_eq_false (show ¬ n + 1 = n by omega)]
    rfl
  | 1, hx =>
    cases hx
    refine .inl ⟨_, rfl, by rw [rowS_len]; omega, ?_⟩
    rw [rowS_len, decide_eq_false (show ¬ n - 1 = n by omega)]
    rfl
  | 2, hx =>
    cases hx
    refine .inl ⟨_, rfl, by rw [len0]; omega, ?_⟩
    rw [strip0 n h1 h2, Bool.and_false]
  | 3, hx =>
    cases hx
    exact .inr (.inr ⟨.inl rfl, rfl⟩)
  | k + 4, hx => exact absurd hx (by simp [badL])
end HA

end
section
set_option maxRecDepth 100000
set_option maxHeartbeats 4000000
namespace HA
open PySem PySem.Spec PyProof.Rows L2 Evl
def topS (i : Nat) : Stmt := PySem.Challenge.pw_halfalike_k07_refused.main.body.getD i (.Pass ⟨0, 0, 0, 0⟩)
abbrev s_is_number : Stmt := topS 12
theorem sc_is_number : FnScope ["thing"] ["thing"] (defScope s_is_number) := ⟨rfl, rfl, rfl, by decide +kernel, rfl, by decide +kernel, by decide +kernel⟩
abbrev s_is_row : Stmt := topS 13
theorem sc_is_row : FnScope ["thing", "size"] ["thing", "size"] (defScope s_is_row) := ⟨rfl, rfl, rfl, by decide +kernel, rfl, by decide +kernel, by decide +kernel⟩
abbrev s_asked_table : Stmt := topS 14
theorem sc_asked_table : FnScope ["table", "row"] ["table"] (defScope s_asked_table) := ⟨rfl, rfl, rfl, by decide +kernel, rfl, by decide +kernel, by decide +kernel⟩
abbrev s_alike : Stmt := topS 15
theorem sc_alike : FnScope ["one", "other", "place", "sign"] ["one", "other"] (defScope s_alike) := ⟨rfl, rfl, rfl, by decide +kernel, rfl, by decide +kernel, by decide +kernel⟩
abbrev s_first_unlike : Stmt := topS 16
theorem sc_first_unlike : FnScope ["table", "other", "one"] ["table"] (defScope s_first_unlike) := ⟨rfl, rfl, rfl, by decide +kernel, rfl, by decide +kernel, by decide +kernel⟩
abbrev s_asked_half : Stmt := topS 17
theorem sc_asked_half : FnScope ["table"] ["table"] (defScope s_asked_half) := ⟨rfl, rfl, rfl, by decide +kernel, rfl, by decide +kernel, by decide +kernel⟩
abbrev s_exchanged_of : Stmt := topS 19
theorem sc_exchanged_of : FnScope ["table", "place", "row"] ["table"] (defScope s_exchanged_of) := ⟨rfl, rfl, rfl, by decide +kernel, rfl, by decide +kernel, by decide +kernel⟩
abbrev s_exchanged : Stmt := topS 20
theorem sc_exchanged : FnScope ["table"] ["table"] (defScope s_exchanged) := ⟨rfl, rfl, rfl, by decide +kernel, rfl, by decide +kernel, by decide +kernel⟩
abbrev s_turned : Stmt := topS 21
theorem sc_turned : FnScope ["table", "row", "at", "signs"] ["table", "row"] (defScope s_turned) := ⟨rfl, rfl, rfl, by decide +kernel, rfl, by decide +kernel, by decide +kernel⟩
abbrev s_evened : Stmt := topS 23
theorem sc_evened : FnScope ["table"] ["table"] (defScope s_evened) := ⟨rfl, rfl, rfl, by decide +kernel, rfl, by decide +kernel, by decide +kernel⟩
abbrev s_product : Stmt := topS 24
theorem sc_product : FnScope ["one", "other", "found", "high", "low", "sign"] ["one", "other"] (defScope s_product) := ⟨rfl, rfl, rfl, by decide +kernel, rfl, by decide +kernel, by decide +kernel⟩
abbrev s_is_prime : Stmt := topS 27
theorem sc_is_prime : FnScope ["number", "by"] ["number"] (defScope s_is_prime) := ⟨rfl, rfl, rfl, by decide +kernel, rfl, by decide +kernel, by decide +kernel⟩
abbrev s_is_part : Stmt := topS 28
theorem sc_is_part : FnScope ["thing"] ["thing"] (defScope s_is_part) := ⟨rfl, rfl, rfl, by decide +kernel, rfl, by decide +kernel, by decide +kernel⟩
abbrev s_asked_parts : Stmt := topS 29
theorem sc_asked_parts : FnScope ["parts", "part"] ["parts"] (defScope s_asked_parts) := ⟨rfl, rfl, rfl, by decide +kernel, rfl, by decide +kernel, by decide +kernel⟩
abbrev s_multiplied : Stmt := topS 30
theorem sc_multiplied : FnScope ["parts", "found", "part"] ["parts"] (defScope s_multiplied) := ⟨rfl, rfl, rfl, by decide +kernel, rfl, by decide +kernel, by decide +kernel⟩
abbrev s_order : Stmt := topS 31
theorem sc_order : FnScope ["parts"] ["parts"] (defScope s_order) := ⟨rfl, rfl, rfl, by decide +kernel, rfl, by decide +kernel, by decide +kernel⟩
abbrev s_sign_at : Stmt := topS 35
theorem sc_sign_at : FnScope ["parts", "row", "column", "size", "place"] ["parts", "row", "column"] (defScope s_sign_at) := ⟨rfl, rfl, rfl, by decide +kernel, rfl, by decide +kernel, by decide +kernel⟩
abbrev s_made : Stmt := topS 36
theorem sc_made : FnScope ["parts", "size", "found", "row", "column"] ["parts"] (defScope s_made) := ⟨rfl, rfl, rfl, by decide +kernel, rfl, by decide +kernel, by decide +kernel⟩
abbrev s_told : Stmt := topS 45
theorem sc_told : FnScope ["table", "pair"] ["table"] (defScope s_told) := ⟨rfl, rfl, rfl, by decide +kernel, rfl, by decide +kernel, by decide +kernel⟩
abbrev s_asked_numbers : Stmt := topS 46
theorem sc_asked_numbers : FnScope ["table", "numbers", "one"] ["table", "numbers"] (defScope s_asked_numbers) := ⟨rfl, rfl, rfl, by decide +kernel, rfl, by decide +kernel, by decide +kernel⟩
abbrev s_worths : Stmt := topS 48
theorem sc_worths : FnScope ["table", "numbers", "row"] ["table", "numbers"] (defScope s_worths) := ⟨rfl, rfl, rfl, by decide +kernel, rfl, by decide +kernel, by decide +kernel⟩
abbrev s_numbers_of : Stmt := topS 49
theorem sc_numbers_of : FnScope ["table", "told_worths", "size", "sums", "place", "row", "one"] ["table", "told_worths"] (defScope s_numbers_of) := ⟨rfl, rfl, rfl, by decide +kernel, rfl, by decide +kernel, by decide +kernel⟩
abbrev s_read : Stmt := topS 50
theorem sc_read : FnScope ["table", "signs", "at", "row", "plain"] ["table", "signs"] (defScope s_read) := ⟨rfl, rfl, rfl, by decide +kernel, rfl, by decide +kernel, by decide +kernel⟩
abbrev s_L_with_half : Stmt := topS 53
theorem sc_L_with_half : FnScope ["_law_door", "_law_table"] ["_law_door", "_law_table"] (defScope s_L_with_half) := ⟨rfl, rfl, rfl, by decide +kernel, rfl, by decide +kernel, by decide +kernel⟩
abbrev s_L_with_table : Stmt := topS 52
theorem sc_L_with_table : FnScope ["_law_door", "_law_table"] ["_law_door", "_law_table"] (defScope s_L_with_table) := ⟨rfl, rfl, rfl, by decide +kernel, rfl, by decide +kernel, by decide +kernel⟩
abbrev s_L_bad_table : Stmt := topS 54
theorem sc_L_bad_table : FnScope ["_law_which", "_law_more", "_law_bad", "_law_size", "_law_rows", "_law_row"] ["_law_which", "_law_more"] (defScope s_L_bad_table) := ⟨rfl, rfl, rfl, by decide +kernel, rfl, by decide +kernel, by decide +kernel⟩
abbrev s_L_others : Stmt := topS 55
theorem sc_L_others : FnScope ["_law_kind", "_law_which", "_law_more", "_law_strange", "_law_bad", "_law_door", "_law_table", "_law_one"] ["_law_kind", "_law_which", "_law_more"] (defScope s_L_others) := ⟨rfl, rfl, rfl, by decide +kernel, rfl, by decide +kernel, by decide +kernel⟩
abbrev s_L_told : Stmt := topS 56
theorem sc_L_told : FnScope ["_law_kind", "_law_which", "_law_more", "_law_some", "error", "_law_found"] ["_law_kind", "_law_which", "_law_more"] (defScope s_L_told) := ⟨rfl, rfl, rfl, by decide +kernel, rfl, by decide +kernel, by decide +kernel⟩
abbrev s_law : Stmt := topS 57
theorem sc_law : FnScope ["_law_script", "_law_cell", "_law_kind", "_law_sort", "_law_due", "_law_at"] ["_law_script"] (defScope s_law) := ⟨rfl, rfl, rfl, by decide +kernel, rfl, by decide +kernel, by decide +kernel⟩
/-- what the top has written -/
structure Txt (K : PySem.W.Frag) (mg : Str → Option Value) where
  a_is_number : Addr
  d_is_number : FuncData
  F_is_number : Fun K "is_number" "is_number" s_is_number a_is_number d_is_number
  b_is_number : Binds K d_is_number ["thing"] []
  g_is_number : mg "is_number" = some (.ref a_is_number)
  a_is_row : Addr
  d_is_row : FuncData
  F_is_row : Fun K "is_row" "is_row" s_is_row a_is_row d_is_row
  b_is_row : Binds K d_is_row ["thing", "size"] []
  g_is_row : mg "is_row" = some (.ref a_is_row)
  a_asked_table : Addr
  d_asked_table : FuncData
  F_asked_table : Fun K "asked_table" "asked_table" s_asked_table a_asked_table d_asked_table
  b_asked_table : Binds K d_asked_table ["table"] []
  g_asked_table : mg "asked_table" = some (.ref a_asked_table)
  a_alike : Addr
  d_alike : FuncData
  F_alike : Fun K "alike" "alike" s_alike a_alike d_alike
  b_alike : Binds K d_alike ["one", "other"] []
  g_alike : mg "alike" = some (.ref a_alike)
  a_first_unlike : Addr
  d_first_unlike : FuncData
  F_first_unlike : Fun K "first_unlike" "first_unlike" s_first_unlike a_first_unlike d_first_unlike
  b_first_unlike : Binds K d_first_unlike ["table"] []
  g_first_unlike : mg "first_unlike" = some (.ref a_first_unlike)
  a_asked_half : Addr
  d_asked_half : FuncData
  F_asked_half : Fun K "asked_half" "asked_half" s_asked_half a_asked_half d_asked_half
  b_asked_half : Binds K d_asked_half ["table"] []
  g_asked_half : mg "asked_half" = some (.ref a_asked_half)
  a_exchanged_of : Addr
  d_exchanged_of : FuncData
  F_exchanged_of : Fun K "exchanged_of" "exchanged_of" s_exchanged_of a_exchanged_of d_exchanged_of
  b_exchanged_of : Binds K d_exchanged_of ["table"] []
  g_exchanged_of : mg "exchanged_of" = some (.ref a_exchanged_of)
  a_exchanged : Addr
  d_exchanged : FuncData
  F_exchanged : Fun K "exchanged" "exchanged" s_exchanged a_exchanged d_exchanged
  b_exchanged : Binds K d_exchanged ["table"] []
  g_exchanged : mg "exchanged" = some (.ref a_exchanged)
  a_turned : Addr
  d_turned : FuncData
  F_turned : Fun K "turned" "turned" s_turned a_turned d_turned
  b_turned : Binds K d_turned ["table", "row"] []
  g_turned : mg "turned" = some (.ref a_turned)
  a_evened : Addr
  d_evened : FuncData
  F_evened : Fun K "evened" "evened" s_evened a_evened d_evened
  b_evened : Binds K d_evened ["table"] []
  g_evened : mg "evened" = some (.ref a_evened)
  a_product : Addr
  d_product : FuncData
  F_product : Fun K "product" "product" s_product a_product d_product
  b_product : Binds K d_product ["one", "other"] []
  g_product : mg "product" = some (.ref a_product)
  a_is_prime : Addr
  d_is_prime : FuncData
  F_is_prime : Fun K "is_prime" "is_prime" s_is_prime a_is_prime d_is_prime
  b_is_prime : Binds K d_is_prime ["number"] []
  g_is_prime : mg "is_prime" = some (.ref a_is_prime)
  a_is_part : Addr
  d_is_part : FuncData
  F_is_part : Fun K "is_part" "is_part" s_is_part a_is_part d_is_part
  b_is_part : Binds K d_is_part ["thing"] []
  g_is_part : mg "is_part" = some (.ref a_is_part)
  a_asked_parts : Addr
  d_asked_parts : FuncData
  F_asked_parts : Fun K "asked_parts" "asked_parts" s_asked_parts a_asked_parts d_asked_parts
  b_asked_parts : Binds K d_asked_parts ["parts"] []
  g_asked_parts : mg "asked_parts" = some (.ref a_asked_parts)
  a_multiplied : Addr
  d_multiplied : FuncData
  F_multiplied : Fun K "multiplied" "multiplied" s_multiplied a_multiplied d_multiplied
  b_multiplied : Binds K d_multiplied ["parts"] []
  g_multiplied : mg "multiplied" = some (.ref a_multiplied)
  a_order : Addr
  d_order : FuncData
  F_order : Fun K "order" "order" s_order a_order d_order
  b_order : Binds K d_order ["parts"] []
  g_order : mg "order" = some (.ref a_order)
  a_sign_at : Addr
  d_sign_at : FuncData
  F_sign_at : Fun K "sign_at" "sign_at" s_sign_at a_sign_at d_sign_at
  b_sign_at : Binds K d_sign_at ["parts", "row", "column"] []
  g_sign_at : mg "sign_at" = some (.ref a_sign_at)
  a_made : Addr
  d_made : FuncData
  F_made : Fun K "made" "made" s_made a_made d_made
  b_made : Binds K d_made ["parts"] []
  g_made : mg "made" = some (.ref a_made)
  a_told : Addr
  d_told : FuncData
  F_told : Fun K "told" "told" s_told a_told d_told
  b_told : Binds K d_told ["table"] []
  g_told : mg "told" = some (.ref a_told)
  a_asked_numbers : Addr
  d_asked_numbers : FuncData
  F_asked_numbers : Fun K "asked_numbers" "asked_numbers" s_asked_numbers a_asked_numbers d_asked_numbers
  b_asked_numbers : Binds K d_asked_numbers ["table", "numbers"] []
  g_asked_numbers : mg "asked_numbers" = some (.ref a_asked_numbers)
  a_worths : Addr
  d_worths : FuncData
  F_worths : Fun K "worths" "worths" s_worths a_worths d_worths
  b_worths : Binds K d_worths ["table", "numbers"] []
  g_worths : mg "worths" = some (.ref a_worths)
  a_numbers_of : Addr
  d_numbers_of : FuncData
  F_numbers_of : Fun K "numbers_of" "numbers_of" s_numbers_of a_numbers_of d_numbers_of
  b_numbers_of : Binds K d_numbers_of ["table", "told_worths"] []
  g_numbers_of : mg "numbers_of" = some (.ref a_numbers_of)
  a_read : Addr
  d_read : FuncData
  F_read : Fun K "read" "read" s_read a_read d_read
  b_read : Binds K d_read ["table", "signs"] []
  g_read : mg "read" = some (.ref a_read)
  a_L_with_half : Addr
  d_L_with_half : FuncData
  F_L_with_half : Fun K "_law_with_half" "_law_with_half" s_L_with_half a_L_with_half d_L_with_half
  b_L_with_half : Binds K d_L_with_half ["_law_door", "_law_table"] []
  g_L_with_half : mg "_law_with_half" = some (.ref a_L_with_half)
  a_L_with_table : Addr
  d_L_with_table : FuncData
  F_L_with_table : Fun K "_law_with_table" "_law_with_table" s_L_with_table a_L_with_table d_L_with_table
  b_L_with_table : Binds K d_L_with_table ["_law_door", "_law_table"] []
  g_L_with_table : mg "_law_with_table" = some (.ref a_L_with_table)
  a_L_bad_table : Addr
  d_L_bad_table : FuncData
  F_L_bad_table : Fun K "_law_bad_table" "_law_bad_table" s_L_bad_table a_L_bad_table d_L_bad_table
  b_L_bad_table : Binds K d_L_bad_table ["_law_which", "_law_more"] []
  g_L_bad_table : mg "_law_bad_table" = some (.ref a_L_bad_table)
  a_L_others : Addr
  d_L_others : FuncData
  F_L_others : Fun K "_law_others" "_law_others" s_L_others a_L_others d_L_others
  b_L_others : Binds K d_L_others ["_law_kind", "_law_which", "_law_more"] []
  g_L_others : mg "_law_others" = some (.ref a_L_others)
  a_L_told : Addr
  d_L_told : FuncData
  F_L_told : Fun K "_law_told" "_law_told" s_L_told a_L_told d_L_told
  b_L_told : Binds K d_L_told ["_law_kind", "_law_which", "_law_more"] []
  g_L_told : mg "_law_told" = some (.ref a_L_told)
  a_law : Addr
  d_law : FuncData
  F_law : Fun K "law" "law" s_law a_law d_law
  b_law : Binds K d_law ["_law_script"] []
  g_law : mg "law" = some (.ref a_law)
  m_isinstance : mg "isinstance" = none
  m_int : mg "int" = none
  m_bool : mg "bool" = none
  m_str : mg "str" = none
  m_len : mg "len" = none
  m_all : mg "all" = none
  m_list : mg "list" = none
  m_enumerate : mg "enumerate" = none
  m_range : mg "range" = none
  m_any : mg "any" = none
  m_ValueError : mg "ValueError" = none
  k_MOST : Tok
  g_MOST : mg "MOST" = some (.int 100 k_MOST)
  k_GREATEST : Tok
  g_GREATEST : mg "GREATEST" = some (.int 10000 k_GREATEST)
  C_SignError : Addr
  g_SignError : mg "SignError" = some (.ref C_SignError)
  C_BadTable : Addr
  g_BadTable : mg "BadTable" = some (.ref C_BadTable)
  C_BadParts : Addr
  g_BadParts : mg "BadParts" = some (.ref C_BadParts)
  C_BadPlace : Addr
  g_BadPlace : mg "BadPlace" = some (.ref C_BadPlace)
  C_BadSigns : Addr
  g_BadSigns : mg "BadSigns" = some (.ref C_BadSigns)
  C_BadNumbers : Addr
  g_BadNumbers : mg "BadNumbers" = some (.ref C_BadNumbers)
  C_NoNumbers : Addr
  g_NoNumbers : mg "NoNumbers" = some (.ref C_NoNumbers)
  C_TooGreat : Addr
  g_TooGreat : mg "TooGreat" = some (.ref C_TooGreat)
  x_BadTable : PySem.W.excIn K C_BadTable [.type "ValueError", .type "Exception", .type "BaseException", .type "object"] "ValueError.__new__" = true
  k_BadTable : PySem.W.keepIn K (.ref C_BadTable) = true
  eb_BadTable : PySem.W.subIn K (.ref C_BadTable) (.type "BaseException") = some true
  et_BadTable : PySem.W.typeIn K (.ref C_BadTable) = some (.type "type")
  ec_BadTable : ExcC K C_BadTable
  x_BadParts : PySem.W.excIn K C_BadParts [.type "ValueError", .type "Exception", .type "BaseException", .type "object"] "ValueError.__new__" = true
  k_BadParts : PySem.W.keepIn K (.ref C_BadParts) = true
  eb_BadParts : PySem.W.subIn K (.ref C_BadParts) (.type "BaseException") = some true
  et_BadParts : PySem.W.typeIn K (.ref C_BadParts) = some (.type "type")
  ec_BadParts : ExcC K C_BadParts
  x_BadPlace : PySem.W.excIn K C_BadPlace [.type "ValueError", .type "Exception", .type "BaseException", .type "object"] "ValueError.__new__" = true
  k_BadPlace : PySem.W.keepIn K (.ref C_BadPlace) = true
  eb_BadPlace : PySem.W.subIn K (.ref C_BadPlace) (.type "BaseException") = some true
  et_BadPlace : PySem.W.typeIn K (.ref C_BadPlace) = some (.type "type")
  ec_BadPlace : ExcC K C_BadPlace
  x_BadSigns : PySem.W.excIn K C_BadSigns [.type "ValueError", .type "Exception", .type "BaseException", .type "object"] "ValueError.__new__" = true
  k_BadSigns : PySem.W.keepIn K (.ref C_BadSigns) = true
  eb_BadSigns : PySem.W.subIn K (.ref C_BadSigns) (.type "BaseException") = some true
  et_BadSigns : PySem.W.typeIn K (.ref C_BadSigns) = some (.type "type")
  ec_BadSigns : ExcC K C_BadSigns
  x_BadNumbers : PySem.W.excIn K C_BadNumbers [.type "ValueError", .type "Exception", .type "BaseException", .type "object"] "ValueError.__new__" = true
  k_BadNumbers : PySem.W.keepIn K (.ref C_BadNumbers) = true
  eb_BadNumbers : PySem.W.subIn K (.ref C_BadNumbers) (.type "BaseException") = some true
  et_BadNumbers : PySem.W.typeIn K (.ref C_BadNumbers) = some (.type "type")
  ec_BadNumbers : ExcC K C_BadNumbers
  ek_BadTable_BadTable : PySem.W.kitOne K (.ref C_BadTable) (.ref C_BadTable) = some true
  ek_BadTable_BadParts : PySem.W.kitOne K (.ref C_BadTable) (.ref C_BadParts) = some false
  ek_BadTable_BadPlace : PySem.W.kitOne K (.ref C_BadTable) (.ref C_BadPlace) = some false
  ek_BadTable_BadSigns : PySem.W.kitOne K (.ref C_BadTable) (.ref C_BadSigns) = some false
  ek_BadTable_BadNumbers : PySem.W.kitOne K (.ref C_BadTable) (.ref C_BadNumbers) = some false
  ek_BadTable_NoNumbers : PySem.W.kitOne K (.ref C_BadTable) (.ref C_NoNumbers) = some false
  ek_BadTable_TooGreat : PySem.W.kitOne K (.ref C_BadTable) (.ref C_TooGreat) = some false
  ek_BadTable_ValueError : PySem.W.kitOne K (.ref C_BadTable) (.type "ValueError") = some true
  ek_BadParts_BadTable : PySem.W.kitOne K (.ref C_BadParts) (.ref C_BadTable) = some false
  ek_BadParts_BadParts : PySem.W.kitOne K (.ref C_BadParts) (.ref C_BadParts) = some true
  ek_BadParts_BadPlace : PySem.W.kitOne K (.ref C_BadParts) (.ref C_BadPlace) = some false
  ek_BadParts_BadSigns : PySem.W.kitOne K (.ref C_BadParts) (.ref C_BadSigns) = some false
  ek_BadParts_BadNumbers : PySem.W.kitOne K (.ref C_BadParts) (.ref C_BadNumbers) = some false
  ek_BadParts_NoNumbers : PySem.W.kitOne K (.ref C_BadParts) (.ref C_NoNumbers) = some false
  ek_BadParts_TooGreat : PySem.W.kitOne K (.ref C_BadParts) (.ref C_TooGreat) = some false
  ek_BadParts_ValueError : PySem.W.kitOne K (.ref C_BadParts) (.type "ValueError") = some true
  ek_BadPlace_BadTable : PySem.W.kitOne K (.ref C_BadPlace) (.ref C_BadTable) = some false
  ek_BadPlace_BadParts : PySem.W.kitOne K (.ref C_BadPlace) (.ref C_BadParts) = some false
  ek_BadPlace_BadPlace : PySem.W.kitOne K (.ref C_BadPlace) (.ref C_BadPlace) = some true
  ek_BadPlace_BadSigns : PySem.W.kitOne K (.ref C_BadPlace) (.ref C_BadSigns) = some false
  ek_BadPlace_BadNumbers : PySem.W.kitOne K (.ref C_BadPlace) (.ref C_BadNumbers) = some false
  ek_BadPlace_NoNumbers : PySem.W.kitOne K (.ref C_BadPlace) (.ref C_NoNumbers) = some false
  ek_BadPlace_TooGreat : PySem.W.kitOne K (.ref C_BadPlace) (.ref C_TooGreat) = some false
  ek_BadPlace_ValueError : PySem.W.kitOne K (.ref C_BadPlace) (.type "ValueError") = some true
  ek_BadSigns_BadTable : PySem.W.kitOne K (.ref C_BadSigns) (.ref C_BadTable) = some false
  ek_BadSigns_BadParts : PySem.W.kitOne K (.ref C_BadSigns) (.ref C_BadParts) = some false
  ek_BadSigns_BadPlace : PySem.W.kitOne K (.ref C_BadSigns) (.ref C_BadPlace) = some false
  ek_BadSigns_BadSigns : PySem.W.kitOne K (.ref C_BadSigns) (.ref C_BadSigns) = some true
  ek_BadSigns_BadNumbers : PySem.W.kitOne K (.ref C_BadSigns) (.ref C_BadNumbers) = some false
  ek_BadSigns_NoNumbers : PySem.W.kitOne K (.ref C_BadSigns) (.ref C_NoNumbers) = some false
  ek_BadSigns_TooGreat : PySem.W.kitOne K (.ref C_BadSigns) (.ref C_TooGreat) = some false
  ek_BadSigns_ValueError : PySem.W.kitOne K (.ref C_BadSigns) (.type "ValueError") = some true
  ek_BadNumbers_BadTable : PySem.W.kitOne K (.ref C_BadNumbers) (.ref C_BadTable) = some false
  ek_BadNumbers_BadParts : PySem.W.kitOne K (.ref C_BadNumbers) (.ref C_BadParts) = some false
  ek_BadNumbers_BadPlace : PySem.W.kitOne K (.ref C_BadNumbers) (.ref C_BadPlace) = some false
  ek_BadNumbers_BadSigns : PySem.W.kitOne K (.ref C_BadNumbers) (.ref C_BadSigns) = some false
  ek_BadNumbers_BadNumbers : PySem.W.kitOne K (.ref C_BadNumbers) (.ref C_BadNumbers) = some true
  ek_BadNumbers_NoNumbers : PySem.W.kitOne K (.ref C_BadNumbers) (.ref C_NoNumbers) = some false
  ek_BadNumbers_TooGreat : PySem.W.kitOne K (.ref C_BadNumbers) (.ref C_TooGreat) = some false
  ek_BadNumbers_ValueError : PySem.W.kitOne K (.ref C_BadNumbers) (.type "ValueError") = some true
  em_BadTable_SignError : PySem.W.exmOne K (.ref C_BadTable) (.ref C_SignError) = some true
  em_BadParts_SignError : PySem.W.exmOne K (.ref C_BadParts) (.ref C_SignError) = some true
  em_BadPlace_SignError : PySem.W.exmOne K (.ref C_BadPlace) (.ref C_SignError) = some true
  em_BadSigns_SignError : PySem.W.exmOne K (.ref C_BadSigns) (.ref C_SignError) = some true
  em_BadNumbers_SignError : PySem.W.exmOne K (.ref C_BadNumbers) (.ref C_SignError) = some true
end HA

end
section
set_option maxRecDepth 100000
set_option maxHeartbeats 4000000
namespace HA
open PySem PySem.Spec PyProof.Rows L2 Evl
section
variable {P : Program} {w : World} {K : PySem.W.Frag} {mg : Str → Option Value} {base : Heap}
theorem ok_is_number (T : Txt K mg) : FnOk P w K mg base CX0 1 T.a_is_number T.d_is_number ["thing"] sp_number7 := by
  refine T.F_is_number.ok sc_is_number (fun vs H Q E h => ?_) (fun cdv A outer s H vs Q E hr h => ?_)
  · obtain ⟨v, b, rfl, _⟩ := h
    rfl
  · obtain ⟨v, b, rfl, hv, q⟩ := h
    refine ⟨_, pss_one (ps_ret (pe_and (pe_callB call_isi (by rfl) T.m_isinstance (by decide +kernel) (pa_cons (pv 0) (pa_cons (pe_bltn (v := .ty "int") (by rfl) T.m_int (by decide +kernel) rfl) pa_nil))) (pe_one (pe_not (pe_callB call_isi (by rfl) T.m_isinstance (by decide +kernel) (pa_cons (pv 0) (pa_cons (pe_bltn (v := .ty "bool") (by rfl) T.m_bool (by decide +kernel) rfl) pa_nil))))))), ?_⟩
    refine s_ret (v := .bl b) ?_ fun H1 e1 => q H1 e1
    rcases hv with ⟨z, rfl, rfl⟩ | ⟨st, rfl, rfl⟩ | ⟨ho, rfl⟩
    · exact ev_is (ev_andV (ev_isiN (n := "int") (b := true) (ev_var rfl) (fun H' e => .base (.int z)) (by decide +kernel)) fun _ => ev_notV (ev_isiN (n := "int") (b := false) (ev_var rfl) (fun H' e => .base (.int z)) (by decide +kernel))) rfl
    · exact ev_andV (a := false) (b := false) (ev_isiN (n := "str") (b := false) (ev_var rfl) (fun H' e => .base (.str st)) (by decide +kernel)) (fun hz => nomatch hz)
    · rcases ho.ty (K := K) with ht | ht | ht | ht | ht
      · exact ev_andV (a := false) (b := false) (ev_isiN (b := false) (ev_var rfl) ht (by decide +kernel)) (fun hz => nomatch hz)
      · exact ev_is (ev_andV (ev_isiN (b := true) (ev_var rfl) ht (by decide +kernel)) fun _ => ev_notV (ev_isiN (b := true) (ev_var rfl) ht (by decide +kernel))) rfl
      · exact ev_andV (a := false) (b := false) (ev_isiN (b := false) (ev_var rfl) ht (by decide +kernel)) (fun hz => nomatch hz)
      · exact ev_andV (a := false) (b := false) (ev_isiN (b := false) (ev_var rfl) ht (by decide +kernel)) (fun hz => nomatch hz)
      · exact ev_andV (a := false) (b := false) (ev_isiN (b := false) (ev_var rfl) ht (by decide +kernel)) (fun hz => nomatch hz)

end
end HA

end
section
set_option maxRecDepth 100000
set_option maxHeartbeats 4000000
namespace HA
open PySem PySem.Spec PyProof.Rows L2 Evl
section
variable {P : Program} {w : World} {K : PySem.W.Frag} {mg : Str → Option Value} {base : Heap}
theorem ok_is_row (T : Txt K mg) : FnOk P w K mg base CX0 1 T.a_is_row T.d_is_row ["thing", "size"] sp_row7 := by
  refine T.F_is_row.ok sc_is_row (fun vs H Q E h => ?_) (fun cdv A outer s H vs Q E hr h => ?_)
  · obtain ⟨v, n, b, rfl, _⟩ := h
    rfl
  · obtain ⟨v, n, b, rfl, hv, q⟩ := h
    refine ⟨_, pss_one (ps_ret (pe_and (pe_callB call_isi (by rfl) T.m_isinstance (by decide +kernel) (pa_cons (pv 0) (pa_cons (pe_bltn (v := .ty "str") (by rfl) T.m_str (by decide +kernel) rfl) pa_nil))) (pe_and (pe_cmpR op_eq (pe_callB call_len_str (by rfl) T.m_len (by decide +kernel) (pa_cons (pv 0) pa_nil)) (pv 1) (nomark _)) (pe_one (pe_cmpR op_eq (pe_bm PySem.F.plainAttrs_str PySem.F.slot_str_strip PySem.F.type_str_strip mt_stripChars (pv 0) (pa_cons pe_str pa_nil)) pe_str (nomark _)))))), ?_⟩
    refine s_ret (v := .bl b) ?_ fun H1 e1 => q H1 e1
    rcases hv with ⟨st, rfl, hl, rfl⟩ | ⟨⟨z, rfl⟩, rfl⟩ | ⟨ho, rfl⟩
    · refine ev_is (ev_andV (a := true) (ev_isiN (n := "str") (b := true) (ev_var rfl) (fun H' e => .base (.str st)) (by decide +kernel)) fun _ => ev_andV (ev_op (ev_lenS (ev_var rfl) (by omega)) (ev_var rfl) (rv_eq rfl)) fun _ => ev_op (x := .str (Txt.stripChars st (Str.ofString "+-"))) (fun H1 e Q q => ⟨_, rfl, rfl, _, _, rfl, rfl, sz_of (by omega), q H1 (Ex.refl H1)⟩) ev_c (rv_eq rfl)) ?_
      have e0 : (⟨#[]⟩ : Str) = Str.ofString "" := by decide +kernel
      have e1 : decide ((st.length : Int) = (n : Int)) = decide (st.length = n) := by
        rw [Bool.eq_iff_iff, decide_eq_true_eq, decide_eq_true_eq]
        omega
      rw [dec_intB, dec_strB, e0, e1]
      rfl
    · exact ev_andV (a := false) (b := false) (ev_isiN (n := "int") (b := false) (ev_var rfl) (fun H' e => .base (.int z)) (by decide +kernel)) (fun hz => nomatch hz)
    · rcases ho.ty (K := K) with ht | ht | ht | ht | ht
      · exact ev_andV (a := false) (b := false) (ev_isiN (b := false) (ev_var rfl) ht (by decide +kernel)) (fun hz => nomatch hz)
      · exact ev_andV (a := false) (b := false) (ev_isiN (b := false) (ev_var rfl) ht (by decide +kernel)) (fun hz => nomatch hz)
      · exact ev_andV (a := false) (b := false) (ev_isiN (b := false) (ev_var rfl) ht (by decide +kernel)) (fun hz => nomatch hz)
      · exact ev_andV (a := false) (b := false) (ev_isiN (b := false) (ev_var rfl) ht (by decide +kernel)) (fun hz => nomatch hz)
      · exact ev_andV (a := false) (b := false) (ev_isiN (b := false) (ev_var rfl) ht (by decide +kernel)) (fun hz => nomatch hz)

end
end HA

end
section
set_option maxRecDepth 100000
set_option maxHeartbeats 4000000
namespace HA
open PySem PySem.Spec PyProof.Rows L2 Evl
section
variable {P : Program} {w : World} {K : PySem.W.Frag} {mg : Str → Option Value} {base : Heap}
theorem ok_asked_table (T : Txt K mg) : FnOk P w K mg base (L2N.CX P w) 2 T.a_asked_table T.d_asked_table ["table"] (sp_asked_table7 T.C_BadTable) := by
  refine okN T.F_asked_table sc_asked_table (fun vs H Q E h => ?_) (fun cdv A outer s H vs Q E hr h => ?_)
  · obtain ⟨v, g, rfl, _⟩ := h
    rfl
  · obtain ⟨v, g, rfl, hv, qy, qn⟩ := h
    have G_is_row := ok_is_row (P := P) (w := w) (base := base) T
    refine ⟨_, pss_cons (ps_if (PW.pt (pw_or (pt_not (pt_val (pe_callB call_isi (by rfl) T.m_isinstance (by decide +kernel) (pa_cons (pv 0) (pa_cons (pe_bltn (v := .ty "list") (by rfl) T.m_list (by decide +kernel) rfl) pa_nil))))) (pw_or1 (pt_not (pt_chain op_le op_le pe_int (pe_callB call_len_seq (by rfl) T.m_len (by decide +kernel) (pa_cons (pv 0) pa_nil)) (pe_glob (v := .int 100) (by rfl) T.g_MOST ⟨_, rfl⟩)))))) (pss_one (L2N.ps_raise rfl (L2N.takes_of rfl rfl rfl rfl) (L2N.pmk_own PySem.F.excBase_ValueError T.x_BadTable T.g_BadTable T.k_BadTable (raises_own T.eb_BadTable T.et_BadTable) rfl))) (pss_nil))
      (pss_one (ps_if (pt_not (pt_val (pe_callB (cr_all rfl) (by rfl) T.m_all (by decide +kernel) (pa_cons (pe_lc (own := [("row", 1)]) (g := (gName 1)) (tt := tYes) (te := (tCall _ _ _ (tCons (tVar 1) (tCons (tCB (rLenS K) (tCons (tVar 0) tNil)) tNil)))) (by rfl) sc_asked_table.nd (pi_list (pv 0)) (blkOk_by (by kernel_rfl)) (fun _ _ _ _ _ => pg_name (i := 1) sc_asked_table.nd rfl (.inl rfl)) (fun _ _ _ _ _ => pts_nil) (fun _ _ _ _ _ => pe_call G_is_row (hr.mono (by decide)) (by rfl) T.g_is_row T.F_is_row.kp T.b_is_row .nil pass0 (pa_cons (pv 1) (pa_cons (pe_callB call_len_seq (by rfl) T.m_len (by decide +kernel) (pa_cons (pv 0) pa_nil)) pa_nil)))) pa_nil)))) (pss_one (L2N.ps_raise rfl (L2N.takes_of rfl rfl rfl rfl) (L2N.pmk_own PySem.F.excBase_ValueError T.x_BadTable T.g_BadTable T.k_BadTable (raises_own T.eb_BadTable T.et_BadTable) rfl))) (pss_nil))), ?_⟩
    rcases hv with ⟨hl, rfl⟩ | ⟨a, vs, rfl, ha, ⟨hlen, rfl⟩ | ⟨h1, h2, hi⟩⟩
    · exact q_when (b := true) (et_is (et_or (a := true) (b := true) (et_is (et_not (et_B (hl.isi (ev_var rfl)))) rfl) (fun hz => nomatch hz)) rfl) (fun _ H1 e1 => qn rfl H1 e1) (fun hz => nomatch hz)
    · refine q_when (b := true) (et_is (et_or (a := false) (b := true) (et_is (et_not (et_B (isiL ha (ev_var rfl)))) rfl) (fun _ => et_is (et_not (et_test (ev_chain ev_c (ev_len (K := K) (ev_var rfl) (sq_of ha)) rv_I0 (fun _ => ev_c) (fun _ => rv_I0)))) ?_)) rfl) (fun _ H1 e1 => qn rfl H1 e1) (fun hz => nomatch hz)
      have z : (decide ((1 : Int) ≤ (vs.length : Int)) && decide ((vs.length : Int) ≤ 100)) = false := by
        cases hc : (decide ((1 : Int) ≤ (vs.length : Int)) && decide ((vs.length : Int) ≤ 100)) with
        | false => rfl
        | true =>
          rw [Bool.and_eq_true, decide_eq_true_eq, decide_eq_true_eq] at hc
          exact absurd (show 1 ≤ vs.length ∧ vs.length ≤ 100 by omega) hlen
      rw [z]
      rfl
    · refine q_when (b := false) (et_is (et_or (a := false) (b := false) (et_is (et_not (et_B (isiL ha (ev_var rfl)))) rfl) (fun _ => et_is (et_not (et_test (ev_chain ev_c (ev_len (K := K) (ev_var rfl) (sq_of ha)) rv_I0 (fun _ => ev_c) (fun _ => rv_I0)))) ?_)) rfl) (fun hz => nomatch hz) (fun _ H1 e1 => ?_)
      · rw [decide_eq_true (show (1 : Int) ≤ (vs.length : Int) by omega), decide_eq_true (show (vs.length : Int) ≤ 100 by omega)]
        rfl
      · refine s_when (b := !g) (et_not (et_B (ev_allB (K := K) (R := RowB vs.length) (fun e h => RowB.ex e h) (ev_var rfl) (e1 a _ ha) (by omega) (ItB.ex (R := RowB vs.length) (fun e h => RowB.ex e h) e1 hi) (fun x => rfl) fun x b H2 e2 hx => ?_))) (fun hb H2 e2 => qn (bnot1 hb) H2 (e1.trans e2)) fun hb H2 e2 => qy (bnot0 hb) H2 (e1.trans e2)
        exact ev_call (ea_cons (ev_var rfl) (ea_cons (ev_len (K := K) (ev_var rfl) (sq_of ((e1.trans e2) a _ ha))) ea_nil)) fun H3 e3 Q3 q3 _ => ⟨x, vs.length, b, rfl, hx.ex e3, q3⟩

end
end HA

end
section
set_option maxRecDepth 100000
set_option maxHeartbeats 4000000
namespace HA
open PySem PySem.Spec PyProof.Rows L2 Evl
section
variable {P : Program} {w : World} {K : PySem.W.Frag} {mg : Str → Option Value} {base : Heap}
theorem ok_alike (T : Txt K mg) : FnOk P w K mg base CX0 1 T.a_alike T.d_alike ["one", "other"] sp_alike := by
  refine T.F_alike.ok sc_alike (fun vs H Q E h => ?_) (fun cdv A outer s H vs Q E hr h => ?_)
  · obtain ⟨n, g, k, rfl, _⟩ := h
    rfl
  · obtain ⟨n, g, k, rfl, hn, q⟩ := h
    refine ⟨_, pss_one (ps_ret (pe_callB call_len_seq (by rfl) T.m_len (by decide +kernel) (pa_cons (pe_lc (own := [("place", 2), ("sign", 3)]) (g := (gTup K 2 (gCons (gName 2) (gCons (gName 3) gNil)))) (tt := (tTest (tOp _ (tVar 3) (tOp rIxS (tVar 1) (tVar 2))))) (te := (tVar 2)) (by rfl) sc_alike.nd (pi_enumS (by rfl) T.m_enumerate (pa_cons (pv 0) pa_nil)) (blkOk_by (by kernel_rfl)) (fun _ _ _ _ _ => pg_tup rfl (pgs_cons (pg_name (i := 2) sc_alike.nd rfl (.inl rfl)) (pgs_cons (pg_name (i := 3) sc_alike.nd rfl (.inl rfl)) pgs_nil))) (fun _ _ _ _ _ => pts_one (pt_cmpR op_eq (pv 3) (pe_ix ix_str (pv 1) (pv 2) (fun _ _ => rfl)) (nomark _))) (fun _ _ _ _ _ => pv 2)) pa_nil))), ?_⟩
    refine s_ret (ev_lenN (K := K) (el_lcES (K := K) (c := fun i => cp (g i)) (fun i => g i == k i) (fun i => .int (i : Nat)) (ea_cons (ev_var rfl) ea_nil) (rowS_size n g) (fun i hi => rowS_get hi) (by omega) (fun x y => rfl) (fun i H1 e hi => ?_) (fun i H1 e hi _ => ev_var rfl))) (fun H1 e => ?_)
    · exact et_is (et_test (ev_op (ev_var rfl) (ev_itS (ev_var rfl) (ev_var rfl) hi (by omega)) (rv_eq rfl))) (sgS_dec _ _)
    · rw [given_count]
      exact q H1 e

end
end HA

end
section
set_option maxRecDepth 100000
set_option maxHeartbeats 4000000
namespace HA
open PySem PySem.Spec PyProof.Rows L2 Evl
section
variable {P : Program} {w : World} {K : PySem.W.Frag} {mg : Str → Option Value} {base : Heap}
theorem ok_first_unlike (T : Txt K mg) : FnOk P w K mg base CX0 2 T.a_first_unlike T.d_first_unlike ["table"] (sp_first_unlike K) := by
  refine T.F_first_unlike.ok sc_first_unlike (fun vs H Q E h => ?_) (fun cdv A outer s H vs Q E hr h => ?_)
  · obtain ⟨a, n, f, rfl, _⟩ := h
    rfl
  · obtain ⟨a, n, f, rfl, hT, hn, qh, qu⟩ := h
    have G_alike := ok_alike (P := P) (w := w) (base := base) T
    refine ⟨_, pss_cons (ps_for PassesOwn.never (by rfl) (pi_range1 (by rfl) T.m_range (pa_cons (pe_callB call_len_seq (by rfl) T.m_len (by decide +kernel) (pa_cons (pv 0) pa_nil)) pa_nil)) (pg_name (i := 1) sc_first_unlike.nd rfl (.inl rfl))
        (pss_one (ps_for PassesOwn.never (by rfl) (pi_range1 (by rfl) T.m_range (pa_cons (pv 1) pa_nil)) (pg_name (i := 2) sc_first_unlike.nd rfl (.inl rfl))
          (pss_one (ps_if (pt_cmpR op_ne (pe_op op_mul pe_int (pe_call G_alike (hr.mono (by decide)) (by rfl) T.g_alike T.F_alike.kp T.b_alike .nil pass0 (pa_cons (pe_ix ix_list (pv 0) (pv 2) (fun _ _ => rfl)) (pa_cons (pe_ix ix_list (pv 0) (pv 1) (fun _ _ => rfl)) pa_nil)))) (pe_callB call_len_seq (by rfl) T.m_len (by decide +kernel) (pa_cons (pv 0) pa_nil)) (nomark _)) (pss_one (ps_ret (pe_tup (pa_cons (pv 2) (pa_cons (pv 1) pa_nil))))) (pss_nil))))))
      (pss_one (ps_ret (pe_non))), ?_⟩
    refine q_forR1 (n := (n : Int)) (ea_cons (ev_lenT (ev_var rfl) hT) ea_nil) ⟨by omega, by omega⟩
      (fun j σ' H' => ∃ v1 v2, σ' = [some (.ref a), v1, v2] ∧ Ex H H' ∧ ∀ j', j' < j → ∀ i, i < j' → 2 * alk n (f i) (f j') = n) (fun H1 e1 => ⟨none, none, rfl, e1, fun j' hj' => absurd hj' (by omega)⟩) ?_ ?_
    · rintro j σ' H' hj ⟨v1, v2, rfl, e1, ih⟩
      refine s_forR1 (n := (j : Int)) (ea_cons (ev_var rfl) ea_nil) ⟨by omega, by omega⟩
        (fun i σ' H' => ∃ v2, σ' = [some (.ref a), some (.int (j : Int)), v2] ∧ Ex H H' ∧ ∀ i', i' < i → 2 * alk n (f i') (f j) = n) (fun H2 e2 => ⟨v2, rfl, e1.trans e2, fun i' hi' => absurd hi' (by omega)⟩) ?_ ?_
      · rintro i σ' H2 hi ⟨v2, rfl, e2, ih2⟩
        refine s_when (et_is (et_test (ev_op (ev_op ev_c (ev_call (z := .int (alk n (f i) (f j) : Int)) (ea_cons (ev_itT (K := K) (n := n) (f := f) (i := i) (ev_var rfl) (ev_var rfl) (TabAt.ex e2 hT) (by omega)) (ea_cons (ev_itT (K := K) (n := n) (f := f) (i := j) (ev_var rfl) (ev_var rfl) (TabAt.ex e2 hT) (by omega)) ea_nil)) fun H3 e3 Q3 q3 _ => ⟨n, f i, f j, rfl, hn, q3⟩) (rv_I (.inl ⟨by decide, by decide⟩))) (ev_lenT (ev_var rfl) (TabAt.ex e2 hT)) (rv_ne rfl))) (congrArg not (dec_intB _ _))) ?_ ?_
        · intro hb H3 e3
          refine s_retU (eu_tup (ea_cons (ev_var rfl) (ea_cons (ev_var rfl) ea_nil)) (by show 2 ≤ 100000; decide)) fun p H4 hp e4 h4 => ?_
          refine qu i j (by omega) (by omega) ?_ p H4 (fresh_back (e2.trans e3) hp) ((e2.trans e3).trans e4) h4
          have hb' : ¬ (2 * (alk n (f i) (f j) : Int) = (n : Int)) := by simpa using hb
          omega
        · intro hb H3 e3
          refine ⟨_, rfl, e2.trans e3, fun i' hi' => ?_⟩
          by_cases hc : i' = i
          · subst hc
            have hb' : 2 * (alk n (f i') (f j) : Int) = (n : Int) := by simpa using hb
            omega
          · exact ih2 i' (by omega)
      · rintro σ' H2 ⟨v2, rfl, e2, ih2⟩
        refine ⟨_, _, rfl, e2, fun j' hj' i hi => ?_⟩
        by_cases hc : j' = j
        · subst hc
          exact ih2 i (by rw [Int.toNat_natCast]; exact hi)
        · exact ih j' (by omega) i hi
    · rintro σ' H' ⟨v1, v2, rfl, e1, ih⟩
      refine s_ret ev_c fun H2 e2 => qh ?_ H2 (e1.trans e2)
      rw [Int.toNat_natCast] at ih
      exact (halfB_iff n f).mpr fun j hj i hi => ih j hj i hi

end
end HA

end
section
set_option maxRecDepth 100000
set_option maxHeartbeats 4000000
namespace HA
open PySem PySem.Spec PyProof.Rows L2 Evl
section
variable {P : Program} {w : World} {K : PySem.W.Frag} {mg : Str → Option Value} {base : Heap}
theorem ok_asked_half (T : Txt K mg) : FnOk P w K mg base (L2N.CX P w) 3 T.a_asked_half T.d_asked_half ["table"] (sp_asked_half7 T.C_BadTable) := by
  refine okN T.F_asked_half sc_asked_half (fun vs H Q E h => ?_) (fun cdv A outer s H vs Q E hr h => ?_)
  · obtain ⟨v, rfl, _⟩ := h
    rfl
  · obtain ⟨v, rfl, hv⟩ := h
    have G_asked_table := ok_asked_table (P := P) (w := w) (base := base) T
    have G_first_unlike := ok_first_unlike (P := P) (w := w) (base := base) T
    refine ⟨_, pss_cons (ps_expr (pe_call G_asked_table (hr.mono (by decide)) (by rfl) T.g_asked_table T.F_asked_table.kp T.b_asked_table .nil (passEN rfl rfl rfl rfl) (pa_cons (pv 0) pa_nil)))
      (pss_one (ps_if (pt_cmpR op_notN (pe_call G_first_unlike (hr.mono (by decide)) (by rfl) T.g_first_unlike T.F_first_unlike.kp T.b_first_unlike .nil pass0 (pa_cons (pv 0) pa_nil)) pe_non (nomark _)) (pss_one (L2N.ps_raise rfl (L2N.takes_of rfl rfl rfl rfl) (L2N.pmk_own PySem.F.excBase_ValueError T.x_BadTable T.g_BadTable T.k_BadTable (raises_own T.eb_BadTable T.et_BadTable) rfl))) (pss_nil))), ?_⟩
    rcases hv with ⟨hb | ⟨n, a, f, rfl, ha, h1, h2, hh⟩, ho⟩ | ⟨⟨n, a, f, rfl, ha, h1, h2, hh⟩, q⟩
    · exact q_dropC (ea_cons (ev_var rfl) ea_nil) fun H1 e1 => ⟨v, false, rfl, hb.ex e1, fun hz => (nomatch hz), fun _ => ho.ex e1⟩
    · refine q_dropC (ea_cons (ev_var rfl) ea_nil) fun H1 e1 => ⟨.ref a, true, rfl, (tab_B ha h1 h2).ex e1, fun _ H2 e2 => ?_, fun hz => nomatch hz⟩
      refine s_when (b := true) (fun H3 e3 Q3 q3 => ⟨.ref a, rfl, a, n, f, rfl, sq_of (((e1.trans e2).trans e3) a _ ha), by omega, fun hz => absurd (hz.symm.trans hh) (by decide), fun i j hij hj hu p H4 hp e4 h4 => ⟨rfl, true, rfl, q3 H4 e4⟩⟩) (fun _ H3 e3 => ho H3 ((e1.trans e2).trans e3)) (fun hz => nomatch hz)
    · refine q_dropC (ea_cons (ev_var rfl) ea_nil) fun H1 e1 => ⟨.ref a, true, rfl, (tab_B ha h1 h2).ex e1, fun _ H2 e2 => ?_, fun hz => nomatch hz⟩
      refine s_when (b := false) (fun H3 e3 Q3 q3 => ⟨.ref a, rfl, a, n, f, rfl, sq_of (((e1.trans e2).trans e3) a _ ha), by omega, fun _ H4 e4 => ⟨rfl, false, rfl, q3 H4 e4⟩, fun i j hij hj hu => absurd ((halfB_iff _ _).mp hh j hj i hij) hu⟩) (fun hz => nomatch hz) (fun _ H3 e3 => q H3 ((e1.trans e2).trans e3))

end
end HA

end
section
set_option maxRecDepth 100000
set_option maxHeartbeats 4000000
namespace HA
open PySem PySem.Spec PyProof.Rows L2 Evl
section
variable {P : Program} {w : World} {K : PySem.W.Frag} {mg : Str → Option Value} {base : Heap}
theorem ok_exchanged_of (T : Txt K mg) : FnOk P w K mg base CX0 1 T.a_exchanged_of T.d_exchanged_of ["table"] (sp_tab K trn) := by
  refine T.F_exchanged_of.ok sc_exchanged_of (fun vs H Q E h => ?_) (fun cdv A outer s H vs Q E hr h => ?_)
  · obtain ⟨a, n, f, rfl, _⟩ := h
    rfl
  · obtain ⟨a, n, f, rfl, hT, h1, h2, hL, q⟩ := h
    skip
    refine ⟨_, pss_one (ps_ret (pe_lc (own := [("place", 1)]) (g := (gName 1)) (tt := tYes) (te := (tM1 (rJoin K) (tC _) (tLc (iList K (tVar 0)) (gName 2) tYes (tOp rIxS (tVar 2) (tVar 1)) [2]))) (by rfl) sc_exchanged_of.nd (pi_range1 (by rfl) T.m_range (pa_cons (pe_callB call_len_seq (by rfl) T.m_len (by decide +kernel) (pa_cons (pv 0) pa_nil)) pa_nil)) (blkOk_by (by kernel_rfl)) (fun _ _ _ _ _ => pg_name (i := 1) sc_exchanged_of.nd rfl (.inr rfl)) (fun _ _ _ _ _ => pts_nil) (fun _ _ _ _ _ => pe_join pe_str (pe_lc (own := [("row", 2)]) (g := (gName 2)) (tt := tYes) (te := (tOp rIxS (tVar 2) (tVar 1))) (by rfl) sc_exchanged_of.nd (pi_list (pv 0)) (blkOk_by (by kernel_rfl)) (fun _ _ _ _ _ => pg_name (i := 2) sc_exchanged_of.nd rfl (.inl rfl)) (fun _ _ _ _ _ => pts_nil) (fun _ _ _ _ _ => pe_ix ix_str (pv 2) (pv 1) (fun _ _ => rfl)))))), ?_⟩
    exact s_retL (tr_comp (K := K) (a := a) (n := n) (g := f) (fun x H1 e => ev_var rfl) (ea_cons (ev_lenT (ev_var rfl) hT) ea_nil) hT (by omega) (fun x => rfl) (fun x y => rfl) (fun x y H1 e => ev_var rfl) (fun x y H1 e => ev_var rfl)) fun p H1 hp e h1 => q p H1 hp e h1

end
end HA

end
section
set_option maxRecDepth 100000
set_option maxHeartbeats 4000000
namespace HA
open PySem PySem.Spec PyProof.Rows L2 Evl
section
variable {P : Program} {w : World} {K : PySem.W.Frag} {mg : Str → Option Value} {base : Heap}
theorem ok_exchanged (T : Txt K mg) : FnOk P w K mg base (L2N.CX P w) 3 T.a_exchanged T.d_exchanged ["table"] (sp_exchanged7 T.C_BadTable) := by
  refine okN T.F_exchanged sc_exchanged (fun vs H Q E h => ?_) (fun cdv A outer s H vs Q E hr h => ?_)
  · obtain ⟨v, rfl, _⟩ := h
    rfl
  · obtain ⟨v, rfl, hv⟩ := h
    have G_asked_table := ok_asked_table (P := P) (w := w) (base := base) T
    have G_exchanged_of := ok_exchanged_of (P := P) (w := w) (base := base) T
    refine ⟨_, pss_cons (ps_expr (pe_call G_asked_table (hr.mono (by decide)) (by rfl) T.g_asked_table T.F_asked_table.kp T.b_asked_table .nil (passEN rfl rfl rfl rfl) (pa_cons (pv 0) pa_nil)))
      (pss_one (ps_ret (pe_call G_exchanged_of (hr.mono (by decide)) (by rfl) T.g_exchanged_of T.F_exchanged_of.kp T.b_exchanged_of .nil pass0 (pa_cons (pv 0) pa_nil)))), ?_⟩
    rcases hv with ⟨hb, ho⟩ | ⟨a, n, f, rfl, ha, h1, h2, q⟩
    · exact q_dropC (ea_cons (ev_var rfl) ea_nil) fun H1 e1 => ⟨v, false, rfl, hb.ex e1, fun hz => (nomatch hz), fun _ => ho.ex e1⟩
    · refine q_dropC (ea_cons (ev_var rfl) ea_nil) fun H1 e1 => ⟨.ref a, true, rfl, (tab_B ha h1 h2).ex e1, fun _ H2 e2 => ?_, fun hz => nomatch hz⟩
      have E2 := e1.trans e2
      exact s_retL (xs := tabV n (trn f)) (el_call (ea_cons (ev_var rfl) ea_nil) fun H3 e3 Q3 q3 _ => ⟨a, n, f, rfl, sq_of ((E2.trans e3) a _ ha), h1, h2, ⟨_, (E2.trans e3) a _ ha⟩, q3⟩) fun p H3 hp e3 h3 => q p H3 (fresh_back E2 hp) (E2.trans e3) h3

end
end HA

end
section
set_option maxRecDepth 100000
set_option maxHeartbeats 4000000
namespace HA
open PySem PySem.Spec PyProof.Rows L2 Evl
section
variable {P : Program} {w : World} {K : PySem.W.Frag} {mg : Str → Option Value} {base : Heap}
theorem ok_turned (T : Txt K mg) : FnOk P w K mg base (L2N.CX P w) 3 T.a_turned T.d_turned ["table", "row"] (sp_turned7 T.C_BadTable T.C_BadPlace) := by
  refine okN T.F_turned sc_turned (fun vs H Q E h => ?_) (fun cdv A outer s H vs Q E hr h => ?_)
  · obtain ⟨v, w', rfl, _⟩ := h
    rfl
  · obtain ⟨v, w', rfl, hv⟩ := h
    have G_asked_table := ok_asked_table (P := P) (w := w) (base := base) T
    have G_is_number := ok_is_number (P := P) (w := w) (base := base) T
    refine ⟨_, pss_cons (ps_expr (pe_call G_asked_table (hr.mono (by decide)) (by rfl) T.g_asked_table T.F_asked_table.kp T.b_asked_table .nil (passEN rfl rfl rfl rfl) (pa_cons (pv 0) pa_nil)))
      (pss_cons (ps_if (PW.pt (pw_or (pt_not (pt_val (pe_call G_is_number (hr.mono (by decide)) (by rfl) T.g_is_number T.F_is_number.kp T.b_is_number .nil pass0 (pa_cons (pv 1) pa_nil)))) (pw_or1 (pt_not (pt_chain op_le op_lt pe_int (pv 1) (pe_callB call_len_seq (by rfl) T.m_len (by decide +kernel) (pa_cons (pv 0) pa_nil))))))) (pss_one (L2N.ps_raise rfl (L2N.takes_of rfl rfl rfl rfl) (L2N.pmk_own PySem.F.excBase_ValueError T.x_BadPlace T.g_BadPlace T.k_BadPlace (raises_own T.eb_BadPlace T.et_BadPlace) rfl))) (pss_nil))
      (pss_never)), ?_⟩
    rcases hv with ⟨hb, ho⟩ | ⟨a, n, f, rfl, ha, h1, h2, hw, ho⟩
    · exact q_dropC (ea_cons (ev_var rfl) ea_nil) fun H1 e1 => ⟨v, false, rfl, hb.ex e1, fun hz => (nomatch hz), fun _ => ho.ex e1⟩
    · refine q_dropC (ea_cons (ev_var rfl) ea_nil) fun H1 e1 => ⟨.ref a, true, rfl, (tab_B ha h1 h2).ex e1, fun _ H2 e2 => ?_, fun hz => nomatch hz⟩
      have E2 := e1.trans e2
      refine q_when (b := true) ?_ (fun _ H3 e3 => ho H3 (E2.trans e3)) (fun hz => nomatch hz)
      rcases hw.ex E2 with ⟨z, rfl, hz⟩ | ⟨st, rfl, _⟩ | ⟨hot, _⟩
      · refine et_is (et_or (a := false) (b := true) (et_is (et_not (et_B (ev_call (z := .bl true) (ea_cons (ev_var rfl) ea_nil) fun H3 e3 Q3 q3 _ => ⟨_, true, rfl, .inl ⟨z, rfl, rfl⟩, q3⟩))) rfl) fun _ => et_is (et_not (et_test (ev_chain ev_c (ev_var rfl) rv_I0 (fun _ => ev_lenT (K := K) (n := n) (f := f) (ev_var rfl) (sq_of (E2 a _ ha))) (fun _ => rv_I0)))) (by rw [← hz]; rfl)) rfl
      · exact et_is (et_or (a := true) (b := true) (et_is (et_not (et_B (ev_call (z := .bl false) (ea_cons (ev_var rfl) ea_nil) fun H3 e3 Q3 q3 _ => ⟨_, false, rfl, .inr (.inl ⟨st, rfl, rfl⟩), q3⟩))) rfl) (fun hz => nomatch hz)) rfl
      · exact et_is (et_or (a := true) (b := true) (et_is (et_not (et_B (ev_call (z := .bl false) (ea_cons (ev_var rfl) ea_nil) fun H3 e3 Q3 q3 _ => ⟨_, false, rfl, .inr (.inr ⟨hot.ex e3, rfl⟩), q3⟩))) rfl) (fun hz => nomatch hz)) rfl

end
end HA

end
section
set_option maxRecDepth 100000
set_option maxHeartbeats 4000000
namespace HA
open PySem PySem.Spec PyProof.Rows L2 Evl
section
variable {P : Program} {w : World} {K : PySem.W.Frag} {mg : Str → Option Value} {base : Heap}
theorem ok_evened (T : Txt K mg) : FnOk P w K mg base (L2N.CX P w) 3 T.a_evened T.d_evened ["table"] (sp_bad1 T.C_BadTable) := by
  refine okN T.F_evened sc_evened (fun vs H Q E h => ?_) (fun cdv A outer s H vs Q E hr h => ?_)
  · obtain ⟨v, rfl, _⟩ := h
    rfl
  · obtain ⟨v, rfl, hb, ho⟩ := h
    have G_asked_table := ok_asked_table (P := P) (w := w) (base := base) T
    have G_exchanged_of := ok_exchanged_of (P := P) (w := w) (base := base) T
    refine ⟨_, pss_cons (ps_expr (pe_call G_asked_table (hr.mono (by decide)) (by rfl) T.g_asked_table T.F_asked_table.kp T.b_asked_table .nil (passEN rfl rfl rfl rfl) (pa_cons (pv 0) pa_nil)))
      (pss_never), ?_⟩
    exact q_dropC (ea_cons (ev_var rfl) ea_nil) fun H1 e1 => ⟨v, false, rfl, hb.ex e1, fun hz => (nomatch hz), fun _ => ho.ex e1⟩

end
end HA

end
section
set_option maxRecDepth 100000
set_option maxHeartbeats 4000000
namespace HA
open PySem PySem.Spec PyProof.Rows L2 Evl
section
variable {P : Program} {w : World} {K : PySem.W.Frag} {mg : Str → Option Value} {base : Heap}
theorem ok_product (T : Txt K mg) : FnOk P w K mg base (L2N.CX P w) 3 T.a_product T.d_product ["one", "other"] (sp_product7 T.C_BadTable) := by
  refine okN T.F_product sc_product (fun vs H Q E h => ?_) (fun cdv A outer s H vs Q E hr h => ?_)
  · obtain ⟨v, w', rfl, _⟩ := h
    rfl
  · obtain ⟨v, w', rfl, ho, hv⟩ := h
    have G_asked_table := ok_asked_table (P := P) (w := w) (base := base) T
    refine ⟨_, pss_cons (ps_expr (pe_call G_asked_table (hr.mono (by decide)) (by rfl) T.g_asked_table T.F_asked_table.kp T.b_asked_table .nil (passEN rfl rfl rfl rfl) (pa_cons (pv 0) pa_nil)))
      (pss_cons (ps_expr (pe_call G_asked_table (hr.mono (by decide)) (by rfl) T.g_asked_table T.F_asked_table.kp T.b_asked_table .nil (passEN rfl rfl rfl rfl) (pa_cons (pv 1) pa_nil)))
      (pss_cons (ps_if (pt_cmpR op_gt (pe_op op_mul (pe_callB call_len_seq (by rfl) T.m_len (by decide +kernel) (pa_cons (pv 0) pa_nil)) (pe_callB call_len_seq (by rfl) T.m_len (by decide +kernel) (pa_cons (pv 1) pa_nil))) (pe_glob (v := .int 100) (by rfl) T.g_MOST ⟨_, rfl⟩) (nomark _)) (pss_one (L2N.ps_raise rfl (L2N.takes_of rfl rfl rfl rfl) (L2N.pmk_own PySem.F.excBase_ValueError T.x_BadTable T.g_BadTable T.k_BadTable (raises_own T.eb_BadTable T.et_BadTable) rfl))) (pss_nil))
      (pss_never))), ?_⟩
    rcases hv with hb | ⟨a, n, f, rfl, ha, h1, h2, hv⟩
    · exact q_dropC (ea_cons (ev_var rfl) ea_nil) fun H1 e1 => ⟨v, false, rfl, hb.ex e1, fun hz => (nomatch hz), fun _ => ho.ex e1⟩
    · refine q_dropC (ea_cons (ev_var rfl) ea_nil) fun H1 e1 => ⟨.ref a, true, rfl, (tab_B ha h1 h2).ex e1, fun _ H2 e2 => ?_, fun hz => nomatch hz⟩
      have E2 := e1.trans e2
      rcases hv with hb | ⟨b, m, g, rfl, hb, k1, k2, hnm⟩
      · exact q_dropC (ea_cons (ev_var rfl) ea_nil) fun H3 e3 => ⟨w', false, rfl, hb.ex (E2.trans e3), fun hz => (nomatch hz), fun _ => ho.ex (E2.trans e3)⟩
      · refine q_dropC (ea_cons (ev_var rfl) ea_nil) fun H3 e3 => ⟨.ref b, true, rfl, (tab_B hb k1 k2).ex (E2.trans e3), fun _ H4 e4 => ?_, fun hz => nomatch hz⟩
        have E4 := (E2.trans e3).trans e4
        refine q_when (b := true) ?_ (fun _ H5 e5 => ho H5 (E4.trans e5)) (fun hz => nomatch hz)
        refine et_is (et_test (ev_op (ev_op (ev_lenT (K := K) (n := n) (f := f) (ev_var rfl) (sq_of (E4 a _ ha))) (ev_lenT (K := K) (n := m) (f := g) (ev_var rfl) (sq_of (E4 b _ hb))) (rv_I (.inl ⟨by omega, by omega⟩))) ev_c rv_I0)) ?_
        have z : (100 : Int) < ((n * m : Nat) : Int) := by omega
        rw [Int.natCast_mul] at z
        exact decide_eq_true z

end
end HA

end
section
set_option maxRecDepth 100000
set_option maxHeartbeats 4000000
namespace HA
open PySem PySem.Spec PyProof.Rows L2 Evl
section
variable {P : Program} {w : World} {K : PySem.W.Frag} {mg : Str → Option Value} {base : Heap}
theorem ok_is_prime (T : Txt K mg) : FnOk P w K mg base CX0 1 T.a_is_prime T.d_is_prime ["number"] sp_is_prime := by
  refine T.F_is_prime.ok sc_is_prime (fun vs H Q E h => ?_) (fun cdv A outer s H vs Q E hr h => ?_)
  · obtain ⟨n, rfl, _⟩ := h
    rfl
  · obtain ⟨n, rfl, hn, q⟩ := h
    refine ⟨_, pss_cons (ps_set (i := 1) sc_is_prime.nd rfl (.inl rfl) pe_int)
      (pss_cons (ps_while PassesOwn.never (pt_cmpR op_le (pe_op op_mul (pv 1) (pv 1)) (pv 0) (nomark _))
        (pss_cons (ps_if (pt_cmpR op_eq (pe_op op_mod (pv 0) (pv 1)) pe_int (nomark _)) (pss_one (ps_ret (pe_bl))) (pss_nil))
        (pss_one (ps_set (i := 1) sc_is_prime.nd rfl (.inl rfl) (pe_op op_add (pv 1) pe_int)))))
      (pss_one (ps_ret (pe_cmpR op_gt (pv 0) pe_int (nomark _))))), ?_⟩
    refine q_asg ev_c fun H1 e1 => ?_
    refine q_while (fun k σ' H' => ∃ b : Int, σ' = [some (.int n), some (.int b)] ∧ Ex H H' ∧ prF k b n = isPr n ∧ b + (k : Int) = 102 ∧ 2 ≤ b ∧ 1 ≤ k) 100 ⟨2, rfl, e1, rfl, by decide, by decide, by decide⟩ (fun k σ' H2 hw => ?_)
    obtain ⟨b, rfl, e2, hp, hk, hb2, hk1⟩ := hw
    obtain ⟨j, rfl⟩ : ∃ j, k = j + 1 := ⟨k - 1, by omega⟩
    have hp' : (if b * b ≤ n then (if n % b = 0 then false else prF j (b + 1) n) else decide (n > 1)) = isPr n := hp
    refine ⟨decide (b * b ≤ n), et_test (ev_op (ev_op (ev_var rfl) (ev_var rfl) (rv_I (.inl ⟨by omega, by omega⟩))) (ev_var rfl) rv_I0), fun hb H3 e3 => ?_, fun hb H3 e3 => ?_⟩
    · have hb' := of_decide_eq_true hb
      have hb9 : b ≤ 99 := by
        apply Classical.byContradiction
        intro hc
        have := Int.mul_le_mul (show (100 : Int) ≤ b by omega) (show (100 : Int) ≤ b by omega) (by decide) (by omega)
        omega
      rw [if_pos hb'] at hp'
      refine ⟨fun σ' H' => σ' = [some (.int n), some (.int (b + 1))] ∧ Ex H H' ∧ n % b ≠ 0, fun σ2 H4 h4 => ?_, ?_⟩
      · obtain ⟨rfl, e4, hne⟩ := h4
        rw [if_neg hne] at hp'
        exact ⟨j, Nat.lt_succ_self j, b + 1, rfl, e4, hp', by omega, by omega, by omega⟩
      · refine q_when (b := decide (n % b = 0)) (et_is (et_test (ev_op (ev_op (ev_var rfl) (ev_var rfl) (rv_I (show (0 : Int) < b by omega))) ev_c (rv_eq rfl))) (dec_intB _ _)) (fun hz H4 e4 => ?_) fun hz H4 e4 => ?_
        · rw [if_pos (of_decide_eq_true hz)] at hp'
          refine s_ret ev_c fun H5 e5 => ?_
          have z := q H5 (((e2.trans e3).trans e4).trans e5)
          rw [← hp'] at z
          exact z
        · exact s_asg (ev_op (ev_var rfl) ev_c rv_I0) fun H5 e5 => ⟨rfl, ((e2.trans e3).trans e4).trans e5, of_decide_eq_false hz⟩
    · have hb' : ¬ b * b ≤ n := of_decide_eq_false hb
      rw [if_neg hb'] at hp'
      refine s_ret (v := .bl (decide (n > 1))) (ev_op (ev_var rfl) ev_c rv_I0) fun H4 e4 => ?_
      rw [hp']
      exact q H4 ((e2.trans e3).trans e4)

end
end HA

end
section
set_option maxRecDepth 100000
set_option maxHeartbeats 4000000
namespace HA
open PySem PySem.Spec PyProof.Rows L2 Evl
section
variable {P : Program} {w : World} {K : PySem.W.Frag} {mg : Str → Option Value} {base : Heap}
theorem ok_is_part (T : Txt K mg) : FnOk P w K mg base CX0 2 T.a_is_part T.d_is_part ["thing"] sp_part7 := by
  refine T.F_is_part.ok sc_is_part (fun vs H Q E h => ?_) (fun cdv A outer s H vs Q E hr h => ?_)
  · obtain ⟨v, b, rfl, _⟩ := h
    rfl
  · obtain ⟨v, b, rfl, hv, q⟩ := h
    have G_is_number := ok_is_number (P := P) (w := w) (base := base) T
    have G_is_prime := ok_is_prime (P := P) (w := w) (base := base) T
    refine ⟨_, pss_cons (ps_if (PW.pt (pw_or (pt_not (pt_val (pe_call G_is_number (hr.mono (by decide)) (by rfl) T.g_is_number T.F_is_number.kp T.b_is_number .nil pass0 (pa_cons (pv 0) pa_nil)))) (pw_or1 (pt_not (pt_chain op_le op_le pe_int (pv 0) (pe_glob (v := .int 10000) (by rfl) T.g_GREATEST ⟨_, rfl⟩)))))) (pss_one (ps_ret (pe_bl))) (pss_nil))
      (pss_one (ps_ret (pe_or (pe_cmpR op_eq (pv 0) pe_int (nomark _)) (pe_one (pe_and (pe_cmpR op_eq (pe_op op_mod (pv 0) pe_int) pe_int (nomark _)) (pe_one (pe_call G_is_prime (hr.mono (by decide)) (by rfl) T.g_is_prime T.F_is_prime.kp T.b_is_prime .nil pass0 (pa_cons (pe_op op_sub (pv 0) pe_int) pa_nil)))))))), ?_⟩
    rcases hv with ⟨z, rfl, rfl⟩ | ⟨st, rfl, rfl⟩ | ⟨hot, rfl⟩
    · refine q_when (b := !(decide (2 ≤ z) && decide (z ≤ 10000))) ?_ (fun hb H1 e1 => ?_) fun hb H1 e1 => ?_
      · exact et_is (et_or (et_not (et_B (ev_call (z := .bl true) (ea_cons (ev_var rfl) ea_nil) fun H3 e3 Q3 q3 _ => ⟨_, true, rfl, .inl ⟨z, rfl, rfl⟩, q3⟩))) fun _ => et_not (et_test (ev_chain ev_c (ev_var rfl) rv_I0 (fun _ => ev_c) (fun _ => rv_I0)))) rfl
      · refine s_ret ev_c fun H2 e2 => ?_
        have hz : isPart z = false := by
          unfold isPart
          rw [bnot1 hb]
          rfl
        have k := q H2 (e1.trans e2)
        rw [hz] at k
        exact k
      · have hb' := bnot0 hb
        have hb2 := hb'
        rw [Bool.and_eq_true, decide_eq_true_eq, decide_eq_true_eq] at hb2
        refine s_ret (v := .bl (isPart z)) (ev_is (ev_orV (ev_op (ev_var rfl) ev_c (rv_eq rfl)) fun _ => ev_andV (ev_op (ev_op (ev_var rfl) ev_c (rv_I (by decide))) ev_c (rv_eq rfl)) fun _ => ev_call (z := .bl (isPr (z - 1))) (ea_cons (ev_op (ev_var rfl) ev_c rv_I0) ea_nil) fun H3 e3 Q3 q3 _ => ⟨z - 1, rfl, by omega, q3⟩) ?_) fun H2 e2 => q H2 (e1.trans e2)
        unfold isPart
        rw [hb', dec_intB, dec_intB]
        rfl
    · exact q_when (b := true) (et_is (et_or (a := true) (b := true) (et_is (et_not (et_B (ev_call (z := .bl false) (ea_cons (ev_var rfl) ea_nil) fun H3 e3 Q3 q3 _ => ⟨_, false, rfl, .inr (.inl ⟨st, rfl, rfl⟩), q3⟩))) rfl) (fun hz => nomatch hz)) rfl) (fun _ H1 e1 => s_ret ev_c fun H2 e2 => q H2 (e1.trans e2)) (fun hz => nomatch hz)
    · exact q_when (b := true) (et_is (et_or (a := true) (b := true) (et_is (et_not (et_B (ev_call (z := .bl false) (ea_cons (ev_var rfl) ea_nil) fun H3 e3 Q3 q3 _ => ⟨_, false, rfl, .inr (.inr ⟨hot.ex e3, rfl⟩), q3⟩))) rfl) (fun hz => nomatch hz)) rfl) (fun _ H1 e1 => s_ret ev_c fun H2 e2 => q H2 (e1.trans e2)) (fun hz => nomatch hz)

end
end HA

end
section
set_option maxRecDepth 100000
set_option maxHeartbeats 4000000
namespace HA
open PySem PySem.Spec PyProof.Rows L2 Evl
section
variable {P : Program} {w : World} {K : PySem.W.Frag} {mg : Str → Option Value} {base : Heap}
theorem ok_asked_parts (T : Txt K mg) : FnOk P w K mg base (L2N.CX P w) 3 T.a_asked_parts T.d_asked_parts ["parts"] (sp_asked_parts7 T.C_BadParts) := by
  refine okN T.F_asked_parts sc_asked_parts (fun vs H Q E h => ?_) (fun cdv A outer s H vs Q E hr h => ?_)
  · obtain ⟨v, g, rfl, _⟩ := h
    rfl
  · obtain ⟨v, g, rfl, hv, qy, qn⟩ := h
    have G_is_part := ok_is_part (P := P) (w := w) (base := base) T
    refine ⟨_, pss_one (ps_if (PW.pt (pw_or (pt_not (pt_val (pe_callB call_isi (by rfl) T.m_isinstance (by decide +kernel) (pa_cons (pv 0) (pa_cons (pe_bltn (v := .ty "list") (by rfl) T.m_list (by decide +kernel) rfl) pa_nil))))) (pw_or1 (pt_not (pt_val (pe_callB (cr_all rfl) (by rfl) T.m_all (by decide +kernel) (pa_cons (pe_lc (own := [("part", 1)]) (g := (gName 1)) (tt := tYes) (te := (tCall _ _ _ (tCons (tVar 1) tNil))) (by rfl) sc_asked_parts.nd (pi_list (pv 0)) (blkOk_by (by kernel_rfl)) (fun _ _ _ _ _ => pg_name (i := 1) sc_asked_parts.nd rfl (.inl rfl)) (fun _ _ _ _ _ => pts_nil) (fun _ _ _ _ _ => pe_call G_is_part (hr.mono (by decide)) (by rfl) T.g_is_part T.F_is_part.kp T.b_is_part .nil pass0 (pa_cons (pv 1) pa_nil))) pa_nil))))))) (pss_one (L2N.ps_raise rfl (L2N.takes_of rfl rfl rfl rfl) (L2N.pmk_own PySem.F.excBase_ValueError T.x_BadParts T.g_BadParts T.k_BadParts (raises_own T.eb_BadParts T.et_BadParts) rfl))) (pss_nil)), ?_⟩
    rcases hv with ⟨hl, rfl⟩ | ⟨a, vs, rfl, ha, hl, hi⟩
    · exact s_when (b := true) (et_is (et_or (a := true) (b := true) (et_is (et_not (et_B (hl.isi (ev_var rfl)))) rfl) (fun hz => nomatch hz)) rfl) (fun _ H1 e1 => qn rfl H1 e1) (fun hz => nomatch hz)
    · refine s_when (b := !g) (et_is (et_or (a := false) (b := !g) (et_is (et_not (et_B (isiL ha (ev_var rfl)))) rfl) (fun _ => et_not (et_B (ev_allB (K := K) (R := PartB) (fun e h => PartB.ex e h) (ev_var rfl) ha (by omega) hi (fun x => rfl) fun x b H2 e2 hx => ?_)))) rfl) (fun hb H1 e1 => qn (bnot1 hb) H1 e1) fun hb H1 e1 => qy (bnot0 hb) H1 e1
      exact ev_call (ea_cons (ev_var rfl) ea_nil) fun H3 e3 Q3 q3 _ => ⟨x, b, rfl, hx.ex e3, q3⟩

end
end HA

end
section
set_option maxRecDepth 100000
set_option maxHeartbeats 4000000
namespace HA
open PySem PySem.Spec PyProof.Rows L2 Evl
section
variable {P : Program} {w : World} {K : PySem.W.Frag} {mg : Str → Option Value} {base : Heap}
theorem ok_multiplied (T : Txt K mg) : FnOk P w K mg base CX0 1 T.a_multiplied T.d_multiplied ["parts"] sp_multiplied := by
  refine T.F_multiplied.ok sc_multiplied (fun vs H Q E h => ?_) (fun cdv A outer s H vs Q E hr h => ?_)
  · obtain ⟨a, ps, rfl, _⟩ := h
    rfl
  · obtain ⟨a, ps, rfl, hP, hg, q⟩ := h
    refine ⟨_, pss_cons (ps_set (i := 1) sc_multiplied.nd rfl (.inl rfl) pe_int)
      (pss_cons (ps_for PassesOwn.never (by rfl) (pi_list (pv 0)) (pg_name (i := 2) sc_multiplied.nd rfl (.inl rfl))
        (pss_one (ps_set (i := 1) sc_multiplied.nd rfl (.inl rfl) (pe_op op_mul (pv 1) (pv 2)))))
      (pss_one (ps_ret (pv 1)))), ?_⟩
    refine q_asg ev_c fun H1 e1 => ?_
    refine q_forLn (K := K) (ev_var rfl) (sq_of (e1 a _ hP.1)) (fun i σ' H' => ∃ v2, σ' = [some (.ref a), some (.int (prodI (ps.take i))), v2] ∧ Ex H1 H') (fun H2 e2 => ⟨_, rfl, e2⟩) (fun i σ' H2 _ hp => ?_) (fun i x σ' H2 hx hp => ?_) (fun σ' H2 hp => ?_)
    · obtain ⟨v2, rfl, e2⟩ := hp
      exact sq_of (e2 a _ (e1 a _ hP.1))
    · obtain ⟨v2, rfl, e2⟩ := hp
      obtain ⟨hi, rfl⟩ := intG ps hx
      have hb := hg.2 _ (List.getElem_mem hi)
      exact s_asg (ev_is (ev_op (ev_var rfl) (ev_var rfl) (rv_I (.inr ⟨by omega, by omega⟩))) (congrArg V.int (prod_take hi).symm)) fun H3 e3 => ⟨_, rfl, e2.trans e3⟩
    · obtain ⟨v2, rfl, e2⟩ := hp
      rw [List.length_map, List.take_length]
      exact s_ret (ev_var rfl) fun H3 e3 => q H3 ((e1.trans e2).trans e3)

end
end HA

end
section
set_option maxRecDepth 100000
set_option maxHeartbeats 4000000
namespace HA
open PySem PySem.Spec PyProof.Rows L2 Evl
section
variable {P : Program} {w : World} {K : PySem.W.Frag} {mg : Str → Option Value} {base : Heap}
theorem ok_order (T : Txt K mg) : FnOk P w K mg base (L2N.CX P w) 4 T.a_order T.d_order ["parts"] (sp_order7 T.C_BadParts) := by
  refine okN T.F_order sc_order (fun vs H Q E h => ?_) (fun cdv A outer s H vs Q E hr h => ?_)
  · obtain ⟨v, rfl, _⟩ := h
    rfl
  · obtain ⟨v, rfl, hv⟩ := h
    have G_asked_parts := ok_asked_parts (P := P) (w := w) (base := base) T
    have G_multiplied := ok_multiplied (P := P) (w := w) (base := base) T
    refine ⟨_, pss_cons (ps_expr (pe_call G_asked_parts (hr.mono (by decide)) (by rfl) T.g_asked_parts T.F_asked_parts.kp T.b_asked_parts .nil (passEN rfl rfl rfl rfl) (pa_cons (pv 0) pa_nil)))
      (pss_one (ps_ret (pe_call G_multiplied (hr.mono (by decide)) (by rfl) T.g_multiplied T.F_multiplied.kp T.b_multiplied .nil pass0 (pa_cons (pv 0) pa_nil)))), ?_⟩
    rcases hv with ⟨hb, ho⟩ | ⟨a, ps, rfl, hP, hall, q⟩
    · exact q_dropC (ea_cons (ev_var rfl) ea_nil) fun H1 e1 => ⟨v, false, rfl, hb.ex e1, fun hz => (nomatch hz), fun _ => ho.ex e1⟩
    · refine q_dropC (ea_cons (ev_var rfl) ea_nil) fun H1 e1 => ⟨.ref a, true, rfl, by have z := (parts_B hP.1 hP.2).ex e1; rw [hall] at z; exact z, fun _ H2 e2 => ?_, fun hz => nomatch hz⟩
      exact s_ret (ev_call (z := .int (prodI ps)) (ea_cons (ev_var rfl) ea_nil) fun H3 e3 Q3 q3 _ => ⟨a, ps, rfl, (hP.ex (e1.trans e2)).ex e3, gp_of hP.2 hall, q3⟩) fun H3 e3 => q H3 ((e1.trans e2).trans e3)

end
end HA

end
section
set_option maxRecDepth 100000
set_option maxHeartbeats 4000000
namespace HA
open PySem PySem.Spec PyProof.Rows L2 Evl
section
variable {P : Program} {w : World} {K : PySem.W.Frag} {mg : Str → Option Value} {base : Heap}
theorem ok_sign_at (T : Txt K mg) : FnOk P w K mg base (L2N.CX P w) 4 T.a_sign_at T.d_sign_at ["parts", "row", "column"] (sp_sign7 T.C_BadParts T.C_BadPlace) := by
  refine okN T.F_sign_at sc_sign_at (fun vs H Q E h => ?_) (fun cdv A outer s H vs Q E hr h => ?_)
  · obtain ⟨v, r, c, rfl, _⟩ := h
    rfl
  · obtain ⟨v, r, c, rfl, hv⟩ := h
    have G_asked_parts := ok_asked_parts (P := P) (w := w) (base := base) T
    have G_multiplied := ok_multiplied (P := P) (w := w) (base := base) T
    have G_is_number := ok_is_number (P := P) (w := w) (base := base) T
    refine ⟨_, pss_cons (ps_expr (pe_call G_asked_parts (hr.mono (by decide)) (by rfl) T.g_asked_parts T.F_asked_parts.kp T.b_asked_parts .nil (passEN rfl rfl rfl rfl) (pa_cons (pv 0) pa_nil)))
      (pss_cons (ps_set (i := 3) sc_sign_at.nd rfl (.inl rfl) (pe_call G_multiplied (hr.mono (by decide)) (by rfl) T.g_multiplied T.F_multiplied.kp T.b_multiplied .nil pass0 (pa_cons (pv 0) pa_nil)))
      (pss_cons (ps_for (passes_of rfl) (by rfl) (pi_tup (pe_tup (pa_cons (pv 1) (pa_cons (pv 2) pa_nil)))) (pg_name (i := 4) sc_sign_at.nd rfl (.inl rfl))
        (pss_one (ps_if (PW.pt (pw_or (pt_not (pt_val (pe_call G_is_number (hr.mono (by decide)) (by rfl) T.g_is_number T.F_is_number.kp T.b_is_number .nil pass0 (pa_cons (pv 4) pa_nil)))) (pw_or1 (pt_not (pt_chain op_le op_lt pe_int (pv 4) (pv 3)))))) (pss_one (L2N.ps_raise rfl (L2N.takes_of rfl rfl rfl rfl) (L2N.pmk_own PySem.F.excBase_ValueError T.x_BadPlace T.g_BadPlace T.k_BadPlace (raises_own T.eb_BadPlace T.et_BadPlace) rfl))) (pss_nil))))
      (pss_never))), ?_⟩
    rcases hv with ⟨hb, ho⟩ | ⟨a, ps, g, rfl, hP, hall, hr', hc', ho⟩
    · exact q_dropC (ea_cons (ev_var rfl) ea_nil) fun H1 e1 => ⟨v, false, rfl, hb.ex e1, fun hz => (nomatch hz), fun _ => ho.ex e1⟩
    · refine q_dropC (ea_cons (ev_var rfl) ea_nil) fun H1 e1 => ⟨.ref a, true, rfl, by have z := (parts_B hP.1 hP.2).ex e1; rw [hall] at z; exact z, fun _ H2 e2 => ?_, fun hz => nomatch hz⟩
      have E2 := e1.trans e2
      refine q_asg (v := .int (prodI ps)) (ev_call (ea_cons (ev_var rfl) ea_nil) fun H3 e3 Q3 q3 _ => ⟨a, ps, rfl, (hP.ex E2).ex e3, gp_of hP.2 hall, q3⟩) fun H3 e3 => ?_
      have E3 := E2.trans e3
      refine q_forU (K := K) (xs := [r, c]) (eu_tup (ea_cons (ev_var rfl) (ea_cons (ev_var rfl) ea_nil)) (by show 2 ≤ 100000; decide)) (fun i σ' H' => ∃ v4, σ' = [some (.ref a), some r, some c, some (.int (prodI ps)), v4] ∧ Ex H3 H' ∧ (1 ≤ i → g = true) ∧ i < 2) (fun H4 e4 => ⟨_, rfl, e4, fun hz => absurd hz (by decide), by decide⟩) (fun H4 e4 i x σ' H5 hx hp e5 => ?_) (fun σ' H4 hp => ?_)
      · obtain ⟨v4, rfl, e6, hg, hi2⟩ := hp
        have E5 := E3.trans e6
        obtain ⟨b, hxb, hbg⟩ : ∃ b, PlaceB (prodI ps) H x b ∧ (b = true → i = 0 ∧ g = true) := by
          match i, hx with
          | 0, hx =>
            cases hx
            exact ⟨g, hr', fun hz => ⟨rfl, hz⟩⟩
          | 1, hx =>
            cases hx
            exact ⟨false, hc' (hg (by decide)), fun hz => nomatch hz⟩
          | k + 2, hx => exact absurd hx (by simp)
        refine s_when (b := !b) ?_ (fun hb H6 e7 => ho H6 (E5.trans e7)) fun hb H6 e7 => ?_
        · rcases hxb.ex E5 with ⟨z, rfl, hz⟩ | ⟨st, rfl, rfl⟩ | ⟨hot, rfl⟩
          · exact et_is (et_or (et_is (et_not (et_B (ev_call (z := .bl true) (ea_cons (ev_var rfl) ea_nil) fun H7 e7 Q7 q7 _ => ⟨_, true, rfl, .inl ⟨z, rfl, rfl⟩, q7⟩))) rfl) fun _ => et_not (et_test (ev_chain ev_c (ev_var rfl) rv_I0 (fun _ => ev_var rfl) (fun _ => rv_I0)))) (by rw [hz]; rfl)
          · exact et_is (et_or (a := true) (b := true) (et_is (et_not (et_B (ev_call (z := .bl false) (ea_cons (ev_var rfl) ea_nil) fun H7 e7 Q7 q7 _ => ⟨_, false, rfl, .inr (.inl ⟨st, rfl, rfl⟩), q7⟩))) rfl) (fun hz => nomatch hz)) rfl
          · exact et_is (et_or (a := true) (b := true) (et_is (et_not (et_B (ev_call (z := .bl false) (ea_cons (ev_var rfl) ea_nil) fun H7 e7 Q7 q7 _ => ⟨_, false, rfl, .inr (.inr ⟨hot.ex e7, rfl⟩), q7⟩))) rfl) (fun hz => nomatch hz)) rfl
        · obtain ⟨hi0, hgt⟩ := hbg (bnot0 hb)
          exact ⟨⟨_, rfl, e6.trans e7, fun _ => hgt, by omega⟩, e5.trans e7⟩
      · obtain ⟨v4, rfl, e6, hg, hi2⟩ := hp
        exact absurd hi2 (by show ¬ 2 < 2; decide)

end
end HA

end
section
set_option maxRecDepth 100000
set_option maxHeartbeats 4000000
namespace HA
open PySem PySem.Spec PyProof.Rows L2 Evl
section
variable {P : Program} {w : World} {K : PySem.W.Frag} {mg : Str → Option Value} {base : Heap}
theorem ok_made (T : Txt K mg) : FnOk P w K mg base (L2N.CX P w) 4 T.a_made T.d_made ["parts"] (sp_made7 T.C_BadParts) := by
  refine okN T.F_made sc_made (fun vs H Q E h => ?_) (fun cdv A outer s H vs Q E hr h => ?_)
  · obtain ⟨v, rfl, _⟩ := h
    rfl
  · obtain ⟨v, rfl, hb, ho⟩ := h
    have G_asked_parts := ok_asked_parts (P := P) (w := w) (base := base) T
    have G_multiplied := ok_multiplied (P := P) (w := w) (base := base) T
    refine ⟨_, pss_cons (ps_expr (pe_call G_asked_parts (hr.mono (by decide)) (by rfl) T.g_asked_parts T.F_asked_parts.kp T.b_asked_parts .nil (passEN rfl rfl rfl rfl) (pa_cons (pv 0) pa_nil)))
      (pss_never), ?_⟩
    exact q_dropC (ea_cons (ev_var rfl) ea_nil) fun H1 e1 => ⟨v, false, rfl, hb.ex e1, fun hz => (nomatch hz), fun _ => ho.ex e1⟩

end
end HA

end
section
set_option maxRecDepth 100000
set_option maxHeartbeats 4000000
namespace HA
open PySem PySem.Spec PyProof.Rows L2 Evl
section
variable {P : Program} {w : World} {K : PySem.W.Frag} {mg : Str → Option Value} {base : Heap}
theorem ok_told (T : Txt K mg) : FnOk P w K mg base (L2N.CX P w) 3 T.a_told T.d_told ["table"] (sp_bad1 T.C_BadTable) := by
  refine okN T.F_told sc_told (fun vs H Q E h => ?_) (fun cdv A outer s H vs Q E hr h => ?_)
  · obtain ⟨v, rfl, _⟩ := h
    rfl
  · obtain ⟨v, rfl, hb, ho⟩ := h
    have G_asked_table := ok_asked_table (P := P) (w := w) (base := base) T
    have G_first_unlike := ok_first_unlike (P := P) (w := w) (base := base) T
    refine ⟨_, pss_cons (ps_expr (pe_call G_asked_table (hr.mono (by decide)) (by rfl) T.g_asked_table T.F_asked_table.kp T.b_asked_table .nil (passEN rfl rfl rfl rfl) (pa_cons (pv 0) pa_nil)))
      (pss_never), ?_⟩
    exact q_dropC (ea_cons (ev_var rfl) ea_nil) fun H1 e1 => ⟨v, false, rfl, hb.ex e1, fun hz => (nomatch hz), fun _ => ho.ex e1⟩

end
end HA

end
section
set_option maxRecDepth 100000
set_option maxHeartbeats 4000000
namespace HA
open PySem PySem.Spec PyProof.Rows L2 Evl
section
variable {P : Program} {w : World} {K : PySem.W.Frag} {mg : Str → Option Value} {base : Heap}
theorem ok_asked_numbers (T : Txt K mg) : FnOk P w K mg base (L2N.CX P w) 4 T.a_asked_numbers T.d_asked_numbers ["table", "numbers"] (sp_asked_numbers7 T.C_BadTable T.C_BadNumbers) := by
  refine okN T.F_asked_numbers sc_asked_numbers (fun vs H Q E h => ?_) (fun cdv A outer s H vs Q E hr h => ?_)
  · obtain ⟨v, w', rfl, _⟩ := h
    rfl
  · obtain ⟨v, w', rfl, hv⟩ := h
    have G_asked_half := ok_asked_half (P := P) (w := w) (base := base) T
    have G_is_number := ok_is_number (P := P) (w := w) (base := base) T
    refine ⟨_, pss_cons (ps_expr (pe_call G_asked_half (hr.mono (by decide)) (by rfl) T.g_asked_half T.F_asked_half.kp T.b_asked_half .nil (passEN rfl rfl rfl rfl) (pa_cons (pv 0) pa_nil)))
      (pss_one (ps_if (PW.pt (pw_or (pt_not (pt_val (pe_callB call_isi (by rfl) T.m_isinstance (by decide +kernel) (pa_cons (pv 1) (pa_cons (pe_bltn (v := .ty "list") (by rfl) T.m_list (by decide +kernel) rfl) pa_nil))))) (pw_or (pt_cmpR op_ne (pe_callB call_len_seq (by rfl) T.m_len (by decide +kernel) (pa_cons (pv 1) pa_nil)) (pe_callB call_len_seq (by rfl) T.m_len (by decide +kernel) (pa_cons (pv 0) pa_nil)) (nomark _)) (pw_or1 (pt_not (pt_val (pe_callB (cr_all rfl) (by rfl) T.m_all (by decide +kernel) (pa_cons (pe_lc (own := [("one", 2)]) (g := (gName 2)) (tt := tYes) (te := (tCall _ _ _ (tCons (tVar 2) tNil))) (by rfl) sc_asked_numbers.nd (pi_list (pv 1)) (blkOk_by (by kernel_rfl)) (fun _ _ _ _ _ => pg_name (i := 2) sc_asked_numbers.nd rfl (.inl rfl)) (fun _ _ _ _ _ => pts_nil) (fun _ _ _ _ _ => pe_call G_is_number (hr.mono (by decide)) (by rfl) T.g_is_number T.F_is_number.kp T.b_is_number .nil pass0 (pa_cons (pv 2) pa_nil))) pa_nil)))))))) (pss_one (L2N.ps_raise rfl (L2N.takes_of rfl rfl rfl rfl) (L2N.pmk_own PySem.F.excBase_ValueError T.x_BadNumbers T.g_BadNumbers T.k_BadNumbers (raises_own T.eb_BadNumbers T.et_BadNumbers) rfl))) (pss_nil))), ?_⟩
    rcases hv with ⟨hb, ho⟩ | ⟨n, hh, hn, ho⟩
    · exact q_dropC (ea_cons (ev_var rfl) ea_nil) fun H1 e1 => ⟨v, rfl, .inl ⟨hb.ex e1, ho.ex e1⟩⟩
    · refine q_dropC (ea_cons (ev_var rfl) ea_nil) fun H1 e1 => ⟨v, rfl, .inr ⟨⟨n, hh.ex e1⟩, fun H2 e2 => ?_⟩⟩
      have E2 := e1.trans e2
      obtain ⟨a, f, rfl, ha, h1, h2, _⟩ := hh.ex E2
      refine s_when (b := true) ?_ (fun _ H3 e3 => ho H3 (E2.trans e3)) (fun hz => nomatch hz)
      rcases hn.ex E2 with hl | ⟨b, vs, rfl, hb, hl, hc⟩
      · exact et_is (et_or (a := true) (b := true) (et_is (et_not (et_B (hl.isi (ev_var rfl)))) rfl) (fun hz => nomatch hz)) rfl
      · by_cases hlen : vs.length = n
        · rcases hc with hc | hc
          · exact absurd hlen hc
          · refine et_is (et_or (a := false) (b := true) (et_is (et_not (et_B (isiL hb (ev_var rfl)))) rfl) (fun _ => et_is (et_or (a := false) (b := true) (et_is (et_test (ev_op (ev_len (K := K) (ev_var rfl) (sq_of hb)) (ev_lenT (K := K) (n := n) (f := f) (ev_var rfl) (sq_of ha)) (rv_ne rfl))) ?_) (fun _ => et_is (et_not (et_B (ev_allB (K := K) (R := NumB) (fun e h => NumB.ex e h) (ev_var rfl) hb hl hc (fun x => rfl) fun x b' H3 e3 hx => ?_))) rfl)) rfl)) rfl
            · rw [hlen, decide_eq_true rfl]
              rfl
            · exact ev_call (ea_cons (ev_var rfl) ea_nil) fun H4 e4 Q4 q4 _ => ⟨x, b', rfl, hx.ex e4, q4⟩
        · refine et_is (et_or (a := false) (b := true) (et_is (et_not (et_B (isiL hb (ev_var rfl)))) rfl) (fun _ => et_is (et_or (a := true) (b := true) (et_is (et_test (ev_op (ev_len (K := K) (ev_var rfl) (sq_of hb)) (ev_lenT (K := K) (n := n) (f := f) (ev_var rfl) (sq_of ha)) (rv_ne rfl))) ?_) (fun hz => nomatch hz)) rfl)) rfl
          rw [dec_intB, decide_eq_false (show ¬ (vs.length : Int) = (n : Int) by omega)]
          rfl

end
end HA

end
section
set_option maxRecDepth 100000
set_option maxHeartbeats 4000000
namespace HA
open PySem PySem.Spec PyProof.Rows L2 Evl
section
variable {P : Program} {w : World} {K : PySem.W.Frag} {mg : Str → Option Value} {base : Heap}
theorem ok_worths (T : Txt K mg) : FnOk P w K mg base (L2N.CX P w) 5 T.a_worths T.d_worths ["table", "numbers"] (sp_asked_numbers7 T.C_BadTable T.C_BadNumbers) := by
  refine okN T.F_worths sc_worths (fun vs H Q E h => ?_) (fun cdv A outer s H vs Q E hr h => ?_)
  · obtain ⟨v, w', rfl, _⟩ := h
    rfl
  · obtain ⟨v, w', rfl, hv⟩ := h
    have G_asked_numbers := ok_asked_numbers (P := P) (w := w) (base := base) T
    refine ⟨_, pss_cons (ps_expr (pe_call G_asked_numbers (hr.mono (by decide)) (by rfl) T.g_asked_numbers T.F_asked_numbers.kp T.b_asked_numbers .nil (passEN rfl rfl rfl rfl) (pa_cons (pv 0) (pa_cons (pv 1) pa_nil))))
      (pss_never), ?_⟩
    refine q_dropC (ea_cons (ev_var rfl) (ea_cons (ev_var rfl) ea_nil)) fun H1 e1 => ⟨v, w', rfl, ?_⟩
    rcases hv with ⟨hb, ho⟩ | ⟨n, hh, hn, ho⟩
    · exact .inl ⟨hb.ex e1, ho.ex e1⟩
    · exact .inr ⟨n, hh.ex e1, hn.ex e1, ho.ex e1⟩

end
end HA

end
section
set_option maxRecDepth 100000
set_option maxHeartbeats 4000000
namespace HA
open PySem PySem.Spec PyProof.Rows L2 Evl
section
variable {P : Program} {w : World} {K : PySem.W.Frag} {mg : Str → Option Value} {base : Heap}
theorem ok_numbers_of (T : Txt K mg) : FnOk P w K mg base (L2N.CX P w) 5 T.a_numbers_of T.d_numbers_of ["table", "told_worths"] (sp_asked_numbers7 T.C_BadTable T.C_BadNumbers) := by
  refine okN T.F_numbers_of sc_numbers_of (fun vs H Q E h => ?_) (fun cdv A outer s H vs Q E hr h => ?_)
  · obtain ⟨v, w', rfl, _⟩ := h
    rfl
  · obtain ⟨v, w', rfl, hv⟩ := h
    have G_asked_numbers := ok_asked_numbers (P := P) (w := w) (base := base) T
    refine ⟨_, pss_cons (ps_expr (pe_call G_asked_numbers (hr.mono (by decide)) (by rfl) T.g_asked_numbers T.F_asked_numbers.kp T.b_asked_numbers .nil (passEN rfl rfl rfl rfl) (pa_cons (pv 0) (pa_cons (pv 1) pa_nil))))
      (pss_never), ?_⟩
    refine q_dropC (ea_cons (ev_var rfl) (ea_cons (ev_var rfl) ea_nil)) fun H1 e1 => ⟨v, w', rfl, ?_⟩
    rcases hv with ⟨hb, ho⟩ | ⟨n, hh, hn, ho⟩
    · exact .inl ⟨hb.ex e1, ho.ex e1⟩
    · exact .inr ⟨n, hh.ex e1, hn.ex e1, ho.ex e1⟩

end
end HA

end
section
set_option maxRecDepth 100000
set_option maxHeartbeats 4000000
namespace HA
open PySem PySem.Spec PyProof.Rows L2 Evl
section
variable {P : Program} {w : World} {K : PySem.W.Frag} {mg : Str → Option Value} {base : Heap}
theorem ok_read (T : Txt K mg) : FnOk P w K mg base (L2N.CX P w) 4 T.a_read T.d_read ["table", "signs"] (sp_read7 T.C_BadTable T.C_BadSigns) := by
  refine okN T.F_read sc_read (fun vs H Q E h => ?_) (fun cdv A outer s H vs Q E hr h => ?_)
  · obtain ⟨v, w', rfl, _⟩ := h
    rfl
  · obtain ⟨v, w', rfl, hv⟩ := h
    have G_asked_half := ok_asked_half (P := P) (w := w) (base := base) T
    have G_is_row := ok_is_row (P := P) (w := w) (base := base) T
    refine ⟨_, pss_cons (ps_expr (pe_call G_asked_half (hr.mono (by decide)) (by rfl) T.g_asked_half T.F_asked_half.kp T.b_asked_half .nil (passEN rfl rfl rfl rfl) (pa_cons (pv 0) pa_nil)))
      (pss_cons (ps_if (pt_not (pt_val (pe_call G_is_row (hr.mono (by decide)) (by rfl) T.g_is_row T.F_is_row.kp T.b_is_row .nil pass0 (pa_cons (pv 1) (pa_cons (pe_callB call_len_seq (by rfl) T.m_len (by decide +kernel) (pa_cons (pv 0) pa_nil)) pa_nil))))) (pss_one (L2N.ps_raise rfl (L2N.takes_of rfl rfl rfl rfl) (L2N.pmk_own PySem.F.excBase_ValueError T.x_BadSigns T.g_BadSigns T.k_BadSigns (raises_own T.eb_BadSigns T.et_BadSigns) rfl))) (pss_nil))
      (pss_never)), ?_⟩
    rcases hv with ⟨hb, ho⟩ | ⟨n, hh, hw, ho⟩
    · exact q_dropC (ea_cons (ev_var rfl) ea_nil) fun H1 e1 => ⟨v, rfl, .inl ⟨hb.ex e1, ho.ex e1⟩⟩
    · refine q_dropC (ea_cons (ev_var rfl) ea_nil) fun H1 e1 => ⟨v, rfl, .inr ⟨⟨n, hh.ex e1⟩, fun H2 e2 => ?_⟩⟩
      have E2 := e1.trans e2
      obtain ⟨a, f, rfl, ha, h1, h2, _⟩ := hh.ex E2
      refine q_when (b := true) ?_ (fun _ H3 e3 => ho H3 (E2.trans e3)) (fun hz => nomatch hz)
      exact et_is (et_not (et_B (ev_call (z := .bl false) (ea_cons (ev_var rfl) (ea_cons (ev_lenT (K := K) (n := n) (f := f) (ev_var rfl) (sq_of ha)) ea_nil)) fun H3 e3 Q3 q3 _ => ⟨w', n, false, rfl, (hw.ex E2).ex e3, q3⟩))) rfl

end
end HA

end
section
set_option maxRecDepth 100000
set_option maxHeartbeats 4000000
namespace HA
open PySem PySem.Spec PyProof.Rows L2 Evl
section
variable {P : Program} {w : World} {K : PySem.W.Frag} {mg : Str → Option Value} {base : Heap}
theorem ok_L_with_half (T : Txt K mg) : FnOk P w K mg base (L2N.CX P w) 6 T.a_L_with_half T.d_L_with_half ["_law_door", "_law_table"] (sp_with_half T.C_BadTable) := by
  refine okN T.F_L_with_half sc_L_with_half (fun vs H Q E h => ?_) (fun cdv A outer s H vs Q E hr h => ?_)
  · obtain ⟨v, d, rfl, _⟩ := h
    rfl
  · obtain ⟨v, d, rfl, hd, hb, ho⟩ := h
    have G_worths := ok_worths (P := P) (w := w) (base := base) T
    have G_numbers_of := ok_numbers_of (P := P) (w := w) (base := base) T
    have G_read := ok_read (P := P) (w := w) (base := base) T
    refine ⟨_, pss_one (ps_ret (pe_ifExp (pt_cmpR op_eq (pv 0) pe_int (nomark _)) (pe_call G_worths (hr.mono (by decide)) (by rfl) T.g_worths T.F_worths.kp T.b_worths .nil (passEN rfl rfl rfl rfl) (pa_cons (pv 1) (pa_cons pe_non pa_nil))) (pe_ifExp (pt_cmpR op_eq (pv 0) pe_int (nomark _)) (pe_call G_numbers_of (hr.mono (by decide)) (by rfl) T.g_numbers_of T.F_numbers_of.kp T.b_numbers_of .nil (passEN rfl rfl rfl rfl) (pa_cons (pv 1) (pa_cons pe_non pa_nil))) (pe_call G_read (hr.mono (by decide)) (by rfl) T.g_read T.F_read.kp T.b_read .nil (passEN rfl rfl rfl rfl) (pa_cons (pv 1) (pa_cons pe_non pa_nil)))))), ?_⟩
    refine s_retIf (b := decide ((d : Int) = 0)) (et_is (et_test (ev_op (ev_var rfl) ev_c (rv_eq rfl))) (dec_intB _ _)) (fun _ H1 e1 => ?_) fun _ H1 e1 => ?_
    · exact s_retC (ea_cons (ev_var rfl) (ea_cons ev_c ea_nil)) fun H2 e2 => ⟨v, .non, rfl, .inl ⟨hb.ex (e1.trans e2), ho.ex (e1.trans e2)⟩⟩
    · refine s_retIf (b := decide ((d : Int) = 1)) (et_is (et_test (ev_op (ev_var rfl) ev_c (rv_eq rfl))) (dec_intB _ _)) (fun _ H2 e2 => ?_) fun _ H2 e2 => ?_
      · exact s_retC (ea_cons (ev_var rfl) (ea_cons ev_c ea_nil)) fun H3 e3 => ⟨v, .non, rfl, .inl ⟨hb.ex ((e1.trans e2).trans e3), ho.ex ((e1.trans e2).trans e3)⟩⟩
      · exact s_retC (ea_cons (ev_var rfl) (ea_cons ev_c ea_nil)) fun H3 e3 => ⟨v, .non, rfl, .inl ⟨hb.ex ((e1.trans e2).trans e3), ho.ex ((e1.trans e2).trans e3)⟩⟩

end
end HA

end
section
set_option maxRecDepth 100000
set_option maxHeartbeats 4000000
namespace HA
open PySem PySem.Spec PyProof.Rows L2 Evl
section
variable {P : Program} {w : World} {K : PySem.W.Frag} {mg : Str → Option Value} {base : Heap}
theorem ok_L_with_table (T : Txt K mg) : FnOk P w K mg base (L2N.CX P w) 7 T.a_L_with_table T.d_L_with_table ["_law_door", "_law_table"] (sp_with_table T.C_BadTable) := by
  refine okN T.F_L_with_table sc_L_with_table (fun vs H Q E h => ?_) (fun cdv A outer s H vs Q E hr h => ?_)
  · obtain ⟨v, d, rfl, _⟩ := h
    rfl
  · obtain ⟨v, d, rfl, hd, hb, ho⟩ := h
    have G_L_with_half := ok_L_with_half (P := P) (w := w) (base := base) T
    have G_exchanged := ok_exchanged (P := P) (w := w) (base := base) T
    have G_evened := ok_evened (P := P) (w := w) (base := base) T
    have G_turned := ok_turned (P := P) (w := w) (base := base) T
    have G_told := ok_told (P := P) (w := w) (base := base) T
    have G_product := ok_product (P := P) (w := w) (base := base) T
    refine ⟨_, pss_cons (ps_if (pt_cmpR op_lt (pv 0) pe_int (nomark _)) (pss_one (ps_ret (pe_ifExp (pt_cmpR op_eq (pv 0) pe_int (nomark _)) (pe_call G_exchanged (hr.mono (by decide)) (by rfl) T.g_exchanged T.F_exchanged.kp T.b_exchanged .nil (passEN rfl rfl rfl rfl) (pa_cons (pv 1) pa_nil)) (pe_call G_evened (hr.mono (by decide)) (by rfl) T.g_evened T.F_evened.kp T.b_evened .nil (passEN rfl rfl rfl rfl) (pa_cons (pv 1) pa_nil))))) (pss_nil))
      (pss_cons (ps_if (pt_cmpR op_lt (pv 0) pe_int (nomark _)) (pss_one (ps_ret (pe_ifExp (pt_cmpR op_eq (pv 0) pe_int (nomark _)) (pe_call G_turned (hr.mono (by decide)) (by rfl) T.g_turned T.F_turned.kp T.b_turned .nil (passEN rfl rfl rfl rfl) (pa_cons (pv 1) (pa_cons pe_non pa_nil))) (pe_call G_told (hr.mono (by decide)) (by rfl) T.g_told T.F_told.kp T.b_told .nil (passEN rfl rfl rfl rfl) (pa_cons (pv 1) pa_nil))))) (pss_nil))
      (pss_cons (ps_if (pt_cmpR op_lt (pv 0) pe_int (nomark _)) (pss_one (ps_ret (pe_ifExp (pt_cmpR op_eq (pv 0) pe_int (nomark _)) (pe_call G_product (hr.mono (by decide)) (by rfl) T.g_product T.F_product.kp T.b_product .nil (passEN rfl rfl rfl rfl) (pa_cons (pv 1) (pa_cons pe_non pa_nil))) (pe_call G_product (hr.mono (by decide)) (by rfl) T.g_product T.F_product.kp T.b_product .nil (passEN rfl rfl rfl rfl) (pa_cons (pe_lst (pa_cons pe_str pa_nil)) (pa_cons (pv 1) pa_nil)))))) (pss_nil))
      (pss_one (ps_ret (pe_call G_L_with_half (hr.mono (by decide)) (by rfl) T.g_L_with_half T.F_L_with_half.kp T.b_L_with_half .nil (passEN rfl rfl rfl rfl) (pa_cons (pe_op op_sub (pv 0) pe_int) (pa_cons (pv 1) pa_nil))))))), ?_⟩
    refine q_when (b := decide ((d : Int) < 2)) (et_test (ev_op (ev_var rfl) ev_c rv_I0)) (fun _ H1 e1 => ?_) fun _ H1 e1 => ?_
    · refine s_retIf (b := decide ((d : Int) = 0)) (et_is (et_test (ev_op (ev_var rfl) ev_c (rv_eq rfl))) (dec_intB _ _)) (fun _ H2 e2 => ?_) fun _ H2 e2 => ?_
      · exact s_retC (ea_cons (ev_var rfl) ea_nil) fun H3 e3 => ⟨v, rfl, .inl ⟨hb.ex ((e1.trans e2).trans e3), ho.ex ((e1.trans e2).trans e3)⟩⟩
      · exact s_retC (ea_cons (ev_var rfl) ea_nil) fun H3 e3 => ⟨v, rfl, hb.ex ((e1.trans e2).trans e3), ho.ex ((e1.trans e2).trans e3)⟩
    refine q_when (b := decide ((d : Int) < 4)) (et_test (ev_op (ev_var rfl) ev_c rv_I0)) (fun _ H2 e2 => ?_) fun _ H2 e2 => ?_
    · have E2 := e1.trans e2
      refine s_retIf (b := decide ((d : Int) = 2)) (et_is (et_test (ev_op (ev_var rfl) ev_c (rv_eq rfl))) (dec_intB _ _)) (fun _ H3 e3 => ?_) fun _ H3 e3 => ?_
      · exact s_retC (ea_cons (ev_var rfl) (ea_cons ev_c ea_nil)) fun H4 e4 => ⟨v, .non, rfl, .inl ⟨hb.ex ((E2.trans e3).trans e4), ho.ex ((E2.trans e3).trans e4)⟩⟩
      · exact s_retC (ea_cons (ev_var rfl) ea_nil) fun H4 e4 => ⟨v, rfl, hb.ex ((E2.trans e3).trans e4), ho.ex ((E2.trans e3).trans e4)⟩
    have E2 := e1.trans e2
    refine q_when (b := decide ((d : Int) < 6)) (et_test (ev_op (ev_var rfl) ev_c rv_I0)) (fun _ H3 e3 => ?_) fun h6 H3 e3 => ?_
    · have E3 := E2.trans e3
      refine s_retIf (b := decide ((d : Int) = 4)) (et_is (et_test (ev_op (ev_var rfl) ev_c (rv_eq rfl))) (dec_intB _ _)) (fun _ H4 e4 => ?_) fun _ H4 e4 => ?_
      · exact s_retC (ea_cons (ev_var rfl) (ea_cons ev_c ea_nil)) fun H5 e5 => ⟨v, .non, rfl, ho.ex ((E3.trans e4).trans e5), .inl (hb.ex ((E3.trans e4).trans e5))⟩
      · refine s_retCR (ear_LV (xs := tabV 1 fun _ _ => true) (er_isL (by apply litL; (repeat (first | exact ea_nil | apply ea_cons ev_c | apply ea_cons (ev_un ev_c ru_neg))); (exact of_decide_eq_true rfl); (decide +kernel))) (ea_cons (ev_var rfl) ea_nil)) fun ws H5 e5 hws => ?_
        obtain ⟨p, rfl, hp⟩ := hws
        exact ⟨.ref p, v, rfl, ho.ex ((E3.trans e4).trans e5), .inr ⟨p, 1, _, rfl, hp, by decide, by decide, .inl (hb.ex ((E3.trans e4).trans e5))⟩⟩
    have E3 := E2.trans e3
    have h6' := of_decide_eq_false h6
    obtain ⟨d', hd'⟩ : ∃ d' : Nat, (d : Int) - 6 = (d' : Int) := ⟨d - 6, by omega⟩
    exact s_retC (ea_cons (ev_is (ev_op (ev_var rfl) ev_c rv_I0) (congrArg V.int hd')) (ea_cons (ev_var rfl) ea_nil)) fun H4 e4 => ⟨v, d', rfl, by omega, .inl (hb.ex (E3.trans e4)), ho.ex (E3.trans e4)⟩

end
end HA

end
section
set_option maxRecDepth 100000
set_option maxHeartbeats 4000000
namespace HA
open PySem PySem.Spec PyProof.Rows L2 Evl
section
variable {P : Program} {w : World} {K : PySem.W.Frag} {mg : Str → Option Value} {base : Heap}
theorem ok_L_bad_table (T : Txt K mg) : FnOk P w K mg base CX0 1 T.a_L_bad_table T.d_L_bad_table ["_law_which", "_law_more"] sp_bad_table := by
  refine T.F_L_bad_table.ok sc_L_bad_table (fun vs H Q E h => ?_) (fun cdv A outer s H vs Q E hr h => ?_)
  · obtain ⟨wh, m, rfl, _⟩ := h
    rfl
  · obtain ⟨wh, m, rfl, q⟩ := h
    refine ⟨_, pss_cons (ps_set (i := 2) sc_L_bad_table.nd rfl (.inl rfl) (pe_lst (pa_cons pe_non (pa_cons (pe_tup pa_nil) (pa_cons (pe_lst pa_nil) (pa_cons pe_str (pa_cons pe_int (pa_cons pe_dnewK (pa_cons (pe_lst (pa_cons pe_non pa_nil)) (pa_cons (pe_lst (pa_cons (pe_lst (pa_cons pe_str pa_nil)) pa_nil)) (pa_cons (pe_lst (pa_cons pe_str pa_nil)) (pa_cons (pe_lst (pa_cons pe_str (pa_cons pe_str pa_nil))) (pa_cons (pe_lst (pa_cons pe_str (pa_cons pe_str pa_nil))) (pa_cons (pe_lst (pa_cons pe_str (pa_cons pe_str pa_nil))) (pa_cons (pe_lst (pa_cons pe_str pa_nil)) pa_nil)))))))))))))))
      (pss_cons (ps_set (i := 2) sc_L_bad_table.nd rfl (.inl rfl) (pe_op op_cat (pv 2) (pe_lst (pa_cons (pe_op op_rep (pe_lst (pa_cons (pe_op op_mulS pe_str pe_int) pa_nil)) pe_int) (pa_cons (pe_lst (pa_cons pe_str (pa_cons pe_str pa_nil))) (pa_cons (pe_lst (pa_cons pe_str (pa_cons (pe_tup (pa_cons pe_str (pa_cons pe_str pa_nil))) pa_nil))) pa_nil))))))
      (pss_cons (ps_if (pt_cmpR op_lt (pe_op op_mod (pv 0) pe_int) pe_int (nomark _)) (pss_one (ps_ret (pe_ix ix_list (pv 2) (pe_op op_mod (pv 0) pe_int) (fun _ _ => rfl)))) (pss_nil))
      (pss_cons (ps_set (i := 3) sc_L_bad_table.nd rfl (.inr rfl) (pe_op op_add pe_int (pe_op op_mod (pv 1) pe_int)))
      (pss_cons (ps_setLc (i := 4) (own := [("_law_row", 5)]) (g := (gName 5)) (tt := tYes) (te := (tOp _ (tC _) (tVar 3))) (by rfl) sc_L_bad_table.nd rfl rfl (sw_true rfl rfl rfl (by decide +kernel)) (pi_range1 (by rfl) T.m_range (pa_cons (pv 3) pa_nil)) (blkOk_by (by kernel_rfl)) (fun _ _ _ _ _ => pg_name (i := 5) sc_L_bad_table.nd rfl (.inl rfl)) (fun _ _ _ _ _ => pts_nil) (fun _ _ _ _ _ => pe_op op_mulS pe_str (pv 3)))
      (pss_cons (ps_asg (pe_ix ix_list (pe_lst (pa_cons (pe_op op_mulS pe_str (pe_op op_add (pv 3) pe_int)) (pa_cons (pe_op op_mulS pe_str (pe_op op_sub (pv 3) pe_int)) (pa_cons (pe_op op_add_str (pe_op op_mulS pe_str (pe_op op_sub (pv 3) pe_int)) pe_str) (pa_cons pe_non pa_nil))))) (pe_op op_sub (pe_op op_mod (pv 0) pe_int) pe_int) (fun _ _ => rfl)) (pg_sub (pv 4) (pe_op op_mod (pe_op op_fdiv (pv 0) pe_int) (pv 3)) set_list))
      (pss_one (ps_ret (pv 4)))))))), ?_⟩
    have st : ∀ {σ : L2.St} {H : Hp} {te : TE} {ss : List Str}, EvL te σ H (ss.map V.str) → 1 ≤ ss.length → ss.length ≤ 100 → ss.all (fun s => decide (s.length ≤ 1000)) = true → ss.all (rowOk ss.length) = false → EvR te σ H BT := fun h h1 h2 h3 h4 => er_l h fun a H' ha => strs_bad ha h1 h2 h3 h4
    refine q_asgR (er_lstN (m := 13) kept_BT (ean_cons kept_BT (er_v ev_c fun H' => .inl ⟨.inl rfl, rfl⟩)
      (ean_cons kept_BT (er_mono (er_tupV ea_nil (by decide)) fun v H' hv => .inl ⟨.inr (.inr (.inr (.inr (.inl hv)))), rfl⟩)
      (ean_cons kept_BT (er_l (el_lst ea_nil (by show 0 ≤ 100000; decide)) fun a H' ha => .inr ⟨a, [], rfl, ha, .inl ⟨by decide, rfl⟩⟩)
      (ean_cons kept_BT (er_v ev_c fun H' => .inl ⟨.inr (.inr (.inr (.inl ⟨_, rfl⟩))), rfl⟩)
      (ean_cons kept_BT (er_v ev_c fun H' => .inl ⟨.inr (.inr (.inl ⟨_, rfl⟩)), rfl⟩)
      (ean_cons kept_BT (er_mono er_dict fun v H' hv => .inl ⟨.inr (.inr (.inr (.inr (.inr hv)))), rfl⟩)
      (ean_cons kept_BT (er_l (xs := [.non]) (el_lst (ea_cons ev_c ea_nil) (by show 1 ≤ 100000; decide)) fun a H' ha => oth_bad (k := 0) ha (by decide) (by decide) rfl (.inr (.inr ⟨.inl rfl, rfl⟩)) fun i y hy => ?a1)
      (ean_cons kept_BT ?a2
      (ean_cons kept_BT (st (ss := [Str.ofString "++"]) (by apply litL; (repeat (first | exact ea_nil | apply ea_cons ev_c | apply ea_cons (ev_un ev_c ru_neg))); (exact of_decide_eq_true rfl); (decide +kernel)) (by decide) (by decide) (by decide +kernel) (by decide +kernel))
      (ean_cons kept_BT (st (ss := [Str.ofString "+", Str.ofString "-"]) (by apply litL; (repeat (first | exact ea_nil | apply ea_cons ev_c | apply ea_cons (ev_un ev_c ru_neg))); (exact of_decide_eq_true rfl); (decide +kernel)) (by decide) (by decide) (by decide +kernel) (by decide +kernel))
      (ean_cons kept_BT (st (ss := [Str.ofString "+ ", Str.ofString "++"]) (by apply litL; (repeat (first | exact ea_nil | apply ea_cons ev_c | apply ea_cons (ev_un ev_c ru_neg))); (exact of_decide_eq_true rfl); (decide +kernel)) (by decide) (by decide) (by decide +kernel) (by decide +kernel))
      (ean_cons kept_BT (st (ss := [Str.ofString "+x", Str.ofString "++"]) (by apply litL; (repeat (first | exact ea_nil | apply ea_cons ev_c | apply ea_cons (ev_un ev_c ru_neg))); (exact of_decide_eq_true rfl); (decide +kernel)) (by decide) (by decide) (by decide +kernel) (by decide +kernel))
      (ean_cons kept_BT (st (ss := [Str.ofString ""]) (by apply litL; (repeat (first | exact ea_nil | apply ea_cons ev_c | apply ea_cons (ev_un ev_c ru_neg))); (exact of_decide_eq_true rfl); (decide +kernel)) (by decide) (by decide) (by decide +kernel) (by decide +kernel)) ean_nil))))))))))))) (by decide)) fun v H1 e1 hv => ?_
    case a1 =>
      cases i with
      | zero =>
        cases hy
        exact ⟨false, .inr (.inr ⟨.inl rfl, rfl⟩)⟩
      | succ i => exact absurd hy (by simp)
    case a2 =>
      refine er_mono (er_listOf (el_lst (ea_cons ev_c ea_nil) (by show 1 ≤ 100000; decide))) fun v H' hv => ?_
      obtain ⟨l, p, rfl, hl, hp⟩ := hv
      have hot : OthAt H' (.ref p) := .inr (.inr (.inl ⟨p, _, rfl, hp⟩))
      refine oth_bad (k := 0) hl (by show 1 ≤ 1; decide) (by show 1 ≤ 100; decide) rfl (.inr (.inr ⟨hot, rfl⟩)) fun i y hy => ?_
      cases i with
      | zero =>
        cases hy
        exact ⟨false, .inr (.inr ⟨hot, rfl⟩)⟩
      | succ i => exact absurd hy (by simp)
    obtain ⟨pb, vs, rfl, hpb, hvs⟩ := hv
    refine q_asgR (er_catN (m := 13) (m' := 3) kept_BT (er_varN kept_BT (ev_var rfl) hpb hvs) (er_lstN kept_BT (ean_cons kept_BT (er_l (el_rep (xs := [.str (Txt.mul (Str.ofString "+") 101)]) (k := 101) (el_lst (ea_cons (ev_op ev_c ev_c (rv_mulS (mulOk_small (by decide +kernel) (by decide) (by decide)))) ea_nil) (by show 1 ≤ 100000; decide)) ev_c (by decide) (by show 1 * 101 ≤ 100000; decide)) fun a H' ha => .inr ⟨a, _, rfl, ha, .inl ⟨?b1, rfl⟩⟩)
      (ean_cons kept_BT (st (ss := [Str.ofString "+-", Str.ofString "+"]) (by apply litL; (repeat (first | exact ea_nil | apply ea_cons ev_c | apply ea_cons (ev_un ev_c ru_neg))); (exact of_decide_eq_true rfl); (decide +kernel)) (by decide) (by decide) (by decide +kernel) (by decide +kernel))
      (ean_cons kept_BT ?b2 ean_nil))) (by decide)) (by decide)) fun v H2 e2 hv => ?_
    case b1 =>
      rw [rep_one, List.length_replicate]
      decide
    case b2 =>
      refine er_mono (er_listVU ev_c (eu_tup (ea_cons ev_c (ea_cons ev_c ea_nil)) (by show 2 ≤ 100000; decide))) fun v H' hv => ?_
      obtain ⟨l, p, rfl, hl, hp⟩ := hv
      have hot : OthAt H' (.ref p) := .inr (.inr (.inr (.inl ⟨p, _, rfl, hp⟩)))
      refine oth_bad (k := 1) hl (by show 1 ≤ 2; decide) (by show 2 ≤ 100; decide) rfl (.inr (.inr ⟨hot, rfl⟩)) fun i y hy => ?_
      match i, hy with
      | 0, hy =>
        cases hy
        exact ⟨_, row_any _ _ (by decide +kernel)⟩
      | 1, hy =>
        cases hy
        exact ⟨false, .inr (.inr ⟨hot, rfl⟩)⟩
      | k + 2, hy => exact absurd hy (by simp)
    obtain ⟨pc, us, rfl, hpc, hus⟩ := hv
    obtain ⟨k, hk, hk20⟩ := modNat (wh : Int) (n := 20) (by decide)
    have ek : ∀ {σ : L2.St} {H' : Hp} {ta : TE}, Ev ta σ H' (.int (wh : Int)) → Ev (tOp (rI (fun _ j => 0 < j) fun i j => .int (i % j)) ta (tC (.int 20))) σ H' (.int (k : Int)) := fun h => ev_is (ev_op h ev_c (rv_I (by decide))) (congrArg V.int hk)
    refine q_when (b := decide ((k : Int) < 16)) (et_test (ev_op (ek (ev_var rfl)) ev_c rv_I0)) (fun hb H3 e3 => ?_) fun hb H3 e3 => ?_
    · have hk16 : k < 16 := by
        have := of_decide_eq_true hb
        omega
      exact er_ixN (K := K) (R := BT) (m := 13 + 3) kept_BT (er_varN kept_BT (ev_var rfl) (e3 pc _ hpc) (kept_allN kept_BT _ _ _ e3 hus)) (ek (ev_var rfl)) hk16 H3 (Ex.refl H3) _ fun v H4 e4 hv => q v H4 (((e1.trans e2).trans e3).trans e4) hv
    have hk16 : 16 ≤ k := by
      have := of_decide_eq_false hb
      omega
    obtain ⟨m5, hm5, hm5n⟩ := modNat (m : Int) (n := 5) (by decide)
    obtain ⟨n, hn⟩ : ∃ n : Nat, n = 2 + m5 := ⟨_, rfl⟩
    have hn1 : 2 ≤ n := by omega
    have hn2 : n ≤ 6 := by omega
    refine q_asg (v := .int (n : Int)) (ev_is (ev_op ev_c (ev_op (ev_var rfl) ev_c (rv_I (by decide))) rv_I0) (congrArg V.int (by rw [show (m : Int) % 5 = (m5 : Int) from hm5]; omega))) fun H4 e4 => ?_
    refine q_asgL (xs := tabV n fun _ _ => true) (ev_list (el_lcR1 (n := (n : Int)) (fun _ => true) (fun _ => .str (rowS n fun _ => true)) (ea_cons (ev_var rfl) ea_nil) ⟨by omega, by omega⟩ (fun x => rfl) (fun i H5 e5 hi => et_yes) (fun i H5 e5 hi _ => ev_is (ev_op ev_c (ev_var rfl) (rv_mulS (mulOk_small (by decide +kernel) (by omega) (by omega)))) (by rw [sg_plus, mul_sg8 true n (by omega)]))) (by rw [given_all, Int.toNat_natCast]; rfl)) fun pr H5 hpr e5 h5 => ?_
    obtain ⟨j, hj⟩ : ∃ j : Nat, k = 16 + j := ⟨k - 16, by omega⟩
    have hj4 : j < 4 := by omega
    obtain ⟨x, hx⟩ : ∃ x, (badL n)[j]? = some x := ⟨_, List.getElem?_eq_getElem (show j < (badL n).length from hj4)⟩
    obtain ⟨kk, hkk, hkkn⟩ := modNat ((wh : Int) / 20) (n := n) (by omega)
    have mulN : ∀ {σ : L2.St} {H' : Hp} {ta : TE} {z : Int} {c : Nat}, Ev ta σ H' (.int z) → z = (c : Int) → 1 ≤ c → c ≤ 100 → Ev (tOp rMulS (tC (.str (Str.ofString "+"))) ta) σ H' (.str (rowS c fun _ => true)) := fun {σ H' ta z c} h hz h1 h2 => ev_is (ev_op ev_c h (rv_mulS (mulOk_small (by decide +kernel) (by omega) (by omega)))) (by rw [hz, sg_plus, mul_sg8 true c h1])
    have mp : ∀ {σ : L2.St} {H' : Hp} {ta : TE}, Ev ta σ H' (.int (n : Int)) → Ev (tOp (rI0 fun i j => .int (i + j)) ta (tC (.int 1))) σ H' (.int ((n : Int) + 1)) := fun h => ev_op h ev_c rv_I0
    have mm : ∀ {σ : L2.St} {H' : Hp} {ta : TE}, Ev ta σ H' (.int (n : Int)) → Ev (tOp (rI0 fun i j => .int (i - j)) ta (tC (.int 1))) σ H' (.int ((n : Int) - 1)) := fun h => ev_op h ev_c rv_I0
    refine q_setL (j := kk) (v := x) h5 (ev_itN (K := K) (xs := badL n) (i := j) (el_lst (ea_cons (mulN (c := n + 1) (mp (ev_var rfl)) (by omega) (by omega) (by omega)) (ea_cons (mulN (c := n - 1) (mm (ev_var rfl)) (by omega) (by omega) (by omega)) (ea_cons (ev_op (mulN (c := n - 1) (mm (ev_var rfl)) (by omega) (by omega) (by omega)) ev_c (rv_addS (by rw [rowS_len]; show n - 1 + 1 ≤ 100000; omega))) (ea_cons ev_c ea_nil)))) (by show 4 ≤ 100000; decide)) (ev_is (ev_op (ek (ev_var rfl)) ev_c rv_I0) (congrArg V.int (by omega))) hx) (ev_var rfl) (ev_is (ev_op (ev_op (ev_var rfl) ev_c (rv_I ⟨by decide, by decide⟩)) (ev_var rfl) (rv_I (show (0 : Int) < (n : Int) by omega))) (congrArg V.int hkk)) (by rw [tabV_len]; exact hkkn) fun H6 e6 => ?_
    have E4 := ((e1.trans e2).trans e3).trans e4
    have e7 : Ex H4 (upd H6 pr (.lst ((tabV n fun _ _ => true).set kk x))) := Ex.mut (e5.trans e6) hpr
    have h7 : (upd H6 pr (.lst ((tabV n fun _ _ => true).set kk x))) pr = some (.lst ((tabV n fun _ _ => true).set kk x)) := upd_same
    generalize upd H6 pr (.lst ((tabV n fun _ _ => true).set kk x)) = H7 at e7 h7 ⊢
    refine s_ret (ev_var rfl) fun H8 e8 => q _ H8 ((E4.trans e7).trans e8) ?_
    have hl : ((tabV n fun _ _ => true).set kk x).length = n := by rw [List.length_set, tabV_len]
    have hat : ((tabV n fun _ _ => true).set kk x)[kk]? = some x := List.getElem?_set_self (by rw [tabV_len]; exact hkkn)
    refine oth_bad (k := kk) (x := x) (e8 pr _ h7) (by rw [hl]; omega) (by rw [hl]; omega) hat (by rw [hl]; exact badL_bad hn1 hn2 hx) fun i y hy => ?_
    by_cases c : kk = i
    · subst c
      rw [hat] at hy
      cases hy
      exact ⟨false, by rw [hl]; exact badL_bad hn1 hn2 hx⟩
    · rw [List.getElem?_set_ne c] at hy
      obtain ⟨hi, rfl⟩ := tabV_some hy
      exact ⟨_, row_any _ _ (by rw [rowS_len]; omega)⟩

end
end HA

end
section
set_option maxRecDepth 100000
set_option maxHeartbeats 4000000
namespace HA
open PySem PySem.Spec PyProof.Rows L2 Evl
section
variable {P : Program} {w : World} {K : PySem.W.Frag} {mg : Str → Option Value} {base : Heap}
theorem ok_L_others (T : Txt K mg) : FnOk P w K mg base (L2N.CX P w) 6 T.a_L_others T.d_L_others ["_law_kind", "_law_which", "_law_more"] (sp_others T.C_BadParts T.C_BadPlace T.C_BadSigns T.C_BadNumbers) := by
  refine okN T.F_L_others sc_L_others (fun vs H Q E h => ?_) (fun cdv A outer s H vs Q E hr h => ?_)
  · obtain ⟨k, wh, m, rfl, _⟩ := h
    rfl
  · obtain ⟨k, wh, m, rfl, hk⟩ := h
    have G_read := ok_read (P := P) (w := w) (base := base) T
    have G_worths := ok_worths (P := P) (w := w) (base := base) T
    have G_numbers_of := ok_numbers_of (P := P) (w := w) (base := base) T
    have G_order := ok_order (P := P) (w := w) (base := base) T
    have G_sign_at := ok_sign_at (P := P) (w := w) (base := base) T
    have G_made := ok_made (P := P) (w := w) (base := base) T
    have G_turned := ok_turned (P := P) (w := w) (base := base) T
    refine ⟨_, pss_cons (ps_set (i := 3) sc_L_others.nd rfl (.inl rfl) (pe_lst (pa_cons pe_non (pa_cons pe_str (pa_cons pe_bl (pa_cons (pe_lst (pa_cons pe_int pa_nil)) (pa_cons (pe_tup (pa_cons pe_int pa_nil)) (pa_cons pe_dnewK (pa_cons (pe_op op_sub (pe_un un_neg pe_int) (pv 2)) pa_nil)))))))))
      (pss_cons (ps_if (pt_cmpR op_eq (pv 0) pe_int (nomark _)) (pss_cons (ps_set (i := 4) sc_L_others.nd rfl (.inl rfl) (pe_op op_cat (pe_op op_cat (pe_lst (pa_cons pe_non (pa_cons (pe_tup (pa_cons pe_int pa_nil)) (pa_cons pe_str (pa_cons pe_dnewK (pa_cons pe_int pa_nil)))))) (pe_lc (own := [("_law_one", 7)]) (g := (gName 7)) (tt := tYes) (te := (tLst (tCons (tVar 7) tNil))) (by rfl) sc_L_others.nd (pi_list (pv 3)) (blkOk_by (by kernel_rfl)) (fun _ _ _ _ _ => pg_name (i := 7) sc_L_others.nd rfl (.inl rfl)) (fun _ _ _ _ _ => pts_nil) (fun _ _ _ _ _ => pe_lst (pa_cons (pv 7) pa_nil)))) (pe_lst (pa_cons (pe_lst (pa_cons pe_int pa_nil)) (pa_cons (pe_lst (pa_cons pe_int pa_nil)) (pa_cons (pe_lst (pa_cons pe_int pa_nil)) (pa_cons (pe_lst (pa_cons pe_int pa_nil)) (pa_cons (pe_lst (pa_cons pe_int (pa_cons pe_int pa_nil))) (pa_cons (pe_lst (pa_cons (pe_op op_add pe_int (pe_op op_mul pe_int (pv 2))) pa_nil)) pa_nil)))))))))
        (pss_cons (ps_set (i := 4) sc_L_others.nd rfl (.inl rfl) (pe_ix ix_list (pv 4) (pe_op op_mod (pv 1) pe_int) (fun _ _ => rfl)))
        (pss_cons (ps_set (i := 5) sc_L_others.nd rfl (.inl rfl) (pe_op op_mod (pe_op op_fdiv (pv 1) pe_int) pe_int))
        (pss_one (ps_ret (pe_ifExp (pt_cmpR op_eq (pv 5) pe_int (nomark _)) (pe_call G_order (hr.mono (by decide)) (by rfl) T.g_order T.F_order.kp T.b_order .nil (passEN rfl rfl rfl rfl) (pa_cons (pv 4) pa_nil)) (pe_ifExp (pt_cmpR op_eq (pv 5) pe_int (nomark _)) (pe_call G_made (hr.mono (by decide)) (by rfl) T.g_made T.F_made.kp T.b_made .nil (passEN rfl rfl rfl rfl) (pa_cons (pv 4) pa_nil)) (pe_call G_sign_at (hr.mono (by decide)) (by rfl) T.g_sign_at T.F_sign_at.kp T.b_sign_at .nil (passEN rfl rfl rfl rfl) (pa_cons (pv 4) (pa_cons pe_non (pa_cons pe_non pa_nil))))))))))) (pss_nil))
      (pss_cons (ps_if (pt_cmpR op_eq (pv 0) pe_int (nomark _)) (pss_cons (ps_set (i := 4) sc_L_others.nd rfl (.inl rfl) (pe_ix ix_list (pe_op op_cat (pv 3) (pe_lst (pa_cons pe_int (pa_cons (pe_op op_add pe_int (pv 2)) pa_nil)))) (pe_op op_mod (pv 1) pe_int) (fun _ _ => rfl)))
        (pss_cons (ps_set (i := 5) sc_L_others.nd rfl (.inl rfl) (pe_op op_mod (pe_op op_fdiv (pv 1) pe_int) pe_int))
        (pss_cons (ps_set (i := 6) sc_L_others.nd rfl (.inl rfl) (pe_op op_rep (pe_lst (pa_cons (pe_op op_mulS pe_str pe_int) pa_nil)) pe_int))
        (pss_one (ps_ret (pe_ifExp (pt_cmpR op_eq (pv 5) pe_int (nomark _)) (pe_call G_sign_at (hr.mono (by decide)) (by rfl) T.g_sign_at T.F_sign_at.kp T.b_sign_at .nil (passEN rfl rfl rfl rfl) (pa_cons (pe_lst (pa_cons pe_int (pa_cons pe_int pa_nil))) (pa_cons (pv 4) (pa_cons pe_int pa_nil)))) (pe_ifExp (pt_cmpR op_eq (pv 5) pe_int (nomark _)) (pe_call G_sign_at (hr.mono (by decide)) (by rfl) T.g_sign_at T.F_sign_at.kp T.b_sign_at .nil (passEN rfl rfl rfl rfl) (pa_cons (pe_lst (pa_cons pe_int pa_nil)) (pa_cons pe_int (pa_cons (pv 4) pa_nil)))) (pe_call G_turned (hr.mono (by decide)) (by rfl) T.g_turned T.F_turned.kp T.b_turned .nil (passEN rfl rfl rfl rfl) (pa_cons (pv 6) (pa_cons (pv 4) pa_nil)))))))))) (pss_nil))
      (pss_cons (ps_if (pt_cmpR op_eq (pv 0) pe_int (nomark _)) (pss_one (ps_ret (pe_call G_read (hr.mono (by decide)) (by rfl) T.g_read T.F_read.kp T.b_read .nil (passEN rfl rfl rfl rfl) (pa_cons (pe_lst (pa_cons pe_str (pa_cons pe_str pa_nil))) (pa_cons (pe_ix ix_list (pe_lst (pa_cons pe_non (pa_cons pe_str (pa_cons pe_str (pa_cons pe_str (pa_cons pe_str (pa_cons pe_int (pa_cons (pe_lst (pa_cons pe_str (pa_cons pe_str pa_nil))) (pa_cons (pe_tup (pa_cons pe_str (pa_cons pe_str pa_nil))) (pa_cons pe_dnewK pa_nil)))))))))) (pe_op op_mod (pv 1) pe_int) (fun _ _ => rfl)) pa_nil))))) (pss_nil))
      (pss_cons (ps_set (i := 4) sc_L_others.nd rfl (.inl rfl) (pe_ix ix_list (pe_lst (pa_cons pe_non (pa_cons (pe_tup (pa_cons pe_int (pa_cons pe_int pa_nil))) (pa_cons pe_str (pa_cons pe_dnewK (pa_cons (pe_lst pa_nil) (pa_cons (pe_lst (pa_cons pe_int pa_nil)) (pa_cons (pe_lst (pa_cons pe_int (pa_cons pe_int (pa_cons pe_int pa_nil)))) (pa_cons (pe_lst (pa_cons pe_int (pa_cons pe_non pa_nil))) (pa_cons (pe_lst (pa_cons pe_bl (pa_cons pe_int pa_nil))) (pa_cons (pe_lst (pa_cons pe_str (pa_cons pe_int pa_nil))) pa_nil))))))))))) (pe_op op_mod (pv 1) pe_int) (fun _ _ => rfl)))
      (pss_one (ps_ret (pe_ifExp (pt_cmpR op_eq (pe_op op_mod (pe_op op_fdiv (pv 1) pe_int) pe_int) pe_int (nomark _)) (pe_call G_worths (hr.mono (by decide)) (by rfl) T.g_worths T.F_worths.kp T.b_worths .nil (passEN rfl rfl rfl rfl) (pa_cons (pe_lst (pa_cons pe_str (pa_cons pe_str pa_nil))) (pa_cons (pv 4) pa_nil))) (pe_call G_numbers_of (hr.mono (by decide)) (by rfl) T.g_numbers_of T.F_numbers_of.kp T.b_numbers_of .nil (passEN rfl rfl rfl rfl) (pa_cons (pe_lst (pa_cons pe_str (pa_cons pe_str pa_nil))) (pa_cons (pv 4) pa_nil)))))))))), ?_⟩
    have kind : ∀ {σ : L2.St} {H' : Hp} {ta : TE} (c : Nat), Ev ta σ H' (.int (k : Int)) → EvT (tTest (tOp rEq ta (tC (.int (c : Int))))) σ H' (decide (k = c)) := fun {σ H' ta} c h => et_is (et_test (ev_op h ev_c (rv_eq rfl))) (by rw [dec_intB, Bool.eq_iff_iff, decide_eq_true_eq, decide_eq_true_eq]; omega)
    have half2 : ∀ {H' : Hp} {a : Addr}, H' a = some (.lst (tabV 2 (tabM [2]))) → HalfB H' (.ref a) 2 true := fun h => ⟨_, _, rfl, h, by decide, by decide, by decide +kernel⟩
    refine q_asgR (er_lstN (m := 7) kept_StrV (ean_cons kept_StrV (er_v ev_c fun H' => .inl (.inl rfl)) (ean_cons kept_StrV (er_v ev_c fun H' => .inr (.inl ⟨_, rfl⟩)) (ean_cons kept_StrV (er_v ev_c fun H' => .inl (.inr (.inl ⟨_, rfl⟩))) (ean_cons kept_StrV (er_l (el_lst (ea_cons ev_c ea_nil) (by show 1 ≤ 100000; decide)) fun a H' ha => .inl (.inr (.inr (.inl ⟨a, _, rfl, ha⟩)))) (ean_cons kept_StrV (er_mono (er_tupV (ea_cons ev_c ea_nil) (by show 1 ≤ 1000; decide)) fun v H' hv => .inl (.inr (.inr (.inr (.inl hv))))) (ean_cons kept_StrV (er_mono er_dict fun v H' hv => .inl (.inr (.inr (.inr (.inr hv))))) (ean_cons kept_StrV (er_v (ev_op (ev_un ev_c ru_neg) (ev_var rfl) rv_I0) fun H' => .inr (.inr ⟨_, rfl, by omega⟩)) ean_nil))))))) (by decide)) fun v H1 e1 hv => ?_
    obtain ⟨pst, sv, rfl, hpst, hsv⟩ := hv
    refine q_when (b := decide (k = 2)) (kind 2 (ev_var rfl)) (fun hb H2 e2 => ?_) fun hb H2 e2 => ?_
    · have hk2 := of_decide_eq_true hb
      have ho : Out T.C_BadParts H E := by
        rcases hk with ⟨_, h⟩ | ⟨h, _⟩ | ⟨h, _⟩ | ⟨h, _⟩
        · exact h
        · omega
        · omega
        · omega
      have ps : ∀ {σ : L2.St} {H : Hp} {te : TE} {zs : List Int}, EvL te σ H (zs.map V.int) → zs.length ≤ 600 → zs.all isPart = false → EvR te σ H PB := fun h h1 h2 => er_l h fun a H' ha => ints_bad ha h1 h2
      refine q_asgR (er_catN (m := 12) (m' := 6) kept_PB (er_catN (m := 5) (m' := 7) kept_PB (er_lstN kept_PB (ean_cons kept_PB (er_v ev_c fun H' => .inl ⟨.inl rfl, rfl⟩) (ean_cons kept_PB (er_mono (er_tupV (ea_cons ev_c ea_nil) (by show 1 ≤ 1000; decide)) fun v H' hv => .inl ⟨.inr (.inr (.inr (.inr (.inl hv)))), rfl⟩) (ean_cons kept_PB (er_v ev_c fun H' => .inl ⟨.inr (.inr (.inr (.inl ⟨_, rfl⟩))), rfl⟩) (ean_cons kept_PB (er_mono er_dict fun v H' hv => .inl ⟨.inr (.inr (.inr (.inr (.inr hv)))), rfl⟩) (ean_cons kept_PB (er_v ev_c fun H' => .inl ⟨.inr (.inr (.inl ⟨_, rfl⟩)), rfl⟩) ean_nil))))) (by decide)) (er_lcOne (K := K) kept_StrV (ev_var rfl) (e2 pst _ hpst) (kept_allN kept_StrV _ _ _ e2 hsv) (by decide) (fun x => rfl) (fun x H3 e3 => el_lst (ea_cons (ev_var rfl) ea_nil) (by show 1 ≤ 100000; decide)) kept_PB fun a x H' h1 h2 => one_part h1 h2) (by decide)) (er_lstN kept_PB (ean_cons kept_PB (ps (zs := [1]) (by apply litL; (repeat (first | exact ea_nil | apply ea_cons ev_c | apply ea_cons (ev_un ev_c ru_neg))); (exact of_decide_eq_true rfl); (decide +kernel)) (by decide) (by decide +kernel)) (ean_cons kept_PB (ps (zs := [3]) (by apply litL; (repeat (first | exact ea_nil | apply ea_cons ev_c | apply ea_cons (ev_un ev_c ru_neg))); (exact of_decide_eq_true rfl); (decide +kernel)) (by decide) (by decide +kernel)) (ean_cons kept_PB (ps (zs := [6]) (by apply litL; (repeat (first | exact ea_nil | apply ea_cons ev_c | apply ea_cons (ev_un ev_c ru_neg))); (exact of_decide_eq_true rfl); (decide +kernel)) (by decide) (by decide +kernel)) (ean_cons kept_PB (ps (zs := [16]) (by apply litL; (repeat (first | exact ea_nil | apply ea_cons ev_c | apply ea_cons (ev_un ev_c ru_neg))); (exact of_decide_eq_true rfl); (decide +kernel)) (by decide) (by decide +kernel)) (ean_cons kept_PB (ps (zs := [2, 28]) (by apply litL; (repeat (first | exact ea_nil | apply ea_cons ev_c | apply ea_cons (ev_un ev_c ru_neg))); (exact of_decide_eq_true rfl); (decide +kernel)) (by decide) (by decide +kernel)) (ean_cons kept_PB (ps (zs := [10004 + 4 * (m : Int)]) (el_lst (ea_cons (ev_op ev_c (ev_op ev_c (ev_var rfl) (rv_I (.inl ⟨by decide, by decide⟩))) rv_I0) ea_nil) (by show 1 ≤ 100000; decide)) (by show 1 ≤ 600; decide) (by rw [List.all_cons, part_great]; rfl)) ean_nil)))))) (by decide)) (by decide)) fun v H3 e3 hv => ?_
      obtain ⟨pb, bv, rfl, hpb, hbv⟩ := hv
      obtain ⟨i, hi, hi18⟩ := modNat (wh : Int) (n := 18) (by decide)
      refine q_asgR (er_ixN (K := K) (m := 12 + 6) kept_PB (er_varN kept_PB (ev_var rfl) hpb hbv) (ev_is (ev_op (ev_var rfl) ev_c (rv_I (by decide))) (congrArg V.int hi)) hi18) fun v H4 e4 hv => ?_
      refine q_asg (ev_op (ev_op (ev_var rfl) ev_c (rv_I ⟨by decide, by decide⟩)) ev_c (rv_I (by decide))) fun H5 e5 => ?_
      have E5 := (((e1.trans e2).trans e3).trans e4).trans e5
      have hv5 : PartsB H5 v false := PartsB.ex e5 hv
      refine s_retIf (et_test (ev_op (ev_var rfl) ev_c (rv_eq rfl))) (fun _ H6 e6 => ?_) fun _ H6 e6 => ?_
      · exact s_retC (ea_cons (ev_var rfl) ea_nil) fun H7 e7 => ⟨v, rfl, .inl ⟨hv5.ex (e6.trans e7), ho.ex ((E5.trans e6).trans e7)⟩⟩
      · refine s_retIf (et_test (ev_op (ev_var rfl) ev_c (rv_eq rfl))) (fun _ H7 e7 => ?_) fun _ H7 e7 => ?_
        · exact s_retC (ea_cons (ev_var rfl) ea_nil) fun H8 e8 => ⟨v, rfl, hv5.ex ((e6.trans e7).trans e8), ho.ex (((E5.trans e6).trans e7).trans e8)⟩
        · exact s_retC (ea_cons (ev_var rfl) (ea_cons ev_c (ea_cons ev_c ea_nil))) fun H8 e8 => ⟨v, .non, .non, rfl, .inl ⟨hv5.ex ((e6.trans e7).trans e8), ho.ex (((E5.trans e6).trans e7).trans e8)⟩⟩
    have hk2 := of_decide_eq_false hb
    refine q_when (b := decide (k = 3)) (kind 3 (ev_var rfl)) (fun hb3 H3 e3 => ?_) fun hb3 H3 e3 => ?_
    · have hk3 := of_decide_eq_true hb3
      have ho : Out T.C_BadPlace H E := by
        rcases hk with ⟨h, _⟩ | ⟨_, h⟩ | ⟨h, _⟩ | ⟨h, _⟩
        · omega
        · exact h
        · omega
        · omega
      obtain ⟨i, hi, hi9⟩ := modNat (wh : Int) (n := 9) (by decide)
      have hsv3 := kept_allN kept_StrV _ _ _ (e2.trans e3) hsv
      refine q_asgR (er_ixN (K := K) (m := 7 + 2) kept_PlB (er_catN kept_PlB (er_varN kept_PlB (ev_var rfl) ((e2.trans e3) pst _ hpst) ⟨hsv3.1, fun x hx => str_place (hsv3.2 x hx)⟩) (er_lstN kept_PlB (ean_cons kept_PlB (er_v ev_c fun H' => int_place (by decide)) (ean_cons kept_PlB (er_v (ev_op ev_c (ev_var rfl) rv_I0) fun H' => int_place (by omega)) ean_nil)) (by decide)) (by decide)) (ev_is (ev_op (ev_var rfl) ev_c (rv_I (by decide))) (congrArg V.int hi)) hi9) fun v H4 e4 hv => ?_
      refine q_asg (ev_op (ev_op (ev_var rfl) ev_c (rv_I ⟨by decide, by decide⟩)) ev_c (rv_I (by decide))) fun H5 e5 => ?_
      refine q_asgL (xs := tabV 8 fun _ _ => true) (ev_list (el_rep (xs := [.str (Txt.mul (Str.ofString "+") 8)]) (k := 8) (el_lst (ea_cons (ev_op ev_c ev_c (rv_mulS (mulOk_small (by decide +kernel) (by decide) (by decide)))) ea_nil) (by show 1 ≤ 100000; decide)) ev_c (by decide) (by show 1 * 8 ≤ 100000; decide)) (by decide +kernel)) fun pt H6 hpt e6 h6 => ?_
      have E6 := ((((e1.trans e2).trans e3).trans e4).trans e5).trans e6
      have hv6 : PlaceB 8 H6 v false := PlaceB.ex (e5.trans e6) hv
      refine s_retIf (et_test (ev_op (ev_var rfl) ev_c (rv_eq rfl))) (fun _ H7 e7 => ?_) fun _ H7 e7 => ?_
      · refine s_retCR (ear_LV (xs := ([2, 4] : List Int).map V.int) (er_isL (by apply litL; (repeat (first | exact ea_nil | apply ea_cons ev_c | apply ea_cons (ev_un ev_c ru_neg))); (exact of_decide_eq_true rfl); (decide +kernel))) (ea_cons (ev_var rfl) (ea_cons ev_c ea_nil))) fun ws H8 e8 hws => ?_
        obtain ⟨p, rfl, hp⟩ := hws
        exact ⟨.ref p, v, .int 0, rfl, .inr ⟨p, [2, 4], false, rfl, ⟨hp, by decide⟩, by decide +kernel, hv6.ex (e7.trans e8), fun hz => (nomatch hz), ho.ex ((E6.trans e7).trans e8)⟩⟩
      · refine s_retIf (et_test (ev_op (ev_var rfl) ev_c (rv_eq rfl))) (fun _ H8 e8 => ?_) fun _ H8 e8 => ?_
        · refine s_retCR (ear_LV (xs := ([8] : List Int).map V.int) (er_isL (by apply litL; (repeat (first | exact ea_nil | apply ea_cons ev_c | apply ea_cons (ev_un ev_c ru_neg))); (exact of_decide_eq_true rfl); (decide +kernel))) (ea_cons ev_c (ea_cons (ev_var rfl) ea_nil))) fun ws H9 e9 hws => ?_
          obtain ⟨p, rfl, hp⟩ := hws
          exact ⟨.ref p, .int 0, v, rfl, .inr ⟨p, [8], true, rfl, ⟨hp, by decide⟩, by decide +kernel, .inl ⟨0, rfl, by decide⟩, fun _ => hv6.ex ((e7.trans e8).trans e9), ho.ex (((E6.trans e7).trans e8).trans e9)⟩⟩
        · exact s_retC (ea_cons (ev_var rfl) (ea_cons (ev_var rfl) ea_nil)) fun H9 e9 => ⟨.ref pt, v, rfl, .inr ⟨pt, 8, _, rfl, ((e7.trans e8).trans e9) pt _ h6, by decide, by decide, hv6.ex ((e7.trans e8).trans e9), ho.ex (((E6.trans e7).trans e8).trans e9)⟩⟩
    have hk3 := of_decide_eq_false hb3
    refine q_when (b := decide (k = 4)) (kind 4 (ev_var rfl)) (fun hb4 H4 e4 => ?_) fun hb4 H4 e4 => ?_
    · have hk4 := of_decide_eq_true hb4
      have ho : Out T.C_BadSigns H E := by
        rcases hk with ⟨h, _⟩ | ⟨h, _⟩ | ⟨_, h⟩ | ⟨h, _⟩
        · omega
        · omega
        · exact h
        · omega
      obtain ⟨i, hi, hi9⟩ := modNat (wh : Int) (n := 9) (by decide)
      have rs : ∀ {H' : Hp} (st : Str), st.length ≤ 1000 → rowOk 2 st = false → RB2 (.str st) H' := fun st h1 h2 => .inl ⟨st, rfl, h1, h2.symm⟩
      have E4 := ((e1.trans e2).trans e3).trans e4
      refine s_retCR (ear_LR (xs := tabV 2 (tabM [2])) (er_isL (by apply litL; (repeat (first | exact ea_nil | apply ea_cons ev_c | apply ea_cons (ev_un ev_c ru_neg))); (exact of_decide_eq_true rfl); (decide +kernel))) (er_ixN (K := K) (m := 9) kept_RB2 (er_lstN kept_RB2 (ean_cons kept_RB2 (er_v ev_c fun H' => .inr (.inr ⟨.inl rfl, rfl⟩)) (ean_cons kept_RB2 (er_v ev_c fun H' => rs _ (by decide +kernel) (by decide +kernel)) (ean_cons kept_RB2 (er_v ev_c fun H' => rs _ (by decide +kernel) (by decide +kernel)) (ean_cons kept_RB2 (er_v ev_c fun H' => rs _ (by decide +kernel) (by decide +kernel)) (ean_cons kept_RB2 (er_v ev_c fun H' => rs _ (by decide +kernel) (by decide +kernel)) (ean_cons kept_RB2 (er_v ev_c fun H' => .inr (.inl ⟨⟨_, rfl⟩, rfl⟩)) (ean_cons kept_RB2 (er_l (el_lst (ea_cons ev_c (ea_cons ev_c ea_nil)) (by show 2 ≤ 100000; decide)) fun a H' ha => .inr (.inr ⟨.inr (.inr (.inl ⟨a, _, rfl, ha⟩)), rfl⟩)) (ean_cons kept_RB2 (er_mono (er_tupV (ea_cons ev_c (ea_cons ev_c ea_nil)) (by show 2 ≤ 1000; decide)) fun v H' hv => .inr (.inr ⟨.inr (.inr (.inr (.inl hv))), rfl⟩)) (ean_cons kept_RB2 (er_mono er_dict fun v H' hv => .inr (.inr ⟨.inr (.inr (.inr (.inr hv))), rfl⟩)) ean_nil))))))))) (by decide)) (ev_is (ev_op (ev_var rfl) ev_c (rv_I (by decide))) (congrArg V.int hi)) hi9)) fun ws H5 e5 hws => ?_
      obtain ⟨p, v, rfl, hp, hv⟩ := hws
      exact ⟨.ref p, v, rfl, .inr ⟨2, half2 hp, hv, ho.ex (E4.trans e5)⟩⟩
    have hk4 := of_decide_eq_false hb4
    have ho : Out T.C_BadNumbers H E := by
      rcases hk with ⟨h, _⟩ | ⟨h, _⟩ | ⟨h, _⟩ | ⟨_, h⟩
      · omega
      · omega
      · omega
      · exact h
    obtain ⟨i, hi, hi10⟩ := modNat (wh : Int) (n := 10) (by decide)
    have two : ∀ {σ : L2.St} {H' : Hp} {te : TE} {x y : V} {b0 b1 : Bool}, EvL te σ H' [x, y] → (∀ H2, NumB H2 x b0) → (∀ H2, NumB H2 y b1) → (b0 && b1) = false → EvR te σ H' NB2 := fun {σ H' te x y b0 b1} h h0 h1 hb => er_l h fun a H2 ha => nums_bad ha (by show 2 ≤ 1000; decide) (.inr ⟨fun i => if i = 0 then b0 else b1, fun i z hz => by
      match i, hz with
      | 0, hz =>
        cases hz
        exact h0 H2
      | 1, hz =>
        cases hz
        exact h1 H2
      | k + 2, hz => exact absurd hz (by simp), by
      show false = (b0 && (b1 && true))
      rw [Bool.and_true, hb]⟩)
    have ln : ∀ {σ : L2.St} {H' : Hp} {te : TE} {xs : List V}, EvL te σ H' xs → xs.length ≤ 1000 → xs.length ≠ 2 → EvR te σ H' NB2 := fun h h1 h2 => er_l h fun a H2 ha => nums_bad ha h1 (.inl h2)
    refine q_asgR (er_ixN (K := K) (m := 10) kept_NB2 (er_lstN kept_NB2 (ean_cons kept_NB2 (er_v ev_c fun H' => .inl (.inl rfl)) (ean_cons kept_NB2 (er_mono (er_tupV (ea_cons ev_c (ea_cons ev_c ea_nil)) (by show 2 ≤ 1000; decide)) fun v H' hv => .inl (.inr (.inr (.inr (.inr (.inl hv)))))) (ean_cons kept_NB2 (er_v ev_c fun H' => .inl (.inr (.inr (.inr (.inl ⟨_, rfl⟩))))) (ean_cons kept_NB2 (er_mono er_dict fun v H' hv => .inl (.inr (.inr (.inr (.inr (.inr hv)))))) (ean_cons kept_NB2 (ln (el_lst ea_nil (by show 0 ≤ 100000; decide)) (by decide) (by decide)) (ean_cons kept_NB2 (ln (xs := [.int 1]) (el_lst (ea_cons ev_c ea_nil) (by show 1 ≤ 100000; decide)) (by decide) (by decide)) (ean_cons kept_NB2 (ln (xs := [.int 1, .int 2, .int 3]) (el_lst (ea_cons ev_c (ea_cons ev_c (ea_cons ev_c ea_nil))) (by show 3 ≤ 100000; decide)) (by decide) (by decide)) (ean_cons kept_NB2 (two (b0 := true) (b1 := false) (el_lst (ea_cons ev_c (ea_cons ev_c ea_nil)) (by show 2 ≤ 100000; decide)) (fun H2 => .inl ⟨_, rfl, rfl⟩) (fun H2 => .inr (.inr ⟨.inl rfl, rfl⟩)) rfl) (ean_cons kept_NB2 (two (b0 := false) (b1 := true) (el_lst (ea_cons ev_c (ea_cons ev_c ea_nil)) (by show 2 ≤ 100000; decide)) (fun H2 => .inr (.inr ⟨.inr (.inl ⟨_, rfl⟩), rfl⟩)) (fun H2 => .inl ⟨_, rfl, rfl⟩) rfl) (ean_cons kept_NB2 (two (b0 := false) (b1 := true) (el_lst (ea_cons ev_c (ea_cons ev_c ea_nil)) (by show 2 ≤ 100000; decide)) (fun H2 => .inr (.inl ⟨_, rfl, rfl⟩)) (fun H2 => .inl ⟨_, rfl, rfl⟩) rfl) ean_nil)))))))))) (by decide)) (ev_is (ev_op (ev_var rfl) ev_c (rv_I (by decide))) (congrArg V.int hi)) hi10) fun v H5 e5 hv => ?_
    have E5 := (((e1.trans e2).trans e3).trans e4).trans e5
    refine s_retIf (et_test (ev_op (ev_op (ev_op (ev_var rfl) ev_c (rv_I ⟨by decide, by decide⟩)) ev_c (rv_I (by decide))) ev_c (rv_eq rfl))) (fun _ H6 e6 => ?_) fun _ H6 e6 => ?_
    · refine s_retCR (ear_LV (xs := tabV 2 (tabM [2])) (er_isL (by apply litL; (repeat (first | exact ea_nil | apply ea_cons ev_c | apply ea_cons (ev_un ev_c ru_neg))); (exact of_decide_eq_true rfl); (decide +kernel))) (ea_cons (ev_var rfl) ea_nil)) fun ws H7 e7 hws => ?_
      obtain ⟨p, rfl, hp⟩ := hws
      exact ⟨.ref p, v, rfl, .inr ⟨2, half2 hp, NumsN.ex (e6.trans e7) hv, ho.ex ((E5.trans e6).trans e7)⟩⟩
    · refine s_retCR (ear_LV (xs := tabV 2 (tabM [2])) (er_isL (by apply litL; (repeat (first | exact ea_nil | apply ea_cons ev_c | apply ea_cons (ev_un ev_c ru_neg))); (exact of_decide_eq_true rfl); (decide +kernel))) (ea_cons (ev_var rfl) ea_nil)) fun ws H7 e7 hws => ?_
      obtain ⟨p, rfl, hp⟩ := hws
      exact ⟨.ref p, v, rfl, .inr ⟨2, half2 hp, NumsN.ex (e6.trans e7) hv, ho.ex ((E5.trans e6).trans e7)⟩⟩

end
end HA

end
section
set_option maxRecDepth 100000
set_option maxHeartbeats 4000000
namespace HA
open PySem PySem.Spec PyProof.Rows L2 Evl
section
variable {P : Program} {w : World} {K : PySem.W.Frag} {mg : Str → Option Value} {base : Heap}
def isT (K : PySem.W.Frag) (cls : Value) (d : Option Addr) (a : Addr) (v : V) : TE := tCB (rIsG K cls d a) (tCons (tVar 4) (tCons (tC v) tNil))
def suiteT (K : PySem.W.Frag) (c0 c1 c2 c3 c4 c5 c6 : Addr) : Addr → Value → Option Addr → TS := fun a cls d =>
  tSeq (tAsg (tLst (tCons (isT K cls d a (.ref c0)) (tCons (isT K cls d a (.ref c1)) (tCons (isT K cls d a (.ref c2)) tNil)))) (gName 5))
    (tSeq (tAsg (tOp rCat (tVar 5) (tLst (tCons (isT K cls d a (.ref c3)) (tCons (isT K cls d a (.ref c4)) (tCons (isT K cls d a (.ref c5)) tNil))))) (gName 5))
      (tRet (tOp rCat (tVar 5) (tLst (tCons (isT K cls d a (.ref c6)) (tCons (isT K cls d a (.ty "ValueError")) tNil))))))
theorem ok_L_told (T : Txt K mg) : FnOk P w K mg base CX0 8 T.a_L_told T.d_L_told ["_law_kind", "_law_which", "_law_more"] sp_told7 := by
  refine T.F_L_told.ok sc_L_told (fun vs H Q E h => ?_) (fun cdv A outer s H vs Q E hr h => ?_)
  · obtain ⟨k, wh, m, rfl, _⟩ := h
    rfl
  · obtain ⟨k, wh, m, rfl, hk6, q⟩ := h
    have G_L_with_table := ok_L_with_table (P := P) (w := w) (base := base) T
    have G_L_bad_table := ok_L_bad_table (P := P) (w := w) (base := base) T
    have G_product := ok_product (P := P) (w := w) (base := base) T
    have G_L_with_half := ok_L_with_half (P := P) (w := w) (base := base) T
    have G_L_others := ok_L_others (P := P) (w := w) (base := base) T
    refine ⟨_, pss_cons (L2N.ps_try_as (i := 4) rfl rfl sc_L_told.nd rfl rfl ⟨rfl, rfl, .inl T.g_SignError⟩ takesN (fun W pn xe tk po => pss_one (ps_if (pt_cmpR op_eq (pv 0) pe_int (nomark _)) (pss_one (ps_expr (pe_callS G_L_with_table (hr.mono (by decide)) (by rfl) T.g_L_with_table T.F_L_with_table.kp T.b_L_with_table (fun σ => L2N.passAt tk σ) (pa_cons (pe_op op_mod (pe_op op_fdiv (pv 1) pe_int) pe_int) (pa_cons (pe_call G_L_bad_table (hr.mono (by decide)) (by rfl) T.g_L_bad_table T.F_L_bad_table.kp T.b_L_bad_table .nil pass0 (pa_cons (pv 1) (pa_cons (pv 2) pa_nil))) pa_nil))))) (pss_one (ps_if (PW.pt (pw_and (pt_cmpR op_eq (pv 0) pe_int (nomark _)) (pw_and1 (pt_cmpR op_eq (pe_op op_mod (pv 1) pe_int) pe_int (nomark _))))) (pss_one (ps_expr (pe_callS G_product (hr.mono (by decide)) (by rfl) T.g_product T.F_product.kp T.b_product (fun σ => L2N.passAt tk σ) (pa_cons (pe_op op_rep (pe_lst (pa_cons (pe_op op_mulS pe_str pe_int) pa_nil)) pe_int) (pa_cons (pe_op op_rep (pe_lst (pa_cons (pe_op op_mulS pe_str (pe_op op_add pe_int (pe_op op_mod (pv 2) pe_int))) pa_nil)) (pe_op op_add pe_int (pe_op op_mod (pv 2) pe_int))) pa_nil))))) (pss_one (ps_if (pt_cmpR op_eq (pv 0) pe_int (nomark _)) (pss_cons (ps_set (i := 3) sc_L_told.nd rfl (.inl rfl) (pe_lst (pa_cons (pe_lst (pa_cons pe_str (pa_cons pe_str pa_nil))) (pa_cons (pe_lst (pa_cons pe_str (pa_cons pe_str (pa_cons pe_str pa_nil)))) (pa_cons (pe_lst (pa_cons pe_str (pa_cons pe_str (pa_cons pe_str (pa_cons pe_str pa_nil))))) pa_nil)))))
              (pss_one (ps_expr (pe_callS G_L_with_half (hr.mono (by decide)) (by rfl) T.g_L_with_half T.F_L_with_half.kp T.b_L_with_half (fun σ => L2N.passAt tk σ) (pa_cons (pe_op op_mod (pe_op op_fdiv (pv 1) pe_int) pe_int) (pa_cons (pe_ix (r := rIxL K) ix_list (pv 3) (pe_op op_mod (pe_op op_fdiv (pv 1) pe_int) pe_int) (fun _ _ => rfl)) pa_nil)))))) (pss_one (ps_expr (pe_callS G_L_others (hr.mono (by decide)) (by rfl) T.g_L_others T.F_L_others.kp T.b_L_others (fun σ => L2N.passAt tk σ) (pa_cons (pv 0) (pa_cons (pv 1) (pa_cons (pv 2) pa_nil)))))))))))) (fun a oe cls d pn hz hf => pss_cons (ps_set (i := 5) sc_L_told.nd rfl (.inl rfl) (pe_lst (pa_cons (pe_callB (call_isG hz.zc hf) (by rfl) T.m_isinstance (by decide +kernel) (pa_cons (pv 4) (pa_cons (pe_glob (v := .ref T.C_BadTable) (by rfl) T.g_BadTable rfl) pa_nil))) (pa_cons (pe_callB (call_isG hz.zc hf) (by rfl) T.m_isinstance (by decide +kernel) (pa_cons (pv 4) (pa_cons (pe_glob (v := .ref T.C_BadParts) (by rfl) T.g_BadParts rfl) pa_nil))) (pa_cons (pe_callB (call_isG hz.zc hf) (by rfl) T.m_isinstance (by decide +kernel) (pa_cons (pv 4) (pa_cons (pe_glob (v := .ref T.C_BadPlace) (by rfl) T.g_BadPlace rfl) pa_nil))) pa_nil)))))
        (pss_cons (ps_set (i := 5) sc_L_told.nd rfl (.inl rfl) (pe_op op_cat (pv 5) (pe_lst (pa_cons (pe_callB (call_isG hz.zc hf) (by rfl) T.m_isinstance (by decide +kernel) (pa_cons (pv 4) (pa_cons (pe_glob (v := .ref T.C_BadSigns) (by rfl) T.g_BadSigns rfl) pa_nil))) (pa_cons (pe_callB (call_isG hz.zc hf) (by rfl) T.m_isinstance (by decide +kernel) (pa_cons (pv 4) (pa_cons (pe_glob (v := .ref T.C_BadNumbers) (by rfl) T.g_BadNumbers rfl) pa_nil))) (pa_cons (pe_callB (call_isG hz.zc hf) (by rfl) T.m_isinstance (by decide +kernel) (pa_cons (pv 4) (pa_cons (pe_glob (v := .ref T.C_NoNumbers) (by rfl) T.g_NoNumbers rfl) pa_nil))) pa_nil))))))
        (pss_one (ps_ret (pe_op op_cat (pv 5) (pe_lst (pa_cons (pe_callB (call_isG hz.zc hf) (by rfl) T.m_isinstance (by decide +kernel) (pa_cons (pv 4) (pa_cons (pe_glob (v := .ref T.C_TooGreat) (by rfl) T.g_TooGreat rfl) pa_nil))) (pa_cons (pe_callB (call_isG hz.zc hf) (by rfl) T.m_isinstance (by decide +kernel) (pa_cons (pv 4) (pa_cons (pe_bltn (v := .ty "ValueError") (by rfl) T.m_ValueError (by decide +kernel) rfl) pa_nil))) pa_nil)))))))))
      (pss_one (ps_ret (pe_lst pa_nil))), ?_⟩
    have hand : ∀ (C : Addr) (b0 b1 b2 b3 b4 b5 b6 : Bool), ExcC K C → PySem.W.exmOne K (.ref C) (.ref T.C_SignError) = some true → PySem.W.kitOne K (.ref C) (.ref T.C_BadTable) = some b0 → PySem.W.kitOne K (.ref C) (.ref T.C_BadParts) = some b1 → PySem.W.kitOne K (.ref C) (.ref T.C_BadPlace) = some b2 → PySem.W.kitOne K (.ref C) (.ref T.C_BadSigns) = some b3 → PySem.W.kitOne K (.ref C) (.ref T.C_BadNumbers) = some b4 → PySem.W.kitOne K (.ref C) (.ref T.C_NoNumbers) = some b5 → PySem.W.kitOne K (.ref C) (.ref T.C_TooGreat) = some b6 → PySem.W.kitOne K (.ref C) (.type "ValueError") = some true → [b0, b1, b2, b3, b4, b5, b6, true] = dueB k →
        ∀ (D : Ends), D.rt = Q → ∀ v3 H1, Ex H H1 → wAs K (.ref T.C_SignError) 4 (suiteT K T.C_BadTable T.C_BadParts T.C_BadPlace T.C_BadSigns T.C_BadNumbers T.C_NoNumbers T.C_TooGreat) (fun _ _ _ _ => False) D (.ref C) none [some (.int (k : Int)), some (.int (wh : Int)), some (.int (m : Int)), v3, none, none] H1 := fun C b0 b1 b2 b3 b4 b5 b6 ec em k0 k1 k2 k3 k4 k5 k6 kv hdue D hD v3 H1 e1 => by
      refine ⟨true, em, fun _ ae hae => ?_, fun hz => nomatch hz⟩
      have isi : ∀ {σ : L2.St} {H' : Hp} {D : Addr} {bb : Bool}, σ[4]? = some (some (.ref ae)) → PySem.W.kitOne K (.ref C) (.ref D) = some bb → Ev (isT K (.ref C) none ae (.ref D)) σ H' (.bl bb) := fun {σ H' D bb} h k =>
        ev_cb (ea_cons (ev_var h) (ea_cons ev_c ea_nil)) fun H2 e2 Q2 q2 => ⟨C, rfl, rfl, ec, .ref D, .ref D, bb, rfl, fun w hw => by cases hw; rfl, k, q2 H2 (Ex.refl H2)⟩
      have isv : ∀ {σ : L2.St} {H' : Hp}, σ[4]? = some (some (.ref ae)) → Ev (isT K (.ref C) none ae (.ty "ValueError")) σ H' (.bl true) := fun {σ H'} h =>
        ev_cb (ea_cons (ev_var h) (ea_cons ev_c ea_nil)) fun H2 e2 Q2 q2 => ⟨C, rfl, rfl, ec, .ty "ValueError", .type "ValueError", true, rfl, fun w hw => by cases hw; rfl, kv, q2 H2 (Ex.refl H2)⟩
      refine q_asgL (el_lst (ea_cons (isi rfl k0) (ea_cons (isi rfl k1) (ea_cons (isi rfl k2) ea_nil))) (by show 3 ≤ 100000; decide)) fun po H2 hpo e2 h2 => ?_
      refine q_asgL (el_catV (ev_var rfl) h2 (el_lst (ea_cons (isi rfl k3) (ea_cons (isi rfl k4) (ea_cons (isi rfl k5) ea_nil))) (by show 3 ≤ 100000; decide)) (by show 3 + 3 ≤ 100000; decide)) fun p2 H3 hp2 e3 h3 => ?_
      refine s_retL (xs := (dueB k).map V.bl) (ev_list (el_catV (ev_var rfl) h3 (el_lst (ea_cons (isi rfl k6) (ea_cons (isv rfl) ea_nil)) (by show 2 ≤ 100000; decide)) (by show 6 + 2 ≤ 100000; decide)) (by rw [← hdue]; rfl)) fun p H4 hp e4 h4 => ?_
      show D.rt (.ref p) H4
      rw [hD]
      exact q p H4 (fresh_back ((e1.trans e2).trans e3) hp) (((e1.trans e2).trans e3).trans e4) h4
    have handT := fun hk : k ≤ 1 => hand T.C_BadTable _ _ _ _ _ _ _ T.ec_BadTable T.em_BadTable_SignError T.ek_BadTable_BadTable T.ek_BadTable_BadParts T.ek_BadTable_BadPlace T.ek_BadTable_BadSigns T.ek_BadTable_BadNumbers T.ek_BadTable_NoNumbers T.ek_BadTable_TooGreat T.ek_BadTable_ValueError (by
      have c : k = 0 ∨ k = 1 := by omega
      rcases c with rfl | rfl <;> decide)
    have kind : ∀ {σ : L2.St} {H' : Hp} {ta : TE} (c : Nat), Ev ta σ H' (.int (k : Int)) → EvT (tTest (tOp rEq ta (tC (.int (c : Int))))) σ H' (decide (k = c)) := fun {σ H' ta} c h => et_is (et_test (ev_op h ev_c (rv_eq rfl))) (by rw [dec_intB, Bool.eq_iff_iff, decide_eq_true_eq, decide_eq_true_eq]; omega)
    obtain ⟨d9, hd9, hd9n⟩ := modNat ((wh : Int) / 20) (n := 9) (by decide)
    obtain ⟨d3, hd3, hd3n⟩ := modNat ((wh : Int) / 12) (n := 3) (by decide)
    obtain ⟨i3, hi3, hi3n⟩ := modNat ((wh : Int) / 4) (n := 3) (by decide)
    obtain ⟨m50, hm50, hm50n⟩ := modNat (m : Int) (n := 50) (by decide)
    show tIfS _ _ _ _ _ _
    refine s_if (b := decide (k = 0)) (kind 0 (ev_var rfl)) (fun hb H1 e1 => ?_) fun hb H1 e1 => ?_
    · have hk0 := of_decide_eq_true hb
      refine s_dropS (ear_VR (R := BT) (x := .int (d9 : Int)) (ev_is (ev_op (ev_op (ev_var rfl) ev_c (rv_I ⟨by decide, by decide⟩)) ev_c (rv_I (by decide))) (congrArg V.int hd9)) (er_call (ea_cons (ev_var rfl) (ea_cons (ev_var rfl) ea_nil)) fun H2 e2 Q2 q2 => ⟨wh, m, rfl, fun v H3 e3 hv => q2 v H3 e3 hv⟩)) fun ws H2 e2 hws => ?_
      obtain ⟨v, rfl, hv⟩ := hws
      exact ⟨v, d9, rfl, hd9n, hv, fun H3 e3 => handT (by omega) _ rfl _ H3 ((e1.trans e2).trans e3)⟩
    refine s_if (b := decide (k = 1) && decide ((wh : Int) % 4 = 0)) (et_and (kind 1 (ev_var rfl)) fun _ => et_is (et_test (ev_op (ev_op (ev_var rfl) ev_c (rv_I (by decide))) ev_c (rv_eq rfl))) (dec_intB _ _)) (fun hb2 H2 e2 => ?_) fun hb2 H2 e2 => ?_
    · have hk1 : k = 1 := by
        rw [Bool.and_eq_true, decide_eq_true_eq] at hb2
        exact hb2.1
      have sq : ∀ {σ : L2.St} {H' : Hp} {ta tb : TE} (n : Nat), Ev ta σ H' (.int (n : Int)) → Ev tb σ H' (.int (n : Int)) → 1 ≤ n → n ≤ 100 → EvL (tOp rRep (tLst (tCons (tOp rMulS (tC (.str (Str.ofString "+"))) ta) tNil)) tb) σ H' (tabV n fun _ _ => true) := fun {σ H' ta tb} n h1 h2 n1 n2 => ev_list (el_rep (xs := [.str (rowS n fun _ => true)]) (k := n) (el_lst (ea_cons (ev_is (ev_op ev_c h1 (rv_mulS (mulOk_small (by decide +kernel) (by omega) (by omega)))) (by rw [sg_plus, mul_sg8 true n n1])) ea_nil) (by show 1 ≤ 100000; decide)) h2 (by omega) (by show 1 * n ≤ 100000; omega)) (by
        rw [rep_one]
        unfold tabV
        rw [List.map_const', List.length_range])
      have e10 : (10 : Int) + (m50 : Int) = ((10 + m50 : Nat) : Int) := by omega
      have sm : ∀ {σ : L2.St} {H' : Hp} {ta : TE}, Ev ta σ H' (.int (m : Int)) → Ev (tOp (rI0 fun i j => .int (i + j)) (tC (.int 10)) (tOp (rI (fun _ j => 0 < j) fun i j => .int (i % j)) ta (tC (.int 50)))) σ H' (.int ((10 + m50 : Nat) : Int)) := fun h => ev_is (ev_op ev_c (ev_is (ev_op h ev_c (rv_I (by decide))) (congrArg V.int hm50)) rv_I0) (congrArg V.int e10)
      refine s_dropS (ear_LR (xs := tabV 11 fun _ _ => true) (er_isL (sq 11 ev_c ev_c (by decide) (by decide))) (er_isL (xs := tabV (10 + m50) fun _ _ => true) (sq (10 + m50) (sm (ev_var rfl)) (sm (ev_var rfl)) (by omega) (by omega)))) fun ws H3 e3 hws => ?_
      obtain ⟨p, v, rfl, hp, p2, rfl, hp2⟩ := hws
      exact ⟨.ref p, .ref p2, rfl, fun H4 e4 => handT (by omega) _ rfl _ H4 (((e1.trans e2).trans e3).trans e4), .inr ⟨p, 11, _, rfl, hp, by decide, by decide, .inr ⟨p2, 10 + m50, _, rfl, hp2, by omega, by omega, by omega⟩⟩⟩
    refine s_if (b := decide (k = 1)) (kind 1 (ev_var rfl)) (fun hb3 H3 e3 => ?_) fun hb3 H3 e3 => ?_
    · have hk1 := of_decide_eq_true hb3
      have E3 := (e1.trans e2).trans e3
      have ht : ∀ {σ : L2.St} {H' : Hp} {te : TE} {n : Nat} {f : Nat → Nat → Bool}, EvL te σ H' (tabV n f) → 1 ≤ n → n ≤ 100 → halfB n f = false → EvR te σ H' (fun v H => BadT H v) := fun {σ H' te n f} h h1 h2 h3 => er_l h fun a H2 ha => .inr ⟨n, a, f, rfl, ha, h1, h2, h3⟩
      have kb : Kept (fun v H => BadT H v) := fun v H H' e h => h.ex e
      refine q_asgR (er_lstN (m := 3) kb (ean_cons kb (ht (n := 2) (f := fun _ _ => true) (by apply litL; (repeat (first | exact ea_nil | apply ea_cons ev_c | apply ea_cons (ev_un ev_c ru_neg))); (exact of_decide_eq_true rfl); (decide +kernel)) (by decide) (by decide) (by decide +kernel)) (ean_cons kb (ht (n := 3) (f := fun i j => i == 0 || (i == 1 && !(j == 1)) || (i == 2 && !(j == 2))) (by apply litL; (repeat (first | exact ea_nil | apply ea_cons ev_c | apply ea_cons (ev_un ev_c ru_neg))); (exact of_decide_eq_true rfl); (decide +kernel)) (by decide) (by decide) (by decide +kernel)) (ean_cons kb (ht (n := 4) (f := fun i j => i == 0 || j == 0 || (i == 1 && j == 2) || (i == 2 && j == 1)) (by apply litL; (repeat (first | exact ea_nil | apply ea_cons ev_c | apply ea_cons (ev_un ev_c ru_neg))); (exact of_decide_eq_true rfl); (decide +kernel)) (by decide) (by decide) (by decide +kernel)) ean_nil))) (by decide)) fun v H4 e4 hv => ?_
      obtain ⟨ps, sv, rfl, hps, hsv⟩ := hv
      refine s_dropS (ear_VR (R := fun v H => BadT H v) (x := .int (d3 : Int)) (ev_is (ev_op (ev_op (ev_var rfl) ev_c (rv_I ⟨by decide, by decide⟩)) ev_c (rv_I (by decide))) (congrArg V.int hd3)) (er_ixN (K := K) (m := 3) kb (er_varN kb (ev_var rfl) hps hsv) (ev_is (ev_op (ev_op (ev_var rfl) ev_c (rv_I ⟨by decide, by decide⟩)) ev_c (rv_I (by decide))) (congrArg V.int hi3)) hi3n)) fun ws H5 e5 hws => ?_
      obtain ⟨v, rfl, hv⟩ := hws
      exact ⟨v, d3, rfl, hd3n, hv, fun H6 e6 => handT (by omega) _ rfl _ H6 (((E3.trans e4).trans e5).trans e6)⟩
    have hk0 := of_decide_eq_false hb
    have hk1 := of_decide_eq_false hb3
    have E3 := (e1.trans e2).trans e3
    refine s_dropS (ear_A (ea_cons (ev_var rfl) (ea_cons (ev_var rfl) (ea_cons (ev_var rfl) ea_nil)))) fun ws H4 e4 hws => ?_
    subst hws
    have E4 := E3.trans e4
    refine ⟨k, wh, m, rfl, ?_⟩
    have c : k = 2 ∨ k = 3 ∨ k = 4 ∨ k = 5 := by omega
    rcases c with hc | hc | hc | hc
    · exact .inl ⟨hc, fun H5 e5 => hand T.C_BadParts _ _ _ _ _ _ _ T.ec_BadParts T.em_BadParts_SignError T.ek_BadParts_BadTable T.ek_BadParts_BadParts T.ek_BadParts_BadPlace T.ek_BadParts_BadSigns T.ek_BadParts_BadNumbers T.ek_BadParts_NoNumbers T.ek_BadParts_TooGreat T.ek_BadParts_ValueError (by rw [hc]; decide) _ rfl _ H5 (E4.trans e5)⟩
    · exact .inr (.inl ⟨hc, fun H5 e5 => hand T.C_BadPlace _ _ _ _ _ _ _ T.ec_BadPlace T.em_BadPlace_SignError T.ek_BadPlace_BadTable T.ek_BadPlace_BadParts T.ek_BadPlace_BadPlace T.ek_BadPlace_BadSigns T.ek_BadPlace_BadNumbers T.ek_BadPlace_NoNumbers T.ek_BadPlace_TooGreat T.ek_BadPlace_ValueError (by rw [hc]; decide) _ rfl _ H5 (E4.trans e5)⟩)
    · exact .inr (.inr (.inl ⟨hc, fun H5 e5 => hand T.C_BadSigns _ _ _ _ _ _ _ T.ec_BadSigns T.em_BadSigns_SignError T.ek_BadSigns_BadTable T.ek_BadSigns_BadParts T.ek_BadSigns_BadPlace T.ek_BadSigns_BadSigns T.ek_BadSigns_BadNumbers T.ek_BadSigns_NoNumbers T.ek_BadSigns_TooGreat T.ek_BadSigns_ValueError (by rw [hc]; decide) _ rfl _ H5 (E4.trans e5)⟩))
    · exact .inr (.inr (.inr ⟨hc, fun H5 e5 => hand T.C_BadNumbers _ _ _ _ _ _ _ T.ec_BadNumbers T.em_BadNumbers_SignError T.ek_BadNumbers_BadTable T.ek_BadNumbers_BadParts T.ek_BadNumbers_BadPlace T.ek_BadNumbers_BadSigns T.ek_BadNumbers_BadNumbers T.ek_BadNumbers_NoNumbers T.ek_BadNumbers_TooGreat T.ek_BadNumbers_ValueError (by rw [hc]; decide) _ rfl _ H5 (E4.trans e5)⟩))

end
end HA

end
section
set_option maxRecDepth 100000
set_option maxHeartbeats 4000000
namespace HA
open PySem PySem.Spec PyProof.Rows L2 Evl
section
variable {P : Program} {w : World} {K : PySem.W.Frag} {mg : Str → Option Value} {base : Heap}
theorem ok_law (T : Txt K mg) : FnOk P w K mg base CX0 9 T.a_law T.d_law ["_law_script"] (sp_law K) := by
  refine T.F_law.ok sc_law (fun vs H Q E h => ?_) (fun cdv A outer s H vs Q E hr h => ?_)
  · obtain ⟨a, ns, rfl, _⟩ := h
    rfl
  · obtain ⟨a, ns, rfl, hS, hl, hbits, q⟩ := h
    have G_L_told := ok_L_told (P := P) (w := w) (base := base) T
    have G_order := ok_order (P := P) (w := w) (base := base) T
    have G_exchanged := ok_exchanged (P := P) (w := w) (base := base) T
    refine ⟨_, pss_cons (ps_for PassesOwn.never (by rfl) (pi_list (pv 0)) (pg_name (i := 1) sc_law.nd rfl (.inl rfl))
        (pss_cons (ps_set (i := 2) sc_law.nd rfl (.inl rfl) (pe_op op_mod (pv 1) pe_int))
        (pss_cons (ps_set (i := 3) sc_law.nd rfl (.inr rfl) (pe_ix ix_tup (pe_tup (pa_cons pe_int (pa_cons pe_int (pa_cons pe_int (pa_cons pe_int (pa_cons pe_int (pa_cons pe_int pa_nil))))))) (pv 2) (fun _ _ => rfl)))
        (pss_cons (ps_set (i := 4) sc_law.nd rfl (.inl rfl) (pe_op op_cat (pe_lc (own := [("_law_at", 5)]) (g := (gName 5)) (tt := tYes) (te := (tOp _ (tVar 3) (tVar 5))) (by rfl) sc_law.nd (pi_range1 (by rfl) T.m_range (pa_cons pe_int pa_nil)) (blkOk_by (by kernel_rfl)) (fun _ _ _ _ _ => pg_name (i := 5) sc_law.nd rfl (.inl rfl)) (fun _ _ _ _ _ => pts_nil) (fun _ _ _ _ _ => pe_cmpR op_eq (pv 3) (pv 5) (nomark _))) (pe_lst (pa_cons pe_bl pa_nil))))
        (pss_one (ps_if (pt_cmpR (op_neD hr.units) (pe_call G_L_told (hr.mono (by decide)) (by rfl) T.g_L_told T.F_L_told.kp T.b_L_told .nil pass0 (pa_cons (pv 2) (pa_cons (pe_op op_mod (pe_op op_fdiv (pv 1) pe_int) pe_int) (pa_cons (pe_op op_mod (pe_op op_fdiv (pv 1) pe_int) pe_int) pa_nil)))) (pv 4) (nomark _)) (pss_one (ps_ret (pe_bl))) (pss_nil)))))))
      (pss_one (ps_ret (pe_and (pe_cmpR op_eq (pe_call G_order (hr.mono (by decide)) (by rfl) T.g_order T.F_order.kp T.b_order .nil passLN (pa_cons (pe_op op_cat (pe_op op_rep (pe_lst (pa_cons pe_int pa_nil)) pe_int) (pe_lst (pa_cons pe_int pa_nil))) pa_nil)) (pe_op op_mul pe_int (pe_op op_pow pe_int pe_int)) (nomark _)) (pe_one (pe_cmpR op_eq (pe_callB call_len_seq (by rfl) T.m_len (by decide +kernel) (pa_cons (pe_call G_exchanged (hr.mono (by decide)) (by rfl) T.g_exchanged T.F_exchanged.kp T.b_exchanged .nil passLN (pa_cons (pe_op op_rep (pe_lst (pa_cons (pe_op op_mulS pe_str pe_int) pa_nil)) pe_int) pa_nil)) pa_nil)) pe_int (nomark _)))))), ?_⟩
    refine q_forLn (K := K) (ev_var rfl) hS (fun i σ' H' => ∃ v1 v2 v3 v4, σ' = [some (.ref a), v1, v2, v3, v4, none] ∧ Ex H H') (fun H1 e1 => ⟨_, _, _, _, rfl, e1⟩) (fun i σ' H1 _ hp => ?_) (fun i x σ' H1 hx hp => ?_) (fun σ' H1 hp => ?_)
    · obtain ⟨v1, v2, v3, v4, rfl, e1⟩ := hp
      exact ex_l e1 hS
    · obtain ⟨v1, v2, v3, v4, rfl, e1⟩ := hp
      obtain ⟨hi, rfl⟩ := intG ns hx
      generalize ns[i] = c
      obtain ⟨k, hk, hk6⟩ := modNat c (n := 6) (by decide)
      obtain ⟨w1, hw1, _⟩ := modNat (c / 6) (n := 100000) (by decide)
      obtain ⟨m1, hm1, _⟩ := modNat (c / 600000) (n := 1000) (by decide)
      refine q_asg (v := .int (k : Int)) (ev_is (ev_op (ev_var rfl) ev_c (rv_I (by decide))) (congrArg V.int hk)) fun H2 e2 => ?_
      have hst : ([.int 0, .int 0, .int 1, .int 2, .int 3, .int 4] : List V)[k]? = some (.int ((if k ≤ 1 then 0 else k - 1 : Nat) : Int)) := by
        match k, hk6 with
        | 0, _ => rfl
        | 1, _ => rfl
        | 2, _ => rfl
        | 3, _ => rfl
        | 4, _ => rfl
        | 5, _ => rfl
      refine q_asg (ev_itU (K := K) (i := k) (eu_tup (ea_cons ev_c (ea_cons ev_c (ea_cons ev_c (ea_cons ev_c (ea_cons ev_c (ea_cons ev_c ea_nil)))))) (by show 6 ≤ 100000; decide)) (ev_var rfl) hst) fun H3 e3 => ?_
      refine q_asgL (xs := (dueB k).map V.bl) (ev_list (el_cat (xs := ((List.range 7).map fun i => decide ((if k ≤ 1 then 0 else k - 1) = i)).map V.bl) (ys := [.bl true]) (ev_list (el_lcR1 (n := ((7 : Nat) : Int)) (fun _ => true) (fun i => .bl (decide ((if k ≤ 1 then 0 else k - 1) = i))) (ea_cons ev_c ea_nil) (by decide) (fun x => rfl) (fun i H4 e4 hi => et_yes) (fun i H4 e4 hi _ => ?_)) (by rw [given_all, List.map_map]; rfl)) (el_lst (ea_cons ev_c ea_nil) (by show 1 ≤ 100000; decide)) (by rw [List.length_map, List.length_map, List.length_range]; show 7 + 1 ≤ 100000; decide)) (by unfold dueB; rw [List.map_append]; rfl)) fun pd H4 hpd e4 h4 => ?_
      · refine ev_is (ev_op (ev_var rfl) (ev_var rfl) (rv_eq rfl)) ?_
        rw [dec_intB]
        refine congrArg V.bl ?_
        rw [Bool.eq_iff_iff, decide_eq_true_eq, decide_eq_true_eq]
        omega
      refine s_when (b := false) ?_ (fun hz => nomatch hz) fun _ H5 e5 => ⟨_, _, _, _, rfl, (((e1.trans e2).trans e3).trans e4).trans e5⟩
      exact et_test (ev_opLV (xs := (dueB k).map V.bl) (el_call (ea_cons (ev_var rfl) (ea_cons (ev_is (ev_op (ev_op (ev_var rfl) ev_c (rv_I ⟨by decide, by decide⟩)) ev_c (rv_I (by decide))) (congrArg V.int hw1)) (ea_cons (ev_is (ev_op (ev_op (ev_var rfl) ev_c (rv_I ⟨by decide, by decide⟩)) ev_c (rv_I (by decide))) (congrArg V.int hm1)) ea_nil))) fun H5 e5 Q5 q5 _ => ⟨k, w1, m1, rfl, hk6, q5⟩) (ev_var rfl) fun p H5 hp e5 => rv_neBl (sq_of hp) (sq_of (e5 pd _ h4)))
    · obtain ⟨v1, v2, v3, v4, rfl, e1⟩ := hp
      refine s_ret (v := .bl true) (ev_is (ev_andV (ev_op (ev_callI (z := .int (prodI (List.replicate 60 2 ++ [9860]))) (xs := (List.replicate 60 2 ++ [9860] : List Int).map V.int) (vs := []) (er_isL (ev_list (el_cat (ys := [.int 9860]) (el_rep (xs := [.int 2]) (k := 60) (el_lst (ea_cons ev_c ea_nil) (by show 1 ≤ 100000; decide)) ev_c (by decide) (by show 1 * 60 ≤ 100000; decide)) (el_lst (ea_cons ev_c ea_nil) (by show 1 ≤ 100000; decide)) (by decide +kernel)) (by decide +kernel))) ea_nil fun p H2 e2 h2 H3 e3 Q3 q3 _ => ⟨.ref p, rfl, .inr ⟨p, List.replicate 60 2 ++ [9860], rfl, ⟨e3 p _ h2, by decide⟩, by decide +kernel, q3⟩⟩) (ev_op ev_c (ev_op ev_c ev_c (rv_I ⟨by decide, by decide, by decide⟩)) (rv_I (.inl ⟨by decide, by decide⟩))) (rv_eq rfl)) fun _ => ev_op (ev_lenN (K := K) (xs := tabV 100 (trn fun _ _ => true)) (el_callI (xs := tabV 100 fun _ _ => true) (er_isL (ev_list (el_rep (xs := [.str (rowS 100 fun _ => true)]) (k := 100) (el_lst (ea_cons (ev_is (ev_op ev_c ev_c (rv_mulS (mulOk_small (by decide +kernel) (by decide) (by decide)))) (by rw [sg_plus]; exact congrArg V.str (mul_sg8 true 100 (by decide)))) ea_nil) (by show 1 ≤ 100000; decide)) ev_c (by decide) (by show 1 * 100 ≤ 100000; decide)) ?_)) fun p H2 e2 h2 Q2 q2 _ => ⟨.ref p, rfl, .inr ⟨p, 100, _, rfl, h2, by decide, by decide, q2⟩⟩)) ev_c (rv_eq rfl)) ?_) fun H2 e2 => q H2
      · rw [rep_one]
        unfold tabV
        rw [List.map_const', List.length_range]
      · rw [tabV_len]
        decide +kernel

end
end HA

end
section
set_option maxRecDepth 100000
set_option maxHeartbeats 4000000
namespace HA
open PySem PySem.Spec PyProof.Rows L2 Evl
section
variable {P : Program} {w : World} {K : PySem.W.Frag} {mg : Str → Option Value} {base : Heap}
theorem all_mk {l : PySem.W.OpenLaw} {w : World} {K : PySem.W.Frag} {h : Heap} {mg : Str → Option Value} {fa f0 f1 f2 f3 f4 f5 f6 f7 f8 f9 f10 f11 f12 f13 f14 f15 f16 f17 f18 f19 f20 f21 f22 f23 f24 f25 f26 f27 f28 C_SignError C_BadTable C_BadParts C_BadPlace C_BadSigns C_BadNumbers C_NoNumbers C_TooGreat : Addr} (X : K.In h) (G : h.Ns mainGlobals mg) (hfa : mg "law" = some (.ref fa))
    {od0 an0 : Option Addr} {sl0 : Array (Option Value)} {oc0 kV0 dc0 pm0 cd0 ct0 : Value}
    {od1 an1 : Option Addr} {sl1 : Array (Option Value)} {oc1 kV1 dc1 pm1 cd1 ct1 : Value}
    {od2 an2 : Option Addr} {sl2 : Array (Option Value)} {oc2 kV2 dc2 pm2 cd2 ct2 : Value}
    {od3 an3 : Option Addr} {sl3 : Array (Option Value)} {oc3 kV3 dc3 pm3 cd3 ct3 : Value}
    {od4 an4 : Option Addr} {sl4 : Array (Option Value)} {oc4 kV4 dc4 pm4 cd4 ct4 : Value}
    {od5 an5 : Option Addr} {sl5 : Array (Option Value)} {oc5 kV5 dc5 pm5 cd5 ct5 : Value}
    {od6 an6 : Option Addr} {sl6 : Array (Option Value)} {oc6 kV6 dc6 pm6 cd6 ct6 : Value}
    {od7 an7 : Option Addr} {sl7 : Array (Option Value)} {oc7 kV7 dc7 pm7 cd7 ct7 : Value}
    {od8 an8 : Option Addr} {sl8 : Array (Option Value)} {oc8 kV8 dc8 pm8 cd8 ct8 : Value}
    {od9 an9 : Option Addr} {sl9 : Array (Option Value)} {oc9 kV9 dc9 pm9 cd9 ct9 : Value}
    {od10 an10 : Option Addr} {sl10 : Array (Option Value)} {oc10 kV10 dc10 pm10 cd10 ct10 : Value}
    {od11 an11 : Option Addr} {sl11 : Array (Option Value)} {oc11 kV11 dc11 pm11 cd11 ct11 : Value}
    {od12 an12 : Option Addr} {sl12 : Array (Option Value)} {oc12 kV12 dc12 pm12 cd12 ct12 : Value}
    {od13 an13 : Option Addr} {sl13 : Array (Option Value)} {oc13 kV13 dc13 pm13 cd13 ct13 : Value}
    {od14 an14 : Option Addr} {sl14 : Array (Option Value)} {oc14 kV14 dc14 pm14 cd14 ct14 : Value}
    {od15 an15 : Option Addr} {sl15 : Array (Option Value)} {oc15 kV15 dc15 pm15 cd15 ct15 : Value}
    {od16 an16 : Option Addr} {sl16 : Array (Option Value)} {oc16 kV16 dc16 pm16 cd16 ct16 : Value}
    {od17 an17 : Option Addr} {sl17 : Array (Option Value)} {oc17 kV17 dc17 pm17 cd17 ct17 : Value}
    {od18 an18 : Option Addr} {sl18 : Array (Option Value)} {oc18 kV18 dc18 pm18 cd18 ct18 : Value}
    {od19 an19 : Option Addr} {sl19 : Array (Option Value)} {oc19 kV19 dc19 pm19 cd19 ct19 : Value}
    {od20 an20 : Option Addr} {sl20 : Array (Option Value)} {oc20 kV20 dc20 pm20 cd20 ct20 : Value}
    {od21 an21 : Option Addr} {sl21 : Array (Option Value)} {oc21 kV21 dc21 pm21 cd21 ct21 : Value}
    {od22 an22 : Option Addr} {sl22 : Array (Option Value)} {oc22 kV22 dc22 pm22 cd22 ct22 : Value}
    {od23 an23 : Option Addr} {sl23 : Array (Option Value)} {oc23 kV23 dc23 pm23 cd23 ct23 : Value}
    {od24 an24 : Option Addr} {sl24 : Array (Option Value)} {oc24 kV24 dc24 pm24 cd24 ct24 : Value}
    {od25 an25 : Option Addr} {sl25 : Array (Option Value)} {oc25 kV25 dc25 pm25 cd25 ct25 : Value}
    {od26 an26 : Option Addr} {sl26 : Array (Option Value)} {oc26 kV26 dc26 pm26 cd26 ct26 : Value}
    {od27 an27 : Option Addr} {sl27 : Array (Option Value)} {oc27 kV27 dc27 pm27 cd27 ct27 : Value}
    {od28 an28 : Option Addr} {sl28 : Array (Option Value)} {oc28 kV28 dc28 pm28 cd28 ct28 : Value}
    {k_MOST : Tok}
    {k_GREATEST : Tok}
    (a0 : PySem.W.nsIn K mainGlobals "is_number" = some (some (.ref f0)))
    (l0 : K.lookup f0 = some ⟨oc0, od0, .func (PySem.W.fnOf "is_number" "is_number" (defArgs s_is_number) (defBody s_is_number) (defScope s_is_number) .none kV0 dc0 pm0 an0 cd0 ct0), sl0⟩)
    (c0 : PySem.W.codeIn K cd0 "is_number" = true)
    (k0 : PySem.W.keepIn K (.ref f0) = true)
    (a1 : PySem.W.nsIn K mainGlobals "is_row" = some (some (.ref f1)))
    (l1 : K.lookup f1 = some ⟨oc1, od1, .func (PySem.W.fnOf "is_row" "is_row" (defArgs s_is_row) (defBody s_is_row) (defScope s_is_row) .none kV1 dc1 pm1 an1 cd1 ct1), sl1⟩)
    (c1 : PySem.W.codeIn K cd1 "is_row" = true)
    (k1 : PySem.W.keepIn K (.ref f1) = true)
    (a2 : PySem.W.nsIn K mainGlobals "asked_table" = some (some (.ref f2)))
    (l2 : K.lookup f2 = some ⟨oc2, od2, .func (PySem.W.fnOf "asked_table" "asked_table" (defArgs s_asked_table) (defBody s_asked_table) (defScope s_asked_table) .none kV2 dc2 pm2 an2 cd2 ct2), sl2⟩)
    (c2 : PySem.W.codeIn K cd2 "asked_table" = true)
    (k2 : PySem.W.keepIn K (.ref f2) = true)
    (a3 : PySem.W.nsIn K mainGlobals "alike" = some (some (.ref f3)))
    (l3 : K.lookup f3 = some ⟨oc3, od3, .func (PySem.W.fnOf "alike" "alike" (defArgs s_alike) (defBody s_alike) (defScope s_alike) .none kV3 dc3 pm3 an3 cd3 ct3), sl3⟩)
    (c3 : PySem.W.codeIn K cd3 "alike" = true)
    (k3 : PySem.W.keepIn K (.ref f3) = true)
    (a4 : PySem.W.nsIn K mainGlobals "first_unlike" = some (some (.ref f4)))
    (l4 : K.lookup f4 = some ⟨oc4, od4, .func (PySem.W.fnOf "first_unlike" "first_unlike" (defArgs s_first_unlike) (defBody s_first_unlike) (defScope s_first_unlike) .none kV4 dc4 pm4 an4 cd4 ct4), sl4⟩)
    (c4 : PySem.W.codeIn K cd4 "first_unlike" = true)
    (k4 : PySem.W.keepIn K (.ref f4) = true)
    (a5 : PySem.W.nsIn K mainGlobals "asked_half" = some (some (.ref f5)))
    (l5 : K.lookup f5 = some ⟨oc5, od5, .func (PySem.W.fnOf "asked_half" "asked_half" (defArgs s_asked_half) (defBody s_asked_half) (defScope s_asked_half) .none kV5 dc5 pm5 an5 cd5 ct5), sl5⟩)
    (c5 : PySem.W.codeIn K cd5 "asked_half" = true)
    (k5 : PySem.W.keepIn K (.ref f5) = true)
    (a6 : PySem.W.nsIn K mainGlobals "exchanged_of" = some (some (.ref f6)))
    (l6 : K.lookup f6 = some ⟨oc6, od6, .func (PySem.W.fnOf "exchanged_of" "exchanged_of" (defArgs s_exchanged_of) (defBody s_exchanged_of) (defScope s_exchanged_of) .none kV6 dc6 pm6 an6 cd6 ct6), sl6⟩)
    (c6 : PySem.W.codeIn K cd6 "exchanged_of" = true)
    (k6 : PySem.W.keepIn K (.ref f6) = true)
    (a7 : PySem.W.nsIn K mainGlobals "exchanged" = some (some (.ref f7)))
    (l7 : K.lookup f7 = some ⟨oc7, od7, .func (PySem.W.fnOf "exchanged" "exchanged" (defArgs s_exchanged) (defBody s_exchanged) (defScope s_exchanged) .none kV7 dc7 pm7 an7 cd7 ct7), sl7⟩)
    (c7 : PySem.W.codeIn K cd7 "exchanged" = true)
    (k7 : PySem.W.keepIn K (.ref f7) = true)
    (a8 : PySem.W.nsIn K mainGlobals "turned" = some (some (.ref f8)))
    (l8 : K.lookup f8 = some ⟨oc8, od8, .func (PySem.W.fnOf "turned" "turned" (defArgs s_turned) (defBody s_turned) (defScope s_turned) .none kV8 dc8 pm8 an8 cd8 ct8), sl8⟩)
    (c8 : PySem.W.codeIn K cd8 "turned" = true)
    (k8 : PySem.W.keepIn K (.ref f8) = true)
    (a9 : PySem.W.nsIn K mainGlobals "evened" = some (some (.ref f9)))
    (l9 : K.lookup f9 = some ⟨oc9, od9, .func (PySem.W.fnOf "evened" "evened" (defArgs s_evened) (defBody s_evened) (defScope s_evened) .none kV9 dc9 pm9 an9 cd9 ct9), sl9⟩)
    (c9 : PySem.W.codeIn K cd9 "evened" = true)
    (k9 : PySem.W.keepIn K (.ref f9) = true)
    (a10 : PySem.W.nsIn K mainGlobals "product" = some (some (.ref f10)))
    (l10 : K.lookup f10 = some ⟨oc10, od10, .func (PySem.W.fnOf "product" "product" (defArgs s_product) (defBody s_product) (defScope s_product) .none kV10 dc10 pm10 an10 cd10 ct10), sl10⟩)
    (c10 : PySem.W.codeIn K cd10 "product" = true)
    (k10 : PySem.W.keepIn K (.ref f10) = true)
    (a11 : PySem.W.nsIn K mainGlobals "is_prime" = some (some (.ref f11)))
    (l11 : K.lookup f11 = some ⟨oc11, od11, .func (PySem.W.fnOf "is_prime" "is_prime" (defArgs s_is_prime) (defBody s_is_prime) (defScope s_is_prime) .none kV11 dc11 pm11 an11 cd11 ct11), sl11⟩)
    (c11 : PySem.W.codeIn K cd11 "is_prime" = true)
    (k11 : PySem.W.keepIn K (.ref f11) = true)
    (a12 : PySem.W.nsIn K mainGlobals "is_part" = some (some (.ref f12)))
    (l12 : K.lookup f12 = some ⟨oc12, od12, .func (PySem.W.fnOf "is_part" "is_part" (defArgs s_is_part) (defBody s_is_part) (defScope s_is_part) .none kV12 dc12 pm12 an12 cd12 ct12), sl12⟩)
    (c12 : PySem.W.codeIn K cd12 "is_part" = true)
    (k12 : PySem.W.keepIn K (.ref f12) = true)
    (a13 : PySem.W.nsIn K mainGlobals "asked_parts" = some (some (.ref f13)))
    (l13 : K.lookup f13 = some ⟨oc13, od13, .func (PySem.W.fnOf "asked_parts" "asked_parts" (defArgs s_asked_parts) (defBody s_asked_parts) (defScope s_asked_parts) .none kV13 dc13 pm13 an13 cd13 ct13), sl13⟩)
    (c13 : PySem.W.codeIn K cd13 "asked_parts" = true)
    (k13 : PySem.W.keepIn K (.ref f13) = true)
    (a14 : PySem.W.nsIn K mainGlobals "multiplied" = some (some (.ref f14)))
    (l14 : K.lookup f14 = some ⟨oc14, od14, .func (PySem.W.fnOf "multiplied" "multiplied" (defArgs s_multiplied) (defBody s_multiplied) (defScope s_multiplied) .none kV14 dc14 pm14 an14 cd14 ct14), sl14⟩)
    (c14 : PySem.W.codeIn K cd14 "multiplied" = true)
    (k14 : PySem.W.keepIn K (.ref f14) = true)
    (a15 : PySem.W.nsIn K mainGlobals "order" = some (some (.ref f15)))
    (l15 : K.lookup f15 = some ⟨oc15, od15, .func (PySem.W.fnOf "order" "order" (defArgs s_order) (defBody s_order) (defScope s_order) .none kV15 dc15 pm15 an15 cd15 ct15), sl15⟩)
    (c15 : PySem.W.codeIn K cd15 "order" = true)
    (k15 : PySem.W.keepIn K (.ref f15) = true)
    (a16 : PySem.W.nsIn K mainGlobals "sign_at" = some (some (.ref f16)))
    (l16 : K.lookup f16 = some ⟨oc16, od16, .func (PySem.W.fnOf "sign_at" "sign_at" (defArgs s_sign_at) (defBody s_sign_at) (defScope s_sign_at) .none kV16 dc16 pm16 an16 cd16 ct16), sl16⟩)
    (c16 : PySem.W.codeIn K cd16 "sign_at" = true)
    (k16 : PySem.W.keepIn K (.ref f16) = true)
    (a17 : PySem.W.nsIn K mainGlobals "made" = some (some (.ref f17)))
    (l17 : K.lookup f17 = some ⟨oc17, od17, .func (PySem.W.fnOf "made" "made" (defArgs s_made) (defBody s_made) (defScope s_made) .none kV17 dc17 pm17 an17 cd17 ct17), sl17⟩)
    (c17 : PySem.W.codeIn K cd17 "made" = true)
    (k17 : PySem.W.keepIn K (.ref f17) = true)
    (a18 : PySem.W.nsIn K mainGlobals "told" = some (some (.ref f18)))
    (l18 : K.lookup f18 = some ⟨oc18, od18, .func (PySem.W.fnOf "told" "told" (defArgs s_told) (defBody s_told) (defScope s_told) .none kV18 dc18 pm18 an18 cd18 ct18), sl18⟩)
    (c18 : PySem.W.codeIn K cd18 "told" = true)
    (k18 : PySem.W.keepIn K (.ref f18) = true)
    (a19 : PySem.W.nsIn K mainGlobals "asked_numbers" = some (some (.ref f19)))
    (l19 : K.lookup f19 = some ⟨oc19, od19, .func (PySem.W.fnOf "asked_numbers" "asked_numbers" (defArgs s_asked_numbers) (defBody s_asked_numbers) (defScope s_asked_numbers) .none kV19 dc19 pm19 an19 cd19 ct19), sl19⟩)
    (c19 : PySem.W.codeIn K cd19 "asked_numbers" = true)
    (k19 : PySem.W.keepIn K (.ref f19) = true)
    (a20 : PySem.W.nsIn K mainGlobals "worths" = some (some (.ref f20)))
    (l20 : K.lookup f20 = some ⟨oc20, od20, .func (PySem.W.fnOf "worths" "worths" (defArgs s_worths) (defBody s_worths) (defScope s_worths) .none kV20 dc20 pm20 an20 cd20 ct20), sl20⟩)
    (c20 : PySem.W.codeIn K cd20 "worths" = true)
    (k20 : PySem.W.keepIn K (.ref f20) = true)
    (a21 : PySem.W.nsIn K mainGlobals "numbers_of" = some (some (.ref f21)))
    (l21 : K.lookup f21 = some ⟨oc21, od21, .func (PySem.W.fnOf "numbers_of" "numbers_of" (defArgs s_numbers_of) (defBody s_numbers_of) (defScope s_numbers_of) .none kV21 dc21 pm21 an21 cd21 ct21), sl21⟩)
    (c21 : PySem.W.codeIn K cd21 "numbers_of" = true)
    (k21 : PySem.W.keepIn K (.ref f21) = true)
    (a22 : PySem.W.nsIn K mainGlobals "read" = some (some (.ref f22)))
    (l22 : K.lookup f22 = some ⟨oc22, od22, .func (PySem.W.fnOf "read" "read" (defArgs s_read) (defBody s_read) (defScope s_read) .none kV22 dc22 pm22 an22 cd22 ct22), sl22⟩)
    (c22 : PySem.W.codeIn K cd22 "read" = true)
    (k22 : PySem.W.keepIn K (.ref f22) = true)
    (a23 : PySem.W.nsIn K mainGlobals "_law_with_half" = some (some (.ref f23)))
    (l23 : K.lookup f23 = some ⟨oc23, od23, .func (PySem.W.fnOf "_law_with_half" "_law_with_half" (defArgs s_L_with_half) (defBody s_L_with_half) (defScope s_L_with_half) .none kV23 dc23 pm23 an23 cd23 ct23), sl23⟩)
    (c23 : PySem.W.codeIn K cd23 "_law_with_half" = true)
    (k23 : PySem.W.keepIn K (.ref f23) = true)
    (a24 : PySem.W.nsIn K mainGlobals "_law_with_table" = some (some (.ref f24)))
    (l24 : K.lookup f24 = some ⟨oc24, od24, .func (PySem.W.fnOf "_law_with_table" "_law_with_table" (defArgs s_L_with_table) (defBody s_L_with_table) (defScope s_L_with_table) .none kV24 dc24 pm24 an24 cd24 ct24), sl24⟩)
    (c24 : PySem.W.codeIn K cd24 "_law_with_table" = true)
    (k24 : PySem.W.keepIn K (.ref f24) = true)
    (a25 : PySem.W.nsIn K mainGlobals "_law_bad_table" = some (some (.ref f25)))
    (l25 : K.lookup f25 = some ⟨oc25, od25, .func (PySem.W.fnOf "_law_bad_table" "_law_bad_table" (defArgs s_L_bad_table) (defBody s_L_bad_table) (defScope s_L_bad_table) .none kV25 dc25 pm25 an25 cd25 ct25), sl25⟩)
    (c25 : PySem.W.codeIn K cd25 "_law_bad_table" = true)
    (k25 : PySem.W.keepIn K (.ref f25) = true)
    (a26 : PySem.W.nsIn K mainGlobals "_law_others" = some (some (.ref f26)))
    (l26 : K.lookup f26 = some ⟨oc26, od26, .func (PySem.W.fnOf "_law_others" "_law_others" (defArgs s_L_others) (defBody s_L_others) (defScope s_L_others) .none kV26 dc26 pm26 an26 cd26 ct26), sl26⟩)
    (c26 : PySem.W.codeIn K cd26 "_law_others" = true)
    (k26 : PySem.W.keepIn K (.ref f26) = true)
    (a27 : PySem.W.nsIn K mainGlobals "_law_told" = some (some (.ref f27)))
    (l27 : K.lookup f27 = some ⟨oc27, od27, .func (PySem.W.fnOf "_law_told" "_law_told" (defArgs s_L_told) (defBody s_L_told) (defScope s_L_told) .none kV27 dc27 pm27 an27 cd27 ct27), sl27⟩)
    (c27 : PySem.W.codeIn K cd27 "_law_told" = true)
    (k27 : PySem.W.keepIn K (.ref f27) = true)
    (a28 : PySem.W.nsIn K mainGlobals "law" = some (some (.ref f28)))
    (l28 : K.lookup f28 = some ⟨oc28, od28, .func (PySem.W.fnOf "law" "law" (defArgs s_law) (defBody s_law) (defScope s_law) .none kV28 dc28 pm28 an28 cd28 ct28), sl28⟩)
    (c28 : PySem.W.codeIn K cd28 "law" = true)
    (k28 : PySem.W.keepIn K (.ref f28) = true)
    (z_isinstance : PySem.W.nsIn K mainGlobals "isinstance" = some none)
    (z_int : PySem.W.nsIn K mainGlobals "int" = some none)
    (z_bool : PySem.W.nsIn K mainGlobals "bool" = some none)
    (z_str : PySem.W.nsIn K mainGlobals "str" = some none)
    (z_len : PySem.W.nsIn K mainGlobals "len" = some none)
    (z_all : PySem.W.nsIn K mainGlobals "all" = some none)
    (z_list : PySem.W.nsIn K mainGlobals "list" = some none)
    (z_enumerate : PySem.W.nsIn K mainGlobals "enumerate" = some none)
    (z_range : PySem.W.nsIn K mainGlobals "range" = some none)
    (z_any : PySem.W.nsIn K mainGlobals "any" = some none)
    (z_ValueError : PySem.W.nsIn K mainGlobals "ValueError" = some none)
    (v_MOST : PySem.W.nsIn K mainGlobals "MOST" = some (some (.int 100 k_MOST)))
    (v_GREATEST : PySem.W.nsIn K mainGlobals "GREATEST" = some (some (.int 10000 k_GREATEST)))
    (hnn : PySem.W.specialIn K (.builtin "object.__class__") "__get__" = some (some (.builtin "getset_descriptor.__get__")))
    (htk : PySem.W.takesIn K (.builtin "object.__class__") = some true)
    (g_SignError : PySem.W.nsIn K mainGlobals "SignError" = some (some (.ref C_SignError)))
    (g_BadTable : PySem.W.nsIn K mainGlobals "BadTable" = some (some (.ref C_BadTable)))
    (g_BadParts : PySem.W.nsIn K mainGlobals "BadParts" = some (some (.ref C_BadParts)))
    (g_BadPlace : PySem.W.nsIn K mainGlobals "BadPlace" = some (some (.ref C_BadPlace)))
    (g_BadSigns : PySem.W.nsIn K mainGlobals "BadSigns" = some (some (.ref C_BadSigns)))
    (g_BadNumbers : PySem.W.nsIn K mainGlobals "BadNumbers" = some (some (.ref C_BadNumbers)))
    (g_NoNumbers : PySem.W.nsIn K mainGlobals "NoNumbers" = some (some (.ref C_NoNumbers)))
    (g_TooGreat : PySem.W.nsIn K mainGlobals "TooGreat" = some (some (.ref C_TooGreat)))
    (x_BadTable : PySem.W.excIn K C_BadTable [.type "ValueError", .type "Exception", .type "BaseException", .type "object"] "ValueError.__new__" = true)
    (k_BadTable : PySem.W.keepIn K (.ref C_BadTable) = true)
    (eb_BadTable : PySem.W.subIn K (.ref C_BadTable) (.type "BaseException") = some true)
    (et_BadTable : PySem.W.typeIn K (.ref C_BadTable) = some (.type "type"))
    (eg_BadTable : PySem.W.findIn K (.ref C_BadTable) "__getattribute__" = some (some (.builtin "BaseException.__getattribute__")))
    (eq_BadTable : PySem.W.findIn K (.ref C_BadTable) "__getattr__" = some none)
    (eh_BadTable : PySem.W.hasDictIn K C_BadTable = true)
    (ea_BadTable : PySem.W.findIn K (.ref C_BadTable) "__class__" = some (some (.builtin "object.__class__")))
    (eo_BadTable : PySem.W.mroIn K C_BadTable (.type "object") = some true)
    (x_BadParts : PySem.W.excIn K C_BadParts [.type "ValueError", .type "Exception", .type "BaseException", .type "object"] "ValueError.__new__" = true)
    (k_BadParts : PySem.W.keepIn K (.ref C_BadParts) = true)
    (eb_BadParts : PySem.W.subIn K (.ref C_BadParts) (.type "BaseException") = some true)
    (et_BadParts : PySem.W.typeIn K (.ref C_BadParts) = some (.type "type"))
    (eg_BadParts : PySem.W.findIn K (.ref C_BadParts) "__getattribute__" = some (some (.builtin "BaseException.__getattribute__")))
    (eq_BadParts : PySem.W.findIn K (.ref C_BadParts) "__getattr__" = some none)
    (eh_BadParts : PySem.W.hasDictIn K C_BadParts = true)
    (ea_BadParts : PySem.W.findIn K (.ref C_BadParts) "__class__" = some (some (.builtin "object.__class__")))
    (eo_BadParts : PySem.W.mroIn K C_BadParts (.type "object") = some true)
    (x_BadPlace : PySem.W.excIn K C_BadPlace [.type "ValueError", .type "Exception", .type "BaseException", .type "object"] "ValueError.__new__" = true)
    (k_BadPlace : PySem.W.keepIn K (.ref C_BadPlace) = true)
    (eb_BadPlace : PySem.W.subIn K (.ref C_BadPlace) (.type "BaseException") = some true)
    (et_BadPlace : PySem.W.typeIn K (.ref C_BadPlace) = some (.type "type"))
    (eg_BadPlace : PySem.W.findIn K (.ref C_BadPlace) "__getattribute__" = some (some (.builtin "BaseException.__getattribute__")))
    (eq_BadPlace : PySem.W.findIn K (.ref C_BadPlace) "__getattr__" = some none)
    (eh_BadPlace : PySem.W.hasDictIn K C_BadPlace = true)
    (ea_BadPlace : PySem.W.findIn K (.ref C_BadPlace) "__class__" = some (some (.builtin "object.__class__")))
    (eo_BadPlace : PySem.W.mroIn K C_BadPlace (.type "object") = some true)
    (x_BadSigns : PySem.W.excIn K C_BadSigns [.type "ValueError", .type "Exception", .type "BaseException", .type "object"] "ValueError.__new__" = true)
    (k_BadSigns : PySem.W.keepIn K (.ref C_BadSigns) = true)
    (eb_BadSigns : PySem.W.subIn K (.ref C_BadSigns) (.type "BaseException") = some true)
    (et_BadSigns : PySem.W.typeIn K (.ref C_BadSigns) = some (.type "type"))
    (eg_BadSigns : PySem.W.findIn K (.ref C_BadSigns) "__getattribute__" = some (some (.builtin "BaseException.__getattribute__")))
    (eq_BadSigns : PySem.W.findIn K (.ref C_BadSigns) "__getattr__" = some none)
    (eh_BadSigns : PySem.W.hasDictIn K C_BadSigns = true)
    (ea_BadSigns : PySem.W.findIn K (.ref C_BadSigns) "__class__" = some (some (.builtin "object.__class__")))
    (eo_BadSigns : PySem.W.mroIn K C_BadSigns (.type "object") = some true)
    (x_BadNumbers : PySem.W.excIn K C_BadNumbers [.type "ValueError", .type "Exception", .type "BaseException", .type "object"] "ValueError.__new__" = true)
    (k_BadNumbers : PySem.W.keepIn K (.ref C_BadNumbers) = true)
    (eb_BadNumbers : PySem.W.subIn K (.ref C_BadNumbers) (.type "BaseException") = some true)
    (et_BadNumbers : PySem.W.typeIn K (.ref C_BadNumbers) = some (.type "type"))
    (eg_BadNumbers : PySem.W.findIn K (.ref C_BadNumbers) "__getattribute__" = some (some (.builtin "BaseException.__getattribute__")))
    (eq_BadNumbers : PySem.W.findIn K (.ref C_BadNumbers) "__getattr__" = some none)
    (eh_BadNumbers : PySem.W.hasDictIn K C_BadNumbers = true)
    (ea_BadNumbers : PySem.W.findIn K (.ref C_BadNumbers) "__class__" = some (some (.builtin "object.__class__")))
    (eo_BadNumbers : PySem.W.mroIn K C_BadNumbers (.type "object") = some true)
    (ek_BadTable_BadTable : PySem.W.kitOne K (.ref C_BadTable) (.ref C_BadTable) = some true)
    (ek_BadTable_BadParts : PySem.W.kitOne K (.ref C_BadTable) (.ref C_BadParts) = some false)
    (ek_BadTable_BadPlace : PySem.W.kitOne K (.ref C_BadTable) (.ref C_BadPlace) = some false)
    (ek_BadTable_BadSigns : PySem.W.kitOne K (.ref C_BadTable) (.ref C_BadSigns) = some false)
    (ek_BadTable_BadNumbers : PySem.W.kitOne K (.ref C_BadTable) (.ref C_BadNumbers) = some false)
    (ek_BadTable_NoNumbers : PySem.W.kitOne K (.ref C_BadTable) (.ref C_NoNumbers) = some false)
    (ek_BadTable_TooGreat : PySem.W.kitOne K (.ref C_BadTable) (.ref C_TooGreat) = some false)
    (ek_BadTable_ValueError : PySem.W.kitOne K (.ref C_BadTable) (.type "ValueError") = some true)
    (ek_BadParts_BadTable : PySem.W.kitOne K (.ref C_BadParts) (.ref C_BadTable) = some false)
    (ek_BadParts_BadParts : PySem.W.kitOne K (.ref C_BadParts) (.ref C_BadParts) = some true)
    (ek_BadParts_BadPlace : PySem.W.kitOne K (.ref C_BadParts) (.ref C_BadPlace) = some false)
    (ek_BadParts_BadSigns : PySem.W.kitOne K (.ref C_BadParts) (.ref C_BadSigns) = some false)
    (ek_BadParts_BadNumbers : PySem.W.kitOne K (.ref C_BadParts) (.ref C_BadNumbers) = some false)
    (ek_BadParts_NoNumbers : PySem.W.kitOne K (.ref C_BadParts) (.ref C_NoNumbers) = some false)
    (ek_BadParts_TooGreat : PySem.W.kitOne K (.ref C_BadParts) (.ref C_TooGreat) = some false)
    (ek_BadParts_ValueError : PySem.W.kitOne K (.ref C_BadParts) (.type "ValueError") = some true)
    (ek_BadPlace_BadTable : PySem.W.kitOne K (.ref C_BadPlace) (.ref C_BadTable) = some false)
    (ek_BadPlace_BadParts : PySem.W.kitOne K (.ref C_BadPlace) (.ref C_BadParts) = some false)
    (ek_BadPlace_BadPlace : PySem.W.kitOne K (.ref C_BadPlace) (.ref C_BadPlace) = some true)
    (ek_BadPlace_BadSigns : PySem.W.kitOne K (.ref C_BadPlace) (.ref C_BadSigns) = some false)
    (ek_BadPlace_BadNumbers : PySem.W.kitOne K (.ref C_BadPlace) (.ref C_BadNumbers) = some false)
    (ek_BadPlace_NoNumbers : PySem.W.kitOne K (.ref C_BadPlace) (.ref C_NoNumbers) = some false)
    (ek_BadPlace_TooGreat : PySem.W.kitOne K (.ref C_BadPlace) (.ref C_TooGreat) = some false)
    (ek_BadPlace_ValueError : PySem.W.kitOne K (.ref C_BadPlace) (.type "ValueError") = some true)
    (ek_BadSigns_BadTable : PySem.W.kitOne K (.ref C_BadSigns) (.ref C_BadTable) = some false)
    (ek_BadSigns_BadParts : PySem.W.kitOne K (.ref C_BadSigns) (.ref C_BadParts) = some false)
    (ek_BadSigns_BadPlace : PySem.W.kitOne K (.ref C_BadSigns) (.ref C_BadPlace) = some false)
    (ek_BadSigns_BadSigns : PySem.W.kitOne K (.ref C_BadSigns) (.ref C_BadSigns) = some true)
    (ek_BadSigns_BadNumbers : PySem.W.kitOne K (.ref C_BadSigns) (.ref C_BadNumbers) = some false)
    (ek_BadSigns_NoNumbers : PySem.W.kitOne K (.ref C_BadSigns) (.ref C_NoNumbers) = some false)
    (ek_BadSigns_TooGreat : PySem.W.kitOne K (.ref C_BadSigns) (.ref C_TooGreat) = some false)
    (ek_BadSigns_ValueError : PySem.W.kitOne K (.ref C_BadSigns) (.type "ValueError") = some true)
    (ek_BadNumbers_BadTable : PySem.W.kitOne K (.ref C_BadNumbers) (.ref C_BadTable) = some false)
    (ek_BadNumbers_BadParts : PySem.W.kitOne K (.ref C_BadNumbers) (.ref C_BadParts) = some false)
    (ek_BadNumbers_BadPlace : PySem.W.kitOne K (.ref C_BadNumbers) (.ref C_BadPlace) = some false)
    (ek_BadNumbers_BadSigns : PySem.W.kitOne K (.ref C_BadNumbers) (.ref C_BadSigns) = some false)
    (ek_BadNumbers_BadNumbers : PySem.W.kitOne K (.ref C_BadNumbers) (.ref C_BadNumbers) = some true)
    (ek_BadNumbers_NoNumbers : PySem.W.kitOne K (.ref C_BadNumbers) (.ref C_NoNumbers) = some false)
    (ek_BadNumbers_TooGreat : PySem.W.kitOne K (.ref C_BadNumbers) (.ref C_TooGreat) = some false)
    (ek_BadNumbers_ValueError : PySem.W.kitOne K (.ref C_BadNumbers) (.type "ValueError") = some true)
    (ms_BadTable_SignError : PySem.W.subIn K (.ref C_BadTable) (.ref C_SignError) = some true)
    (mb_BadTable_SignError : PySem.W.subIn K (.ref C_SignError) (.type "BaseException") = some true)
    (mh_BadTable_SignError : PySem.W.hasDictIn K C_SignError = true)
    (mt_BadTable_SignError : PySem.W.typeIn K (.ref C_SignError) = some (.type "type"))
    (ms_BadParts_SignError : PySem.W.subIn K (.ref C_BadParts) (.ref C_SignError) = some true)
    (mb_BadParts_SignError : PySem.W.subIn K (.ref C_SignError) (.type "BaseException") = some true)
    (mh_BadParts_SignError : PySem.W.hasDictIn K C_SignError = true)
    (mt_BadParts_SignError : PySem.W.typeIn K (.ref C_SignError) = some (.type "type"))
    (ms_BadPlace_SignError : PySem.W.subIn K (.ref C_BadPlace) (.ref C_SignError) = some true)
    (mb_BadPlace_SignError : PySem.W.subIn K (.ref C_SignError) (.type "BaseException") = some true)
    (mh_BadPlace_SignError : PySem.W.hasDictIn K C_SignError = true)
    (mt_BadPlace_SignError : PySem.W.typeIn K (.ref C_SignError) = some (.type "type"))
    (ms_BadSigns_SignError : PySem.W.subIn K (.ref C_BadSigns) (.ref C_SignError) = some true)
    (mb_BadSigns_SignError : PySem.W.subIn K (.ref C_SignError) (.type "BaseException") = some true)
    (mh_BadSigns_SignError : PySem.W.hasDictIn K C_SignError = true)
    (mt_BadSigns_SignError : PySem.W.typeIn K (.ref C_SignError) = some (.type "type"))
    (ms_BadNumbers_SignError : PySem.W.subIn K (.ref C_BadNumbers) (.ref C_SignError) = some true)
    (mb_BadNumbers_SignError : PySem.W.subIn K (.ref C_SignError) (.type "BaseException") = some true)
    (mh_BadNumbers_SignError : PySem.W.hasDictIn K C_SignError = true)
    (mt_BadNumbers_SignError : PySem.W.typeIn K (.ref C_SignError) = some (.type "type")) :
    ∃ fd : FuncData, (∀ (s : Shared) (v : Value), BindsTo s fd ⟨[v], []⟩ [("_law_script", v)]) ∧ ∀ base : Heap, K.In base → base.Ns mainGlobals mg → FnOk l.prog w K mg base CX0 9 fa fd ["_law_script"] (sp_law K) := by
  have e := hfa.symm.trans (PySem.W.mg_of X G a28)
  cases e
  have F0 := fun_mk (st := s_is_number) l0 c0 k0
  have b0 := F0.binds (ps := ["thing"]) fun _ _ _ _ _ _ us hl => match us, hl with | [_], _ => rfl
  have F1 := fun_mk (st := s_is_row) l1 c1 k1
  have b1 := F1.binds (ps := ["thing", "size"]) fun _ _ _ _ _ _ us hl => match us, hl with | [_, _], _ => rfl
  have F2 := fun_mk (st := s_asked_table) l2 c2 k2
  have b2 := F2.binds (ps := ["table"]) fun _ _ _ _ _ _ us hl => match us, hl with | [_], _ => rfl
  have F3 := fun_mk (st := s_alike) l3 c3 k3
  have b3 := F3.binds (ps := ["one", "other"]) fun _ _ _ _ _ _ us hl => match us, hl with | [_, _], _ => rfl
  have F4 := fun_mk (st := s_first_unlike) l4 c4 k4
  have b4 := F4.binds (ps := ["table"]) fun _ _ _ _ _ _ us hl => match us, hl with | [_], _ => rfl
  have F5 := fun_mk (st := s_asked_half) l5 c5 k5
  have b5 := F5.binds (ps := ["table"]) fun _ _ _ _ _ _ us hl => match us, hl with | [_], _ => rfl
  have F6 := fun_mk (st := s_exchanged_of) l6 c6 k6
  have b6 := F6.binds (ps := ["table"]) fun _ _ _ _ _ _ us hl => match us, hl with | [_], _ => rfl
  have F7 := fun_mk (st := s_exchanged) l7 c7 k7
  have b7 := F7.binds (ps := ["table"]) fun _ _ _ _ _ _ us hl => match us, hl with | [_], _ => rfl
  have F8 := fun_mk (st := s_turned) l8 c8 k8
  have b8 := F8.binds (ps := ["table", "row"]) fun _ _ _ _ _ _ us hl => match us, hl with | [_, _], _ => rfl
  have F9 := fun_mk (st := s_evened) l9 c9 k9
  have b9 := F9.binds (ps := ["table"]) fun _ _ _ _ _ _ us hl => match us, hl with | [_], _ => rfl
  have F10 := fun_mk (st := s_product) l10 c10 k10
  have b10 := F10.binds (ps := ["one", "other"]) fun _ _ _ _ _ _ us hl => match us, hl with | [_, _], _ => rfl
  have F11 := fun_mk (st := s_is_prime) l11 c11 k11
  have b11 := F11.binds (ps := ["number"]) fun _ _ _ _ _ _ us hl => match us, hl with | [_], _ => rfl
  have F12 := fun_mk (st := s_is_part) l12 c12 k12
  have b12 := F12.binds (ps := ["thing"]) fun _ _ _ _ _ _ us hl => match us, hl with | [_], _ => rfl
  have F13 := fun_mk (st := s_asked_parts) l13 c13 k13
  have b13 := F13.binds (ps := ["parts"]) fun _ _ _ _ _ _ us hl => match us, hl with | [_], _ => rfl
  have F14 := fun_mk (st := s_multiplied) l14 c14 k14
  have b14 := F14.binds (ps := ["parts"]) fun _ _ _ _ _ _ us hl => match us, hl with | [_], _ => rfl
  have F15 := fun_mk (st := s_order) l15 c15 k15
  have b15 := F15.binds (ps := ["parts"]) fun _ _ _ _ _ _ us hl => match us, hl with | [_], _ => rfl
  have F16 := fun_mk (st := s_sign_at) l16 c16 k16
  have b16 := F16.binds (ps := ["parts", "row", "column"]) fun _ _ _ _ _ _ us hl => match us, hl with | [_, _, _], _ => rfl
  have F17 := fun_mk (st := s_made) l17 c17 k17
  have b17 := F17.binds (ps := ["parts"]) fun _ _ _ _ _ _ us hl => match us, hl with | [_], _ => rfl
  have F18 := fun_mk (st := s_told) l18 c18 k18
  have b18 := F18.binds (ps := ["table"]) fun _ _ _ _ _ _ us hl => match us, hl with | [_], _ => rfl
  have F19 := fun_mk (st := s_asked_numbers) l19 c19 k19
  have b19 := F19.binds (ps := ["table", "numbers"]) fun _ _ _ _ _ _ us hl => match us, hl with | [_, _], _ => rfl
  have F20 := fun_mk (st := s_worths) l20 c20 k20
  have b20 := F20.binds (ps := ["table", "numbers"]) fun _ _ _ _ _ _ us hl => match us, hl with | [_, _], _ => rfl
  have F21 := fun_mk (st := s_numbers_of) l21 c21 k21
  have b21 := F21.binds (ps := ["table", "told_worths"]) fun _ _ _ _ _ _ us hl => match us, hl with | [_, _], _ => rfl
  have F22 := fun_mk (st := s_read) l22 c22 k22
  have b22 := F22.binds (ps := ["table", "signs"]) fun _ _ _ _ _ _ us hl => match us, hl with | [_, _], _ => rfl
  have F23 := fun_mk (st := s_L_with_half) l23 c23 k23
  have b23 := F23.binds (ps := ["_law_door", "_law_table"]) fun _ _ _ _ _ _ us hl => match us, hl with | [_, _], _ => rfl
  have F24 := fun_mk (st := s_L_with_table) l24 c24 k24
  have b24 := F24.binds (ps := ["_law_door", "_law_table"]) fun _ _ _ _ _ _ us hl => match us, hl with | [_, _], _ => rfl
  have F25 := fun_mk (st := s_L_bad_table) l25 c25 k25
  have b25 := F25.binds (ps := ["_law_which", "_law_more"]) fun _ _ _ _ _ _ us hl => match us, hl with | [_, _], _ => rfl
  have F26 := fun_mk (st := s_L_others) l26 c26 k26
  have b26 := F26.binds (ps := ["_law_kind", "_law_which", "_law_more"]) fun _ _ _ _ _ _ us hl => match us, hl with | [_, _, _], _ => rfl
  have F27 := fun_mk (st := s_L_told) l27 c27 k27
  have b27 := F27.binds (ps := ["_law_kind", "_law_which", "_law_more"]) fun _ _ _ _ _ _ us hl => match us, hl with | [_, _, _], _ => rfl
  have F28 := fun_mk (st := s_law) l28 c28 k28
  have b28 := F28.binds (ps := ["_law_script"]) fun _ _ _ _ _ _ us hl => match us, hl with | [_], _ => rfl
  let T : Txt K mg := { a_is_number := f0, d_is_number := _, F_is_number := F0, b_is_number := b0, g_is_number := PySem.W.mg_of X G a0, a_is_row := f1, d_is_row := _, F_is_row := F1, b_is_row := b1, g_is_row := PySem.W.mg_of X G a1, a_asked_table := f2, d_asked_table := _, F_asked_table := F2, b_asked_table := b2, g_asked_table := PySem.W.mg_of X G a2, a_alike := f3, d_alike := _, F_alike := F3, b_alike := b3, g_alike := PySem.W.mg_of X G a3, a_first_unlike := f4, d_first_unlike := _, F_first_unlike := F4, b_first_unlike := b4, g_first_unlike := PySem.W.mg_of X G a4, a_asked_half := f5, d_asked_half := _, F_asked_half := F5, b_asked_half := b5, g_asked_half := PySem.W.mg_of X G a5, a_exchanged_of := f6, d_exchanged_of := _, F_exchanged_of := F6, b_exchanged_of := b6, g_exchanged_of := PySem.W.mg_of X G a6, a_exchanged := f7, d_exchanged := _, F_exchanged := F7, b_exchanged := b7, g_exchanged := PySem.W.mg_of X G a7, a_turned := f8, d_turned := _, F_turned := F8, b_turned := b8, g_turned := PySem.W.mg_of X G a8, a_evened := f9, d_evened := _, F_evened := F9, b_evened := b9, g_evened := PySem.W.mg_of X G a9, a_product := f10, d_product := _, F_product := F10, b_product := b10, g_product := PySem.W.mg_of X G a10, a_is_prime := f11, d_is_prime := _, F_is_prime := F11, b_is_prime := b11, g_is_prime := PySem.W.mg_of X G a11, a_is_part := f12, d_is_part := _, F_is_part := F12, b_is_part := b12, g_is_part := PySem.W.mg_of X G a12, a_asked_parts := f13, d_asked_parts := _, F_asked_parts := F13, b_asked_parts := b13, g_asked_parts := PySem.W.mg_of X G a13, a_multiplied := f14, d_multiplied := _, F_multiplied := F14, b_multiplied := b14, g_multiplied := PySem.W.mg_of X G a14, a_order := f15, d_order := _, F_order := F15, b_order := b15, g_order := PySem.W.mg_of X G a15, a_sign_at := f16, d_sign_at := _, F_sign_at := F16, b_sign_at := b16, g_sign_at := PySem.W.mg_of X G a16, a_made := f17, d_made := _, F_made := F17, b_made := b17, g_made := PySem.W.mg_of X G a17, a_told := f18, d_told := _, F_told := F18, b_told := b18, g_told := PySem.W.mg_of X G a18, a_asked_numbers := f19, d_asked_numbers := _, F_asked_numbers := F19, b_asked_numbers := b19, g_asked_numbers := PySem.W.mg_of X G a19, a_worths := f20, d_worths := _, F_worths := F20, b_worths := b20, g_worths := PySem.W.mg_of X G a20, a_numbers_of := f21, d_numbers_of := _, F_numbers_of := F21, b_numbers_of := b21, g_numbers_of := PySem.W.mg_of X G a21, a_read := f22, d_read := _, F_read := F22, b_read := b22, g_read := PySem.W.mg_of X G a22, a_L_with_half := f23, d_L_with_half := _, F_L_with_half := F23, b_L_with_half := b23, g_L_with_half := PySem.W.mg_of X G a23, a_L_with_table := f24, d_L_with_table := _, F_L_with_table := F24, b_L_with_table := b24, g_L_with_table := PySem.W.mg_of X G a24, a_L_bad_table := f25, d_L_bad_table := _, F_L_bad_table := F25, b_L_bad_table := b25, g_L_bad_table := PySem.W.mg_of X G a25, a_L_others := f26, d_L_others := _, F_L_others := F26, b_L_others := b26, g_L_others := PySem.W.mg_of X G a26, a_L_told := f27, d_L_told := _, F_L_told := F27, b_L_told := b27, g_L_told := PySem.W.mg_of X G a27, a_law := fa, d_law := _, F_law := F28, b_law := b28, g_law := PySem.W.mg_of X G a28, m_isinstance := PySem.W.mg_none_of X G z_isinstance, m_int := PySem.W.mg_none_of X G z_int, m_bool := PySem.W.mg_none_of X G z_bool, m_str := PySem.W.mg_none_of X G z_str, m_len := PySem.W.mg_none_of X G z_len, m_all := PySem.W.mg_none_of X G z_all, m_list := PySem.W.mg_none_of X G z_list, m_enumerate := PySem.W.mg_none_of X G z_enumerate, m_range := PySem.W.mg_none_of X G z_range, m_any := PySem.W.mg_none_of X G z_any, m_ValueError := PySem.W.mg_none_of X G z_ValueError, k_MOST := k_MOST, g_MOST := PySem.W.mg_of X G v_MOST, k_GREATEST := k_GREATEST, g_GREATEST := PySem.W.mg_of X G v_GREATEST, C_SignError := C_SignError, g_SignError := PySem.W.mg_of X G g_SignError, C_BadTable := C_BadTable, g_BadTable := PySem.W.mg_of X G g_BadTable, C_BadParts := C_BadParts, g_BadParts := PySem.W.mg_of X G g_BadParts, C_BadPlace := C_BadPlace, g_BadPlace := PySem.W.mg_of X G g_BadPlace, C_BadSigns := C_BadSigns, g_BadSigns := PySem.W.mg_of X G g_BadSigns, C_BadNumbers := C_BadNumbers, g_BadNumbers := PySem.W.mg_of X G g_BadNumbers, C_NoNumbers := C_NoNumbers, g_NoNumbers := PySem.W.mg_of X G g_NoNumbers, C_TooGreat := C_TooGreat, g_TooGreat := PySem.W.mg_of X G g_TooGreat, x_BadTable := x_BadTable, k_BadTable := k_BadTable, eb_BadTable := eb_BadTable, et_BadTable := et_BadTable, ec_BadTable := ⟨eg_BadTable, eq_BadTable, eb_BadTable, eh_BadTable, ea_BadTable, hnn, htk, eo_BadTable⟩, x_BadParts := x_BadParts, k_BadParts := k_BadParts, eb_BadParts := eb_BadParts, et_BadParts := et_BadParts, ec_BadParts := ⟨eg_BadParts, eq_BadParts, eb_BadParts, eh_BadParts, ea_BadParts, hnn, htk, eo_BadParts⟩, x_BadPlace := x_BadPlace, k_BadPlace := k_BadPlace, eb_BadPlace := eb_BadPlace, et_BadPlace := et_BadPlace, ec_BadPlace := ⟨eg_BadPlace, eq_BadPlace, eb_BadPlace, eh_BadPlace, ea_BadPlace, hnn, htk, eo_BadPlace⟩, x_BadSigns := x_BadSigns, k_BadSigns := k_BadSigns, eb_BadSigns := eb_BadSigns, et_BadSigns := et_BadSigns, ec_BadSigns := ⟨eg_BadSigns, eq_BadSigns, eb_BadSigns, eh_BadSigns, ea_BadSigns, hnn, htk, eo_BadSigns⟩, x_BadNumbers := x_BadNumbers, k_BadNumbers := k_BadNumbers, eb_BadNumbers := eb_BadNumbers, et_BadNumbers := et_BadNumbers, ec_BadNumbers := ⟨eg_BadNumbers, eq_BadNumbers, eb_BadNumbers, eh_BadNumbers, ea_BadNumbers, hnn, htk, eo_BadNumbers⟩, ek_BadTable_BadTable := ek_BadTable_BadTable, ek_BadTable_BadParts := ek_BadTable_BadParts, ek_BadTable_BadPlace := ek_BadTable_BadPlace, ek_BadTable_BadSigns := ek_BadTable_BadSigns, ek_BadTable_BadNumbers := ek_BadTable_BadNumbers, ek_BadTable_NoNumbers := ek_BadTable_NoNumbers, ek_BadTable_TooGreat := ek_BadTable_TooGreat, ek_BadTable_ValueError := ek_BadTable_ValueError, ek_BadParts_BadTable := ek_BadParts_BadTable, ek_BadParts_BadParts := ek_BadParts_BadParts, ek_BadParts_BadPlace := ek_BadParts_BadPlace, ek_BadParts_BadSigns := ek_BadParts_BadSigns, ek_BadParts_BadNumbers := ek_BadParts_BadNumbers, ek_BadParts_NoNumbers := ek_BadParts_NoNumbers, ek_BadParts_TooGreat := ek_BadParts_TooGreat, ek_BadParts_ValueError := ek_BadParts_ValueError, ek_BadPlace_BadTable := ek_BadPlace_BadTable, ek_BadPlace_BadParts := ek_BadPlace_BadParts, ek_BadPlace_BadPlace := ek_BadPlace_BadPlace, ek_BadPlace_BadSigns := ek_BadPlace_BadSigns, ek_BadPlace_BadNumbers := ek_BadPlace_BadNumbers, ek_BadPlace_NoNumbers := ek_BadPlace_NoNumbers, ek_BadPlace_TooGreat := ek_BadPlace_TooGreat, ek_BadPlace_ValueError := ek_BadPlace_ValueError, ek_BadSigns_BadTable := ek_BadSigns_BadTable, ek_BadSigns_BadParts := ek_BadSigns_BadParts, ek_BadSigns_BadPlace := ek_BadSigns_BadPlace, ek_BadSigns_BadSigns := ek_BadSigns_BadSigns, ek_BadSigns_BadNumbers := ek_BadSigns_BadNumbers, ek_BadSigns_NoNumbers := ek_BadSigns_NoNumbers, ek_BadSigns_TooGreat := ek_BadSigns_TooGreat, ek_BadSigns_ValueError := ek_BadSigns_ValueError, ek_BadNumbers_BadTable := ek_BadNumbers_BadTable, ek_BadNumbers_BadParts := ek_BadNumbers_BadParts, ek_BadNumbers_BadPlace := ek_BadNumbers_BadPlace, ek_BadNumbers_BadSigns := ek_BadNumbers_BadSigns, ek_BadNumbers_BadNumbers := ek_BadNumbers_BadNumbers, ek_BadNumbers_NoNumbers := ek_BadNumbers_NoNumbers, ek_BadNumbers_TooGreat := ek_BadNumbers_TooGreat, ek_BadNumbers_ValueError := ek_BadNumbers_ValueError, em_BadTable_SignError := PySem.W.exm_ref mb_BadTable_SignError mh_BadTable_SignError mt_BadTable_SignError ms_BadTable_SignError, em_BadParts_SignError := PySem.W.exm_ref mb_BadParts_SignError mh_BadParts_SignError mt_BadParts_SignError ms_BadParts_SignError, em_BadPlace_SignError := PySem.W.exm_ref mb_BadPlace_SignError mh_BadPlace_SignError mt_BadPlace_SignError ms_BadPlace_SignError, em_BadSigns_SignError := PySem.W.exm_ref mb_BadSigns_SignError mh_BadSigns_SignError mt_BadSigns_SignError ms_BadSigns_SignError, em_BadNumbers_SignError := PySem.W.exm_ref mb_BadNumbers_SignError mh_BadNumbers_SignError mt_BadNumbers_SignError ms_BadNumbers_SignError }
  exact ⟨_, fun s v => .of_eq rfl, fun base _ _ => ok_law (P := l.prog) (w := w) (base := base) T⟩
end
end HA

end
open PySem PySem.W PyProof.Rows
set_option maxRecDepth 100000 in
set_option maxHeartbeats 0 in
theorem PySem.Challenge.cw_halfalike_k07_refused_holds : PySem.Challenge.rw_halfalike_k07_refused.Holds := by
  w_on; o_law; k_head; (case hw => w_witness2)
  k_fill
  refine L2.walk_ofB (l := PySem.Challenge.rw_halfalike_k07_refused) (n := 63) (k := 9) (x := "_law_script") (CX := fun _ => L2.CX0) (sp := fun w => HA.sp_law _) rfl (by decide) rfl ⟨rfl, by decide, by decide⟩ (fun w h Y => PySem.W.kIn_of Y) ?F (fun _ _ a ns hl hb _ hS => ⟨a, ns, rfl, hS, hl, hb, fun _ => rfl⟩) (fun _ _ _ _ _ h => h)
  case F =>
    intro w mg fa h KX G hmg
    refine' HA.all_mk KX G hmg ?a0 ?l0 ?c0 ?k0 ?a1 ?l1 ?c1 ?k1 ?a2 ?l2 ?c2 ?k2 ?a3 ?l3 ?c3 ?k3 ?a4 ?l4 ?c4 ?k4 ?a5 ?l5 ?c5 ?k5 ?a6 ?l6 ?c6 ?k6 ?a7 ?l7 ?c7 ?k7 ?a8 ?l8 ?c8 ?k8 ?a9 ?l9 ?c9 ?k9 ?a10 ?l10 ?c10 ?k10 ?a11 ?l11 ?c11 ?k11 ?a12 ?l12 ?c12 ?k12 ?a13 ?l13 ?c13 ?k13 ?a14 ?l14 ?c14 ?k14 ?a15 ?l15 ?c15 ?k15 ?a16 ?l16 ?c16 ?k16 ?a17 ?l17 ?c17 ?k17 ?a18 ?l18 ?c18 ?k18 ?a19 ?l19 ?c19 ?k19 ?a20 ?l20 ?c20 ?k20 ?a21 ?l21 ?c21 ?k21 ?a22 ?l22 ?c22 ?k22 ?a23 ?l23 ?c23 ?k23 ?a24 ?l24 ?c24 ?k24 ?a25 ?l25 ?c25 ?k25 ?a26 ?l26 ?c26 ?k26 ?a27 ?l27 ?c27 ?k27 ?a28 ?l28 ?c28 ?k28 ?z_isinstance ?z_int ?z_bool ?z_str ?z_len ?z_all ?z_list ?z_enumerate ?z_range ?z_any ?z_ValueError ?v_MOST ?v_GREATEST ?hnn ?htk ?g_SignError ?g_BadTable ?g_BadParts ?g_BadPlace ?g_BadSigns ?g_BadNumbers ?g_NoNumbers ?g_TooGreat ?x_BadTable ?k_BadTable ?eb_BadTable ?et_BadTable ?eg_BadTable ?eq_BadTable ?eh_BadTable ?ea_BadTable ?eo_BadTable ?x_BadParts ?k_BadParts ?eb_BadParts ?et_BadParts ?eg_BadParts ?eq_BadParts ?eh_BadParts ?ea_BadParts ?eo_BadParts ?x_BadPlace ?k_BadPlace ?eb_BadPlace ?et_BadPlace ?eg_BadPlace ?eq_BadPlace ?eh_BadPlace ?ea_BadPlace ?eo_BadPlace ?x_BadSigns ?k_BadSigns ?eb_BadSigns ?et_BadSigns ?eg_BadSigns ?eq_BadSigns ?eh_BadSigns ?ea_BadSigns ?eo_BadSigns ?x_BadNumbers ?k_BadNumbers ?eb_BadNumbers ?et_BadNumbers ?eg_BadNumbers ?eq_BadNumbers ?eh_BadNumbers ?ea_BadNumbers ?eo_BadNumbers ?ek_BadTable_BadTable ?ek_BadTable_BadParts ?ek_BadTable_BadPlace ?ek_BadTable_BadSigns ?ek_BadTable_BadNumbers ?ek_BadTable_NoNumbers ?ek_BadTable_TooGreat ?ek_BadTable_ValueError ?ek_BadParts_BadTable ?ek_BadParts_BadParts ?ek_BadParts_BadPlace ?ek_BadParts_BadSigns ?ek_BadParts_BadNumbers ?ek_BadParts_NoNumbers ?ek_BadParts_TooGreat ?ek_BadParts_ValueError ?ek_BadPlace_BadTable ?ek_BadPlace_BadParts ?ek_BadPlace_BadPlace ?ek_BadPlace_BadSigns ?ek_BadPlace_BadNumbers ?ek_BadPlace_NoNumbers ?ek_BadPlace_TooGreat ?ek_BadPlace_ValueError ?ek_BadSigns_BadTable ?ek_BadSigns_BadParts ?ek_BadSigns_BadPlace ?ek_BadSigns_BadSigns ?ek_BadSigns_BadNumbers ?ek_BadSigns_NoNumbers ?ek_BadSigns_TooGreat ?ek_BadSigns_ValueError ?ek_BadNumbers_BadTable ?ek_BadNumbers_BadParts ?ek_BadNumbers_BadPlace ?ek_BadNumbers_BadSigns ?ek_BadNumbers_BadNumbers ?ek_BadNumbers_NoNumbers ?ek_BadNumbers_TooGreat ?ek_BadNumbers_ValueError ?ms_BadTable_SignError ?mb_BadTable_SignError ?mh_BadTable_SignError ?mt_BadTable_SignError ?ms_BadParts_SignError ?mb_BadParts_SignError ?mh_BadParts_SignError ?mt_BadParts_SignError ?ms_BadPlace_SignError ?mb_BadPlace_SignError ?mh_BadPlace_SignError ?mt_BadPlace_SignError ?ms_BadSigns_SignError ?mb_BadSigns_SignError ?mh_BadSigns_SignError ?mt_BadSigns_SignError ?ms_BadNumbers_SignError ?mb_BadNumbers_SignError ?mh_BadNumbers_SignError ?mt_BadNumbers_SignError
    (case a0 => k_is)
    (case l0 => k_is)
    (case c0 => k_is)
    (case k0 => k_is)
    (case a1 => k_is)
    (case l1 => k_is)
    (case c1 => k_is)
    (case k1 => k_is)
    (case a2 => k_is)
    (case l2 => k_is)
    (case c2 => k_is)
    (case k2 => k_is)
    (case a3 => k_is)
    (case l3 => k_is)
    (case c3 => k_is)
    (case k3 => k_is)
    (case a4 => k_is)
    (case l4 => k_is)
    (case c4 => k_is)
    (case k4 => k_is)
    (case a5 => k_is)
    (case l5 => k_is)
    (case c5 => k_is)
    (case k5 => k_is)
    (case a6 => k_is)
    (case l6 => k_is)
    (case c6 => k_is)
    (case k6 => k_is)
    (case a7 => k_is)
    (case l7 => k_is)
    (case c7 => k_is)
    (case k7 => k_is)
    (case a8 => k_is)
    (case l8 => k_is)
    (case c8 => k_is)
    (case k8 => k_is)
    (case a9 => k_is)
    (case l9 => k_is)
    (case c9 => k_is)
    (case k9 => k_is)
    (case a10 => k_is)
    (case l10 => k_is)
    (case c10 => k_is)
    (case k10 => k_is)
    (case a11 => k_is)
    (case l11 => k_is)
    (case c11 => k_is)
    (case k11 => k_is)
    (case a12 => k_is)
    (case l12 => k_is)
    (case c12 => k_is)
    (case k12 => k_is)
    (case a13 => k_is)
    (case l13 => k_is)
    (case c13 => k_is)
    (case k13 => k_is)
    (case a14 => k_is)
    (case l14 => k_is)
    (case c14 => k_is)
    (case k14 => k_is)
    (case a15 => k_is)
    (case l15 => k_is)
    (case c15 => k_is)
    (case k15 => k_is)
    (case a16 => k_is)
    (case l16 => k_is)
    (case c16 => k_is)
    (case k16 => k_is)
    (case a17 => k_is)
    (case l17 => k_is)
    (case c17 => k_is)
    (case k17 => k_is)
    (case a18 => k_is)
    (case l18 => k_is)
    (case c18 => k_is)
    (case k18 => k_is)
    (case a19 => k_is)
    (case l19 => k_is)
    (case c19 => k_is)
    (case k19 => k_is)
    (case a20 => k_is)
    (case l20 => k_is)
    (case c20 => k_is)
    (case k20 => k_is)
    (case a21 => k_is)
    (case l21 => k_is)
    (case c21 => k_is)
    (case k21 => k_is)
    (case a22 => k_is)
    (case l22 => k_is)
    (case c22 => k_is)
    (case k22 => k_is)
    (case a23 => k_is)
    (case l23 => k_is)
    (case c23 => k_is)
    (case k23 => k_is)
    (case a24 => k_is)
    (case l24 => k_is)
    (case c24 => k_is)
    (case k24 => k_is)
    (case a25 => k_is)
    (case l25 => k_is)
    (case c25 => k_is)
    (case k25 => k_is)
    (case a26 => k_is)
    (case l26 => k_is)
    (case c26 => k_is)
    (case k26 => k_is)
    (case a27 => k_is)
    (case l27 => k_is)
    (case c27 => k_is)
    (case k27 => k_is)
    (case a28 => k_is)
    (case l28 => k_is)
    (case c28 => k_is)
    (case k28 => k_is)
    (case z_isinstance => k_is)
    (case z_int => k_is)
    (case z_bool => k_is)
    (case z_str => k_is)
    (case z_len => k_is)
    (case z_all => k_is)
    (case z_list => k_is)
    (case z_enumerate => k_is)
    (case z_range => k_is)
    (case z_any => k_is)
    (case z_ValueError => k_is)
    (case v_MOST => k_is)
    (case v_GREATEST => k_is)
    (case hnn => k_is)
    (case htk => k_is)
    (case g_SignError => k_is)
    (case g_BadTable => k_is)
    (case g_BadParts => k_is)
    (case g_BadPlace => k_is)
    (case g_BadSigns => k_is)
    (case g_BadNumbers => k_is)
    (case g_NoNumbers => k_is)
    (case g_TooGreat => k_is)
    (case x_BadTable => k_exc)
    (case k_BadTable => k_is)
    (case eb_BadTable => k_is)
    (case et_BadTable => k_is)
    (case eg_BadTable => k_is)
    (case eq_BadTable => k_is)
    (case eh_BadTable => k_is)
    (case ea_BadTable => k_is)
    (case eo_BadTable => k_is)
    (case x_BadParts => k_exc)
    (case k_BadParts => k_is)
    (case eb_BadParts => k_is)
    (case et_BadParts => k_is)
    (case eg_BadParts => k_is)
    (case eq_BadParts => k_is)
    (case eh_BadParts => k_is)
    (case ea_BadParts => k_is)
    (case eo_BadParts => k_is)
    (case x_BadPlace => k_exc)
    (case k_BadPlace => k_is)
    (case eb_BadPlace => k_is)
    (case et_BadPlace => k_is)
    (case eg_BadPlace => k_is)
    (case eq_BadPlace => k_is)
    (case eh_BadPlace => k_is)
    (case ea_BadPlace => k_is)
    (case eo_BadPlace => k_is)
    (case x_BadSigns => k_exc)
    (case k_BadSigns => k_is)
    (case eb_BadSigns => k_is)
    (case et_BadSigns => k_is)
    (case eg_BadSigns => k_is)
    (case eq_BadSigns => k_is)
    (case eh_BadSigns => k_is)
    (case ea_BadSigns => k_is)
    (case eo_BadSigns => k_is)
    (case x_BadNumbers => k_exc)
    (case k_BadNumbers => k_is)
    (case eb_BadNumbers => k_is)
    (case et_BadNumbers => k_is)
    (case eg_BadNumbers => k_is)
    (case eq_BadNumbers => k_is)
    (case eh_BadNumbers => k_is)
    (case ea_BadNumbers => k_is)
    (case eo_BadNumbers => k_is)
    (case ek_BadTable_BadTable => kit_is)
    (case ek_BadTable_BadParts => kit_is)
    (case ek_BadTable_BadPlace => kit_is)
    (case ek_BadTable_BadSigns => kit_is)
    (case ek_BadTable_BadNumbers => kit_is)
    (case ek_BadTable_NoNumbers => kit_is)
    (case ek_BadTable_TooGreat => kit_is)
    (case ek_BadTable_ValueError => kit_is)
    (case ek_BadParts_BadTable => kit_is)
    (case ek_BadParts_BadParts => kit_is)
    (case ek_BadParts_BadPlace => kit_is)
    (case ek_BadParts_BadSigns => kit_is)
    (case ek_BadParts_BadNumbers => kit_is)
    (case ek_BadParts_NoNumbers => kit_is)
    (case ek_BadParts_TooGreat => kit_is)
    (case ek_BadParts_ValueError => kit_is)
    (case ek_BadPlace_BadTable => kit_is)
    (case ek_BadPlace_BadParts => kit_is)
    (case ek_BadPlace_BadPlace => kit_is)
    (case ek_BadPlace_BadSigns => kit_is)
    (case ek_BadPlace_BadNumbers => kit_is)
    (case ek_BadPlace_NoNumbers => kit_is)
    (case ek_BadPlace_TooGreat => kit_is)
    (case ek_BadPlace_ValueError => kit_is)
    (case ek_BadSigns_BadTable => kit_is)
    (case ek_BadSigns_BadParts => kit_is)
    (case ek_BadSigns_BadPlace => kit_is)
    (case ek_BadSigns_BadSigns => kit_is)
    (case ek_BadSigns_BadNumbers => kit_is)
    (case ek_BadSigns_NoNumbers => kit_is)
    (case ek_BadSigns_TooGreat => kit_is)
    (case ek_BadSigns_ValueError => kit_is)
    (case ek_BadNumbers_BadTable => kit_is)
    (case ek_BadNumbers_BadParts => kit_is)
    (case ek_BadNumbers_BadPlace => kit_is)
    (case ek_BadNumbers_BadSigns => kit_is)
    (case ek_BadNumbers_BadNumbers => kit_is)
    (case ek_BadNumbers_NoNumbers => kit_is)
    (case ek_BadNumbers_TooGreat => kit_is)
    (case ek_BadNumbers_ValueError => kit_is)
    (case ms_BadTable_SignError => k_is)
    (case mb_BadTable_SignError => k_is)
    (case mh_BadTable_SignError => k_is)
    (case mt_BadTable_SignError => k_is)
    (case ms_BadParts_SignError => k_is)
    (case mb_BadParts_SignError => k_is)
    (case mh_BadParts_SignError => k_is)
    (case mt_BadParts_SignError => k_is)
    (case ms_BadPlace_SignError => k_is)
    (case mb_BadPlace_SignError => k_is)
    (case mh_BadPlace_SignError => k_is)
    (case mt_BadPlace_SignError => k_is)
    (case ms_BadSigns_SignError => k_is)
    (case mb_BadSigns_SignError => k_is)
    (case mh_BadSigns_SignError => k_is)
    (case mt_BadSigns_SignError => k_is)
    (case ms_BadNumbers_SignError => k_is)
    (case mb_BadNumbers_SignError => k_is)
    (case mh_BadNumbers_SignError => k_is)
    (case mt_BadNumbers_SignError => k_is)
