import PyProof.Rows.All
import Wide.All
import OpenK.AllK
import Wide.FinOn
import HandS.ForMost
import HandS.ForExc
import HandS.Evl
import HandS.Wide
import HandS.IsInst
import HandS.StrMore
import HandS.Style
import HandS.Walk
import HandS.Deep
import HandS.EndBits
import HandS.More
import HandS.ExcIs
import HandS.HotCalls
import KE.GoesNew
import KE.GoesEnum
import KE.RegKIsAll
import PySem.Challenge.RW_halfalike_k04_whole_worths
set_option Elab.async false
set_option linter.all false
section
set_option maxRecDepth 100000
set_option maxHeartbeats 4000000
/-! Own rules over the hand layer: enumerate and zip over texts, chains of three comparisons, text * int, great products, an instance without __init__. -/
namespace HA
open PySem PySem.Spec PyProof.Rows L2

/-! ### either of two readings -/
theorem pe_either {X : Cx} {e : Expr} {t u : TE} (h : PE X e t) (k : PE X e u) : PE X e (fun σ H Q => t σ H Q ∨ u σ H Q) :=
  ⟨fun pins s σ H Q I z => z.elim (h.run pins s σ H Q I) (k.run pins s σ H Q I)⟩

/-! ### great products -/
def CMulB (i j : Int) : Prop := i.natAbs.log2 + j.natAbs.log2 < 134217000
theorem CMulB.ok {i j : Int} (h : CMulB i j) : IntMulOk i j := by
  have b : ∀ x : Int, Builtin.Int.intBits x ≤ x.natAbs.log2 + 1 := fun x => by
    unfold Builtin.Int.intBits
    split <;> omega
  have h1 := b i
  have h2 := b j
  have h3 : i.natAbs.log2 + j.natAbs.log2 < 134217000 := h
  have e : bitsLine = 134217728 := by decide
  unfold IntMulOk
  intro z
  rw [Bool.and_eq_true] at z
  have z2 := z.2
  unfold Builtin.Int.intTooBig at z2
  have z3 := of_decide_eq_true z2
  rw [e] at z3
  omega
theorem op_mulB {X : Cx} : OpR X (binaryOp .Mult) (rI CMulB fun i j => .int (i * j)) := opI fun _ _ _ _ _ _ _ hc q => mul_int q hc.ok

/-! ### iterators of new pairs, from WalksT -/
theorem turn_wt {P : Program} {w : World} {K : PySem.W.Frag} {elts : List Expr} {kk : Nat} {tpos : Pos} {J : It} {fp : List Addr} {it : Addr} {tn : Nat → Heap → Prop} (mem : it ∈ fp)
    (obj : ∀ i h, tn i h → ∀ b ∈ fp, ∃ o, h.get? b = some o ∧ ∀ v, o.data ≠ .cell v)
    (keep : ∀ i h h', tn i h → (∀ b ∈ fp, ∀ o, h.get? b = some o → h'.get? b = some o) → tn i h')
    (self : ∀ (A : Around) (i : Nat) (s : Shared) (Q : Value → Shared → Prop) (E : Value → Shared → Prop), tn i s.heap → Q (.ref it) s → wpAny (model P w) A (pyIter (.ref it)) Q E s)
    (go : ∀ (X : Cx), X.prog = P → X.w = w → X.K = K → X.calm = true → ∀ (i : Nat) (pins : List (Addr × Obj)) (s : Shared) (σ : L2.St) (H : Hp), Inv X pins σ H s → tn i s.heap → J.go i H →
      ∃ (fpW wr : List Addr) (n : Nat) (Pt : Nat → Array Value → Prop) (St : Nat → Heap → Prop) (Mid : Nat → Addr → Heap → Prop), WalksT P w X.A it fpW wr n Pt St Mid ∧ (∀ b ∈ wr, b ∈ fp) ∧ i < n ∧ St i s.heap ∧ (∀ h, St (i + 1) h → tn (i + 1) h) ∧
        ∀ vals, Pt i vals → ∃ u1 u2 x1 x2, vals = #[u1, u2] ∧ RelV x1 u1 ∧ RelV x2 u2 ∧ ∀ T, H T = none → J.yld i H (.ref T) (upd H T (.tup [x1, x2])))
    (stop : ∀ (X : Cx), X.prog = P → X.w = w → X.K = K → X.calm = true → ∀ (i : Nat) (pins : List (Addr × Obj)) (s : Shared) (σ : L2.St) (H : Hp), Inv X pins σ H s → tn i s.heap → J.stop i H →
      ∃ (fpW wr : List Addr) (Pt : Nat → Array Value → Prop) (St : Nat → Heap → Prop) (Mid : Nat → Addr → Heap → Prop), WalksT P w X.A it fpW wr i Pt St Mid ∧ (∀ b ∈ wr, b ∈ fp) ∧ St i s.heap) :
    Turn P w K (.Tuple elts kk tpos) J fp it tn where
  mem := mem
  obj := obj
  keep := keep
  item := by
    intro X hP hw hK hc i pins s σ H E I hf st hg
    obtain ⟨fpW, wr, n, Pt, St, Mid, W, sub, hi, hst, nx, hP2⟩ := go X hP hw hK hc i pins s σ H I st hg
    have lt : ∀ b ∈ fp, b < s.heap.objs.size := fun b hb => by
      obtain ⟨o, e, _⟩ := obj i _ st b hb
      exact Heap.lt_size e
    refine W.item i s _ _ hi hst fun T vals h' tk hPt hT hTup hMid hk => ?_
    refine ⟨.ref T, rfl, W.go elts kk tpos i T { s with heap := h', toks := tk } _ _ hMid fun h2 hst2 hk2 => ?_⟩
    obtain ⟨u1, u2, x1, x2, ev, r1, r2, hy⟩ := hP2 vals hPt
    subst ev
    have hTup2 : h2.IsTuple T #[u1, u2] := hTup.at fun o e => hk2 T o (W.apart i T h' hMid) e
    have new : ObjOk X.prog X.w (upd H T (.tup [x1, x2])) h2 T (.tup [x1, x2]) :=
      ⟨by show 2 ≤ sizeLine; decide, [u1, u2], .cons r1 (.cons r2 .nil), hTup2⟩
    have I1 : Inv X pins σ (upd H T (.tup [x1, x2])) { s with heap := h2, toks := tk } :=
      I.turnedNew (ch := fp) (fun b o hb q => hk2 b o (fun z => hb (sub b z)) (hk b o (fun z => hb (sub b z)) q)) hf hT new
    refine ⟨.ref T, _, I1, rfl, hy T (I.hok.fresh hT), nx _ hst2, fun b hb => ?_⟩
    rw [upd_ne (Nat.ne_of_lt (Nat.lt_of_lt_of_le (lt b hb) hT))]
    exact (hf b hb).1
  done := by
    intro X hP hw hK hc i pins s σ H E I hf st hg
    obtain ⟨fpW, wr, Pt, St, Mid, W, sub, hst⟩ := stop X hP hw hK hc i pins s σ H I st hg
    exact W.done s _ _ hst fun h' tk hk => ⟨rfl, I.turnedL (ch := fp) (fun b o hb q => hk b o (fun z => hb (sub b z)) q) hf⟩
  self := self

/-! ### enumerate(text) -/
def ItES (x : Str) : It := ⟨fun i _ => i < x.cps.size, fun i H v H' => ∃ T c, v = .ref T ∧ H T = none ∧ H' = upd H T (.tup [.int (i : Nat), .str ⟨#[c]⟩]) ∧ x.cps[i]? = some c, fun i _ => i = x.cps.size⟩
theorem turn_enumS {P : Program} {w : World} {K : PySem.W.Frag} {elts : List Expr} {kk : Nat} {tpos : Pos} (e it : Addr) (hei : e ≠ it) (x : Str) (t : Tok) :
    Turn P w K (.Tuple elts kk tpos) (ItES x) [e, it] e (fun i h => (∃ old, IsEnum h e it (0 + (i : Int)) old) ∧ h.IsStrIter it (strIterType x) x t i) := by
  have hef : e ∉ [it] := by simpa using hei
  refine turn_wt (by simp) (fun i h st b hb => ?_) (fun i h h' st k => ?_) (fun A i s Q E st h => ?_) (fun X hP hw hK hc i pins s σ H I st hg => ?_) (fun X hP hw hK hc i pins s σ H I st hg => ?_)
  · obtain ⟨⟨old, he⟩, ⟨o, ho, hc, hd⟩⟩ := st
    have e' : b = e ∨ b = it := by simpa using hb
    rcases e' with z | z
    · rw [z]; exact ⟨_, he, fun v q => nomatch q⟩
    · rw [z]; exact ⟨o, ho, fun v q => by rw [hd] at q; cases q⟩
  · obtain ⟨⟨old, he⟩, ⟨o, ho, r⟩⟩ := st
    exact ⟨⟨old, k e (by simp) _ he⟩, ⟨o, k it (by simp) o ho, r⟩⟩
  · obtain ⟨⟨_, he⟩, _⟩ := st
    exact wpAny_pyIter_enum he h
  · subst hP hw
    refine ⟨_, _, _, _, _, _, WalksT.enumFrom 0 (Draws.text (A := X.A.in1) (I.ok.hd hc) it x t) e hei hef (by simp), fun b hb => hb, hg, st, fun h q => q, fun vals hp => ?_⟩
    obtain ⟨t', xv, ⟨c, u, hcx, hxv⟩, hv⟩ := hp
    subst hxv
    refine ⟨_, _, .int (i : Nat), .str ⟨#[c]⟩, hv, ⟨t', ?_⟩, ⟨u, rfl⟩, fun T hT => ⟨T, c, rfl, hT, rfl, hcx⟩⟩
    rw [Int.zero_add]
  · subst hP hw
    have hg' : i = x.cps.size := hg
    subst hg'
    exact ⟨_, _, _, _, _, WalksT.enumFrom 0 (Draws.text (A := X.A.in1) (I.ok.hd hc) it x t) e hei hef (by simp), fun b hb => hb, st⟩
def iEnumS (ta : TA) : TI := fun σ H R => ta σ H fun vs H1 => ∃ x, vs = [.str x] ∧ R (ItES x) H1
theorem pi_enumS {X : Cx} {e : Expr} {ta : TA} {p pos tpos : Pos} {elts : List Expr} {kk : Nat} (hg : Gl X "enumerate") (hm : X.mg "enumerate" = none) (ha : PA X [e] ta) (hs : starEach [e] X.env = [(false, eval e X.env)] := by rfl) :
    PI X (.Tuple elts kk tpos) (.Call (.Name "enumerate" p) [e] [] pos) (iEnumS ta) := by
  refine ⟨fun pins s σ H R I h => ?_⟩
  refine Call_ (ld_blt I hg hm boot_enumerate (PyProof.Rows.callWith_type1 (thn (ha.run pos pins s σ H _ I h) fun us s1 ⟨vs, H1, I1, r1, q1⟩ => ?_) hs rfl))
  obtain ⟨x, ex, q⟩ := q1
  subst ex
  cases r1 with
  | cons r rr =>
    cases rr
    obtain ⟨t, rfl⟩ := r
    refine call_enumerate_str fun h' he hit hsz hk => wpAny_pyIter_enum he ?_
    have I2 : Inv X pins σ H1 { s1 with heap := h' } := I1.kept (t' := s1.toks) hk
    refine ⟨s1.heap.objs.size + 1, [s1.heap.objs.size + 1, s1.heap.objs.size], _, _, H1, rfl, I2, turn_enumS _ _ (Nat.ne_of_gt (Nat.lt_succ_self _)) x t, ⟨⟨_, he⟩, hit⟩, fun c hcm => ?_, q⟩
    have e' : c = s1.heap.objs.size + 1 ∨ c = s1.heap.objs.size := by simpa using hcm
    have hle : s1.heap.objs.size ≤ c := by
      rcases e' with z | z
      · rw [z]; exact Nat.le_succ _
      · rw [z]; exact Nat.le_refl _
    exact I1.fpOk hle (I1.hok.fresh hle)
theorem walk_enumS {x : Str} : Walk (ItES x) x.cps.size (fun _ => True) (YPair (fun i => some (.int (i : Nat))) (fun i => (x.cps[i]?).map fun c => V.str ⟨#[c]⟩)) := by
  refine ⟨fun i _ hi _ => hi, fun _ _ => rfl, fun i H v H' _ _ y => ?_⟩
  obtain ⟨T, c, h1, h2, h3, h4⟩ := y
  exact ⟨T, _, _, h1, h2, h3, rfl, by simp [h4]⟩

/-! ### zip(text, text), zip(text, list) -/
def ItzSS (x y : Str) : It := ⟨fun i _ => i < min x.cps.size y.cps.size, fun i H v H' => ∃ T c d, v = .ref T ∧ H T = none ∧ H' = upd H T (.tup [.str ⟨#[c]⟩, .str ⟨#[d]⟩]) ∧ x.cps[i]? = some c ∧ y.cps[i]? = some d, fun i _ => i = min x.cps.size y.cps.size⟩
def ItzSL (K : PySem.W.Frag) (x : Str) (a : Addr) : It := ⟨fun i H => ∃ ys, SqL K H a ys ∧ i < min x.cps.size ys.length, fun i H v H' => ∃ T c d, v = .ref T ∧ H T = none ∧ H' = upd H T (.tup [.str ⟨#[c]⟩, d]) ∧ x.cps[i]? = some c ∧ ∀ ys, SqL K H a ys → ys[i]? = some d, fun i H => ∃ ys, SqL K H a ys ∧ i = min x.cps.size ys.length⟩
structure ZApart (z TI TO i1 i2 : Addr) : Prop where
  TIz : TI ≠ z
  TOz : TO ≠ z
  TITO : TI ≠ TO
  TIi1 : TI ≠ i1
  TIi2 : TI ≠ i2
  zi1 : z ≠ i1
  zi2 : z ≠ i2
  Ti1 : TO ≠ i1
  Ti2 : TO ≠ i2
  i12 : i1 ≠ i2
theorem zapart_new (n : Nat) : ZApart (n + 4) (n + 2) (n + 3) n (n + 1) :=
  ⟨show (n + 2 : Nat) ≠ n + 4 by omega, show (n + 3 : Nat) ≠ n + 4 by omega, show (n + 2 : Nat) ≠ n + 3 by omega, show (n + 2 : Nat) ≠ n by omega, show (n + 2 : Nat) ≠ n + 1 by omega,
    show (n + 4 : Nat) ≠ n by omega, show (n + 4 : Nat) ≠ n + 1 by omega, show (n + 3 : Nat) ≠ n by omega, show (n + 3 : Nat) ≠ n + 1 by omega, show (n : Nat) ≠ n + 1 by omega⟩
theorem ZApart.sep {z TI TO i1 i2 : Addr} (D : ZApart z TI TO i1 i2) : ZipSep2 z TI TO i1 i2 [i1] [i2] where
  TIz := D.TIz
  TOz := D.TOz
  TITO := D.TITO
  TIi1 := D.TIi1
  mem1 := by simp
  zf1 := by simpa using D.zi1
  Tf1 := by simpa using D.Ti1
  TIi2 := D.TIi2
  mem2 := by simp
  zf2 := by simpa using D.zi2
  Tf2 := by simpa using D.Ti2
  sep1_2 := by simpa using D.i12
  sep2_1 := by simpa using Ne.symm D.i12
theorem ZApart.sepL {z TI TO i1 i2 l : Addr} (D : ZApart z TI TO i1 i2) (h1 : z ≠ l) (h2 : TO ≠ l) (h3 : i1 ≠ l) : ZipSep2 z TI TO i1 i2 [i1] [i2, l] where
  TIz := D.TIz
  TOz := D.TOz
  TITO := D.TITO
  TIi1 := D.TIi1
  mem1 := by simp
  zf1 := by simpa using D.zi1
  Tf1 := by simpa using D.Ti1
  TIi2 := D.TIi2
  mem2 := by simp
  zf2 := by simp [D.zi2, h1]
  Tf2 := by simp [D.Ti2, h2]
  sep1_2 := by simp [D.i12, h3]
  sep2_1 := by simpa using Ne.symm D.i12
theorem in5 {z TI TO i1 i2 b : Addr} (h : b ∈ [z, TO, i1, i2]) : b ∈ [z, TI, TO, i1, i2] := by
  simp only [List.mem_cons, List.not_mem_nil, or_false] at h ⊢
  rcases h with h | h | h | h
  · exact .inl h
  · exact .inr (.inr (.inl h))
  · exact .inr (.inr (.inr (.inl h)))
  · exact .inr (.inr (.inr (.inr h)))
theorem turn_zipSS {P : Program} {w : World} {K : PySem.W.Frag} {elts : List Expr} {kk : Nat} {tpos : Pos} {z TI TO i1 i2 : Addr} (D : ZApart z TI TO i1 i2) (x y : Str) (t u : Tok) :
    Turn P w K (.Tuple elts kk tpos) (ItzSS x y) [z, TI, TO, i1, i2] z (fun i h => IsZip h z TI TO .none ∧ IsTupOf2 h TI (.ref i1) (.ref i2) ∧ (∃ a1 a2, IsTupOf2 h TO a1 a2) ∧ h.IsStrIter i1 (strIterType x) x t i ∧ h.IsStrIter i2 (strIterType y) y u i) := by
  refine turn_wt (by simp) (fun i h st c hc => ?_) (fun i h h' st k => ?_) (fun A i s Q E st h => ?_) (fun X hP hw hK hc i pins s σ H I st hg => ?_) (fun X hP hw hK hc i pins s σ H I st hg => ?_)
  · obtain ⟨hz, hTI, ⟨a1, a2, hTO⟩, ⟨o1, e1, _, d1⟩, ⟨o2, e2, _, d2⟩⟩ := st
    have e' : c = z ∨ c = TI ∨ c = TO ∨ c = i1 ∨ c = i2 := by simpa using hc
    rcases e' with q | q | q | q | q
    · rw [q]; exact ⟨_, hz, fun v q => nomatch q⟩
    · rw [q]; exact ⟨_, hTI, fun v q => nomatch q⟩
    · rw [q]; exact ⟨_, hTO, fun v q => nomatch q⟩
    · rw [q]; exact ⟨o1, e1, fun v q => by rw [d1] at q; cases q⟩
    · rw [q]; exact ⟨o2, e2, fun v q => by rw [d2] at q; cases q⟩
  · obtain ⟨hz, hTI, ⟨a1, a2, hTO⟩, ⟨o1, e1, r1⟩, ⟨o2, e2, r2⟩⟩ := st
    exact ⟨k z (by simp) _ hz, k TI (by simp) _ hTI, ⟨a1, a2, k TO (by simp) _ hTO⟩, ⟨o1, k i1 (by simp) _ e1, r1⟩, ⟨o2, k i2 (by simp) _ e2, r2⟩⟩
  · exact wpAny_pyIter_zip st.1 h
  · subst hP hw
    refine ⟨_, _, _, _, _, _, WalksT.zipD2 D.sep (Draws.text (A := X.A.in1) (I.ok.hd hc) i1 x t) (Draws.text (A := X.A.in1) (I.ok.hd hc) i2 y u), fun b hb => in5 hb, hg, st, fun h q => q, fun vals hp => ?_⟩
    obtain ⟨x1, x2, ⟨c, tc, hc1, rfl⟩, ⟨d, td, hd1, rfl⟩, hv⟩ := hp
    exact ⟨_, _, .str ⟨#[c]⟩, .str ⟨#[d]⟩, hv, ⟨tc, rfl⟩, ⟨td, rfl⟩, fun T hT => ⟨T, c, d, rfl, hT, rfl, hc1, hd1⟩⟩
  · subst hP hw
    have hg' : i = min x.cps.size y.cps.size := hg
    rw [hg'] at st ⊢
    exact ⟨_, _, _, _, _, WalksT.zipD2 D.sep (Draws.text (A := X.A.in1) (I.ok.hd hc) i1 x t) (Draws.text (A := X.A.in1) (I.ok.hd hc) i2 y u), fun b hb => in5 hb, st⟩
theorem turn_zipSL {P : Program} {w : World} {K : PySem.W.Frag} {elts : List Expr} {kk : Nat} {tpos : Pos} {z TI TO i1 i2 l : Addr} (D : ZApart z TI TO i1 i2) (h1 : z ≠ l) (h2 : TO ≠ l) (h3 : i1 ≠ l) (h4 : i2 ≠ l) (x : Str) (t : Tok) :
    Turn P w K (.Tuple elts kk tpos) (ItzSL K x l) [z, TI, TO, i1, i2] z (fun i h => IsZip h z TI TO .none ∧ IsTupOf2 h TI (.ref i1) (.ref i2) ∧ (∃ a1 a2, IsTupOf2 h TO a1 a2) ∧ h.IsStrIter i1 (strIterType x) x t i ∧ h.IsListIter i2 l i) := by
  refine turn_wt (by simp) (fun i h st c hc => ?_) (fun i h h' st k => ?_) (fun A i s Q E st h => ?_) (fun X hP hw hK hc i pins s σ H I st hg => ?_) (fun X hP hw hK hc i pins s σ H I st hg => ?_)
  · obtain ⟨hz, hTI, ⟨a1, a2, hTO⟩, ⟨o1, e1, _, d1⟩, ⟨o2, e2, _, d2⟩⟩ := st
    have e' : c = z ∨ c = TI ∨ c = TO ∨ c = i1 ∨ c = i2 := by simpa using hc
    rcases e' with q | q | q | q | q
    · rw [q]; exact ⟨_, hz, fun v q => nomatch q⟩
    · rw [q]; exact ⟨_, hTI, fun v q => nomatch q⟩
    · rw [q]; exact ⟨_, hTO, fun v q => nomatch q⟩
    · rw [q]; exact ⟨o1, e1, fun v q => by rw [d1] at q; cases q⟩
    · rw [q]; exact ⟨o2, e2, fun v q => by rw [d2] at q; cases q⟩
  · obtain ⟨hz, hTI, ⟨a1, a2, hTO⟩, ⟨o1, e1, r1⟩, h2⟩ := st
    exact ⟨k z (by simp) _ hz, k TI (by simp) _ hTI, ⟨a1, a2, k TO (by simp) _ hTO⟩, ⟨o1, k i1 (by simp) _ e1, r1⟩, h2.at fun o q => k i2 (by simp) o q⟩
  · exact wpAny_pyIter_zip st.1 h
  · subst hP hw hK
    obtain ⟨ys, hq, hi⟩ := hg
    obtain ⟨its, rv, p, hz⟩ := I.list hq
    have hl := rv.length
    refine ⟨_, _, _, _, _, _, WalksT.zipD2 (D.sepL h1 h2 h3) (Draws.text (A := X.A.in1) (I.ok.hd hc) i1 x t) (Draws.list (A := X.A.in1) (I.ok.hd hc) i2 l (Ne.symm h4) its.toArray), fun b hb => in5 hb, ?_, ⟨st.1, st.2.1, st.2.2.1, st.2.2.2.1, st.2.2.2.2, p.isList⟩,
      fun h q => ⟨q.1, q.2.1, q.2.2.1, q.2.2.2.1, q.2.2.2.2.1⟩, fun vals hp => ?_⟩
    · have e5 : its.toArray.size = ys.length := by simpa using hl.symm
      rw [e5]
      exact hi
    · obtain ⟨x1, x2, ⟨c, tc, hc1, rfl⟩, hx2, hv⟩ := hp
      have hi2 : i < ys.length := Nat.lt_of_lt_of_le hi (Nat.min_le_right _ _)
      obtain ⟨u2, hu2, ru2⟩ := rv.get (List.getElem?_eq_getElem hi2)
      have e2 : u2 = x2 := by
        have q : its.toArray[i]? = some x2 := hx2
        rw [List.getElem?_toArray, hu2] at q
        exact Option.some.inj q
      subst e2
      refine ⟨_, _, .str ⟨#[c]⟩, ys[i], hv, ⟨tc, rfl⟩, ru2, fun T hT => ⟨T, c, ys[i], rfl, hT, rfl, hc1, fun zs hzs => ?_⟩⟩
      rw [I.list_inj hzs hq]
      exact List.getElem?_eq_getElem hi2
  · subst hP hw hK
    obtain ⟨ys, hq, hi⟩ := hg
    obtain ⟨its, rv, p, hz⟩ := I.list hq
    have hl := rv.length
    have e5 : its.toArray.size = ys.length := by simpa using hl.symm
    have hg' : i = min x.cps.size its.toArray.size := by rw [e5]; exact hi
    rw [hg'] at st ⊢
    exact ⟨_, _, _, _, _, WalksT.zipD2 (D.sepL h1 h2 h3) (Draws.text (A := X.A.in1) (I.ok.hd hc) i1 x t) (Draws.list (A := X.A.in1) (I.ok.hd hc) i2 l (Ne.symm h4) its.toArray), fun b hb => in5 hb, ⟨st.1, st.2.1, st.2.2.1, st.2.2.2.1, st.2.2.2.2, p.isList⟩⟩
def iZipSS (ta : TA) : TI := fun σ H R => ta σ H fun vs H1 => ∃ x y, vs = [.str x, .str y] ∧ R (ItzSS x y) H1
def iZipSL (K : PySem.W.Frag) (ta : TA) : TI := fun σ H R => ta σ H fun vs H1 => ∃ x a ys, vs = [.str x, .ref a] ∧ SqL K H1 a ys ∧ R (ItzSL K x a) H1
theorem new5 {X : Cx} {pins : List (Addr × Obj)} {σ : L2.St} {H : Hp} {s : Shared} (I : Inv X pins σ H s) : ∀ c ∈ [s.heap.objs.size + 4, s.heap.objs.size + 2, s.heap.objs.size + 3, s.heap.objs.size, s.heap.objs.size + 1], FpOk X pins H c := fun c hcm => by
  have e' : c = s.heap.objs.size + 4 ∨ c = s.heap.objs.size + 2 ∨ c = s.heap.objs.size + 3 ∨ c = s.heap.objs.size ∨ c = s.heap.objs.size + 1 := by simpa using hcm
  have hle : s.heap.objs.size ≤ c := by
    rcases e' with z | z | z | z | z
    · rw [z]; exact Nat.le_add_right _ _
    · rw [z]; exact Nat.le_add_right _ _
    · rw [z]; exact Nat.le_add_right _ _
    · rw [z]; exact Nat.le_refl _
    · rw [z]; exact Nat.le_add_right _ _
  exact I.fpOk hle (I.hok.fresh hle)
theorem pi_zipSS {X : Cx} {e e2 : Expr} {ta : TA} {p pos tpos : Pos} {elts : List Expr} {kk : Nat} (hg : Gl X "zip") (hm : X.mg "zip" = none) (ha : PA X [e, e2] ta)
    (hs : starEach [e, e2] X.env = (false, eval e X.env) :: starEach [e2] X.env := by rfl) (hpl : (backTo pos (starEach [e2] X.env)).any (·.1) = false := by rfl) :
    PI X (.Tuple elts kk tpos) (.Call (.Name "zip" p) [e, e2] [] pos) (iZipSS ta) := by
  refine ⟨fun pins s σ H R I h => ?_⟩
  refine Call_ (ld_blt I hg hm PyProof.Rows.boot_zip (PyProof.Rows.callWith_type1 (thn (ha.run pos pins s σ H _ I h) fun us s1 ⟨vs, H1, I1, r1, q1⟩ => ?_) hs hpl))
  obtain ⟨x, y, ex, q⟩ := q1
  subst ex
  cases r1 with
  | cons r rr =>
    cases rr with
    | cons r' rr =>
      cases rr
      obtain ⟨t, rfl⟩ := r
      obtain ⟨u, rfl⟩ := r'
      refine zip_begins2 (begins_text x t) (begins_text y u) trivial trivial fun h' hz hTI hTO h1 h2 hsz hk => wpAny_pyIter_zip hz ?_
      have I2 : Inv X pins σ H1 { s1 with heap := h' } := I1.kept (t' := s1.toks) hk
      exact ⟨s1.heap.objs.size + 4, [s1.heap.objs.size + 4, s1.heap.objs.size + 2, s1.heap.objs.size + 3, s1.heap.objs.size, s1.heap.objs.size + 1], _, _, H1, rfl, I2, turn_zipSS (zapart_new _) x y t u, ⟨hz, hTI, ⟨_, _, hTO⟩, ⟨_, h1, rfl, rfl⟩, ⟨_, h2, rfl, rfl⟩⟩, new5 I1, q⟩
theorem pi_zipSL {X : Cx} {e e2 : Expr} {ta : TA} {p pos tpos : Pos} {elts : List Expr} {kk : Nat} (hg : Gl X "zip") (hm : X.mg "zip" = none) (ha : PA X [e, e2] ta)
    (hs : starEach [e, e2] X.env = (false, eval e X.env) :: starEach [e2] X.env := by rfl) (hpl : (backTo pos (starEach [e2] X.env)).any (·.1) = false := by rfl) :
    PI X (.Tuple elts kk tpos) (.Call (.Name "zip" p) [e, e2] [] pos) (iZipSL X.K ta) := by
  refine ⟨fun pins s σ H R I h => ?_⟩
  refine Call_ (ld_blt I hg hm PyProof.Rows.boot_zip (PyProof.Rows.callWith_type1 (thn (ha.run pos pins s σ H _ I h) fun us s1 ⟨vs, H1, I1, r1, q1⟩ => ?_) hs hpl))
  obtain ⟨x, a, ys, ex, hq, q⟩ := q1
  subst ex
  cases r1 with
  | cons r rr =>
    cases rr with
    | cons r' rr =>
      cases rr
      obtain ⟨t, rfl⟩ := r
      cases r'
      obtain ⟨its, rv, p1, _⟩ := I1.list hq
      have la : a < s1.heap.objs.size := p1.lt
      refine zip_begins2 (begins_text x t) (begins_list a its.toArray) trivial p1.isList fun h' hz hTI hTO h1 h2 hsz hk => wpAny_pyIter_zip hz ?_
      have I2 : Inv X pins σ H1 { s1 with heap := h' } := I1.kept (t' := s1.toks) hk
      have ne : ∀ k : Nat, s1.heap.objs.size + k ≠ a := fun k => Nat.ne_of_gt (Nat.lt_of_lt_of_le la (Nat.le_add_right _ _))
      exact ⟨s1.heap.objs.size + 4, [s1.heap.objs.size + 4, s1.heap.objs.size + 2, s1.heap.objs.size + 3, s1.heap.objs.size, s1.heap.objs.size + 1], _, _, H1, rfl, I2, turn_zipSL (zapart_new _) (ne 4) (ne 3) (ne 0) (ne 1) x t, ⟨hz, hTI, ⟨_, _, hTO⟩, ⟨_, h1, rfl, rfl⟩, ⟨_, h2, rfl, rfl⟩⟩, new5 I1, q⟩
theorem walk_zipSS {x y : Str} {n : Nat} (hn : n = min x.cps.size y.cps.size) : Walk (ItzSS x y) n (fun _ => True) (YPair (fun i => (x.cps[i]?).map fun c => V.str ⟨#[c]⟩) (fun i => (y.cps[i]?).map fun c => V.str ⟨#[c]⟩)) := by
  subst hn
  refine ⟨fun i _ hi _ => hi, fun _ _ => rfl, fun i H v H' _ _ y => ?_⟩
  obtain ⟨T, c, d, h1, h2, h3, h4, h5⟩ := y
  exact ⟨T, _, _, h1, h2, h3, by simp [h4], by simp [h5]⟩
theorem walk_zipSL {K : PySem.W.Frag} {x : Str} {a : Addr} {ys : List V} {n : Nat} (hn : n = min x.cps.size ys.length) : Walk (ItzSL K x a) n (fun H => SqL K H a ys) (YPair (fun i => (x.cps[i]?).map fun c => V.str ⟨#[c]⟩) (fun i => ys[i]?)) := by
  subst hn
  refine ⟨fun i _ hi q => ⟨ys, q, hi⟩, fun _ q => ⟨ys, q, rfl⟩, fun i H v H' _ q y => ?_⟩
  obtain ⟨T, c, d, h1, h2, h3, h4, h5⟩ := y
  exact ⟨T, _, _, h1, h2, h3, by simp [h4], h5 ys q⟩

/-! ### a chain of three -/
section
variable {X : Cx} {a b c d : Expr} {ta tb tc td : TE} {pos : Pos}
def tChain3 (r r' r'' : R2) (ta tb tc td : TE) : TE := fun σ H Q => ta σ H fun x H1 => tb σ H1 fun y H2 => r x y H2 fun z H3 => ∃ k, z = .bl k ∧
  (if k = true then tc σ H3 fun y' H4 => r' y y' H4 fun z' H5 => ∃ k', z' = .bl k' ∧ (if k' = true then td σ H5 fun w' H6 => r'' y' w' H6 Q else Q (.bl false) H5) else Q (.bl false) H3)
theorem pt_chain3 {op op' op'' : CmpOp} {r r' r'' : R2} (ho : OpR X (compareOp op) r) (ho' : OpR X (compareOp op') r') (ho'' : OpR X (compareOp op'') r'') (ha : PE X a ta) (hb : PE X b tb) (hc : PE X c tc) (hd : PE X d td)
    (hm : lastMarks [op, op', op''] [b, c, d] = false := by with_unfolding_all rfl) : PT X (.Compare a [op, op', op''] [b, c, d] pos) (tTest (tChain3 r r' r'' ta tb tc td)) := by
  refine ⟨fun pins s σ H Q I h => ?_⟩
  refine isTrue_chain (thn (ha.run pins s σ H _ I h) fun v s1 ⟨x, H1, I1, r1, q1⟩ => test_link (thn (hb.run pins s1 σ H1 _ I1 q1) fun u s2 ⟨y, H2, I2, r2, q2⟩ =>
    thn (ho pins s2 σ H2 x y v u _ I2 r1 r2 q2) fun d' s3 ⟨z, H3, I3, r3, k, e, q3⟩ => ?_)) hm
  subst e
  cases r3
  refine wpAny_truthy_bool ?_
  cases k with
  | false =>
    obtain ⟨k', e', q'⟩ := q3
    cases e'
    exact ite_ff ⟨H3, I3, q'⟩
  | true =>
    refine ite_tt (test_link (thn (hc.run pins s3 σ H3 _ I3 q3) fun u2 s4 ⟨y2, H4, I4, r4, q4⟩ => thn (ho' pins s4 σ H4 y y2 u u2 _ I4 r2 r4 q4) fun d2 s5 ⟨z2, H5, I5, r5, k2, e2, q5⟩ => ?_))
    subst e2
    cases r5
    refine wpAny_truthy_bool ?_
    cases k2 with
    | false =>
      obtain ⟨k', e', q'⟩ := q5
      cases e'
      exact ite_ff ⟨H5, I5, q'⟩
    | true =>
      refine ite_tt (test_last (thn (hd.run pins s5 σ H5 _ I5 q5) fun w' s6 ⟨z3, H6, I6, r6, q6⟩ => thn (ho'' pins s6 σ H6 y2 z3 u2 w' _ I6 r4 r6 q6) fun c2 s7 ⟨z4, H7, I7, r7, k7, e7, q7⟩ => ?_))
      subst e7
      cases r7
      exact wpAny_truthy_bool ⟨H7, I7, q7⟩
end
end HA

end
section
set_option maxRecDepth 100000
set_option maxHeartbeats 4000000
namespace HA
open PySem PySem.Spec PyProof.Rows L2 Evl

/-! ### text * int -/
def rMulS : R2 := fun x y H Q => ∃ (z : Str) (n : Int), x = .str z ∧ y = .int n ∧ MulOk z n ∧ Q (.str (Txt.mul z n)) H
theorem op_mulS {X : Cx} : OpR X (binaryOp .Mult) rMulS := by
  intro pins s σ H x y v u Q I rx ry h
  obtain ⟨z, n, rfl, rfl, ok, q⟩ := h
  obtain ⟨t, rfl⟩ := rx
  obtain ⟨t', rfl⟩ := ry
  exact SB.mul ok fun t2 k => ⟨.str (Txt.mul z n), H, I.tok _, ⟨_, rfl⟩, q⟩
theorem mulOk_small {z : Str} {n : Int} (hz : z.length ≤ 1000) (h0 : 0 ≤ n) (h1 : n ≤ 10000) : MulOk z n := by
  refine ⟨?_, fun _ _ => ?_, fun _ _ => ?_⟩
  · have a : ¬ n < -(2 ^ 63 : Int) := by omega
    have b : ¬ n ≥ 2 ^ 63 := by omega
    rw [decide_eq_false a, decide_eq_false b]
    rfl
  · have e : (0 : Int) < n ∨ n = 0 := by omega
    rcases e with e | e
    · have h2 : (1000 : Int) ≤ (2 ^ 63 - 1) / n := by
        apply Int.le_ediv_of_mul_le e
        have : (1000 : Int) * n ≤ 1000 * 10000 := by omega
        omega
      have h3 : (z.length : Int) ≤ 1000 := by omega
      omega
    · omega
  · have h2 : n.toNat ≤ 10000 := by omega
    have h3 : z.length * n.toNat ≤ 1000 * 10000 := Nat.mul_le_mul hz h2
    have e : sizeLine = 16777216 := by decide
    show decide (z.length * n.toNat > sizeLine) = false
    rw [decide_eq_false]
    omega

/-! ### an instance of a class without __init__ -/
structure Mk0 (K : PySem.W.Frag) (C : Addr) : Prop where
  makes : PySem.W.makesIn K C = true
  init : PySem.W.findIn K (.ref C) "__init__" = some (some (.builtin "object.__init__"))
  kp : PySem.W.keepIn K (.ref C) = true
def tMake0 (C : Addr) : TE := fun σ H Q => ∀ x dx, H x = none → H dx = none → dx ≠ x → Q (.ref x) (upd (upd H dx (.own x)) x (.ins C dx []))
open PySem.W in
theorem run_make0 {X : Cx} {C : Addr} {pins : List (Addr × Obj)} {σ : L2.St} {H : Hp} {s : Shared} {Q : VK} (M : Mk0 X.K C) (I : L2.Inv X pins σ H s)
    (h : ∀ x dx, H x = none → H dx = none → dx ≠ x → Q (.ref x) (upd (upd H dx (.own x)) x (.ins C dx []))) : wpAny (model X.prog X.w) X.A (call (.ref C) []) (EP X pins σ Q) X.xe s := by
  have hq := h (s.heap.objs.size + 1) s.heap.objs.size (I.hok.fresh (Nat.le_succ _)) (I.hok.fresh (Nat.le_refl _)) (Nat.ne_of_lt (Nat.lt_succ_self _))
  have I2 := L2.Inv.made (C := C) I
  have hin : X.K.In s.heap := I.kIn
  refine wpAny_call ?_
  obtain ⟨hh, g, d, t, os⟩ := s
  have Y := makes_of (M := model X.prog X.w) hin M.makes
  refine make_core Y (looks_findIn hin M.init) (fun self => Looks.of_pure (oi_bind self)) (.inr ⟨rfl, rfl⟩) ?_
  have e2 : ((hh.push emptyDict).push (instObj C hh.objs.size)).get? (hh.objs.size + 1) = some (instObj C hh.objs.size) := by
    have := Heap.get?_push_size (hh.push emptyDict) (o := instObj C hh.objs.size) rfl
    rwa [Heap.size_push] at this
  have t1 : Looks (model X.prog X.w) ((hh.push emptyDict).push (instObj C hh.objs.size)) (typeOf (.ref (hh.objs.size + 1))) (.ref C) := (Looks.ld e2).andThen .now
  have t2 : Looks (model X.prog X.w) ((hh.push emptyDict).push (instObj C hh.objs.size)) (isInstance (.ref (hh.objs.size + 1)) (.type "object")) true := t1.andThen (Y.top.keeps fun b o e => Heap.get?_push_of_some _ (Heap.get?_push_of_some _ e))
  refine codeAny_call_builtin oi_plain entry_oi (@check_slot (model X.prog X.w) _ _ _ "object.__init__" "object" "__init__" (.ref (hh.objs.size + 1)) [] [] _ oi_kind oi_split t2 (oi_args (.ref (hh.objs.size + 1))) ?_)
  rw [oi_run]
  exact wpAny_pure (And.intro rfl ⟨V.ref (hh.objs.size + 1), _, I2, rfl, hq⟩)
theorem pe_makeO {X : Cx} {C : Addr} {x : Str} {p pos : Pos} (M : Mk0 X.K C) (hg : Gl X x) (hm : X.mg x = some (.ref C)) (hdb : (x == ("__debug__" : Str)) = false := by decide) : PE X (.Call (.Name x p) [] [] pos) (tMake0 C) := by
  refine ⟨fun pins s σ H Q I h => ?_⟩
  refine wpAny_Call_Name_kw (ld_glob I hg hm ?_ hdb)
  exact PySem.W.callWith_K0 I.kIn M.kp (run_make0 M I h)
end HA

end
section
set_option maxRecDepth 100000
set_option maxHeartbeats 4000000
namespace HA
open PySem PySem.Spec PyProof.Rows L2 Evl

/-! ### rows and tables of signs -/
def cp (b : Bool) : Nat := if b = true then 43 else 45
def sgS (b : Bool) : Str := ⟨#[cp b]⟩
def rowS (n : Nat) (g : Nat → Bool) : Str := ⟨((List.range n).map fun j => cp (g j)).toArray⟩
def tabV (n : Nat) (f : Nat → Nat → Bool) : List V := (List.range n).map fun i => V.str (rowS n (f i))
theorem cp_inj {a b : Bool} (h : cp a = cp b) : a = b := by
  cases a <;> cases b <;> first | rfl | exact absurd h (by decide)
theorem sg_plus : (Str.ofString "+") = sgS true := by decide +kernel
theorem sg_minus : (Str.ofString "-") = sgS false := by decide +kernel
theorem sgS_inj {a b : Bool} (h : sgS a = sgS b) : a = b := by
  have e : (sgS a).cps.toList = (sgS b).cps.toList := by rw [h]
  exact cp_inj (List.cons.inj e).1
theorem sgS_dec (a b : Bool) : decide (V.str (sgS a) = V.str (sgS b)) = (a == b) := by
  cases a <;> cases b <;> decide +kernel
theorem rowS_len (n : Nat) (g : Nat → Bool) : (rowS n g).length = n := by
  show ((List.range n).map fun j => cp (g j)).toArray.size = n
  simp
theorem rowS_size (n : Nat) (g : Nat → Bool) : (rowS n g).cps.size = n := rowS_len n g
theorem rowS_get {n : Nat} {g : Nat → Bool} {j : Nat} (h : j < n) : (rowS n g).cps[j]? = some (cp (g j)) := by
  show (((List.range n).map fun j => cp (g j)).toArray)[j]? = some (cp (g j))
  simp [h]
theorem rowS_getL {n : Nat} {g : Nat → Bool} {j : Nat} (h : j < n) : (rowS n g).cps.toList[j]? = some (cp (g j)) := by
  show (((List.range n).map fun j => cp (g j)).toArray).toList[j]? = some (cp (g j))
  simp [h]
theorem rowS_ext {n : Nat} {g h : Nat → Bool} (e : ∀ j, j < n → g j = h j) : rowS n g = rowS n h := by
  have q : ((List.range n).map fun j => cp (g j)) = ((List.range n).map fun j => cp (h j)) := List.map_congr_left fun j hj => by rw [e j (List.mem_range.mp hj)]
  unfold rowS
  rw [q]
theorem rowS_inj {n : Nat} {g h : Nat → Bool} (e : rowS n g = rowS n h) : ∀ j, j < n → g j = h j := fun j hj => by
  have a := rowS_get (g := g) hj
  rw [e, rowS_get hj] at a
  exact (cp_inj (Option.some.inj a)).symm
theorem tabV_len (n : Nat) (f : Nat → Nat → Bool) : (tabV n f).length = n := by
  unfold tabV
  rw [List.length_map, List.length_range]
theorem tabV_get {n : Nat} {f : Nat → Nat → Bool} {i : Nat} (h : i < n) : (tabV n f)[i]? = some (V.str (rowS n (f i))) := by
  unfold tabV
  rw [List.getElem?_map, List.getElem?_range h]
  rfl
theorem tabV_some {n : Nat} {f : Nat → Nat → Bool} {i : Nat} {x : V} (h : (tabV n f)[i]? = some x) : i < n ∧ x = V.str (rowS n (f i)) := by
  have hi : i < n := by
    have q := (List.getElem?_eq_some_iff.mp h).1
    rwa [tabV_len] at q
  rw [tabV_get hi] at h
  exact ⟨hi, (Option.some.inj h).symm⟩
theorem tabV_ext {n : Nat} {f g : Nat → Nat → Bool} (e : ∀ i, i < n → ∀ j, j < n → f i j = g i j) : tabV n f = tabV n g :=
  List.map_congr_left fun i hi => by rw [rowS_ext (e i (List.mem_range.mp hi))]
theorem tabV_at {n : Nat} {f : Nat → Nat → Bool} {i : Nat} (h : i < n) : atI (tabV n f) (i : Int) = some (V.str (rowS n (f i))) := atI_nat (tabV_get h)

/-! ### joins -/
theorem app_cps (a b : Str) : (a ++ b : Str).cps = a.cps ++ b.cps := rfl
theorem join_nil_toList : ∀ ys : List Str, (Str.join ⟨#[]⟩ ys).cps.toList = (ys.map fun y => y.cps.toList).flatten
  | [] => rfl
  | [x] => by simp [Str.join]
  | x :: y :: r => by
    have ih := join_nil_toList (y :: r)
    show ((x ++ (⟨#[]⟩ : Str) ++ Str.join ⟨#[]⟩ (y :: r) : Str)).cps.toList = _
    rw [app_cps, app_cps, Array.toList_append, ih]
    simp
theorem str_ext {a b : Str} (h : a.cps.toList = b.cps.toList) : a = b := by
  obtain ⟨a⟩ := a
  obtain ⟨b⟩ := b
  have e : a = b := Array.toList_inj.mp h
  rw [e]
theorem join_toList (ys : List Str) : (Txt.join ⟨#[]⟩ ys).cps.toList = (ys.map fun y => y.cps.toList).flatten := by
  unfold Txt.join
  rw [PySem.StrLaws.glued_eq_join]
  exact join_nil_toList ys
theorem flat_one : ∀ (l : List Nat) (g : Nat → Nat), ((l.map fun j => [g j])).flatten = l.map g
  | [], _ => rfl
  | a :: l, g => by
    show [g a] ++ ((l.map fun j => [g j])).flatten = g a :: l.map g
    rw [flat_one l g]
    rfl
theorem join_row (n : Nat) (g : Nat → Bool) : Txt.join ⟨#[]⟩ ((List.range n).map fun j => sgS (g j)) = rowS n g := by
  apply str_ext
  rw [join_toList, List.map_map]
  exact flat_one (List.range n) fun j => cp (g j)
theorem sum_ones : ∀ l : List Nat, (∀ x ∈ l, x = 1) → l.sum = l.length
  | [], _ => rfl
  | a :: l, h => by
    rw [List.sum_cons, List.length_cons, h a (List.mem_cons_self ..), sum_ones l fun x hx => h x (List.mem_cons_of_mem _ hx)]
    omega

/-! ### what evaluates to what, more -/
section
variable {K : PySem.W.Frag} {σ : L2.St} {H H' : Hp} {ta tb te tx : TE} {t u : TT} {x y z v : V} {r : R2}
/-- a value of which R is known -/
def EvR (te : TE) (σ : L2.St) (H : Hp) (R : V → Hp → Prop) : Prop := ∀ H1, Ex H H1 → ∀ Q : VK, (∀ v H2, Ex H1 H2 → R v H2 → Q v H2) → te σ H1 Q
theorem EvR.mono {R : V → Hp → Prop} (e : Ex H H') (h : EvR te σ H R) : EvR te σ H' R := fun H1 a Q q => h H1 (e.trans a) Q q
theorem EvL.evR {xs : List V} (h : EvL te σ H xs) : EvR te σ H (fun v H2 => ∃ p, v = .ref p ∧ H2 p = some (.lst xs)) := fun H1 e Q q => h H1 e Q fun p H2 _ e2 h2 => q _ H2 e2 ⟨p, rfl, h2⟩
theorem ev_lenS {w : Str} (ha : Ev ta σ H (.str w)) (hw : w.length ≤ 100000) :
    Ev (tCB (fun xs H Q => ∃ z, xs = [.str z] ∧ z.length ≤ sizeLine ∧ Q (.int z.length) H) (tCons ta tNil)) σ H (.int (w.length : Int)) := fun H1 e Q q =>
  ha H1 e _ fun H2 e2 => ⟨w, rfl, sz_of hw, q H2 e2⟩
theorem ev_allN {bs : List Bool} (h : EvL ta σ H (bs.map V.bl)) : Ev (tCB (rAll K) (tCons ta tNil)) σ H (.bl (bs.all id)) := fun H1 e Q q =>
  h H1 e _ fun p H2 _ e2 h2 => ⟨p, bs, rfl, sq_of h2, q H2 e2⟩
theorem ev_anyN {bs : List Bool} (h : EvL ta σ H (bs.map V.bl)) : Ev (tCB (rAny K) (tCons ta tNil)) σ H (.bl (bs.any id)) := fun H1 e Q q =>
  h H1 e _ fun p H2 _ e2 h2 => ⟨p, bs, rfl, sq_of h2, q H2 e2⟩
theorem ev_sumN {ns : List Int} (h : EvL ta σ H (ns.map V.int)) : Ev (tCB (rSum K) (tCons ta tNil)) σ H (.int ns.sum) := fun H1 e Q q =>
  h H1 e _ fun p H2 _ e2 h2 => ⟨p, ns, rfl, sq_of h2, q H2 e2⟩
theorem ev_sum {a : Addr} {ns : List Int} (h : Ev ta σ H (.ref a)) (hs : SqL K H a (ns.map V.int)) : Ev (tCB (rSum K) (tCons ta tNil)) σ H (.int ns.sum) := fun H1 e Q q =>
  h H1 e _ fun H2 e2 => ⟨a, ns, rfl, ex_l (e.trans e2) hs, q H2 e2⟩
def rJoin (K : PySem.W.Frag) : V → List V → Hp → VK → Prop := fun x xs H Q => ∃ a p, ∃ ys : List Str, x = .str a ∧ xs = [.ref p] ∧ (SqL K H p (ys.map V.str) ∨ SqT K H p (ys.map V.str)) ∧ (ys.map (·.length)).sum + ys.length * a.length ≤ 16777216 ∧ Q (.str (Txt.join a ys)) H
/-- ''.join([..]) of single signs -/
theorem ev_joinN {ys : List Str} (h : EvL te σ H (ys.map V.str)) (hz : (ys.map (·.length)).sum ≤ 100000) : Ev (tM1 (rJoin K) (tC (.str (Str.ofString ""))) te) σ H (.str (Txt.join ⟨#[]⟩ ys)) := fun H1 e Q q => by
  refine ⟨⟨_, rfl⟩, h H1 e _ fun p H2 _ e2 h2 => ⟨_, p, ys, rfl, rfl, .inl (sq_of h2), ?_, ?_⟩⟩
  · have e0 : (Str.ofString "").length = 0 := by decide +kernel
    rw [e0, Nat.mul_zero]
    omega
  · have e0 : (Str.ofString "") = ⟨#[]⟩ := by decide +kernel
    rw [e0]
    exact q H2 e2
theorem ev_joinRow {n : Nat} {g : Nat → Bool} (h : EvL te σ H ((List.range n).map fun j => V.str (sgS (g j)))) (hz : n ≤ 100000) : Ev (tM1 (rJoin K) (tC (.str (Str.ofString ""))) te) σ H (.str (rowS n g)) := by
  have e : ((List.range n).map fun j => V.str (sgS (g j))) = ((List.range n).map fun j => sgS (g j)).map V.str := by rw [List.map_map]; rfl
  rw [e] at h
  have q := ev_joinN (K := K) h (by
    rw [List.map_map, sum_ones]
    · rw [List.length_map, List.length_range]
      exact hz
    · intro x hx
      obtain ⟨a, _, rfl⟩ := List.mem_map.mp hx
      rfl)
  rw [join_row] at q
  exact q
/-- an item of a text -/
theorem ev_itS {n : Nat} {g : Nat → Bool} {j : Nat} (ha : Ev ta σ H (.str (rowS n g))) (hb : Ev tb σ H (.int (j : Int))) (hj : j < n) (hn : n ≤ 100000) : Ev (tOp rIxS ta tb) σ H (.str (sgS (g j))) :=
  ev_op ha hb (rv_ixS (by rw [rowS_len]; exact hn) (atI_nat (rowS_getL hj)))
theorem ev_itL {p : Addr} {xs : List V} {i : Nat} (ha : Ev ta σ H (.ref p)) (hb : Ev tb σ H (.int (i : Int))) (h : SqL K H p xs) (hx : xs[i]? = some v) : Ev (tOp (rIxL K) ta tb) σ H v :=
  ev_op ha hb (rv_ixL h (atI_nat hx))
theorem ev_itT {p : Addr} {n : Nat} {f : Nat → Nat → Bool} {i : Nat} (ha : Ev ta σ H (.ref p)) (hb : Ev tb σ H (.int (i : Int))) (h : SqL K H p (tabV n f)) (hi : i < n) : Ev (tOp (rIxL K) ta tb) σ H (.str (rowS n (f i))) := ev_itL ha hb h (tabV_get hi)
theorem ev_itU {xs : List V} {i : Nat} (ha : EvU ta σ H xs) (hb : Ev tb σ H (.int (i : Int))) (hx : xs[i]? = some v) : Ev (tOp (rIxT K) ta tb) σ H v := fun H1 e Q q =>
  ha H1 e _ fun p H2 _ e2 h2 => hb H2 (e.trans e2) _ fun H3 e3 => ⟨p, xs, (i : Int), v, rfl, rfl, st_of (e3 p _ h2), atI_nat hx, q H3 (e2.trans e3)⟩
theorem rv_addS {a b : Str} (h : a.length + b.length ≤ 100000) : RV (fun x y H Q => ∃ i j, x = V.str i ∧ y = V.str j ∧ i.length + j.length ≤ sizeLine ∧ Q (V.str (i ++ j)) H) (.str a) (.str b) H (.str (a ++ b)) := fun H1 _ _ q => ⟨a, b, rfl, rfl, sz_of h, q H1 (Ex.refl H1)⟩
theorem rv_mulS {a : Str} {n : Int} (h : MulOk a n) : RV rMulS (.str a) (.int n) H (.str (Txt.mul a n)) := fun H1 _ _ q => ⟨a, n, rfl, rfl, h, q H1 (Ex.refl H1)⟩
theorem ev_slS {w : Str} {tl th : TO} {lo hi : Option Int} (h : Ev te σ H (.str w)) (h1 : EvO tl σ H lo) (h2 : EvO th σ H hi) (hw : w.length ≤ 100000) : Ev (tSl rSlS te tl th) σ H (.str (cutS w lo hi)) := fun H1 e _ q =>
  h H1 e _ fun H2 e2 => h1 H2 (e.trans e2) _ fun H3 e3 => h2 H3 ((e.trans e2).trans e3) _ fun H4 e4 => ⟨w, rfl, sz_of hw, q H4 ((e2.trans e3).trans e4)⟩

/-! ### comprehensions over any walk -/
theorem lcW {J : It} {n : Nat} {G : Hp → Prop} {Y : Nat → Hp → V → Hp → Prop} (w : Walk J n G Y) {g : TG} {vs : List Nat} {H1 : Hp} (hn : n ≤ 40000) (hG : ∀ H', Ex H1 H' → G H') (f : Nat → Bool) (v : Nat → V) (σt : Nat → L2.St)
    (hg : ∀ i x H H', i < n → Ex H1 H → Y i H x H' → Ex H H' ∧ ∀ k : L2.St → Hp → Prop, k (σt i) H' → g x (wipe σ vs) H' k) (hw : ∀ i, i < n → wipe (σt i) vs = wipe σ vs)
    (ht : ∀ i, i < n → EvT t (σt i) H1 (f i)) (he : ∀ i, i < n → f i = true → Ev te (σt i) H1 (v i)) {Q : VK} (q : ∀ p H2, H1 p = none → Ex H1 H2 → H2 p = some (.lst (given n f v)) → Q (.ref p) H2) :
    ∀ D, H1 D = none → ∃ W : Nat → Nat → Hp → Prop, (∃ m, W 0 m (upd H1 D (.lst []))) ∧ ∀ i m H, W i m H →
      (J.stop i H ∧ Q (.ref D) H) ∨ (J.go i H ∧ ∃ Nx : Hp → Prop, (∀ H', Nx H' → ∃ m', m' < m ∧ W (i + 1) m' H') ∧ ∀ x H', J.yld i H x H' → g x (wipe σ vs) H' fun σ2 H2 => wipe σ2 vs = wipe σ vs ∧ t σ2 H2 fun b H3 =>
        if b = true then te σ2 H3 fun y H4 => ∃ acc, H4 D = some (.lst acc) ∧ acc.length < sizeLine ∧ Nx (upd H4 D (.lst (acc ++ [y]))) else Nx H3) := fun D hD =>
  lc_it w (Cw H1 f v D) ⟨hD, Ex.new hD, upd_same⟩ (fun i H' _ p => hG H' p.2.1) (fun i x H H' hi p y => by
    obtain ⟨e1, k⟩ := hg i x H H' hi p.2.1 y
    exact k _ ⟨hw i hi, cw_turn ⟨p.1, p.2.1.trans e1, e1 D _ p.2.2⟩ (by omega) (ht i hi) (he i hi)⟩) (fun H' p => q D H' p.1 p.2.1 p.2.2)
/-- a name takes the item -/
theorem hg_name {n : Nat} {H1 : Hp} {j : Nat} {vs : List Nat} (xs : Nat → V) (i : Nat) (x : V) (H H' : Hp) (hi : i < n) (e : Ex H1 H) (y : H' = H ∧ x = xs i) : Ex H H' ∧ ∀ k : L2.St → Hp → Prop, k ((wipe σ vs).set j (some (xs i))) H' → gName j x (wipe σ vs) H' k := by
  obtain ⟨rfl, rfl⟩ := y
  exact ⟨Ex.refl _, fun k h => h⟩
/-- two names take the pair -/
theorem hg_pair {n : Nat} {H1 : Hp} {j l : Nat} {vs : List Nat} (xs ys : Nat → V) {fx fy : Nat → Option V} (hx : ∀ i, i < n → fx i = some (xs i)) (hy : ∀ i, i < n → fy i = some (ys i)) (i : Nat) (x : V) (H H' : Hp) (hi : i < n) (e : Ex H1 H) (y : YPair fx fy i H x H') :
    Ex H H' ∧ ∀ k : L2.St → Hp → Prop, k (((wipe σ vs).set j (some (xs i))).set l (some (ys i))) H' → gTup K 2 (gCons (gName j) (gCons (gName l) gNil)) x (wipe σ vs) H' k := by
  obtain ⟨T, a, b, rfl, hT, rfl, ha, hb⟩ := y
  rw [hx i hi] at ha
  rw [hy i hi] at hb
  cases ha
  cases hb
  exact ⟨Ex.new hT, fun k h => ⟨T, _, rfl, st_of upd_same, rfl, _, _, rfl, _, _, rfl, rfl, h⟩⟩
/-- [.. for c in text] -/
theorem el_lcS {w : Str} {n : Nat} {c : Nat → Nat} {tl : TE} {j : Nat} {vs : List Nat} (f : Nat → Bool) (v : Nat → V) (h : Ev tl σ H (.str w)) (hsz : w.cps.size = n) (hc : ∀ i, i < n → w.cps[i]? = some (c i)) (hn : n ≤ 40000)
    (hw : ∀ x, wipe ((wipe σ vs).set j (some x)) vs = wipe σ vs) (ht : ∀ i H1, Ex H H1 → i < n → EvT t ((wipe σ vs).set j (some (.str ⟨#[c i]⟩))) H1 (f i)) (he : ∀ i H1, Ex H H1 → i < n → f i = true → Ev te ((wipe σ vs).set j (some (.str ⟨#[c i]⟩))) H1 (v i)) :
    EvL (tLc (iStr tl) (gName j) t te vs) σ H (given n f v) := fun H0 e Q q => h H0 e _ fun H1 e1 => ⟨w, rfl, by
  subst hsz
  exact lcW (walk_str (z := w)) hn (fun _ _ => trivial) f v (fun i => (wipe σ vs).set j (some (.str ⟨#[c i]⟩))) (fun i x H H' hi ex y => by
    obtain ⟨rfl, d, hd, rfl⟩ := y
    rw [hc i hi] at hd
    cases hd
    exact ⟨Ex.refl _, fun k h => h⟩) (fun i _ => hw _) (fun i hi => ht i H1 (e.trans e1) hi) (fun i hi => he i H1 (e.trans e1) hi) fun p H2 hp e2 h2 => q p H2 (fresh_back e1 hp) (e1.trans e2) h2⟩
/-- [.. for i in range(a, b)] -/
theorem el_lcR2 {ta : TA} {j : Nat} {vs : List Nat} {lo hi : Int} {n : Nat} (f : Nat → Bool) (v : Nat → V) (h : EvA ta σ H [.int lo, .int hi]) (hb : -100000 ≤ lo ∧ lo ≤ 100000 ∧ -100000 ≤ hi ∧ hi ≤ 100000) (hn : (hi - lo).toNat = n) (hz : n ≤ 40000)
    (hw : ∀ x, wipe ((wipe σ vs).set j (some x)) vs = wipe σ vs) (ht : ∀ i H1, Ex H H1 → i < n → EvT t ((wipe σ vs).set j (some (.int (lo + (i : Nat))))) H1 (f i)) (he : ∀ i H1, Ex H H1 → i < n → f i = true → Ev te ((wipe σ vs).set j (some (.int (lo + (i : Nat))))) H1 (v i)) :
    EvL (tLc (iRng2 ta) (gName j) t te vs) σ H (given n f v) := fun H0 e Q q => h H0 e _ fun H1 e1 => ⟨lo, hi, rfl, ⟨by omega, by omega, by omega, by omega⟩, by
  subst hn
  exact lcW (walk_range (lo := lo)) hz (fun _ _ => trivial) f v (fun i => (wipe σ vs).set j (some (.int (lo + (i : Nat))))) (fun i x H H' hi' ex y => hg_name (n := (hi - lo).toNat + i + 1) (fun i => .int (lo + (i : Nat))) i x H H' (by omega) ex y)
    (fun i _ => hw _) (fun i hi => ht i H1 (e.trans e1) hi) (fun i hi => he i H1 (e.trans e1) hi) fun p H2 hp e2 h2 => q p H2 (fresh_back e1 hp) (e1.trans e2) h2⟩
/-- [.. for i, c in enumerate(text)] -/
theorem el_lcES {w : Str} {n : Nat} {c : Nat → Nat} {ta : TA} {j l : Nat} {vs : List Nat} (f : Nat → Bool) (v : Nat → V) (h : EvA ta σ H [.str w]) (hsz : w.cps.size = n) (hc : ∀ i, i < n → w.cps[i]? = some (c i)) (hn : n ≤ 40000)
    (hw : ∀ x y, wipe (((wipe σ vs).set j (some x)).set l (some y)) vs = wipe σ vs) (ht : ∀ i H1, Ex H H1 → i < n → EvT t (((wipe σ vs).set j (some (.int (i : Nat)))).set l (some (.str ⟨#[c i]⟩))) H1 (f i))
    (he : ∀ i H1, Ex H H1 → i < n → f i = true → Ev te (((wipe σ vs).set j (some (.int (i : Nat)))).set l (some (.str ⟨#[c i]⟩))) H1 (v i)) :
    EvL (tLc (iEnumS ta) (gTup K 2 (gCons (gName j) (gCons (gName l) gNil))) t te vs) σ H (given n f v) := fun H0 e Q q => h H0 e _ fun H1 e1 => ⟨w, rfl, by
  subst hsz
  exact lcW (walk_enumS (x := w)) hn (fun _ _ => trivial) f v (fun i => ((wipe σ vs).set j (some (.int (i : Nat)))).set l (some (.str ⟨#[c i]⟩))) (fun i x H H' hi ex y =>
    hg_pair (fun i => .int (i : Nat)) (fun i => .str ⟨#[c i]⟩) (n := w.cps.size) (fun i _ => rfl) (fun i hi => by rw [hc i hi]; rfl) i x H H' hi ex y)
    (fun i _ => hw _ _) (fun i hi => ht i H1 (e.trans e1) hi) (fun i hi => he i H1 (e.trans e1) hi) fun p H2 hp e2 h2 => q p H2 (fresh_back e1 hp) (e1.trans e2) h2⟩
/-- [.. for a, b in zip(text, text)] -/
theorem el_lcZSS {w w' : Str} {n : Nat} {c c' : Nat → Nat} {ta : TA} {j l : Nat} {vs : List Nat} (f : Nat → Bool) (v : Nat → V) (h : EvA ta σ H [.str w, .str w']) (hsz : min w.cps.size w'.cps.size = n) (hc : ∀ i, i < n → w.cps[i]? = some (c i)) (hc' : ∀ i, i < n → w'.cps[i]? = some (c' i)) (hn : n ≤ 40000)
    (hw : ∀ x y, wipe (((wipe σ vs).set j (some x)).set l (some y)) vs = wipe σ vs) (ht : ∀ i H1, Ex H H1 → i < n → EvT t (((wipe σ vs).set j (some (.str ⟨#[c i]⟩))).set l (some (.str ⟨#[c' i]⟩))) H1 (f i))
    (he : ∀ i H1, Ex H H1 → i < n → f i = true → Ev te (((wipe σ vs).set j (some (.str ⟨#[c i]⟩))).set l (some (.str ⟨#[c' i]⟩))) H1 (v i)) :
    EvL (tLc (iZipSS ta) (gTup K 2 (gCons (gName j) (gCons (gName l) gNil))) t te vs) σ H (given n f v) := fun H0 e Q q => h H0 e _ fun H1 e1 => ⟨w, w', rfl,
  lcW (walk_zipSS (x := w) (y := w') hsz.symm) hn (fun _ _ => trivial) f v (fun i => ((wipe σ vs).set j (some (.str ⟨#[c i]⟩))).set l (some (.str ⟨#[c' i]⟩))) (fun i x H H' hi ex y =>
    hg_pair (fun i => .str ⟨#[c i]⟩) (fun i => .str ⟨#[c' i]⟩) (n := n) (fun i hi => by rw [hc i hi]; rfl) (fun i hi => by rw [hc' i hi]; rfl) i x H H' hi ex y)
    (fun i _ => hw _ _) (fun i hi => ht i H1 (e.trans e1) hi) (fun i hi => he i H1 (e.trans e1) hi) fun p H2 hp e2 h2 => q p H2 (fresh_back e1 hp) (e1.trans e2) h2⟩
/-- [.. for a, b in zip(text, list)] -/
theorem el_lcZSL {w : Str} {a : Addr} {ys : List V} {n : Nat} {c : Nat → Nat} {d : Nat → V} {ta : TA} {j l : Nat} {vs : List Nat} (f : Nat → Bool) (v : Nat → V) (h : EvA ta σ H [.str w, .ref a]) (hq : SqL K H a ys) (hsz : min w.cps.size ys.length = n) (hc : ∀ i, i < n → w.cps[i]? = some (c i)) (hd : ∀ i, i < n → ys[i]? = some (d i)) (hn : n ≤ 40000)
    (hw : ∀ x y, wipe (((wipe σ vs).set j (some x)).set l (some y)) vs = wipe σ vs) (ht : ∀ i H1, Ex H H1 → i < n → EvT t (((wipe σ vs).set j (some (.str ⟨#[c i]⟩))).set l (some (d i))) H1 (f i))
    (he : ∀ i H1, Ex H H1 → i < n → f i = true → Ev te (((wipe σ vs).set j (some (.str ⟨#[c i]⟩))).set l (some (d i))) H1 (v i)) :
    EvL (tLc (iZipSL K ta) (gTup K 2 (gCons (gName j) (gCons (gName l) gNil))) t te vs) σ H (given n f v) := fun H0 e Q q => h H0 e _ fun H1 e1 => ⟨w, a, ys, rfl, ex_l (e.trans e1) hq,
  lcW (walk_zipSL (x := w) (a := a) (ys := ys) hsz.symm) hn (fun H' e' => ex_l ((e.trans e1).trans e') hq) f v (fun i => ((wipe σ vs).set j (some (.str ⟨#[c i]⟩))).set l (some (d i))) (fun i x H H' hi ex y =>
    hg_pair (fun i => .str ⟨#[c i]⟩) d (n := n) (fun i hi => by rw [hc i hi]; rfl) (fun i hi => hd i hi) i x H H' hi ex y)
    (fun i _ => hw _ _) (fun i hi => ht i H1 (e.trans e1) hi) (fun i hi => he i H1 (e.trans e1) hi) fun p H2 hp e2 h2 => q p H2 (fresh_back e1 hp) (e1.trans e2) h2⟩
/-- [.. for a, b in zip(list, list)] -/
theorem el_lcZLL {b a : Addr} {xs ys : List V} {n : Nat} {c d : Nat → V} {ta : TA} {j l : Nat} {vs : List Nat} (f : Nat → Bool) (v : Nat → V) (h : EvA ta σ H [.ref b, .ref a]) (hp : SqL K H b xs) (hq : SqL K H a ys) (hsz : min xs.length ys.length = n) (hc : ∀ i, i < n → xs[i]? = some (c i)) (hd : ∀ i, i < n → ys[i]? = some (d i)) (hn : n ≤ 40000)
    (hw : ∀ x y, wipe (((wipe σ vs).set j (some x)).set l (some y)) vs = wipe σ vs) (ht : ∀ i H1, Ex H H1 → i < n → EvT t (((wipe σ vs).set j (some (c i))).set l (some (d i))) H1 (f i))
    (he : ∀ i H1, Ex H H1 → i < n → f i = true → Ev te (((wipe σ vs).set j (some (c i))).set l (some (d i))) H1 (v i)) :
    EvL (tLc (iZip K ta) (gTup K 2 (gCons (gName j) (gCons (gName l) gNil))) t te vs) σ H (given n f v) := fun H0 e Q q => h H0 e _ fun H1 e1 => ⟨b, a, xs, ys, rfl, ex_l (e.trans e1) hp, ex_l (e.trans e1) hq,
  lcW (walk_zip (a := b) (b := a) (xs := xs) (ys := ys) hsz.symm) hn (fun H' e' => ⟨ex_l ((e.trans e1).trans e') hp, ex_l ((e.trans e1).trans e') hq⟩) f v (fun i => ((wipe σ vs).set j (some (c i))).set l (some (d i))) (fun i x H H' hi ex y =>
    hg_pair c d (n := n) hc hd i x H H' hi ex y)
    (fun i _ => hw _ _) (fun i hi => ht i H1 (e.trans e1) hi) (fun i hi => he i H1 (e.trans e1) hi) fun p H2 hp e2 h2 => q p H2 (fresh_back e1 hp) (e1.trans e2) h2⟩
/-- [.. for i, x in enumerate(list)] -/
theorem el_lcEL {a : Addr} {xs : List V} {n : Nat} {d : Nat → V} {ta : TA} {j l : Nat} {vs : List Nat} (f : Nat → Bool) (v : Nat → V) (h : EvA ta σ H [.ref a]) (hq : SqL K H a xs) (hsz : xs.length = n) (hd : ∀ i, i < n → xs[i]? = some (d i)) (hn : n ≤ 40000)
    (hw : ∀ x y, wipe (((wipe σ vs).set j (some x)).set l (some y)) vs = wipe σ vs) (ht : ∀ i H1, Ex H H1 → i < n → EvT t (((wipe σ vs).set j (some (.int (i : Nat)))).set l (some (d i))) H1 (f i))
    (he : ∀ i H1, Ex H H1 → i < n → f i = true → Ev te (((wipe σ vs).set j (some (.int (i : Nat)))).set l (some (d i))) H1 (v i)) :
    EvL (tLc (iEnum K ta) (gTup K 2 (gCons (gName j) (gCons (gName l) gNil))) t te vs) σ H (given n f v) := fun H0 e Q q => h H0 e _ fun H1 e1 => ⟨a, xs, rfl, ex_l (e.trans e1) hq, by
  subst hsz
  exact lcW (walk_enum (a := a) (xs := xs)) hn (fun H' e' => ex_l ((e.trans e1).trans e') hq) f v (fun i => ((wipe σ vs).set j (some (.int (i : Nat)))).set l (some (d i))) (fun i x H H' hi ex y =>
    hg_pair (fun i => .int (i : Nat)) d (n := xs.length) (fun i _ => rfl) hd i x H H' hi ex y)
    (fun i _ => hw _ _) (fun i hi => ht i H1 (e.trans e1) hi) (fun i hi => he i H1 (e.trans e1) hi) fun p H2 hp e2 h2 => q p H2 (fresh_back e1 hp) (e1.trans e2) h2⟩
/-- all turns give -/
theorem given_all (n : Nat) (v : Nat → V) : given n (fun _ => true) v = (List.range n).map v := by
  unfold given
  rw [List.filter_eq_self.mpr fun _ _ => rfl]
theorem given_count (n : Nat) (f : Nat → Bool) (v : Nat → V) : (given n f v).length = ((List.range n).filter f).length := by
  unfold given
  rw [List.length_map]
theorem given_ext {n : Nat} {f : Nat → Bool} {v w : Nat → V} (h : ∀ i, i < n → v i = w i) : given n f v = given n f w := by
  unfold given
  exact List.map_congr_left fun i hi => h i (List.mem_range.mp (List.mem_filter.mp hi).1)
theorem ev_list {xs ys : List V} (h : EvL te σ H xs) (e : xs = ys) : EvL te σ H ys := by
  rw [← e]
  exact h
/-- the test of a comprehension without ifs -/
theorem et_yes : EvT (fun _ H Q => Q true H) σ H true := fun H1 _ _ q => q H1 (Ex.refl H1)
/-- for over any walk -/
theorem s_forW {J : It} {n : Nat} {G : Hp → Prop} {Y : Nat → Hp → V → Hp → Prop} (w : Walk J n G Y) {wi : TI} {g : TG} {tu : TS} {D : Ends} (hi : ∀ H1, Ex H H1 → ∀ R : It → Hp → Prop, (∀ H2, Ex H1 H2 → R J H2) → wi σ H1 R) (Pv : Nat → L2.St → Hp → Prop) (h0 : ∀ H1, Ex H H1 → Pv 0 σ H1)
    (hG : ∀ i σ' H', i ≤ n → Pv i σ' H' → G H') (hs : ∀ i x σ' H1 H', i < n → Pv i σ' H1 → Y i H1 x H' → g x σ' H' fun σ2 H2 => tu { D with nx := Pv (i + 1), ct := Pv (i + 1), bk := D.nx } σ2 H2) (hd : ∀ σ' H', Pv n σ' H' → D.nx σ' H') :
    tFor wi g tu D σ H := hi H (Ex.refl H) _ fun H1 e => for_it w Pv (h0 H1 e) hG hs hd
end
end HA

end
section
namespace HA
/-! Plain mathematics: sums, counts, half alike tables. -/
/-! ### sums -/
def S : Nat → (Nat → Int) → Int
  | 0, _ => 0
  | n + 1, g => S n g + g n
theorem S_congr : ∀ {n : Nat} {g h : Nat → Int}, (∀ k, k < n → g k = h k) → S n g = S n h
  | 0, _, _, _ => rfl
  | n + 1, g, h, e => by
    show S n g + g n = S n h + h n
    rw [S_congr (n := n) fun k hk => e k (by omega), e n (by omega)]
theorem S_add : ∀ (n : Nat) (g h : Nat → Int), S n (fun k => g k + h k) = S n g + S n h
  | 0, _, _ => rfl
  | n + 1, g, h => by
    show S n (fun k => g k + h k) + (g n + h n) = S n g + g n + (S n h + h n)
    rw [S_add n g h]
    omega
theorem S_zero : ∀ n : Nat, S n (fun _ => 0) = 0
  | 0 => rfl
  | n + 1 => by
    show S n (fun _ => 0) + 0 = 0
    rw [S_zero n]
    rfl
theorem S_mulL : ∀ (n : Nat) (c : Int) (g : Nat → Int), S n (fun k => c * g k) = c * S n g
  | 0, c, _ => (Int.mul_zero c).symm
  | n + 1, c, g => by
    show S n (fun k => c * g k) + c * g n = c * (S n g + g n)
    rw [S_mulL n c g, Int.mul_add]
theorem S_mulR (n : Nat) (c : Int) (g : Nat → Int) : S n (fun k => g k * c) = S n g * c := by
  rw [Int.mul_comm, ← S_mulL]
  exact S_congr fun k _ => Int.mul_comm _ _
theorem S_neg (n : Nat) (g : Nat → Int) : S n (fun k => -g k) = -S n g := by
  have h := S_mulL n (-1) g
  rw [Int.neg_one_mul] at h
  rw [← h]
  exact S_congr fun k _ => (Int.neg_one_mul _).symm
theorem S_const : ∀ (n : Nat) (c : Int), S n (fun _ => c) = n * c
  | 0, c => by simp [S]
  | n + 1, c => by
    show S n (fun _ => c) + c = ((n + 1 : Nat) : Int) * c
    rw [S_const n c, Int.natCast_add, Int.add_mul]
    simp
theorem S_swap : ∀ (n m : Nat) (F : Nat → Nat → Int), S n (fun a => S m (fun b => F a b)) = S m (fun b => S n (fun a => F a b))
  | 0, m, F => (S_zero m).symm
  | n + 1, m, F => by
    show S n (fun a => S m (fun b => F a b)) + S m (fun b => F n b) = S m (fun b => S n (fun a => F a b) + F n b)
    rw [S_add, S_swap n m F]
theorem S_nonneg : ∀ {n : Nat} {g : Nat → Int}, (∀ k, k < n → 0 ≤ g k) → 0 ≤ S n g
  | 0, _, _ => Int.le_refl _
  | n + 1, g, h => by
    have h1 := S_nonneg (n := n) fun k hk => h k (by omega)
    have h2 := h n (by omega)
    show 0 ≤ S n g + g n
    omega
theorem S_zero_each : ∀ {n : Nat} {g : Nat → Int}, (∀ k, k < n → 0 ≤ g k) → S n g = 0 → ∀ k, k < n → g k = 0
  | 0, _, _, _, k, hk => absurd hk (by omega)
  | n + 1, g, h, e, k, hk => by
    have h1 := S_nonneg (n := n) (g := g) fun k hk => h k (by omega)
    have h2 := h n (by omega)
    have e' : S n g + g n = 0 := e
    by_cases hkn : k = n
    · subst hkn; omega
    · exact S_zero_each (n := n) (fun k hk => h k (by omega)) (by omega) k (by omega)
theorem S_split (n : Nat) : ∀ (m : Nat) (g : Nat → Int), S (n + m) g = S n g + S m (fun k => g (n + k))
  | 0, g => by
    show S n g = S n g + 0
    omega
  | m + 1, g => by
    show S (n + m) g + g (n + m) = S n g + (S m (fun k => g (n + k)) + g (n + m))
    rw [S_split n m g]
    omega
theorem S_one : ∀ {n : Nat} {g : Nat → Int} {a : Nat}, a < n → (∀ k, k < n → k ≠ a → g k = 0) → S n g = g a
  | 0, _, _, h, _ => absurd h (by omega)
  | n + 1, g, a, h, z => by
    show S n g + g n = g a
    by_cases e : a = n
    · subst e
      rw [S_congr (h := fun _ => 0) fun k hk => z k (by omega) (by omega), S_zero]
      omega
    · rw [S_one (n := n) (a := a) (by omega) fun k hk hne => z k (by omega) hne, z n (by omega) (by omega)]
      omega
/-! ### counts -/
def cnt (n : Nat) (p : Nat → Bool) : Nat := ((List.range n).filter p).length
theorem cnt_zero (p : Nat → Bool) : cnt 0 p = 0 := rfl
theorem cnt_succ (n : Nat) (p : Nat → Bool) : cnt (n + 1) p = cnt n p + (if p n = true then 1 else 0) := by
  unfold cnt
  rw [List.range_succ, List.filter_append, List.length_append]
  cases h : p n with
  | true => simp [List.filter, h]
  | false => simp [List.filter, h]
theorem cnt_le (n : Nat) (p : Nat → Bool) : cnt n p ≤ n := by
  unfold cnt
  have h := List.length_filter_le p (List.range n)
  rwa [List.length_range] at h
theorem cnt_congr : ∀ {n : Nat} {p q : Nat → Bool}, (∀ k, k < n → p k = q k) → cnt n p = cnt n q
  | 0, _, _, _ => rfl
  | n + 1, p, q, h => by
    rw [cnt_succ, cnt_succ, cnt_congr (n := n) fun k hk => h k (by omega), h n (by omega)]
theorem cnt_not : ∀ (n : Nat) (p : Nat → Bool), cnt n p + cnt n (fun k => !p k) = n
  | 0, _ => rfl
  | n + 1, p => by
    have ih := cnt_not n p
    rw [cnt_succ, cnt_succ]
    cases h : p n <;> simp <;> omega
def sg (b : Bool) : Int := if b = true then 1 else -1
theorem sg_mul (a b : Bool) : sg a * sg b = if (a == b) = true then 1 else -1 := by cases a <;> cases b <;> rfl
theorem sg_sq (a : Bool) : sg a * sg a = 1 := by cases a <;> rfl
theorem sg_not (a : Bool) : sg (!a) = -sg a := by cases a <;> rfl
theorem sg_xor (a b : Bool) : sg (a ^^ b) = -(sg a * sg b) := by cases a <;> cases b <;> rfl
def ip (n : Nat) (g h : Nat → Bool) : Int := S n (fun k => sg (g k) * sg (h k))
def alk (n : Nat) (g h : Nat → Bool) : Nat := cnt n (fun k => g k == h k)
theorem ip_alk : ∀ (n : Nat) (g h : Nat → Bool), ip n g h = 2 * (alk n g h : Int) - n
  | 0, _, _ => rfl
  | n + 1, g, h => by
    have ih : S n (fun k => sg (g k) * sg (h k)) = 2 * ((cnt n (fun k => g k == h k) : Nat) : Int) - n := ip_alk n g h
    show S n (fun k => sg (g k) * sg (h k)) + sg (g n) * sg (h n) = 2 * ((cnt (n + 1) (fun k => g k == h k) : Nat) : Int) - ((n + 1 : Nat) : Int)
    rw [cnt_succ, ih, sg_mul]
    cases e : (g n == h n) <;> simp <;> omega
theorem alk_le (n : Nat) (g h : Nat → Bool) : alk n g h ≤ n := cnt_le _ _
theorem alk_comm (n : Nat) (g h : Nat → Bool) : alk n g h = alk n h g := cnt_congr fun k _ => by cases g k <;> cases h k <;> rfl
theorem alk_congr {n : Nat} {g h g' h' : Nat → Bool} (e : ∀ k, k < n → g k = g' k) (e' : ∀ k, k < n → h k = h' k) : alk n g h = alk n g' h' := cnt_congr fun k hk => by rw [e k hk, e' k hk]
theorem ip_comm (n : Nat) (g h : Nat → Bool) : ip n g h = ip n h g := S_congr fun k _ => Int.mul_comm _ _
theorem ip_congr {n : Nat} {g h g' h' : Nat → Bool} (e : ∀ k, k < n → g k = g' k) (e' : ∀ k, k < n → h k = h' k) : ip n g h = ip n g' h' := S_congr fun k hk => by rw [e k hk, e' k hk]
theorem ip_self (n : Nat) (g : Nat → Bool) : ip n g g = n := by
  show S n (fun k => sg (g k) * sg (g k)) = n
  rw [S_congr (h := fun _ => 1) fun k _ => sg_sq _, S_const]
  omega
theorem ip_zero_iff (n : Nat) (g h : Nat → Bool) : ip n g h = 0 ↔ 2 * alk n g h = n := by
  rw [ip_alk]
  omega
/-! ### half alike -/
def halfB (n : Nat) (f : Nat → Nat → Bool) : Bool := (List.range n).all fun j => (List.range j).all fun i => decide (2 * alk n (f i) (f j) = n)
def Had (n : Nat) (f : Nat → Nat → Bool) : Prop := ∀ i, i < n → ∀ j, j < n → i ≠ j → ip n (f i) (f j) = 0
theorem halfB_iff (n : Nat) (f : Nat → Nat → Bool) : halfB n f = true ↔ ∀ j, j < n → ∀ i, i < j → 2 * alk n (f i) (f j) = n := by
  unfold halfB
  simp only [List.all_eq_true, List.mem_range, decide_eq_true_eq]
theorem half_had {n : Nat} {f : Nat → Nat → Bool} (h : halfB n f = true) : Had n f := fun i hi j hj hne => by
  rw [halfB_iff] at h
  by_cases hlt : i < j
  · exact (ip_zero_iff _ _ _).mpr (h j hj i hlt)
  · rw [ip_comm]
    exact (ip_zero_iff _ _ _).mpr (h i hi j (by omega))
theorem had_half {n : Nat} {f : Nat → Nat → Bool} (h : Had n f) : halfB n f = true := by
  rw [halfB_iff]
  exact fun j hj i hi => (ip_zero_iff _ _ _).mp (h i (by omega) j hj (by omega))
theorem halfB_congr {n : Nat} {f g : Nat → Nat → Bool} (e : ∀ i, i < n → ∀ j, j < n → f i j = g i j) : halfB n f = halfB n g := by
  rw [Bool.eq_iff_iff, halfB_iff, halfB_iff]
  constructor
  · intro h j hj i hi
    rw [← h j hj i hi]
    exact congrArg (2 * ·) (by rw [h j hj i hi]; exact alk_congr (fun k hk => (e i (by omega) k hk).symm) (fun k hk => (e j hj k hk).symm))
  · intro h j hj i hi
    rw [← h j hj i hi]
    exact congrArg (2 * ·) (by rw [h j hj i hi]; exact alk_congr (fun k hk => e i (by omega) k hk) (fun k hk => e j hj k hk))
/-- the columns of a half alike table are half alike -/
theorem had_tr {n : Nat} {f : Nat → Nat → Bool} (h : Had n f) : Had n (fun i j => f j i) := by
  let s : Nat → Nat → Int := fun i k => sg (f i k)
  let C : Nat → Nat → Int := fun a b => S n (fun k => s k a * s k b)
  let R : Nat → Nat → Int := fun i j => S n (fun k => s i k * s j k)
  have hR : ∀ i, i < n → ∀ j, j < n → i ≠ j → R i j = 0 := fun i hi j hj hne => h i hi j hj hne
  have hRd : ∀ i, R i i = n := fun i => ip_self n (f i)
  have hCd : ∀ a, C a a = n := fun a => ip_self n (fun k => f k a)
  -- the sums of all squares are the same
  have e1 : S n (fun a => S n (fun b => C a b * C a b)) = S n (fun k => S n (fun l => R k l * R k l)) := by
    have x1 : ∀ a b, C a b * C a b = S n (fun k => S n (fun l => s k a * s k b * (s l a * s l b))) := fun a b => by
      show C a b * C a b = _
      rw [show (fun k => S n (fun l => s k a * s k b * (s l a * s l b))) = (fun k => s k a * s k b * C a b) from funext fun k => S_mulL n _ _, S_mulR]
    have x2 : ∀ k l, R k l * R k l = S n (fun a => S n (fun b => s k a * s l a * (s k b * s l b))) := fun k l => by
      show R k l * R k l = _
      rw [show (fun a => S n (fun b => s k a * s l a * (s k b * s l b))) = (fun a => s k a * s l a * R k l) from funext fun a => S_mulL n _ _, S_mulR]
    rw [S_congr (h := fun a => S n (fun b => S n (fun k => S n (fun l => s k a * s k b * (s l a * s l b))))) fun a _ => S_congr fun b _ => x1 a b]
    rw [S_congr (n := n) (g := fun k => S n (fun l => R k l * R k l)) (h := fun k => S n (fun l => S n (fun a => S n (fun b => s k a * s l a * (s k b * s l b))))) fun k _ => S_congr fun l _ => x2 k l]
    -- move a, b inside
    rw [S_congr (n := n) (h := fun a => S n (fun k => S n (fun l => S n (fun b => s k a * s k b * (s l a * s l b))))) fun a _ => by
      rw [S_swap]
      exact S_congr fun k _ => S_swap n n _]
    rw [S_swap]
    refine S_congr fun k _ => ?_
    rw [S_swap]
    refine S_congr fun l _ => S_congr fun a _ => S_congr fun b _ => ?_
    show s k a * s k b * (s l a * s l b) = s k a * s l a * (s k b * s l b)
    rw [Int.mul_assoc, Int.mul_assoc, Int.mul_left_comm (s k b)]
  have e2 : S n (fun k => S n (fun l => R k l * R k l)) = S n (fun _ => (n : Int) * n) := S_congr fun k hk => by
    rw [S_one (a := k) hk fun l hl hne => by rw [hR k hk l hl (Ne.symm hne)]; rfl, hRd]
  have e3 : S n (fun a => S n (fun b => C a b * C a b - (if a = b then (n : Int) * n else 0))) = 0 := by
    have y1 : S n (fun a => S n (fun b => C a b * C a b - (if a = b then (n : Int) * n else 0))) = S n (fun a => S n (fun b => C a b * C a b) + -S n (fun b => if a = b then (n : Int) * n else 0)) := S_congr fun a _ => by
      rw [← S_neg, ← S_add]
      exact S_congr fun b _ => by omega
    have y2 : S n (fun a => S n (fun b => if a = b then (n : Int) * n else 0)) = S n (fun _ => (n : Int) * n) := S_congr fun a ha => by
      rw [S_one (a := a) ha fun b hb hne => if_neg (Ne.symm hne), if_pos rfl]
    rw [y1, S_add, S_neg, y2, e1, e2]
    omega
  intro i hi j hj hne
  have z1 : ∀ a, a < n → ∀ b, b < n → 0 ≤ C a b * C a b - (if a = b then (n : Int) * n else 0) := fun a _ b _ => by
    by_cases e : a = b
    · subst e
      rw [if_pos rfl, hCd]
      omega
    · rw [if_neg e]
      have : 0 ≤ C a b * C a b := by
        rcases Int.le_total 0 (C a b) with q | q
        · exact Int.mul_nonneg q q
        · exact Int.mul_nonneg_of_nonpos_of_nonpos q q
      omega
  have z2 := S_zero_each (n := n) (fun a ha => S_nonneg fun b hb => z1 a ha b hb) e3 i hi
  have z3 := S_zero_each (n := n) (fun b hb => z1 i hi b hb) z2 j hj
  have z4 : C i j * C i j - (if i = j then (n : Int) * n else 0) = 0 := z3
  rw [if_neg hne] at z4
  have z5 : C i j * C i j = 0 := by omega
  rcases Int.mul_eq_zero.mp z5 with q | q <;> exact q
/-- rows in another turn, some turned -/
theorem had_perm {n : Nat} {f g : Nat → Nat → Bool} (π : Nat → Nat) (e : Nat → Bool) (hπ : ∀ i, i < n → π i < n) (inj : ∀ i, i < n → ∀ j, j < n → π i = π j → i = j) (hg : ∀ i, i < n → ∀ k, k < n → g i k = (f (π i) k ^^ e i)) (h : Had n f) : Had n g := fun i hi j hj hne => by
  have hz := h (π i) (hπ i hi) (π j) (hπ j hj) fun q => hne (inj i hi j hj q)
  have q : ip n (g i) (g j) = sg (e i) * sg (e j) * ip n (f (π i)) (f (π j)) := by
    show S n _ = _ * S n _
    rw [← S_mulL]
    refine S_congr fun k hk => ?_
    rw [hg i hi k hk, hg j hj k hk, sg_xor, sg_xor]
    cases f (π i) k <;> cases f (π j) k <;> cases e i <;> cases e j <;> rfl
  rw [q, hz, Int.mul_zero]
/-- each row twice, and once with its second half turned -/
def dbl (n : Nat) (f : Nat → Nat → Bool) (i j : Nat) : Bool := if i < n then f i (if j < n then j else j - n) else (if j < n then f (i - n) j else !f (i - n) (j - n))
theorem ip_split (n m : Nat) (g h : Nat → Bool) : ip (n + m) g h = ip n g h + ip m (fun k => g (n + k)) (fun k => h (n + k)) := S_split n m _
theorem had_dbl {n : Nat} {f : Nat → Nat → Bool} (h : Had n f) : Had (n + n) (dbl n f) := fun i hi j hj hne => by
  have lo : ∀ a, ip n (fun k => dbl n f a k) (fun k => dbl n f a k) = ip n (fun k => dbl n f a k) (fun k => dbl n f a k) := fun _ => rfl
  have lowA : ∀ a, a < n → ∀ k, k < n → dbl n f a k = f a k := fun a ha k hk => by unfold dbl; rw [if_pos ha, if_pos hk]
  have highA : ∀ a, a < n → ∀ k, k < n → dbl n f a (n + k) = f a k := fun a ha k hk => by
    unfold dbl
    rw [if_pos ha, if_neg (show ¬ n + k < n by omega), show n + k - n = k by omega]
  have lowB : ∀ a, ¬ a < n → ∀ k, k < n → dbl n f a k = f (a - n) k := fun a ha k hk => by unfold dbl; rw [if_neg ha, if_pos hk]
  have highB : ∀ a, ¬ a < n → ∀ k, k < n → dbl n f a (n + k) = !f (a - n) k := fun a ha k hk => by
    unfold dbl
    rw [if_neg ha, if_neg (show ¬ n + k < n by omega), show n + k - n = k by omega]
  have ngR : ∀ g k, ip n g (fun j => !k j) = -ip n g k := fun g k => by
    show S n _ = -S n _
    rw [← S_neg]
    exact S_congr fun j _ => by rw [sg_not, Int.mul_neg]
  have ngL : ∀ g k, ip n (fun j => !g j) k = -ip n g k := fun g k => by rw [ip_comm, ngR, ip_comm]
  rw [ip_split]
  by_cases hi' : i < n
  · by_cases hj' : j < n
    · rw [ip_congr (lowA i hi') (lowA j hj'), ip_congr (g := fun k => dbl n f i (n + k)) (highA i hi') (highA j hj'), h i hi' j hj' hne]
      rfl
    · rw [ip_congr (lowA i hi') (lowB j hj'), ip_congr (g := fun k => dbl n f i (n + k)) (h' := fun k => !f (j - n) k) (highA i hi') (highB j hj'), ngR]
      omega
  · by_cases hj' : j < n
    · rw [ip_congr (lowB i hi') (lowA j hj'), ip_congr (g := fun k => dbl n f i (n + k)) (g' := fun k => !f (i - n) k) (highB i hi') (highA j hj'), ngL]
      omega
    · rw [ip_congr (lowB i hi') (lowB j hj'), ip_congr (g := fun k => dbl n f i (n + k)) (g' := fun k => !f (i - n) k) (h' := fun k => !f (j - n) k) (highB i hi') (highB j hj'), ngL, ngR, h (i - n) (by omega) (j - n) (by omega) (by omega)]
      rfl
/-! ### the table of a prime and one -/
def isSq (p r : Nat) : Bool := (List.range (p - 1)).any fun k => (k + 1) * (k + 1) % p == r
def pri (p i j : Nat) : Bool := if i = 0 then true else if j = 0 then false else (decide (j = i) || isSq p ((j + p - i) % p))
end HA
namespace HA
theorem half_pri3 : halfB 4 (pri 3) = true := by decide +kernel
theorem half_pri7 : halfB 8 (pri 7) = true := by decide +kernel
theorem half_pri11 : halfB 12 (pri 11) = true := by decide +kernel
theorem half_pri19 : halfB 20 (pri 19) = true := by decide +kernel
/-- the squares as the bits of a number -/
def priM (m p i j : Nat) : Bool := if i = 0 then true else if j = 0 then false else (decide (j = i) || Nat.testBit m ((j + p - i) % p))
def sqMask (p : Nat) : Nat := (List.range p).foldl (fun a r => if isSq p r = true then a + 2 ^ r else a) 0
theorem half_priM {m p : Nat} (hp : 0 < p) (h : (List.range p).all (fun r => isSq p r == Nat.testBit m r) = true) (k : halfB (p + 1) (priM m p) = true) : halfB (p + 1) (pri p) = true := by
  rw [← k]
  refine halfB_congr fun i hi j hj => ?_
  have q : ∀ r, r < p → isSq p r = Nat.testBit m r := fun r hr => by
    have := List.all_eq_true.mp h r (List.mem_range.mpr hr)
    exact beq_iff_eq.mp this
  unfold pri priM
  rw [q _ (Nat.mod_lt _ hp)]
theorem half_pri31 : halfB 32 (pri 31) = true := half_priM (m := 303908790) (p := 31) (by decide) (by decide +kernel) (by decide +kernel)
theorem half_pri43 : halfB 44 (pri 43) = true := half_priM (m := 3678700564050) (p := 43) (by decide) (by decide +kernel) (by decide +kernel)
theorem half_pri67 : halfB 68 (pri 67) = true := half_priM (m := 61808106872519771730) (p := 67) (by decide) (by decide +kernel) (by decide +kernel)
end HA

end
section
set_option maxRecDepth 100000
set_option maxHeartbeats 4000000
namespace HA
open PySem PySem.Spec PyProof.Rows L2 Evl
/-! Promises that do not hang on the row. -/
/-- what isinstance asks of a class -/
structure IsC (K : PySem.W.Frag) (C : Addr) : Prop where
  ha : PySem.W.findIn K (.ref C) "__class__" = some (some (.builtin "object.__class__"))
  hn : PySem.W.specialIn K (.builtin "object.__class__") "__get__" = some (some (.builtin "getset_descriptor.__get__"))
  htk : PySem.W.takesIn K (.builtin "object.__class__") = some true
  hm : PySem.W.mroIn K C (.type "object") = some true
theorem IsC.ty {K : PySem.W.Frag} {C : Addr} (i : IsC K C) (c : Cls K C) {H : Hp} {a dx : Addr} {fs : List (Str × V)} (e : H a = some (.ins C dx fs)) : TyX K H (.ref a) (.ref C) := .base (.ins e c i.ha i.hn i.htk i.hm)
/-- a table that stands at a -/
def TabAt (K : PySem.W.Frag) (H : Hp) (a : Addr) (n : Nat) (f : Nat → Nat → Bool) : Prop := SqL K H a (tabV n f)
theorem TabAt.ex {K : PySem.W.Frag} {H H' : Hp} {a : Addr} {n : Nat} {f : Nat → Nat → Bool} (e : Ex H H') (h : TabAt K H a n f) : TabAt K H' a n f := ex_l e h

section
variable {K : PySem.W.Frag} {σ : L2.St} {H H' : Hp} {ta tb tc td te tx : TE} {t u : TT} {x y z v : V} {r r' r'' : R2}
theorem ev_lenT {p : Addr} {n : Nat} {f : Nat → Nat → Bool} (ha : Ev ta σ H (.ref p)) (h : TabAt K H p n f) : Ev (tCB (rLenS K) (tCons ta tNil)) σ H (.int (n : Int)) := by
  have q := ev_len (K := K) ha h
  rw [tabV_len] at q
  exact q
theorem ev_isi {ta : TA} {c : V} {tv u : Value} {b : Bool} (h : EvA ta σ H [x, c]) (hc : ClsV c u) (ht : ∀ H1, Ex H H1 → TyX K H1 x tv) (hk : PySem.W.kitOne K tv u = some b) : Ev (tCB (rIsi K) ta) σ H (.bl b) :=
  ev_cb h fun H1 e Q q => ⟨x, c, tv, u, b, rfl, hc, ht H1 e, hk, q H1 (Ex.refl H1)⟩
theorem ev_chain {k k' : Bool} {w : V} (h1 : Ev ta σ H x) (h2 : Ev tb σ H y) (hr : RV r x y H (.bl k)) (h3 : k = true → Ev tc σ H w) (hr' : k = true → RV r' y w H (.bl k')) : Ev (tChain r r' ta tb tc) σ H (.bl (k && k')) := fun H1 e Q q =>
  h1 H1 e _ fun H2 e2 => h2 H2 (e.trans e2) _ fun H3 e3 => hr H3 ((e.trans e2).trans e3) _ fun H4 e4 => ⟨k, rfl, by
    cases k with
    | true =>
      show tc σ H4 fun w' H5 => r' y w' H5 Q
      exact h3 rfl H4 (((e.trans e2).trans e3).trans e4) _ fun H5 e5 => hr' rfl H5 ((((e.trans e2).trans e3).trans e4).trans e5) Q fun H6 e6 => q H6 ((((e2.trans e3).trans e4).trans e5).trans e6)
    | false =>
      show Q (.bl false) H4
      exact q H4 ((e2.trans e3).trans e4)⟩
theorem ev_chain3 {k k' k'' : Bool} {w w2 : V} (h1 : Ev ta σ H x) (h2 : Ev tb σ H y) (hr : RV r x y H (.bl k)) (h3 : k = true → Ev tc σ H w) (hr' : k = true → RV r' y w H (.bl k')) (h4 : k = true → k' = true → Ev td σ H w2) (hr'' : k = true → k' = true → RV r'' w w2 H (.bl k'')) :
    Ev (tChain3 r r' r'' ta tb tc td) σ H (.bl (k && (k' && k''))) := fun H1 e Q q =>
  h1 H1 e _ fun H2 e2 => h2 H2 (e.trans e2) _ fun H3 e3 => hr H3 ((e.trans e2).trans e3) _ fun H4 e4 => ⟨k, rfl, by
    have E4 := ((e.trans e2).trans e3).trans e4
    have F4 := (e2.trans e3).trans e4
    cases k with
    | true =>
      show tc σ H4 fun y' H5 => r' y y' H5 fun z' H6 => ∃ k', z' = .bl k' ∧ (if k' = true then td σ H6 fun w' H7 => r'' y' w' H7 Q else Q (.bl false) H6)
      refine h3 rfl H4 E4 _ fun H5 e5 => hr' rfl H5 (E4.trans e5) _ fun H6 e6 => ⟨k', rfl, ?_⟩
      cases k' with
      | true =>
        show td σ H6 fun w' H7 => r'' w w' H7 Q
        exact h4 rfl rfl H6 ((E4.trans e5).trans e6) _ fun H7 e7 => hr'' rfl rfl H7 (((E4.trans e5).trans e6).trans e7) Q fun H8 e8 => q H8 ((((F4.trans e5).trans e6).trans e7).trans e8)
      | false =>
        show Q (.bl false) H6
        exact q H6 ((F4.trans e5).trans e6)
    | false =>
      show Q (.bl false) H4
      exact q H4 F4⟩
theorem ev_fld {p C dx : Addr} {fs : List (Str × V)} {f : Str} (ha : Ev ta σ H (.ref p)) (hp : H p = some (.ins C dx fs)) (c : Cls K C) (n : NoAttr K C f) (l : fs.lookup f = some v) : Ev (tFld K ta f) σ H v := fun H1 e Q q =>
  ha H1 e _ fun H2 e2 => ⟨p, C, dx, fs, v, rfl, (e.trans e2) p _ hp, c, n, l, q H2 e2⟩
theorem rv_isN : RV (fun x y H Q => y = V.non ∧ Q (V.bl (decide (x = V.non))) H) x .non H (.bl (decide (x = .non))) := fun H1 _ _ q => ⟨rfl, q H1 (Ex.refl H1)⟩
theorem rv_notB {a b : Bool} : RV rNotB (.bl a) (.bl b) H (.bl (!decide (a = b))) := fun H1 _ _ q => ⟨a, b, rfl, rfl, q H1 (Ex.refl H1)⟩
theorem rv_isB {a b : Bool} : RV rIsB (.bl a) (.bl b) H (.bl (decide (a = b))) := fun H1 _ _ q => ⟨a, b, rfl, rfl, q H1 (Ex.refl H1)⟩
theorem s_retIf {D : Ends} {b : Bool} (h : EvT t σ H b) (h1 : b = true → ∀ H1, Ex H H1 → tRet ta D σ H1) (h2 : b = false → ∀ H1, Ex H H1 → tRet tb D σ H1) : tRet (tIf t ta tb) D σ H := h H (Ex.refl H) _ fun H1 e => by
  cases b with
  | true => exact h1 rfl H1 e
  | false => exact h2 rfl H1 e
theorem s_retMk {D : Ends} {C : Addr} {sp : Sp} {dvs vs : List V} {E : XK} {t : TA} (h : EvA t σ H vs) (k : ∀ H1 x dx, Ex H H1 → H1 x = none → H1 dx = none → dx ≠ x → sp (.ref x :: (vs ++ dvs)) (upd (upd H1 dx (.own x)) x (.ins C dx [])) (fun v H2 => v = .non ∧ D.rt (.ref x) H2) E) : tRet (tMake C sp dvs E t) D σ H :=
  h H (Ex.refl H) _ fun H1 e x dx nx ndx ne => k H1 x dx e nx ndx ne
theorem bnot1 {b : Bool} (h : (!b) = true) : b = false := by
  cases b with
  | true => exact absurd h (by decide)
  | false => rfl
theorem bnot0 {b : Bool} (h : (!b) = false) : b = true := by
  cases b with
  | true => rfl
  | false => exact absurd h (by decide)
theorem dec_intB (a b : Int) : decide (V.int a = V.int b) = decide (a = b) := by
  rw [Bool.eq_iff_iff]
  simp
theorem dec_strB (a b : Str) : decide (V.str a = V.str b) = decide (a = b) := by
  rw [Bool.eq_iff_iff]
  simp
theorem dec_blB (a b : Bool) : decide (V.bl a = V.bl b) = decide (a = b) := by
  rw [Bool.eq_iff_iff]
  simp
end
def sp_is_row : Sp := fun vs H Q _ => ∃ (n : Nat) (g : Nat → Bool), vs = [.str (rowS n g), .int (n : Int)] ∧ n ≤ 1000 ∧ RetV (.bl true) H Q
def sp_asked_table (K : PySem.W.Frag) : Sp := fun vs H Q _ => ∃ (a : Addr) (n : Nat) (f : Nat → Nat → Bool), vs = [.ref a] ∧ TabAt K H a n f ∧ 1 ≤ n ∧ n ≤ 100 ∧ (∃ xs, H a = some (.lst xs)) ∧ RetV .non H Q
def sp_alike : Sp := fun vs H Q _ => ∃ (n : Nat) (g h : Nat → Bool), vs = [.str (rowS n g), .str (rowS n h)] ∧ n ≤ 1000 ∧ RetV (.int (alk n g h : Int)) H Q
def sp_first_unlike (K : PySem.W.Frag) : Sp := fun vs H Q _ => ∃ (a : Addr) (n : Nat) (f : Nat → Nat → Bool), vs = [.ref a] ∧ TabAt K H a n f ∧ n ≤ 1000 ∧ (halfB n f = true → RetV .non H Q) ∧
  (∀ i j : Nat, i < j → j < n → 2 * alk n (f i) (f j) ≠ n → ∀ p H2, H p = none → Ex H H2 → H2 p = some (.tup [.int (i : Int), .int (j : Int)]) → Q (.ref p) H2)
def sp_half (K : PySem.W.Frag) : Sp := fun vs H Q _ => ∃ (a : Addr) (n : Nat) (f : Nat → Nat → Bool), vs = [.ref a] ∧ TabAt K H a n f ∧ n ≤ 1000 ∧ RetV (.bl (halfB n f)) H Q
def sp_Half_shows (K : PySem.W.Frag) : Sp := fun vs H Q _ => ∃ (x : V) (a : Addr) (n : Nat) (f : Nat → Nat → Bool), vs = [x, .ref a] ∧ TabAt K H a n f ∧ n ≤ 1000 ∧ RetV (.bl (halfB n f)) H Q
/-- the fields of an Unlike -/
def uf (x y : V) : List (Str × V) := putF (Str.ofString "other") y (putF (Str.ofString "one") x [])
def nf (x y : V) : List (Str × V) := putF (Str.ofString "plain") y (putF (Str.ofString "row") x [])
theorem uf_one (x y : V) : (uf x y).lookup (Str.ofString "one") = some x := by
  unfold uf
  rw [lookup_putF, if_neg (by decide +kernel), lookup_putF, if_pos rfl]
theorem uf_other (x y : V) : (uf x y).lookup (Str.ofString "other") = some y := by
  unfold uf
  rw [lookup_putF, if_pos rfl]
theorem uf_no (x y : V) {m : Str} (h1 : ¬ m = Str.ofString "other") (h2 : ¬ m = Str.ofString "one") : (uf x y).lookup m = none := by
  unfold uf
  rw [lookup_putF, if_neg h1, lookup_putF, if_neg h2]
  all_goals rfl
theorem nf_row (x y : V) : (nf x y).lookup (Str.ofString "row") = some x := by
  unfold nf
  rw [lookup_putF, if_neg (by decide +kernel), lookup_putF, if_pos rfl]
theorem nf_plain (x y : V) : (nf x y).lookup (Str.ofString "plain") = some y := by
  unfold nf
  rw [lookup_putF, if_pos rfl]
theorem nf_no (x y : V) {m : Str} (h1 : ¬ m = Str.ofString "plain") (h2 : ¬ m = Str.ofString "row") : (nf x y).lookup m = none := by
  unfold nf
  rw [lookup_putF, if_neg h1, lookup_putF, if_neg h2]
  all_goals rfl
def sp_init2 (C : Addr) (mk : V → V → List (Str × V)) : Sp := fun vs H Q _ => ∃ (p dx : Addr) (x y : V), vs = [.ref p, x, y] ∧ H p = some (.ins C dx []) ∧ Q .non (upd H p (.ins C dx (mk x y)))
/-- whether two counts are those of rows that are not half alike -/
def unlB (n : Nat) (f : Nat → Nat → Bool) (i j : Int) : Bool := decide (0 ≤ i) && (decide (i < j) && (decide (j < n) && decide (2 * alk n (f i.toNat) (f j.toNat) ≠ n)))
def sp_Unlike_shows (K : PySem.W.Frag) (C : Addr) : Sp := fun vs H Q _ => ∃ (p dx a : Addr) (i j : Int) (n : Nat) (f : Nat → Nat → Bool), vs = [.ref p, .ref a] ∧ H p = some (.ins C dx (uf (.int i) (.int j))) ∧ TabAt K H a n f ∧ n ≤ 1000 ∧ RetV (.bl (unlB n f i j)) H Q
def sp_told (K : PySem.W.Frag) (CH CU : Addr) : Sp := fun vs H Q _ => ∃ (a : Addr) (n : Nat) (f : Nat → Nat → Bool), vs = [.ref a] ∧ TabAt K H a n f ∧ 1 ≤ n ∧ n ≤ 100 ∧ (∃ xs, H a = some (.lst xs)) ∧
  (halfB n f = true → ∀ p dx H2, H p = none → Ex H H2 → H2 p = some (.ins CH dx []) → Q (.ref p) H2) ∧
  (∀ i j : Nat, i < j → j < n → 2 * alk n (f i) (f j) ≠ n → ∀ p dx H2, H p = none → Ex H H2 → H2 p = some (.ins CU dx (uf (.int (i : Int)) (.int (j : Int)))) → Q (.ref p) H2)
/-! ### the law's own defs -/
/-- more bits than the script's numbers have -/
def BB : Nat := 1048700
def lawNum (c a w : Int) : Int := if (10 : Int) ^ 18 ≤ c then c / (1 + a % 7) else
  (((c + 977 * a) * 48271 + w) % 2147483647 * (c + 31 * a + 7)) * (((c + 977 * a) * 48271 + w) % 2147483647 + c + 5) * (((c + 977 * a) * 48271 + w) % 2147483647 * (((c + 977 * a) * 48271 + w) % 2147483647) + 11) / (1009 + a)
def sp_L_number : Sp := fun vs H Q _ => ∃ (c a w : Int), vs = [.int c, .int a, .int w] ∧ c.natAbs < 2 ^ BB ∧ 0 ≤ a ∧ a ≤ 10000 ∧ RetV (.int (lawNum c a w)) H Q
def sp_L_other : Sp := fun vs H Q _ => ∃ (n : Nat) (g : Nat → Bool), vs = [.str (rowS n g)] ∧ n ≤ 1000 ∧ RetV (.str (rowS n fun j => !g j)) H Q
def sp_L_doubled (K : PySem.W.Frag) : Sp := fun vs H Q _ => ∃ (a : Addr) (n : Nat) (f : Nat → Nat → Bool), vs = [.ref a] ∧ TabAt K H a n f ∧ n ≤ 1000 ∧ RetL (tabV (n + n) (dbl n f)) H Q
def sp_L_prime_table : Sp := fun vs H Q _ => ∃ (p : Nat), vs = [.int (p : Int)] ∧ 2 ≤ p ∧ p ≤ 100 ∧ RetL (tabV (p + 1) (pri p)) H Q
/-- the tables that the law makes: of 1 to 20 rows, half alike -/
def LT (n : Nat) (f : Nat → Nat → Bool) : Prop := 1 ≤ n ∧ n ≤ 20 ∧ Had n f
/-- the script's numbers -/
def Cells (ns : List Int) : Prop := ns.length ≤ 63 ∧ ∀ z ∈ ns, z.natAbs < 2 ^ BB
def sp_L_table (K : PySem.W.Frag) : Sp := fun vs H Q _ => ∃ (a : Addr) (ns : List Int), vs = [.ref a] ∧ SqL K H a (ns.map V.int) ∧ Cells ns ∧ ∀ n f, LT n f → RetL (tabV n f) H Q
def sp_law (K : PySem.W.Frag) : Sp := fun vs H Q _ => ∃ (a : Addr) (ns : List Int), vs = [.ref a] ∧ SqL K H a (ns.map V.int) ∧ ns.length ≤ 63 ∧ (∀ z ∈ ns, Builtin.Int.intBits z ≤ 1048576) ∧ ∀ H', Q (.bl true) H'
theorem bits_lt {z : Int} (h : Builtin.Int.intBits z ≤ 1048576) : z.natAbs < 2 ^ BB := by
  by_cases hz : z = 0
  · subst hz
    exact Nat.pow_pos (by decide)
  · have e : z.natAbs < 2 ^ (z.natAbs.log2 + 1) := Nat.lt_log2_self
    have k : z.natAbs.log2 + 1 ≤ 1048576 := by
      unfold Builtin.Int.intBits at h
      rw [if_neg (by simpa using hz)] at h
      exact h
    exact Nat.lt_of_lt_of_le e (Nat.pow_le_pow_right (by decide) (Nat.le_trans k (show (1048576 : Nat) ≤ 1048700 by decide)))
end HA

end
section
set_option maxRecDepth 100000
set_option maxHeartbeats 4000000
namespace HA
open PySem PySem.Spec PyProof.Rows L2 Evl
section
variable {K : PySem.W.Frag} {σ : L2.St} {H H' : Hp} {ta tb tc td te tx : TE} {t u : TT} {x y z v : V} {r r' r'' : R2}
theorem el_cat {xs ys : List V} (ha : EvL ta σ H xs) (hb : EvL tb σ H ys) (hz : xs.length + ys.length ≤ 100000) : EvL (tOp rCat ta tb) σ H (xs ++ ys) := fun H1 e Q q =>
  ha H1 e _ fun p H2 hp e2 h2 => hb H2 (e.trans e2) _ fun p' H3 hp' e3 h3 => ⟨p, p', xs, ys, rfl, rfl, e3 p _ h2, h3, sz_of hz, fun l hl => q l _ (fresh_back (e2.trans e3) hl) ((e2.trans e3).trans (Ex.new hl)) upd_same⟩
/-- a list that stands + a new one -/
theorem el_catV {a : Addr} {xs ys : List V} (ha : Ev ta σ H (.ref a)) (hx : H a = some (.lst xs)) (hb : EvL tb σ H ys) (hz : xs.length + ys.length ≤ 100000) : EvL (tOp rCat ta tb) σ H (xs ++ ys) := fun H1 e Q q =>
  ha H1 e _ fun H2 e2 => hb H2 (e.trans e2) _ fun p' H3 hp' e3 h3 => ⟨a, p', xs, ys, rfl, rfl, ((e.trans e2).trans e3) a _ hx, h3, sz_of hz, fun l hl => q l _ (fresh_back (e2.trans e3) hl) ((e2.trans e3).trans (Ex.new hl)) upd_same⟩
theorem el_if {b : Bool} {xs : List V} (h : EvT t σ H b) (h1 : b = true → EvL ta σ H xs) (h2 : b = false → EvL tb σ H xs) : EvL (tIf t ta tb) σ H xs := fun H1 e Q q => h H1 e _ fun H2 e2 => by
  cases b with
  | true =>
    show ta σ H2 Q
    exact h1 rfl H2 (e.trans e2) Q fun p H3 hp e3 h3 => q p H3 (fresh_back e2 hp) (e2.trans e3) h3
  | false =>
    show tb σ H2 Q
    exact h2 rfl H2 (e.trans e2) Q fun p H3 hp e3 h3 => q p H3 (fresh_back e2 hp) (e2.trans e3) h3
theorem el_rev {a : Addr} {xs : List V} (ha : Ev ta σ H (.ref a)) (hx : SqL K H a xs) : EvL (tRevL K ta) σ H xs.reverse := fun H1 e Q q =>
  ha H1 e _ fun H2 e2 => ⟨a, xs, rfl, ex_l (e.trans e2) hx, fun l hl => q l _ (fresh_back e2 hl) (e2.trans (Ex.new hl)) upd_same⟩
theorem el_listOf {a : Addr} {xs : List V} (ha : Ev ta σ H (.ref a)) (hx : SqL K H a xs) : EvL (tCB (rListS K) (tCons ta tNil)) σ H xs := el_list ha hx
end
/-! ### rows, more -/
theorem rowS_app (n m : Nat) (g h : Nat → Bool) : rowS n g ++ rowS m h = rowS (n + m) (fun j => if j < n then g j else h (j - n)) := by
  apply str_ext
  rw [app_cps, Array.toList_append]
  show ((List.range n).map fun j => cp (g j)) ++ ((List.range m).map fun j => cp (h j)) = (List.range (n + m)).map fun j => cp (if j < n then g j else h (j - n))
  rw [List.range_add, List.map_append, List.map_map]
  congr 1
  · exact List.map_congr_left fun j hj => by rw [if_pos (List.mem_range.mp hj)]
  · exact List.map_congr_left fun j hj => by
      show cp (h j) = cp (if n + j < n then g (n + j) else h (n + j - n))
      rw [if_neg (by omega), show n + j - n = j by omega]
theorem rowS_one (b : Bool) : rowS 1 (fun _ => b) = sgS b := rfl
theorem rowS_snoc (n : Nat) (g : Nat → Bool) : rowS n g ++ sgS (g n) = rowS (n + 1) g := by
  rw [← rowS_one, rowS_app]
  exact rowS_ext fun j hj => by
    by_cases h : j < n
    · rw [if_pos h]
    · rw [if_neg h, show j = n by omega]
theorem cutS_row (n : Nat) (g : Nat → Bool) (lo hi : Nat) : cutS (rowS n g) (some (lo : Int)) (some (hi : Int)) = rowS (min hi n - min lo n) (fun j => g (j + min lo n)) := by
  unfold cutS
  rw [rowS_len, HT.sIx_nat, HT.sIx_nat]
  apply str_ext
  show (((List.range n).map fun j => cp (g j)).drop (min lo n)).take (min hi n - min lo n) = (List.range (min hi n - min lo n)).map fun j => cp (g (j + min lo n))
  apply List.ext_getElem?
  intro i
  rw [List.getElem?_take]
  by_cases hi' : i < min hi n - min lo n
  · rw [if_pos hi', List.getElem?_drop, List.getElem?_map, List.getElem?_map, List.getElem?_range (by omega), List.getElem?_range hi']
    show some (cp (g (min lo n + i))) = some (cp (g (i + min lo n)))
    rw [Nat.add_comm]
  · rw [if_neg hi', List.getElem?_map, List.getElem?_eq_none (by rw [List.length_range]; omega)]
    rfl
theorem cutS_to (n : Nat) (g : Nat → Bool) (hi : Nat) : cutS (rowS n g) none (some (hi : Int)) = rowS (min hi n) g := by
  have e : cutS (rowS n g) none (some (hi : Int)) = cutS (rowS n g) (some ((0 : Nat) : Int)) (some (hi : Int)) := by
    unfold cutS
    rw [HT.sIx_none, show HT.sIx (rowS n g).length 0 (some ((0 : Nat) : Int)) = 0 from (HT.sIx_nat _ _ _).trans (Nat.zero_min _)]
  rw [e, cutS_row, Nat.zero_min]
  exact rowS_ext fun j hj => rfl
theorem cutS_from (n : Nat) (g : Nat → Bool) (lo : Nat) : cutS (rowS n g) (some (lo : Int)) none = rowS (n - min lo n) (fun j => g (j + min lo n)) := by
  have e : cutS (rowS n g) (some (lo : Int)) none = cutS (rowS n g) (some (lo : Int)) (some (n : Int)) := by
    unfold cutS
    rw [rowS_len, HT.sIx_none, HT.sIx_nat, HT.sIx_nat, Nat.min_self]
  rw [e, cutS_row, Nat.min_self]
/-- one sign of a row changed -/
def bend (g : Nat → Bool) (k : Nat) : Nat → Bool := fun j => if j = k then !g j else g j
theorem bend_row (n : Nat) (g : Nat → Bool) (k : Nat) (hk : k < n) : cutS (rowS n g) none (some (k : Int)) ++ sgS (!g k) ++ cutS (rowS n g) (some ((k + 1 : Nat) : Int)) none = rowS n (bend g k) := by
  rw [cutS_to, cutS_from, show min k n = k by omega, show min (k + 1) n = k + 1 by omega]
  have e : rowS k g ++ sgS (!g k) = rowS (k + 1) (bend g k) := by
    have q := rowS_snoc k (bend g k)
    have q1 : rowS k (bend g k) = rowS k g := rowS_ext fun j hj => by unfold bend; rw [if_neg (by omega)]
    have q2 : bend g k k = !g k := by unfold bend; rw [if_pos rfl]
    rw [q1, q2] at q
    exact q
  rw [e, rowS_app, show k + 1 + (n - (k + 1)) = n by omega]
  refine rowS_ext fun j hj => ?_
  by_cases h : j < k + 1
  · rw [if_pos h]
  · rw [if_neg h]
    show g (j - (k + 1) + (k + 1)) = bend g k j
    unfold bend
    rw [if_neg (by omega), show j - (k + 1) + (k + 1) = j by omega]
/-! ### comparisons of lists -/
def strG (z : Str) : Bool := PyData.canLay0 (.str z)
theorem rowS_ok (n : Nat) (g : Nat → Bool) : strG (rowS n g) = true := by
  unfold strG
  show ((rowS n g).cps.all (· < 0x110000)) = true
  have h : ∀ c ∈ (rowS n g).cps.toList, c = 43 ∨ c = 45 := fun c hc => by
    have hc' : c ∈ (List.range n).map fun j => cp (g j) := hc
    obtain ⟨j, _, rfl⟩ := List.mem_map.mp hc'
    unfold cp
    split
    · exact .inl rfl
    · exact .inr rfl
  first
    | (rw [Array.all_eq_true']; intro c hc; rcases h c (by simpa using hc) with rfl | rfl <;> decide)
    | (simp only [Array.all_eq_true, decide_eq_true_eq]; intro i hi; rcases h _ (Array.getElem_mem_toList hi) with q | q <;> rw [q] <;> decide)
theorem canLay_strs : ∀ zs : List Str, (∀ z ∈ zs, strG z = true) → PyData.canLayAll0 (zs.map .str) = true
  | [], _ => rfl
  | z :: r, h => by
    show (PyData.canLay0 (.str z) && PyData.canLayAll0 (r.map .str)) = true
    rw [show PyData.canLay0 (.str z) = true from h z (List.mem_cons_self ..), canLay_strs r fun y hy => h y (List.mem_cons_of_mem _ hy)]
    rfl
theorem depth_strs : ∀ zs : List Str, PyData.depthAll (zs.map .str) = 0
  | [] => rfl
  | z :: r => by
    show max (PyData.depth (.str z)) (PyData.depthAll (r.map .str)) = 0
    rw [depth_strs r]
    rfl
theorem canLay_ints : ∀ zs : List Int, PyData.canLayAll0 (zs.map .int) = true
  | [] => rfl
  | z :: r => canLay_ints r
theorem depth_ints : ∀ zs : List Int, PyData.depthAll (zs.map .int) = 0
  | [] => rfl
  | z :: r => by
    show max (PyData.depth (.int z)) (PyData.depthAll (r.map .int)) = 0
    rw [depth_ints r]
    rfl
theorem shaped_strs {zs : List Str} (h : ∀ z ∈ zs, strG z = true) : SeqAt.shaped (.list (zs.map .str)) = true := by
  unfold SeqAt.shaped
  have a : PyData.canLay0 (.list (zs.map .str)) = true := canLay_strs zs h
  have b : PyData.depth (.list (zs.map .str)) = 1 := by
    show PyData.depthAll (zs.map .str) + 1 = 1
    rw [depth_strs]
  rw [a, b]
  rfl
theorem shaped_ints (zs : List Int) : SeqAt.shaped (.list (zs.map .int)) = true := by
  unfold SeqAt.shaped
  have a : PyData.canLay0 (.list (zs.map .int)) = true := canLay_ints zs
  have b : PyData.depth (.list (zs.map .int)) = 1 := by
    show PyData.depthAll (zs.map .int) + 1 = 1
    rw [depth_ints]
  rw [a, b]
  rfl
theorem eqv_strs : ∀ xs ys : List Str, PyData.eqvAll (xs.map .str) (ys.map .str) = decide (xs = ys)
  | [], [] => rfl
  | [], _ :: _ => rfl
  | _ :: _, [] => rfl
  | x :: xs, y :: ys => by
    show ((x == y) && PyData.eqvAll (xs.map .str) (ys.map .str)) = decide (x :: xs = y :: ys)
    rw [eqv_strs xs ys, Bool.eq_iff_iff]
    simp
theorem eqv_ints : ∀ xs ys : List Int, PyData.eqvAll (xs.map .int) (ys.map .int) = decide (xs = ys)
  | [], [] => rfl
  | [], _ :: _ => rfl
  | _ :: _, [] => rfl
  | x :: xs, y :: ys => by
    show ((x == y) && PyData.eqvAll (xs.map .int) (ys.map .int)) = decide (x :: xs = y :: ys)
    rw [eqv_ints xs ys, Bool.eq_iff_iff]
    simp
section
variable {K : PySem.W.Frag} {H : Hp}
theorem dp_strs : ∀ zs : List Str, DpAll K H (zs.map V.str) (zs.map .str)
  | [] => .nil
  | z :: r => .cons (.str z) (dp_strs r)
theorem dp_ints : ∀ zs : List Int, DpAll K H (zs.map V.int) (zs.map .int)
  | [] => .nil
  | z :: r => .cons (.int z) (dp_ints r)
theorem tabV_strs (n : Nat) (f : Nat → Nat → Bool) : tabV n f = ((List.range n).map fun i => rowS n (f i)).map V.str := by
  unfold tabV
  rw [List.map_map]
  rfl
theorem tab_good (n : Nat) (f : Nat → Nat → Bool) : ∀ z ∈ ((List.range n).map fun i => rowS n (f i)), strG z = true := fun z hz => by
  obtain ⟨i, _, rfl⟩ := List.mem_map.mp hz
  exact rowS_ok n (f i)
theorem rv_neS {a b : Addr} {xs ys : List Str} (ha : SqL K H a (xs.map V.str)) (hb : SqL K H b (ys.map V.str)) (gx : ∀ z ∈ xs, strG z = true) (gy : ∀ z ∈ ys, strG z = true) : RV (rNeD K) (.ref a) (.ref b) H (.bl (!decide (xs = ys))) := fun H1 e Q q =>
  ⟨_, _, .lst (ex_l e ha) (dp_strs xs), .lst (ex_l e hb) (dp_strs ys), shaped_strs gx, shaped_strs gy, by
    rw [show PyData.eqv (.list (xs.map .str)) (.list (ys.map .str)) = decide (xs = ys) from eqv_strs xs ys]
    exact q H1 (Ex.refl H1)⟩
theorem rv_eqS {a b : Addr} {xs ys : List Str} (ha : SqL K H a (xs.map V.str)) (hb : SqL K H b (ys.map V.str)) (gx : ∀ z ∈ xs, strG z = true) (gy : ∀ z ∈ ys, strG z = true) : RV (rEqD K) (.ref a) (.ref b) H (.bl (decide (xs = ys))) := fun H1 e Q q =>
  ⟨_, _, .lst (ex_l e ha) (dp_strs xs), .lst (ex_l e hb) (dp_strs ys), shaped_strs gx, shaped_strs gy, by
    rw [show PyData.eqv (.list (xs.map .str)) (.list (ys.map .str)) = decide (xs = ys) from eqv_strs xs ys]
    exact q H1 (Ex.refl H1)⟩
theorem rv_neI {a b : Addr} {xs ys : List Int} (ha : SqL K H a (xs.map V.int)) (hb : SqL K H b (ys.map V.int)) : RV (rNeD K) (.ref a) (.ref b) H (.bl (!decide (xs = ys))) := fun H1 e Q q =>
  ⟨_, _, .lst (ex_l e ha) (dp_ints xs), .lst (ex_l e hb) (dp_ints ys), shaped_ints xs, shaped_ints ys, by
    rw [show PyData.eqv (.list (xs.map .int)) (.list (ys.map .int)) = decide (xs = ys) from eqv_ints xs ys]
    exact q H1 (Ex.refl H1)⟩
theorem rv_eqI {a b : Addr} {xs ys : List Int} (ha : SqL K H a (xs.map V.int)) (hb : SqL K H b (ys.map V.int)) : RV (rEqD K) (.ref a) (.ref b) H (.bl (decide (xs = ys))) := fun H1 e Q q =>
  ⟨_, _, .lst (ex_l e ha) (dp_ints xs), .lst (ex_l e hb) (dp_ints ys), shaped_ints xs, shaped_ints ys, by
    rw [show PyData.eqv (.list (xs.map .int)) (.list (ys.map .int)) = decide (xs = ys) from eqv_ints xs ys]
    exact q H1 (Ex.refl H1)⟩
/-- two lists of the same table -/
theorem rv_neTab {a b : Addr} {n : Nat} {f : Nat → Nat → Bool} (ha : TabAt K H a n f) (hb : TabAt K H b n f) : RV (rNeD K) (.ref a) (.ref b) H (.bl false) := by
  unfold TabAt at ha hb
  rw [tabV_strs] at ha hb
  have q := rv_neS ha hb (tab_good n f) (tab_good n f)
  rw [decide_eq_true rfl] at q
  exact q
theorem rv_eqTab {a b : Addr} {n : Nat} {f : Nat → Nat → Bool} (ha : TabAt K H a n f) (hb : TabAt K H b n f) : RV (rEqD K) (.ref a) (.ref b) H (.bl true) := by
  unfold TabAt at ha hb
  rw [tabV_strs] at ha hb
  have q := rv_eqS ha hb (tab_good n f) (tab_good n f)
  rw [decide_eq_true rfl] at q
  exact q
end
theorem strp : (Str.ofString "+") = sgS true := sg_plus
end HA
namespace HA
open PySem PySem.Spec PyProof.Rows L2 Evl
section
variable {K : PySem.W.Frag} {σ : L2.St} {H H' : Hp} {ta tb tc td te tx : TE} {t u : TT} {x y z v : V} {r r' r'' : R2} {D : Ends}
theorem s_asgIf {i : Nat} {b : Bool} (h : EvT t σ H b) (h1 : b = true → ∀ H1, Ex H H1 → tAsg ta (gName i) D σ H1) (h2 : b = false → ∀ H1, Ex H H1 → tAsg tb (gName i) D σ H1) : tAsg (tIf t ta tb) (gName i) D σ H := h H (Ex.refl H) _ fun H1 e => by
  cases b with
  | true => exact h1 rfl H1 e
  | false => exact h2 rfl H1 e
/-- xs.insert(i, e) -/
def rIns : V → List V → Hp → VK → Prop := fun x vs H Q => ∃ (l : Addr) (xs : List V) (i : Int) (y : V), x = .ref l ∧ vs = [.int i, y] ∧ H l = some (.lst xs) ∧ xs.length < sizeLine ∧ 0 ≤ i ∧ i < 2 ^ 63 ∧ Q .non (upd H l (.lst (xs.take i.toNat ++ [y] ++ xs.drop i.toNat)))
theorem s_ins {l : Addr} {xs : List V} {m : Nat} (hl : H l = some (.lst xs)) (ha : Ev ta σ H (.ref l)) (hi : Ev tb σ H (.int (m : Int))) (h : Ev te σ H v) (hz : xs.length < 100000) (hm : m ≤ xs.length) (k : ∀ H1, Ex H H1 → D.nx σ (upd H1 l (.lst (xs.take m ++ [v] ++ xs.drop m)))) :
    tDrop (tBM K "list" rIns ta (tCons tb (tCons te tNil))) D σ H := ha H (Ex.refl H) _ fun H1 e1 =>
  ⟨Or.inl ⟨rfl, xs, sq_of (e1 l _ hl)⟩, hi H1 e1 _ fun H2 e2 => h H2 (e1.trans e2) _ fun H3 e3 => ⟨l, xs, (m : Int), v, rfl, rfl, ((e1.trans e2).trans e3) l _ hl, sz_lt hz, by omega, by omega, k H3 ((e1.trans e2).trans e3)⟩⟩
/-- the columns of rows that stand -/
theorem tr_comp {a : Addr} {n j l : Nat} {g : Nat → Nat → Bool} {vs ws : List Nat} {ta tb tx ty : TE} (ha : ∀ x H1, Ex H H1 → Ev ta ((wipe σ vs).set j (some x)) H1 (.ref a)) (hl : EvA (tCons (tCB (rLenS K) (tCons tb tNil)) tNil) σ H [.int (n : Int)]) (hx : SqL K H a ((List.range n).map fun k => V.str (rowS n (g k)))) (hn : n ≤ 1000)
    (hw : ∀ x, wipe ((wipe σ vs).set j (some x)) vs = wipe σ vs) (hw2 : ∀ x y, wipe ((wipe ((wipe σ vs).set j (some x)) ws).set l (some y)) ws = wipe ((wipe σ vs).set j (some x)) ws)
    (hy : ∀ x y H1, Ex H H1 → Ev tx ((wipe ((wipe σ vs).set j (some x)) ws).set l (some y)) H1 y) (hz : ∀ x y H1, Ex H H1 → Ev ty ((wipe ((wipe σ vs).set j (some x)) ws).set l (some y)) H1 x) :
    EvL (tLc (iRng1 (tCons (tCB (rLenS K) (tCons tb tNil)) tNil)) (gName j) tYes (tM1 (rJoin K) (tC (.str (Str.ofString ""))) (tLc (iList K ta) (gName l) tYes (tOp rIxS tx ty) ws)) vs) σ H (tabV n fun i k => g k i) := by
  refine ev_list (el_lcR1 (n := (n : Int)) (fun _ => true) (fun i => V.str (rowS n fun k => g k i)) hl ⟨by omega, by omega⟩ hw (fun i H1 e hi => et_yes) (fun i H1 e hi _ => ?_)) ?_
  · refine ev_joinRow (K := K) (g := fun k => g k i) (ev_list (el_lcL (K := K) (xs := (List.range n).map fun k => V.str (rowS n (g k))) (fun _ => true) (fun k => V.str (sgS (g k i))) (ha _ H1 e) (ex_l e hx) (by rw [List.length_map, List.length_range]; omega) (hw2 _) (fun k x H2 e2 hk => et_yes) (fun k x H2 e2 hk _ => ?_)) ?_) (by omega)
    · have hk' : k < n := by
        have q := (List.getElem?_eq_some_iff.mp hk).1
        rwa [List.length_map, List.length_range] at q
      rw [List.getElem?_map, List.getElem?_range hk'] at hk
      cases hk
      exact ev_itS (hy _ _ H2 (e.trans e2)) (hz _ _ H2 (e.trans e2)) (by omega) (by omega)
    · rw [given_all, List.length_map, List.length_range]
  · rw [given_all, Int.toNat_natCast]
    rfl
end
theorem q_forW {σ : L2.St} {H : Hp} {D : Ends} {J : It} {n : Nat} {G : Hp → Prop} {Y : Nat → Hp → V → Hp → Prop} (w : Walk J n G Y) {wi : TI} {g : TG} {tu tz : TS} (hi : ∀ H1, Ex H H1 → ∀ R : It → Hp → Prop, (∀ H2, Ex H1 H2 → R J H2) → wi σ H1 R) (Pv : Nat → L2.St → Hp → Prop) (h0 : ∀ H1, Ex H H1 → Pv 0 σ H1)
    (hG : ∀ i σ' H', i ≤ n → Pv i σ' H' → G H') (hs : ∀ i x σ' H1 H', i < n → Pv i σ' H1 → Y i H1 x H' → g x σ' H' fun σ2 H2 => tu { D with nx := Pv (i + 1), ct := Pv (i + 1), bk := tz D } σ2 H2) (hd : ∀ σ' H', Pv n σ' H' → tz D σ' H') :
    tSeq (tFor wi g tu) tz D σ H := s_forW (D := { D with nx := tz D }) w hi Pv h0 hG hs hd
/-! ### rows laid in another turn -/
/-- i rows of f, in some turn, some of them turned -/
def Laid (n i : Nat) (f g : Nat → Nat → Bool) : Prop := ∃ (π : Nat → Nat) (e : Nat → Bool), (∀ k, k < i → π k < i) ∧ (∀ a, a < i → ∀ b, b < i → π a = π b → a = b) ∧ ∀ k, k < i → ∀ j, j < n → g k j = (f (π k) j ^^ e k)
theorem laid_zero (n : Nat) (f g : Nat → Nat → Bool) : Laid n 0 f g := ⟨id, fun _ => false, fun k hk => absurd hk (by omega), fun a ha => absurd ha (by omega), fun k hk => absurd hk (by omega)⟩
def insF (m : Nat) (g : Nat → Nat → Bool) (x : Nat → Bool) : Nat → Nat → Bool := fun k => if k < m then g k else if k = m then x else g (k - 1)
theorem laid_ins {n i m : Nat} {f g : Nat → Nat → Bool} {x : Nat → Bool} {b : Bool} (h : Laid n i f g) (hm : m ≤ i) (hx : ∀ j, j < n → x j = (f i j ^^ b)) : Laid n (i + 1) f (insF m g x) := by
  obtain ⟨π, e, h1, h2, h3⟩ := h
  refine ⟨fun k => if k < m then π k else if k = m then i else π (k - 1), fun k => if k < m then e k else if k = m then b else e (k - 1), fun k hk => ?_, fun a ha c hc hac => ?_, fun k hk j hj => ?_⟩
  · by_cases c1 : k < m
    · simp only [if_pos c1]
      have := h1 k (by omega)
      omega
    · by_cases c2 : k = m
      · simp only [if_neg c1, if_pos c2]
        omega
      · simp only [if_neg c1, if_neg c2]
        have := h1 (k - 1) (by omega)
        omega
  · by_cases a1 : a < m
    · by_cases c1 : c < m
      · simp only [if_pos a1, if_pos c1] at hac
        exact h2 a (by omega) c (by omega) hac
      · by_cases c2 : c = m
        · simp only [if_pos a1, if_neg c1, if_pos c2] at hac
          have := h1 a (by omega)
          omega
        · simp only [if_pos a1, if_neg c1, if_neg c2] at hac
          have := h2 a (by omega) (c - 1) (by omega) hac
          omega
    · by_cases a2 : a = m
      · by_cases c1 : c < m
        · simp only [if_neg a1, if_pos a2, if_pos c1] at hac
          have := h1 c (by omega)
          omega
        · by_cases c2 : c = m
          · omega
          · simp only [if_neg a1, if_pos a2, if_neg c1, if_neg c2] at hac
            have := h1 (c - 1) (by omega)
            omega
      · by_cases c1 : c < m
        · simp only [if_neg a1, if_neg a2, if_pos c1] at hac
          have := h2 (a - 1) (by omega) c (by omega) hac
          omega
        · by_cases c2 : c = m
          · simp only [if_neg a1, if_neg a2, if_neg c1, if_pos c2] at hac
            have := h1 (a - 1) (by omega)
            omega
          · simp only [if_neg a1, if_neg a2, if_neg c1, if_neg c2] at hac
            have := h2 (a - 1) (by omega) (c - 1) (by omega) hac
            omega
  · unfold insF
    by_cases c1 : k < m
    · simp only [if_pos c1]
      exact h3 k (by omega) j hj
    · by_cases c2 : k = m
      · simp only [if_neg c1, if_pos c2]
        exact hx j hj
      · simp only [if_neg c1, if_neg c2]
        exact h3 (k - 1) (by omega) j hj
theorem insF_list (n i m : Nat) (hm : m ≤ i) (g : Nat → Nat → Bool) (x : Nat → Bool) : ((List.range i).map fun k => V.str (rowS n (g k))).take m ++ [V.str (rowS n x)] ++ ((List.range i).map fun k => V.str (rowS n (g k))).drop m = (List.range (i + 1)).map fun k => V.str (rowS n (insF m g x k)) := by
  apply List.ext_getElem?
  intro k
  rw [List.append_assoc]
  by_cases c1 : k < m
  · rw [List.getElem?_append_left (by rw [List.length_take, List.length_map, List.length_range]; omega), List.getElem?_take, if_pos c1, List.getElem?_map, List.getElem?_map, List.getElem?_range (by omega), List.getElem?_range (by omega)]
    simp only [Option.map_some, insF, if_pos c1]
  · have lt : (((List.range i).map fun k => V.str (rowS n (g k))).take m).length = m := by rw [List.length_take, List.length_map, List.length_range]; omega
    rw [List.getElem?_append_right (by rw [lt]; omega), lt]
    by_cases c2 : k = m
    · subst c2
      rw [Nat.sub_self, List.getElem?_map, List.getElem?_range (by omega)]
      show some (V.str (rowS n x)) = _
      simp only [Option.map_some, insF, if_neg c1, if_true]
    · rw [show k - m = (k - m - 1) + 1 by omega]
      show (((List.range i).map fun k => V.str (rowS n (g k))).drop m)[k - m - 1]? = _
      rw [List.getElem?_drop, show m + (k - m - 1) = k - 1 by omega, List.getElem?_map, List.getElem?_map]
      by_cases c3 : k < i + 1
      · rw [List.getElem?_range (by omega), List.getElem?_range c3]
        simp only [Option.map_some, insF, if_neg c1, if_neg c2]
      · rw [List.getElem?_eq_none (by rw [List.length_range]; omega), List.getElem?_eq_none (by rw [List.length_range]; omega)]
        rfl
theorem laid_had {n : Nat} {f g : Nat → Nat → Bool} (h : Laid n n f g) (k : Had n f) : Had n g := by
  obtain ⟨π, e, h1, h2, h3⟩ := h
  exact had_perm π e h1 h2 h3 k
/-! ### the script's cells -/
def cellsOf (d : Int) (ns : List Int) : List Int := if ns = [] then [d] else ns
theorem cellsOf_ok {d : Int} {ns : List Int} (hd : d.natAbs < 2 ^ 40) (h : Cells ns) : Cells (cellsOf d ns) ∧ 1 ≤ (cellsOf d ns).length := by
  unfold cellsOf
  by_cases e : ns = []
  · rw [if_pos e]
    refine ⟨⟨by show 1 ≤ 63; decide, fun z hz => ?_⟩, Nat.le_refl 1⟩
    rw [List.mem_singleton.mp hz]
    exact Nat.lt_of_lt_of_le hd (Nat.pow_le_pow_right (by decide) (show 40 ≤ 1048700 by decide))
  · rw [if_neg e]
    refine ⟨h, ?_⟩
    cases ns with
    | nil => exact absurd rfl e
    | cons a r =>
      rw [List.length_cons]
      omega
theorem cut63 {xs : List V} (h : xs.length ≤ 63) : cutV xs none (some 63) = xs := by
  unfold cutV
  rw [HT.sIx_none, show HT.sIx xs.length xs.length (some (63 : Int)) = min 63 xs.length from HT.sIx_nat xs.length xs.length 63, List.drop_zero, Nat.sub_zero]
  exact List.take_of_length_le (by omega)
/-- script[:63] if script != [] else [d] -/
theorem el_cells {K : PySem.W.Frag} {σ : L2.St} {H : Hp} {ta tb : TE} {a : Addr} {ns : List Int} {d : Int} (ha : Ev ta σ H (.ref a)) (hb : Ev tb σ H (.ref a)) (h : SqL K H a (ns.map V.int)) (hl : ns.length ≤ 63) :
    EvL (tIf (tTest (tOp (rNeD K) ta (tLst tNil))) (tSl (rSlL K) tb tNoPart (tPart (tC (.int 63)))) (tLst (tCons (tC (.int d)) tNil))) σ H ((cellsOf d ns).map V.int) := by
  refine el_if (et_test (ev_opL ha (el_lst ea_nil (by show 0 ≤ 100000; decide)) fun p H1 hp e => rv_neI (xs := ns) (ys := []) (ex_l e h) (sq_of hp))) (fun hb' => ?_) (fun hb' => ?_)
  · have hne : ¬ ns = [] := by simpa using hb'
    refine ev_list (el_sl hb eo_none (eo_some ev_c) h) ?_
    rw [cut63 (by rw [List.length_map]; exact hl)]
    unfold cellsOf
    rw [if_neg hne]
  · have he : ns = [] := by simpa using hb'
    refine ev_list (el_lst (ea_cons ev_c ea_nil) (by show 1 ≤ 100000; decide)) ?_
    unfold cellsOf
    rw [if_pos he]
    rfl
theorem getI {xs : List Int} {i : Nat} (h : i < xs.length) : (xs.map V.int)[i]? = some (.int xs[i]) := by
  rw [List.getElem?_map, List.getElem?_eq_getElem h]
  rfl
end HA

end
section
set_option maxRecDepth 100000
set_option maxHeartbeats 4000000
namespace HA
open PySem PySem.Spec PyProof.Rows L2 Evl
section
variable {K : PySem.W.Frag} {σ : L2.St} {H H' : Hp} {ta tb tc td te tx : TE} {t u : TT} {x y z v : V} {r r' r'' : R2} {D : Ends} {tz : TS}
theorem ev_meth {C p dx : Addr} {m : Str} {sp : Sp} {dvs vs : List V} {E : XK} {fs : List (Str × V)} {ts : TA} (ha : Ev ta σ H (.ref p)) (hp : H p = some (.ins C dx fs)) (hm : fs.lookup m = none) (hs : EvA ts σ H vs) (h : SpV sp (.ref p :: (vs ++ dvs)) H z) : Ev (tMeth C m sp dvs E ta ts) σ H z := fun H1 e Q q =>
  ha H1 e _ fun H2 e2 => ⟨p, dx, fs, rfl, (e.trans e2) p _ hp, hm, hs H2 (e.trans e2) _ fun H3 e3 => h H3 ((e.trans e2).trans e3) Q (fun H4 e4 => q H4 ((e2.trans e3).trans e4)) E⟩
theorem ev_inl (h : Ev ta σ H v) : Ev (fun σ H Q => ta σ H Q ∨ tb σ H Q) σ H v := fun H1 e Q q => .inl (h H1 e Q q)
theorem ev_inr (h : Ev tb σ H v) : Ev (fun σ H Q => ta σ H Q ∨ tb σ H Q) σ H v := fun H1 e Q q => .inr (h H1 e Q q)
theorem q_asgC {i : Nat} {sp : Sp} {dvs vs : List V} {E : XK} {ts : TA} (h : EvA ts σ H vs) (k : ∀ H1, Ex H H1 → sp (vs ++ dvs) H1 (fun v H2 => tz D (σ.set i (some v)) H2) E) : tSeq (tAsg (tCall sp dvs E ts) (gName i)) tz D σ H := h H (Ex.refl H) _ fun H1 e => k H1 e
theorem s_asgC {i : Nat} {sp : Sp} {dvs vs : List V} {E : XK} {ts : TA} (h : EvA ts σ H vs) (k : ∀ H1, Ex H H1 → sp (vs ++ dvs) H1 (fun v H2 => D.nx (σ.set i (some v)) H2) E) : tAsg (tCall sp dvs E ts) (gName i) D σ H := h H (Ex.refl H) _ fun H1 e => k H1 e
theorem q_par {i j : Nat} {ts : TA} (h : EvA ts σ H [x, y]) (k : ∀ H1, Ex H H1 → tz D ((σ.set i (some x)).set j (some y)) H1) : tSeq (tPar i j ts) tz D σ H := h H (Ex.refl H) _ fun H1 e => ⟨x, y, rfl, k H1 e⟩
/-! what is known of a value -/
theorem er_call {sp : Sp} {dvs vs : List V} {E : XK} {ts : TA} {R : V → Hp → Prop} (h : EvA ts σ H vs) (hs : ∀ H1, Ex H H1 → ∀ Q : VK, (∀ v H2, Ex H1 H2 → R v H2 → Q v H2) → sp (vs ++ dvs) H1 Q E) : EvR (tCall sp dvs E ts) σ H R := fun H1 e Q q =>
  h H1 e _ fun H2 e2 => hs H2 (e.trans e2) Q fun v H3 e3 hv => q v H3 (e2.trans e3) hv
/-- the argument a new list -/
theorem er_callL {sp : Sp} {dvs xs : List V} {E : XK} {R : V → Hp → Prop} (h : EvL ta σ H xs) (hs : ∀ p H1, Ex H H1 → H1 p = some (.lst xs) → ∀ Q : VK, (∀ v H2, Ex H1 H2 → R v H2 → Q v H2) → sp ([.ref p] ++ dvs) H1 Q E) : EvR (tCall sp dvs E (tCons ta tNil)) σ H R := fun H1 e Q q =>
  h H1 e _ fun p H2 _ e2 h2 => hs p H2 (e.trans e2) h2 Q fun v H3 e3 hv => q v H3 (e2.trans e3) hv
theorem ev_isiR {c : V} {tv w : Value} {b : Bool} (h : EvR ta σ H (fun v H2 => TyX K H2 v tv)) (hc : ClsV c w) (hk : PySem.W.kitOne K tv w = some b) : Ev (tCB (rIsi K) (tCons ta (tCons (tC c) tNil))) σ H (.bl b) := fun H1 e Q q =>
  h H1 e _ fun v H2 e2 hv => ⟨v, c, tv, w, b, rfl, hc, hv, hk, q H2 e2⟩
theorem ev_fldR {f : Str} {R : V → Prop} (h : EvR ta σ H (fun v H2 => ∃ p C dx fs, v = .ref p ∧ H2 p = some (.ins C dx fs) ∧ Cls K C ∧ NoAttr K C f ∧ fs.lookup f = some z)) : Ev (tFld K ta f) σ H z := fun H1 e Q q =>
  h H1 e _ fun v H2 e2 ⟨p, C, dx, fs, hv, hp, c, n, l⟩ => ⟨p, C, dx, fs, z, hv, hp, c, n, l, q H2 e2⟩
theorem ev_callR {sp : Sp} {E : XK} {R : V → Hp → Prop} (hb : Ev tb σ H y) (h : EvR ta σ H R) (hs : ∀ v H1, Ex H H1 → R v H1 → SpV sp [y, v] H1 z) : Ev (tCall sp [] E (tCons tb (tCons ta tNil))) σ H z := fun H1 e Q q =>
  hb H1 e _ fun H2 e2 => h H2 (e.trans e2) _ fun v H3 e3 hv => hs v H3 ((e.trans e2).trans e3) hv H3 (Ex.refl H3) Q (fun H4 e4 => q H4 ((e2.trans e3).trans e4)) E
end
/-! ### tables changed -/
def bendT (f : Nat → Nat → Bool) (a k : Nat) : Nat → Nat → Bool := fun i => if i = a then bend (f i) k else f i
theorem tab_set {n : Nat} {f : Nat → Nat → Bool} {a : Nat} (x : Nat → Bool) (ha : a < n) : (tabV n f).set a (V.str (rowS n x)) = tabV n (fun i => if i = a then x else f i) := by
  apply List.ext_getElem?
  intro k
  by_cases hk : k < n
  · by_cases h : a = k
    · subst h
      rw [List.getElem?_set_self (by rw [tabV_len]; exact ha), tabV_get ha, if_pos rfl]
    · rw [List.getElem?_set_ne h, tabV_get hk, tabV_get hk, if_neg (Ne.symm h)]
  · rw [List.getElem?_eq_none (by rw [List.length_set, tabV_len]; omega), List.getElem?_eq_none (by rw [tabV_len]; omega)]
theorem tab_rev (n : Nat) (f : Nat → Nat → Bool) : (tabV n f).reverse = tabV n (fun i => f (n - 1 - i)) := by
  apply List.ext_getElem?
  intro k
  by_cases hk : k < n
  · rw [List.getElem?_reverse (by rw [tabV_len]; exact hk), tabV_len, tabV_get (by omega), tabV_get hk]
  · rw [List.getElem?_eq_none (by rw [List.length_reverse, tabV_len]; omega), List.getElem?_eq_none (by rw [tabV_len]; omega)]
theorem ip_bend {n : Nat} (g h : Nat → Bool) {k : Nat} (hk : k < n) : ip n g (bend h k) = ip n g h - 2 * (sg (g k) * sg (h k)) := by
  have e : ip n g (bend h k) = S n (fun j => sg (g j) * sg (h j) + (if j = k then -(2 * (sg (g j) * sg (h j))) else 0)) := S_congr fun j _ => by
    unfold bend
    by_cases c : j = k
    · rw [if_pos c, if_pos c, sg_not]
      cases g j <;> cases h j <;> rfl
    · rw [if_neg c, if_neg c]
      omega
  rw [e, S_add, S_one (a := k) hk fun j _ hne => if_neg hne, if_pos rfl]
  show ip n g h + _ = _
  omega
theorem bent_not_half {n : Nat} {f : Nat → Nat → Bool} (h : halfB n f = true) {a b k : Nat} (ha : a < n) (hb : b < n) (hab : b ≠ a) (hk : k < n) : halfB n (bendT f a k) = false := by
  cases hq : halfB n (bendT f a k) with
  | false => rfl
  | true =>
    have h1 := half_had hq b hb a ha hab
    have e1 : bendT f a k b = f b := by unfold bendT; rw [if_neg hab]
    have e2 : bendT f a k a = bend (f a) k := by unfold bendT; rw [if_pos rfl]
    rw [e1, e2, ip_bend _ _ hk, half_had h b hb a ha hab] at h1
    have q : ∀ x y : Bool, ¬ (0 - 2 * (sg x * sg y) = 0) := by decide
    exact absurd h1 (q _ _)
/-! ### any signs by digits -/
def bitsF (d : List Int) (w : Int) (r s : Nat) : Bool := decide (lawNum (d.getD (r % d.length) 0) (r : Int) w / 2 ^ s % 2 = 0)
theorem pm_at (z : Int) : ∃ c, atI (Str.ofString "+-").cps.toList (Builtin.bitAnd z 1) = some c ∧ (⟨#[c]⟩ : Str) = sgS (decide (z % 2 = 0)) := by
  rw [show Builtin.bitAnd z 1 = z % 2 from PySem.W.kbt_mask z 1]
  have c : z % 2 = 0 ∨ z % 2 = 1 := by omega
  rcases c with c | c
  · rw [c]
    exact ⟨43, by decide +kernel, rfl⟩
  · rw [c]
    exact ⟨45, by decide +kernel, rfl⟩
/-- "+-"[number >> sign & 1] for each sign below n -/
theorem el_bits {K : PySem.W.Frag} {σ : L2.St} {H : Hp} {ta : TA} {tb tc : TE} {j n : Nat} {vs : List Nat} {nh : Int} (h : EvA ta σ H [.int (n : Int)]) (hn : n ≤ 1000) (hw : ∀ x, wipe ((wipe σ vs).set j (some x)) vs = wipe σ vs) (hb : ∀ x H1, Ex H H1 → Ev tb ((wipe σ vs).set j (some x)) H1 (.int nh)) (hc : ∀ x H1, Ex H H1 → Ev tc ((wipe σ vs).set j (some x)) H1 x) :
    Ev (tM1 (rJoin K) (tC (.str (Str.ofString ""))) (tLc (iRng1 ta) (gName j) tYes (tOp rIxS (tC (.str (Str.ofString "+-"))) (tOp (rI0 fun i j => .int (Builtin.bitAnd i j)) (tOp (rI (fun _ j => 0 ≤ j) fun i j => .int (i / 2 ^ j.toNat)) tb tc) (tC (.int 1)))) vs)) σ H (.str (rowS n fun s => decide (nh / 2 ^ s % 2 = 0))) := by
  refine ev_joinRow (K := K) (g := fun s => decide (nh / 2 ^ s % 2 = 0)) (ev_list (el_lcR1 (n := (n : Int)) (fun _ => true) (fun s => V.str (sgS (decide (nh / 2 ^ s % 2 = 0)))) h ⟨by omega, by omega⟩ hw (fun i H1 e hi => et_yes) (fun i H1 e hi _ => ?_)) (by rw [given_all, Int.toNat_natCast])) (by omega)
  obtain ⟨c, h1, h2⟩ := pm_at (nh / 2 ^ i)
  rw [← h2]
  exact ev_op (y := .int (Builtin.bitAnd (nh / 2 ^ i) 1)) ev_c (ev_op (ev_is (ev_op (hb _ H1 e) (hc _ H1 e) (rv_I (show (0 : Int) ≤ (i : Int) by omega))) (by rw [Int.toNat_natCast])) ev_c rv_I0) (rv_ixS (by decide +kernel) h1)
theorem rows_one (n k : Nat) (g : Nat → Nat → Bool) : ((List.range k).map fun r => V.str (rowS n (g r))) ++ [V.str (rowS n (g k))] = (List.range (k + 1)).map fun r => V.str (rowS n (g r)) := by
  rw [List.range_succ, List.map_append]
  rfl
/-- rows given one by one -/
theorem tab_init (n : Nat) (f : Nat → Nat → Bool) : cutV (tabV n f) none (some (-1)) = (List.range (n - 1)).map fun i => V.str (rowS n (f i)) := by
  unfold cutV
  have e : HT.sIx n n (some (-1 : Int)) = n - 1 := by
    show (if (-1 : Int) < 0 then ((-1 : Int) + (n : Int)).toNat else min (-1 : Int).toNat n) = n - 1
    rw [if_pos (by decide)]
    omega
  rw [tabV_len, HT.sIx_none, List.drop_zero, Nat.sub_zero, e]
  unfold tabV
  rw [← List.map_take, List.take_range, Nat.min_eq_left (Nat.sub_le _ _)]
theorem tab_last {n : Nat} (hn : 1 ≤ n) (f : Nat → Nat → Bool) : atI (tabV n f) (-1) = some (V.str (rowS n (f (n - 1)))) := by
  unfold atI ixN
  rw [tabV_len]
  rw [if_neg (by decide)]
  first
    | (rw [if_pos (by omega)]; show (tabV n f)[((-1 : Int) + (n : Int)).toNat]? = _; rw [show ((-1 : Int) + (n : Int)).toNat = n - 1 by omega]; exact tabV_get (by omega))
    | (simp; rw [show n - 1 = n - 1 from rfl]; exact tabV_get (by omega))
/-! ### the answers of the first kind -/
def sp_L_due (K : PySem.W.Frag) (CH CU : Addr) : Sp := fun vs H Q _ => ∃ (a p : Addr) (n : Nat) (f : Nat → Nat → Bool), vs = [.ref a, .ref p] ∧ TabAt K H a n f ∧ n ≤ 1000 ∧
  ((∃ dx, H p = some (.ins CH dx []) ∧ RetV (.bl (halfB n f)) H Q) ∨ (∃ dx i j, H p = some (.ins CU dx (uf (.int i) (.int j))) ∧ RetV (.bl (unlB n f i j)) H Q))
/-- tables by their places -/
structure Tb where
  a : Addr
  n : Nat
  f : Nat → Nat → Bool
def TbAt (K : PySem.W.Frag) (H : Hp) (q : Tb) : Prop := TabAt K H q.a q.n q.f ∧ 1 ≤ q.n ∧ q.n ≤ 100
theorem TbAt.ex {K : PySem.W.Frag} {H H' : Hp} {q : Tb} (e : Ex H H') (h : TbAt K H q) : TbAt K H' q := ⟨TabAt.ex e h.1, h.2⟩
def sp_L_right1 (K : PySem.W.Frag) : Sp := fun vs H Q _ => ∃ (q : Tb) (b : Addr) (qs : List Tb), vs = [.ref q.a, .ref b] ∧ TbAt K H q ∧ SqL K H b (qs.map fun q => V.ref q.a) ∧ (∀ q ∈ qs, TbAt K H q) ∧ RetV (.bl true) H Q
theorem unlB_true {n : Nat} {f : Nat → Nat → Bool} {i j : Nat} (h1 : i < j) (h2 : j < n) (h3 : 2 * alk n (f i) (f j) ≠ n) : unlB n f (i : Int) (j : Int) = true := by
  unfold unlB
  rw [decide_eq_true (show (0 : Int) ≤ (i : Int) by omega), decide_eq_true (show (i : Int) < (j : Int) by omega), decide_eq_true (show (j : Int) < (n : Int) by omega)]
  simp [h3]
theorem half_no {n : Nat} {f : Nat → Nat → Bool} {i j : Nat} (h1 : i < j) (h2 : j < n) (h3 : 2 * alk n (f i) (f j) ≠ n) : halfB n f = false := by
  cases hb : halfB n f with
  | false => rfl
  | true => exact absurd ((halfB_iff n f).mp hb j h2 i h1) h3
end HA

end
section
set_option maxRecDepth 100000
set_option maxHeartbeats 4000000
namespace HA
open PySem PySem.Spec PyProof.Rows L2 Evl
section
variable {K : PySem.W.Frag} {σ : L2.St} {H H' : Hp} {ta tb tc td te tx : TE} {t u : TT} {x y z v : V} {r r' r'' : R2} {D : Ends} {tz : TS}
/-! ### made instances -/
theorem q_asgR {i : Nat} {R : V → Hp → Prop} (h : EvR te σ H R) (k : ∀ v H1, Ex H H1 → R v H1 → tz D (σ.set i (some v)) H1) : tSeq (tAsg te (gName i)) tz D σ H := h H (Ex.refl H) _ k
theorem er_mk2 {C : Addr} {mk : V → V → List (Str × V)} {E : XK} {ts : TA} (h : EvA ts σ H [x, y]) : EvR (tMake C (sp_init2 C mk) [] E ts) σ H (fun v H2 => ∃ p dx, v = .ref p ∧ H2 p = some (.ins C dx (mk x y))) := fun H1 e Q q =>
  h H1 e _ fun H2 e2 p dx np nd ne => ⟨p, dx, x, y, rfl, upd_same, rfl, by
    rw [upd_upd]
    have ex : Ex H2 (upd (upd H2 dx (.own p)) p (.ins C dx (mk x y))) := (Ex.new nd).trans (Ex.new (by rw [upd_ne (Ne.symm ne)]; exact np))
    exact q _ _ (e2.trans ex) ⟨p, dx, rfl, upd_same⟩⟩
theorem er_mk0 {C : Addr} : EvR (tMake0 C) σ H (fun v H2 => ∃ p dx, v = .ref p ∧ H2 p = some (.ins C dx [])) := fun H1 e Q q p dx np nd ne =>
  q _ _ ((Ex.new nd).trans (Ex.new (by rw [upd_ne (Ne.symm ne)]; exact np))) ⟨p, dx, rfl, upd_same⟩
theorem ev_methR {C : Addr} {m : Str} {sp : Sp} {dvs vs : List V} {E : XK} {fs : List (Str × V)} {ts : TA} (ha : EvR ta σ H (fun v H2 => ∃ p dx, v = .ref p ∧ H2 p = some (.ins C dx fs))) (hm : fs.lookup m = none) (hs : EvA ts σ H vs)
    (h : ∀ p dx H1, Ex H H1 → H1 p = some (.ins C dx fs) → SpV sp (.ref p :: (vs ++ dvs)) H1 z) : Ev (tMeth C m sp dvs E ta ts) σ H z := fun H1 e Q q =>
  ha H1 e _ fun v H2 e2 ⟨p, dx, hv, hp⟩ => ⟨p, dx, fs, hv, hp, hm, hs H2 (e.trans e2) _ fun H3 e3 => by
    subst hv
    exact h p dx H3 ((e.trans e2).trans e3) (e3 p _ hp) H3 (Ex.refl H3) Q (fun H4 e4 => q H4 ((e2.trans e3).trans e4)) E⟩
/-- the argument a new list -/
theorem ev_methL {C : Addr} {m : Str} {sp : Sp} {dvs xs : List V} {E : XK} {fs : List (Str × V)} (ha : EvR ta σ H (fun v H2 => ∃ p dx, v = .ref p ∧ H2 p = some (.ins C dx fs))) (hm : fs.lookup m = none) (hs : EvL tb σ H xs)
    (h : ∀ p dx q H1, Ex H H1 → H1 p = some (.ins C dx fs) → H1 q = some (.lst xs) → SpV sp (.ref p :: ([.ref q] ++ dvs)) H1 z) : Ev (tMeth C m sp dvs E ta (tCons tb tNil)) σ H z := fun H1 e Q q =>
  ha H1 e _ fun v H2 e2 ⟨p, dx, hv, hp⟩ => ⟨p, dx, fs, hv, hp, hm, hs H2 (e.trans e2) _ fun l H3 _ e3 hl => by
    subst hv
    exact h p dx l H3 ((e.trans e2).trans e3) (e3 p _ hp) hl H3 (Ex.refl H3) Q (fun H4 e4 => q H4 ((e2.trans e3).trans e4)) E⟩
theorem ev_methL2 {C : Addr} {m : Str} {sp : Sp} {dvs xs : List V} {E : XK} {fs : List (Str × V)} (ha : EvR ta σ H (fun v H2 => ∃ p dx, v = .ref p ∧ H2 p = some (.ins C dx fs))) (hm : fs.lookup m = none) (hs : EvL tb σ H xs) (hc : Ev tc σ H y)
    (h : ∀ p dx q H1, Ex H H1 → H1 p = some (.ins C dx fs) → H1 q = some (.lst xs) → SpV sp (.ref p :: ([.ref q, y] ++ dvs)) H1 z) : Ev (tMeth C m sp dvs E ta (tCons tb (tCons tc tNil))) σ H z := fun H1 e Q q =>
  ha H1 e _ fun v H2 e2 ⟨p, dx, hv, hp⟩ => ⟨p, dx, fs, hv, hp, hm, hs H2 (e.trans e2) _ fun l H3 _ e3 hl => hc H3 ((e.trans e2).trans e3) _ fun H4 e4 => by
    subst hv
    exact h p dx l H4 (((e.trans e2).trans e3).trans e4) ((e3.trans e4) p _ hp) (e4 l _ hl) H4 (Ex.refl H4) Q (fun H5 e5 => q H5 (((e2.trans e3).trans e4).trans e5)) E⟩
/-! ### pairs compared -/
theorem rv_eqII {a b : Addr} {i j k l : Int} (ha : H a = some (.tup [.int i, .int j])) (hb : H b = some (.tup [.int k, .int l])) : RV (rEqD K) (.ref a) (.ref b) H (.bl (decide (i = k) && decide (j = l))) := fun H1 e Q q =>
  ⟨.tuple [.int i, .int j], .tuple [.int k, .int l], .tup (st_of (e a _ ha)) (.cons (.int i) (.cons (.int j) .nil)), .tup (st_of (e b _ hb)) (.cons (.int k) (.cons (.int l) .nil)), rfl, rfl, by
    have w : PyData.eqv (.tuple [.int i, .int j]) (.tuple [.int k, .int l]) = (decide (i = k) && decide (j = l)) := by
      show ((i == k) && ((j == l) && true)) = _
      rw [Bool.eq_iff_iff]
      simp
    rw [w]
    exact q H1 (Ex.refl H1)⟩
theorem rv_eqIB {a b : Addr} {i : Int} {c : Bool} (ha : H a = some (.tup [.int i, .bl c])) (hb : H b = some (.tup [.int i, .bl c])) : RV (rEqD K) (.ref a) (.ref b) H (.bl true) := fun H1 e Q q =>
  ⟨.tuple [.int i, .bool c], .tuple [.int i, .bool c], .tup (st_of (e a _ ha)) (.cons (.int i) (.cons (.bl c) .nil)), .tup (st_of (e b _ hb)) (.cons (.int i) (.cons (.bl c) .nil)), rfl, rfl, by
    have w : PyData.eqv (.tuple [.int i, .bool c]) (.tuple [.int i, .bool c]) = true := by
      show ((i == i) && ((c == c) && true)) = true
      simp
    rw [w]
    exact q H1 (Ex.refl H1)⟩
/-! ### lists of pairs -/
def Pairs (H : Hp) : List V → List (Int × Int) → Prop
  | [], [] => True
  | x :: xs, q :: qs => (∃ a, x = .ref a ∧ H a = some (.tup [.int q.1, .int q.2])) ∧ Pairs H xs qs
  | _, _ => False
theorem Pairs.ex (e : Ex H H') : ∀ {xs : List V} {qs : List (Int × Int)}, Pairs H xs qs → Pairs H' xs qs
  | [], [], _ => trivial
  | _ :: _, _ :: _, h => ⟨h.1.imp fun a p => ⟨p.1, e a _ p.2⟩, Pairs.ex e h.2⟩
  | [], _ :: _, h => h
  | _ :: _, [], h => h
theorem Pairs.len : ∀ {xs : List V} {qs : List (Int × Int)}, Pairs H xs qs → xs.length = qs.length
  | [], [], _ => rfl
  | _ :: xs, _ :: qs, h => by
    rw [List.length_cons, List.length_cons, Pairs.len h.2]
  | [], _ :: _, h => h.elim
  | _ :: _, [], h => h.elim
theorem Pairs.app : ∀ {xs ys : List V} {qs rs : List (Int × Int)}, Pairs H xs qs → Pairs H ys rs → Pairs H (xs ++ ys) (qs ++ rs)
  | [], _, [], _, _, k => k
  | _ :: _, _, _ :: _, _, h, k => ⟨h.1, Pairs.app h.2 k⟩
  | [], _, _ :: _, _, h, _ => h.elim
  | _ :: _, _, [], _, h, _ => h.elim
theorem Pairs.get : ∀ {xs : List V} {qs : List (Int × Int)} {i : Nat} {x : V}, Pairs H xs qs → xs[i]? = some x → ∃ q a, q ∈ qs ∧ x = .ref a ∧ H a = some (.tup [.int q.1, .int q.2])
  | x :: xs, q :: qs, 0, y, h, e => by
    obtain ⟨a, rfl, ha⟩ := h.1
    have e' : some (V.ref a) = some y := e
    cases e'
    exact ⟨q, a, List.mem_cons_self .., rfl, ha⟩
  | _ :: xs, q :: qs, i + 1, y, h, e => by
    have e' : xs[i]? = some y := e
    obtain ⟨q', a, m, r⟩ := Pairs.get h.2 e'
    exact ⟨q', a, List.mem_cons_of_mem _ m, r⟩
  | [], [], _, _, _, e => nomatch e
  | [], _ :: _, _, _, h, _ => h.elim
  | _ :: _, [], _, _, h, _ => h.elim
def EvAP (ts : TA) (σ : L2.St) (H : Hp) (ps : List (Int × Int)) : Prop := ∀ H1, Ex H H1 → ∀ Q : List V → Hp → Prop, (∀ xs H2, Ex H1 H2 → Pairs H2 xs ps → Q xs H2) → ts σ H1 Q
def EvP (te : TE) (σ : L2.St) (H : Hp) (ps : List (Int × Int)) : Prop := ∀ H1, Ex H H1 → ∀ Q : VK, (∀ p xs H2, Ex H1 H2 → H2 p = some (.lst xs) → Pairs H2 xs ps → Q (.ref p) H2) → te σ H1 Q
theorem eap_nil : EvAP tNil σ H [] := fun H1 _ Q q => q [] H1 (Ex.refl H1) trivial
theorem eap_cons {ts : TA} {i j : Int} {ps : List (Int × Int)} (ha : Ev ta σ H (.int i)) (hb : Ev tb σ H (.int j)) (hs : EvAP ts σ H ps) : EvAP (tCons (tTup (tCons ta (tCons tb tNil))) ts) σ H ((i, j) :: ps) := fun H1 e Q q =>
  eu_tup (ea_cons ha (ea_cons hb ea_nil)) (by show 2 ≤ 100000; decide) H1 e _ fun p H2 _ e2 h2 => hs H2 (e.trans e2) _ fun xs H3 e3 h3 => q (.ref p :: xs) H3 (e2.trans e3) ⟨⟨p, rfl, e3 p _ h2⟩, h3⟩
theorem ep_lst {ts : TA} {ps : List (Int × Int)} (h : EvAP ts σ H ps) (hl : ps.length ≤ 1000) : EvP (tLst ts) σ H ps := fun H1 e Q q =>
  h H1 e _ fun xs H2 e2 h2 => ⟨sz_of (by rw [h2.len]; omega), fun p hp => q p xs _ (e2.trans (Ex.new hp)) upd_same (h2.ex (Ex.new hp))⟩
theorem ep_cat {a : Addr} {xs : List V} {ps qs : List (Int × Int)} (ha : Ev ta σ H (.ref a)) (hx : H a = some (.lst xs)) (hp : Pairs H xs ps) (hb : EvP tb σ H qs) (hl : ps.length + qs.length ≤ 1000) : EvP (tOp rCat ta tb) σ H (ps ++ qs) := fun H1 e Q q =>
  ha H1 e _ fun H2 e2 => hb H2 (e.trans e2) _ fun b ys H3 e3 h3 k3 => ⟨a, b, xs, ys, rfl, rfl, ((e.trans e2).trans e3) a _ hx, h3, sz_of (by rw [hp.len, k3.len]; omega), fun p hp' => q p (xs ++ ys) _ ((e2.trans e3).trans (Ex.new hp')) upd_same (((hp.ex ((e.trans e2).trans e3)).app k3).ex (Ex.new hp'))⟩
/-- a pair's two names -/
theorem g_pair {j l : Nat} {a : Addr} {k : L2.St → Hp → Prop} (ha : H a = some (.tup [x, y])) (h : k ((σ.set j (some x)).set l (some y)) H) : gTup K 2 (gCons (gName j) (gCons (gName l) gNil)) (.ref a) σ H k :=
  ⟨a, _, rfl, st_of ha, rfl, _, _, rfl, _, _, rfl, rfl, h⟩
theorem s_forP {ps : List (Int × Int)} {tl : TE} {j l : Nat} {tu : TS} (h : EvP tl σ H ps) (Pv : L2.St → Hp → Prop) (h0 : ∀ H1, Ex H H1 → Pv σ H1)
    (hs : ∀ H1, Ex H H1 → ∀ q σ' H', q ∈ ps → Pv σ' H' → Ex H1 H' → tu { D with nx := fun s h => Pv s h ∧ Ex H1 h, ct := fun s h => Pv s h ∧ Ex H1 h, bk := D.nx } ((σ'.set j (some (.int q.1))).set l (some (.int q.2))) H') (hd : ∀ σ' H', Pv σ' H' → D.nx σ' H') : tFor (iList K tl) (gTup K 2 (gCons (gName j) (gCons (gName l) gNil))) tu D σ H := by
  refine h H (Ex.refl H) _ fun p xs H1 e h1 hp => ⟨p, rfl, ⟨xs, sq_of h1⟩, for_list (K := K) (xs := xs) (fun i σ' H' => Pv σ' H' ∧ Ex H1 H') ⟨h0 H1 e, Ex.refl H1⟩ (fun i σ' H' _ q => sq_of (q.2 p _ h1)) (fun i x σ' H' hx q => ?_) (fun σ' H' q => hd σ' H' q.1)⟩
  obtain ⟨qq, a, m, rfl, ha⟩ := (hp.ex q.2).get hx
  exact g_pair ha (hs H1 e qq σ' H' m q.1 q.2)
end
/-! ### near rows -/
def nearB (n : Nat) (g h : Nat → Bool) (p : Bool) : Bool := decide (4 * (if p = true then n - alk n g h else alk n g h) < n)
theorem nearB_int (n : Nat) (g h : Nat → Bool) (p : Bool) : decide (4 * (if p = true then (n : Int) - (alk n g h : Int) else (alk n g h : Int)) < (n : Int)) = nearB n g h p := by
  have := alk_le n g h
  unfold nearB
  rw [Bool.eq_iff_iff, decide_eq_true_eq, decide_eq_true_eq]
  cases p
  · simp only [Bool.false_eq_true, if_false]
    omega
  · simp only [if_true]
    omega
def sp_is_near : Sp := fun vs H Q _ => ∃ (n : Nat) (g h : Nat → Bool) (p : Bool), vs = [.str (rowS n g), .str (rowS n h), .bl p] ∧ n ≤ 1000 ∧ RetV (.bl (nearB n g h p)) H Q
def nearR (n : Nat) (f : Nat → Nat → Bool) (h : Nat → Bool) (i : Int) (p : Bool) : Bool := (decide (0 ≤ i) && decide (i < n)) && nearB n (f i.toNat) h p
def sp_Near_shows (K : PySem.W.Frag) (C : Addr) : Sp := fun vs H Q _ => ∃ (p dx a : Addr) (i : Int) (b : Bool) (n : Nat) (f : Nat → Nat → Bool) (h : Nat → Bool), vs = [.ref p, .ref a, .str (rowS n h)] ∧ H p = some (.ins C dx (nf (.int i) (.bl b))) ∧ TabAt K H a n f ∧ n ≤ 1000 ∧ RetV (.bl (nearR n f h i b)) H Q
def farB (n : Nat) (f : Nat → Nat → Bool) (h : Nat → Bool) : Bool := !((List.range n).any fun i => nearB n (f i) h true || nearB n (f i) h false)
def sp_Far_shows (K : PySem.W.Frag) : Sp := fun vs H Q _ => ∃ (x : V) (a : Addr) (n : Nat) (f : Nat → Nat → Bool) (h : Nat → Bool), vs = [x, .ref a, .str (rowS n h)] ∧ TabAt K H a n f ∧ n ≤ 1000 ∧ RetV (.bl (farB n f h)) H Q
def sp_says : Sp := fun vs H Q _ => ∃ (a b : Bool), vs = [.bl a, .bl b] ∧ RetV (.bl (a == b)) H Q
def sp_rows_right (K : PySem.W.Frag) : Sp := fun vs H Q _ => ∃ (a : Addr) (i j : Int) (n : Nat) (f : Nat → Nat → Bool), vs = [.ref a, .int i, .int j] ∧ TabAt K H a n f ∧ n ≤ 1000 ∧ RetV (.bl true) H Q
def sp_near_right (K : PySem.W.Frag) : Sp := fun vs H Q _ => ∃ (a : Addr) (i : Int) (b : Bool) (n : Nat) (f : Nat → Nat → Bool) (h : Nat → Bool), vs = [.ref a, .str (rowS n h), .int i, .bl b] ∧ TabAt K H a n f ∧ n ≤ 1000 ∧ RetV (.bl true) H Q
def sp_right6 (K : PySem.W.Frag) : Sp := fun vs H Q _ => ∃ (a b : Addr) (c : Int) (n : Nat) (f g : Nat → Nat → Bool), vs = [.ref a, .ref b, .int c] ∧ TabAt K H a n f ∧ TabAt K H b n g ∧ 1 ≤ n ∧ n ≤ 100 ∧ RetV (.bl true) H Q
/-! ### a chain of three as a value -/
section
variable {X : Cx} {a b c d : Expr} {ta tb tc td : TE} {pos : Pos}
theorem pe_chain3 {op op' op'' : CmpOp} {r r' r'' : R2} (ho : OpR X (compareOp op) r) (ho' : OpR X (compareOp op') r') (ho'' : OpR X (compareOp op'') r'') (ha : PE X a ta) (hb : PE X b tb) (hc : PE X c tc) (hd : PE X d td)
    (hm : lastMarks [op, op', op''] [b, c, d] = false := by with_unfolding_all rfl) : PE X (.Compare a [op, op', op''] [b, c, d] pos) (tChain3 r r' r'' ta tb tc td) := by
  refine ⟨fun pins s σ H Q I h => ?_⟩
  refine Compare_chain (thn (ha.run pins s σ H _ I h) fun v s1 ⟨x, H1, I1, r1, q1⟩ => chain_link (thn (hb.run pins s1 σ H1 _ I1 q1) fun u s2 ⟨y, H2, I2, r2, q2⟩ =>
    thn (ho pins s2 σ H2 x y v u _ I2 r1 r2 q2) fun d' s3 ⟨z, H3, I3, r3, k, e, q3⟩ => ?_)) hm
  subst e
  cases r3
  refine wpAny_truthy_bool ?_
  cases k with
  | false => exact ite_ff ⟨.bl false, H3, I3, rfl, q3⟩
  | true =>
    refine ite_tt (chain_link (thn (hc.run pins s3 σ H3 _ I3 q3) fun u2 s4 ⟨y2, H4, I4, r4, q4⟩ => thn (ho' pins s4 σ H4 y y2 u u2 _ I4 r2 r4 q4) fun d2 s5 ⟨z2, H5, I5, r5, k2, e2, q5⟩ => ?_))
    subst e2
    cases r5
    refine wpAny_truthy_bool ?_
    cases k2 with
    | false => exact ite_ff ⟨.bl false, H5, I5, rfl, q5⟩
    | true => exact ite_tt (chain_last (thn (hd.run pins s5 σ H5 _ I5 q5) fun w' s6 ⟨z3, H6, I6, r6, q6⟩ => ho'' pins s6 σ H6 y2 z3 u2 w' Q I6 r4 r6 q6))
end
theorem mem_cutV {xs : List V} {lo hi : Option Int} {x : V} (h : x ∈ cutV xs lo hi) : x ∈ xs := by
  unfold cutV at h
  first
    | exact List.mem_of_mem_drop (List.mem_of_mem_take h)
    | exact List.mem_of_mem_take (List.mem_of_mem_drop h)
theorem len_cutV (xs : List V) (lo hi : Option Int) : (cutV xs lo hi).length ≤ xs.length := by
  unfold cutV
  rw [List.length_take, List.length_drop]
  omega
theorem q_asgP {σ : L2.St} {H : Hp} {te : TE} {tz : TS} {D : Ends} {i : Nat} {ps : List (Int × Int)} (h : EvP te σ H ps) (k : ∀ p xs H1, Ex H H1 → H1 p = some (.lst xs) → Pairs H1 xs ps → tz D (σ.set i (some (.ref p))) H1) : tSeq (tAsg te (gName i)) tz D σ H := h H (Ex.refl H) _ k
/-- the signs of g with the k-th turned, as the law writes it -/
theorem ev_bent {σ : L2.St} {H : Hp} {ta tb tc td tf tg : TE} {E1 : XK} {n k : Nat} {g : Nat → Bool} (hk : k < n) (hn : n ≤ 1000) (ha : Ev ta σ H (.str (rowS n g))) (hb : Ev tb σ H (.int (k : Int))) (hc : Ev tc σ H (.str (rowS n g))) (hd : Ev td σ H (.int (k : Int))) (hf : Ev tf σ H (.str (rowS n g))) (hg : Ev tg σ H (.int (k : Int))) :
    Ev (tOp (fun x y H Q => ∃ i j, x = V.str i ∧ y = V.str j ∧ i.length + j.length ≤ sizeLine ∧ Q (V.str (i ++ j)) H) (tOp (fun x y H Q => ∃ i j, x = V.str i ∧ y = V.str j ∧ i.length + j.length ≤ sizeLine ∧ Q (V.str (i ++ j)) H) (tSl rSlS ta tNoPart (tPart tb)) (tCall sp_L_other [] E1 (tCons (tOp rIxS tc td) tNil))) (tSl rSlS tf (tPart (tOp (rI0 fun i j => .int (i + j)) tg (tC (.int 1)))) tNoPart)) σ H (.str (rowS n (bend g k))) := by
  refine ev_is (ev_op (ev_op (ev_slS ha eo_none (eo_some hb) (by rw [rowS_len]; omega)) (ev_call (z := .str (sgS (!g k))) (ea_cons (ev_itS hc hd hk (by omega)) ea_nil) (fun H8 e8 Q8 q8 _ => ⟨1, fun _ => g k, rfl, by decide, q8⟩)) (rv_addS ?_)) (ev_slS hf (eo_some (ev_op hg ev_c rv_I0)) eo_none (by rw [rowS_len]; omega)) (rv_addS ?_)) ?_
  · rw [cutS_to, rowS_len]
    show min k n + 1 ≤ 100000
    omega
  · rw [show ((k : Int) + 1) = ((k + 1 : Nat) : Int) by omega, cutS_to, cutS_from, ← rowS_one, rowS_app, rowS_len, rowS_len]
    omega
  · rw [show ((k : Int) + 1) = ((k + 1 : Nat) : Int) by omega]
    exact congrArg V.str (bend_row n g k hk)
theorem nat_of {z : Int} (h : 0 ≤ z) : ∃ m : Nat, z = (m : Int) := ⟨z.toNat, by omega⟩
theorem modNat (z : Int) {n : Nat} (hn : 1 ≤ n) : ∃ m : Nat, z % (n : Int) = (m : Int) ∧ m < n := by
  have h1 := Int.emod_nonneg z (show (n : Int) ≠ 0 by omega)
  have h2 := Int.emod_lt_of_pos z (show (0 : Int) < (n : Int) by omega)
  exact ⟨(z % (n : Int)).toNat, by omega, by omega⟩
end HA

end
section
set_option maxRecDepth 100000
set_option maxHeartbeats 4000000
namespace HA
open PySem PySem.Spec PyProof.Rows L2 Evl
/-! ### at most one row is near -/
theorem tri : ∀ (n : Nat) (a b c : Nat → Bool), alk n a b + alk n b c ≤ n + alk n a c
  | 0, _, _, _ => Nat.le_refl 0
  | n + 1, a, b, c => by
    have ih := tri n a b c
    unfold alk at ih ⊢
    rw [cnt_succ, cnt_succ, cnt_succ]
    cases a n <;> cases b n <;> cases c n <;> simp <;> omega
theorem alk_not (n : Nat) (a b : Nat → Bool) : alk n (fun j => !a j) b + alk n a b = n := by
  have h := cnt_not n (fun k => a k == b k)
  have e : alk n (fun j => !a j) b = cnt n (fun k => !(a k == b k)) := cnt_congr fun k _ => by
    show ((!a k) == b k) = !(a k == b k)
    cases a k <;> cases b k <;> rfl
  rw [e]
  unfold alk
  omega
theorem alk_self (n : Nat) (a : Nat → Bool) : alk n a a = n := by
  have h := ip_alk n a a
  rw [ip_self] at h
  omega
def sgn (p : Bool) (g : Nat → Bool) : Nat → Bool := fun j => if p = true then g j else !g j
theorem near_alk (n : Nat) (g k : Nat → Bool) (p : Bool) : nearB n g k p = true ↔ 3 * n < 4 * alk n (sgn p g) k := by
  have h := alk_le n g k
  have h2 := alk_not n g k
  unfold nearB sgn
  rw [decide_eq_true_eq]
  cases p
  · simp only [Bool.false_eq_true, if_false]
    omega
  · simp only [if_true]
    have e : alk n (fun j => g j) k = alk n g k := rfl
    rw [e]
    omega
theorem alk_sgn (n : Nat) (a b : Nat → Bool) (p p' : Bool) : alk n (sgn p a) (sgn p' b) = if p = p' then alk n a b else n - alk n a b := by
  have h1 := alk_not n a b
  have h2 := alk_not n b a
  have h3 := alk_not n a (fun j => !b j)
  rw [alk_comm n a (fun j => !b j)] at h3
  rw [alk_comm n b a] at h2
  have h4 := alk_le n a b
  cases p <;> cases p'
  · show alk n (fun j => !a j) (fun j => !b j) = _
    rw [if_pos rfl]
    omega
  · show alk n (fun j => !a j) (fun j => b j) = _
    rw [if_neg (by decide)]
    have e : alk n (fun j => !a j) (fun j => b j) = alk n (fun j => !a j) b := rfl
    omega
  · show alk n (fun j => a j) (fun j => !b j) = _
    rw [if_neg (by decide), alk_comm]
    have e : alk n (fun j => !b j) (fun j => a j) = alk n (fun j => !b j) a := rfl
    omega
  · show alk n (fun j => a j) (fun j => b j) = _
    rw [if_pos rfl]
theorem near_unique {n : Nat} {f : Nat → Nat → Bool} {k : Nat → Bool} (had : Had n f) {i j : Nat} (hi : i < n) (hj : j < n) {p p' : Bool} (h1 : nearB n (f i) k p = true) (h2 : nearB n (f j) k p' = true) : i = j ∧ p = p' := by
  rw [near_alk] at h1 h2
  have t := tri n (sgn p (f i)) k (sgn p' (f j))
  rw [alk_comm n k] at t
  rw [alk_sgn] at t
  by_cases c : i = j
  · subst c
    refine ⟨rfl, ?_⟩
    by_cases d : p = p'
    · exact d
    · rw [if_neg d, alk_self] at t
      omega
  · have z := (ip_zero_iff n (f i) (f j)).mp (had i hi j hj c)
    by_cases d : p = p'
    · rw [if_pos d] at t
      omega
    · rw [if_neg d] at t
      omega
/-- the rows that are near, in turn -/
def nearUp (n : Nat) (f : Nat → Nat → Bool) (k : Nat → Bool) (m : Nat) : List (Nat × Bool) := (List.range m).flatMap fun i => (if nearB n (f i) k true = true then [(i, true)] else []) ++ (if nearB n (f i) k false = true then [(i, false)] else [])
theorem nearUp_succ (n : Nat) (f : Nat → Nat → Bool) (k : Nat → Bool) (m : Nat) : nearUp n f k (m + 1) = nearUp n f k m ++ (if nearB n (f m) k true = true then [(m, true)] else []) ++ (if nearB n (f m) k false = true then [(m, false)] else []) := by
  unfold nearUp
  rw [List.range_succ, List.flatMap_append]
  simp
theorem nearUp_none {n : Nat} {f : Nat → Nat → Bool} {k : Nat → Bool} : ∀ {m : Nat}, (∀ i, i < m → ∀ p, nearB n (f i) k p = false) → nearUp n f k m = []
  | 0, _ => rfl
  | m + 1, h => by
    rw [nearUp_succ, nearUp_none fun i hi => h i (by omega), h m (by omega), h m (by omega)]
    rfl
theorem nearUp_one {n : Nat} {f : Nat → Nat → Bool} {k : Nat → Bool} (had : Had n f) {i : Nat} (hi : i < n) {p : Bool} (h : nearB n (f i) k p = true) : ∀ m, m ≤ n → nearUp n f k m = if i < m then [(i, p)] else []
  | 0, _ => by
    rw [if_neg (by omega)]
    rfl
  | m + 1, hm => by
    rw [nearUp_succ, nearUp_one had hi h m (by omega)]
    by_cases c : i = m
    · subst c
      rw [if_neg (Nat.lt_irrefl i), if_pos (Nat.lt_succ_self i)]
      have no : nearB n (f i) k (!p) = false := by
        cases q : nearB n (f i) k (!p) with
        | false => rfl
        | true =>
          have z := (near_unique had hi hi h q).2
          cases p <;> exact absurd z (by decide)
      cases p
      · rw [show nearB n (f i) k true = false from no, h]
        rfl
      · rw [show nearB n (f i) k false = false from no, h]
        rfl
    · have no : ∀ q, nearB n (f m) k q = false := fun q => by
        cases w : nearB n (f m) k q with
        | false => rfl
        | true => exact absurd (near_unique had hi (by omega) h w).1 c
      rw [no, no]
      by_cases d : i < m
      · rw [if_pos d, if_pos (show i < m + 1 by omega)]
        rfl
      · rw [if_neg d, if_neg (show ¬ i < m + 1 by omega)]
        rfl
/-- which row is near -/
def NearO (n : Nat) (f : Nat → Nat → Bool) (k : Nat → Bool) (o : Option (Nat × Bool)) : Prop := nearUp n f k n = o.toList ∧ (∀ i b, o = some (i, b) → i < n ∧ nearB n (f i) k b = true) ∧ (o = none → ∀ i, i < n → ∀ b, nearB n (f i) k b = false)
theorem nearO_none {n : Nat} {f : Nat → Nat → Bool} {k : Nat → Bool} (h : ∀ i, i < n → ∀ p, nearB n (f i) k p = false) : NearO n f k none := ⟨nearUp_none h, fun _ _ e => (nomatch e), fun _ => h⟩
theorem nearO_some {n : Nat} {f : Nat → Nat → Bool} {k : Nat → Bool} (had : Had n f) {i : Nat} (hi : i < n) {p : Bool} (h : nearB n (f i) k p = true) : NearO n f k (some (i, p)) :=
  ⟨by rw [nearUp_one had hi h n (Nat.le_refl n), if_pos hi]; rfl, fun j b e => by cases e; exact ⟨hi, h⟩, fun e => (nomatch e)⟩
theorem nearO_ex {n : Nat} {f : Nat → Nat → Bool} (had : Had n f) (k : Nat → Bool) : ∃ o, NearO n f k o := by
  by_cases h : ∃ i p, i < n ∧ nearB n (f i) k p = true
  · obtain ⟨i, p, hi, hp⟩ := h
    exact ⟨_, nearO_some had hi hp⟩
  · refine ⟨none, nearO_none fun i hi p => ?_⟩
    cases q : nearB n (f i) k p with
    | false => rfl
    | true => exact absurd ⟨i, p, hi, q⟩ h
theorem far_isNone {n : Nat} {f : Nat → Nat → Bool} {k : Nat → Bool} {o : Option (Nat × Bool)} (h : NearO n f k o) : farB n f k = o.isNone := by
  unfold farB
  cases o with
  | none =>
    have e : ((List.range n).any fun i => nearB n (f i) k true || nearB n (f i) k false) = false := by
      rw [List.any_eq_false]
      intro i hi
      rw [h.2.2 rfl i (List.mem_range.mp hi), h.2.2 rfl i (List.mem_range.mp hi)]
      decide
    rw [e]
    rfl
  | some q =>
    obtain ⟨i, b⟩ := q
    obtain ⟨hi, hb⟩ := h.2.1 i b rfl
    have e : ((List.range n).any fun i => nearB n (f i) k true || nearB n (f i) k false) = true := by
      rw [List.any_eq_true]
      refine ⟨i, List.mem_range.mpr hi, ?_⟩
      cases b
      · rw [hb, Bool.or_true]
      · rw [hb, Bool.true_or]
    rw [e]
    rfl
theorem near_is {n : Nat} {f : Nat → Nat → Bool} {k : Nat → Bool} {o : Option (Nat × Bool)} (had : Had n f) (h : NearO n f k o) {i : Nat} (hi : i < n) (b : Bool) : nearR n f k (i : Int) b = decide (o = some (i, b)) := by
  unfold nearR
  rw [decide_eq_true (show (0 : Int) ≤ (i : Int) by omega), decide_eq_true (show (i : Int) < (n : Int) by omega), Int.toNat_natCast]
  show nearB n (f i) k b = _
  cases q : nearB n (f i) k b with
  | true =>
    cases o with
    | none => exact absurd (q.symm.trans (h.2.2 rfl i hi b)) (by decide)
    | some r =>
      obtain ⟨j, b'⟩ := r
      obtain ⟨hj, hb⟩ := h.2.1 j b' rfl
      obtain ⟨rfl, rfl⟩ := near_unique had hi hj q hb
      exact (decide_eq_true rfl).symm
  | false =>
    symm
    rw [decide_eq_false_iff_not]
    intro e
    exact absurd (q.symm.trans (h.2.1 i b e).2) (by decide)
/-! ### lists of new tuples -/
section
variable {K : PySem.W.Frag} {σ : L2.St} {H H' : Hp} {ta tb tc td te tx : TE} {t u : TT} {x y z v : V} {r r' r'' : R2} {D : Ends} {tz : TS}
def Tups (H : Hp) : List V → List (List V) → Prop
  | [], [] => True
  | x :: xs, q :: qs => (∃ a, x = .ref a ∧ H a = some (.tup q)) ∧ Tups H xs qs
  | _, _ => False
theorem Tups.ex (e : Ex H H') : ∀ {xs : List V} {qs : List (List V)}, Tups H xs qs → Tups H' xs qs
  | [], [], _ => trivial
  | _ :: _, _ :: _, h => ⟨h.1.imp fun a p => ⟨p.1, e a _ p.2⟩, Tups.ex e h.2⟩
  | [], _ :: _, h => h
  | _ :: _, [], h => h
theorem Tups.len : ∀ {xs : List V} {qs : List (List V)}, Tups H xs qs → xs.length = qs.length
  | [], [], _ => rfl
  | _ :: xs, _ :: qs, h => by
    rw [List.length_cons, List.length_cons, Tups.len h.2]
  | [], _ :: _, h => h.elim
  | _ :: _, [], h => h.elim
theorem Tups.snoc {a : Addr} {q : List V} (ha : H a = some (.tup q)) : ∀ {xs : List V} {qs : List (List V)}, Tups H xs qs → Tups H (xs ++ [.ref a]) (qs ++ [q])
  | [], [], _ => ⟨⟨a, rfl, ha⟩, trivial⟩
  | _ :: _, _ :: _, h => ⟨h.1, Tups.snoc ha h.2⟩
  | [], _ :: _, h => h.elim
  | _ :: _, [], h => h.elim
/-- a list is written anew: the tuples stay -/
theorem Tups.upd {l : Addr} {ys zs : List V} (hl : H l = some (.lst ys)) : ∀ {xs : List V} {qs : List (List V)}, Tups H xs qs → Tups (upd H l (.lst zs)) xs qs
  | [], [], _ => trivial
  | _ :: _, _ :: _, h => by
    obtain ⟨⟨a, e, ha⟩, k⟩ := h
    refine ⟨⟨a, e, ?_⟩, Tups.upd hl k⟩
    rw [upd_ne]
    · exact ha
    · rintro rfl
      rw [hl] at ha
      cases ha
  | [], _ :: _, h => h.elim
  | _ :: _, [], h => h.elim
def nvs (l : List (Nat × Bool)) : List (List V) := l.map fun q => [.int (q.1 : Int), .bl q.2]
theorem nvs_snoc (l : List (Nat × Bool)) (i : Nat) (b : Bool) : nvs (l ++ [(i, b)]) = nvs l ++ [[.int (i : Int), .bl b]] := by
  unfold nvs
  rw [List.map_append]
  rfl
/-- a list of at most one near row -/
def NearAt (H : Hp) (p : Addr) (o : Option (Nat × Bool)) : Prop := ∃ xs, H p = some (.lst xs) ∧ Tups H xs (nvs o.toList)
theorem NearAt.ex {p : Addr} {o : Option (Nat × Bool)} (e : Ex H H') (h : NearAt H p o) : NearAt H' p o := h.imp fun _ k => ⟨e p _ k.1, k.2.ex e⟩
def pdO (o : Option (Nat × Bool)) : List PyData := o.toList.map fun q => .tuple [.int (q.1 : Int), .bool q.2]
theorem NearAt.dp {p : Addr} {o : Option (Nat × Bool)} (h : NearAt H p o) : Dp K H (.ref p) (.list (pdO o)) := by
  obtain ⟨xs, hp, ht⟩ := h
  cases o with
  | none =>
    cases xs with
    | nil => exact .lst (sq_of hp) .nil
    | cons a b => exact ht.elim
  | some q =>
    match xs, ht with
    | [x], ht =>
      obtain ⟨⟨a, rfl, ha⟩, _⟩ := ht
      exact .lst (sq_of hp) (.cons (.tup (st_of ha) (.cons (.int _) (.cons (.bl _) .nil))) .nil)
theorem shO (o : Option (Nat × Bool)) : SeqAt.shaped (.list (pdO o)) = true := by
  cases o <;> rfl
theorem eqv_O (o o' : Option (Nat × Bool)) : PyData.eqv (.list (pdO o)) (.list (pdO o')) = decide (o = o') := by
  cases o with
  | none =>
    cases o' with
    | none => rfl
    | some q => rfl
  | some q =>
    cases o' with
    | none => rfl
    | some q' =>
      obtain ⟨i, b⟩ := q
      obtain ⟨j, c⟩ := q'
      show ((((i : Int) == (j : Int)) && ((b == c) && true)) && true) = _
      rw [Bool.eq_iff_iff]
      simp
      try omega
theorem rv_eqO {p q : Addr} {o o' : Option (Nat × Bool)} (hp : NearAt H p o) (hq : NearAt H q o') : RV (rEqD K) (.ref p) (.ref q) H (.bl (decide (o = o'))) := fun H1 e Q k =>
  ⟨_, _, (hp.ex e).dp, (hq.ex e).dp, shO o, shO o', by rw [eqv_O]; exact k H1 (Ex.refl H1)⟩
theorem rv_neO {p q : Addr} {o o' : Option (Nat × Bool)} (hp : NearAt H p o) (hq : NearAt H q o') : RV (rNeD K) (.ref p) (.ref q) H (.bl (!decide (o = o'))) := fun H1 e Q k =>
  ⟨_, _, (hp.ex e).dp, (hq.ex e).dp, shO o, shO o', by rw [eqv_O]; exact k H1 (Ex.refl H1)⟩
theorem rv_inO {p q : Addr} {o : Option (Nat × Bool)} {i : Nat} {b : Bool} (hp : H p = some (.tup [.int (i : Int), .bl b])) (hq : NearAt H q o) : RV (rInD K) (.ref p) (.ref q) H (.bl (decide (o = some (i, b)))) := fun H1 e Q k =>
  ⟨.tuple [.int (i : Int), .bool b], _, .tup (st_of (e p _ hp)) (.cons (.int _) (.cons (.bl _) .nil)), (hq.ex e).dp, rfl, shO o, by
    have w : ((pdO o).any fun z => PyData.eqv z (.tuple [.int (i : Int), .bool b])) = decide (o = some (i, b)) := by
      cases o with
      | none => rfl
      | some q' =>
        obtain ⟨j, c⟩ := q'
        show ((((j : Int) == (i : Int)) && ((c == b) && true)) || false) = _
        rw [Bool.eq_iff_iff]
        simp
        try omega
    rw [w]
    exact k H1 (Ex.refl H1)⟩
theorem near_nil {q : Addr} (h : H q = some (.lst [])) : NearAt H q none := ⟨[], h, trivial⟩
/-- [(a, b)] -/
theorem er_lst1 {i : Nat} {b : Bool} (ha : Ev ta σ H (.int (i : Int))) (hb : Ev tb σ H (.bl b)) : EvR (tLst (tCons (tTup (tCons ta (tCons tb tNil))) tNil)) σ H (fun v H2 => ∃ q, v = .ref q ∧ NearAt H2 q (some (i, b))) := fun H1 e Q k => by
  show (tTup (tCons ta (tCons tb tNil))) σ H1 (fun x H2 => [x].length ≤ sizeLine ∧ ∀ p, H2 p = none → Q (.ref p) (upd H2 p (.lst [x])))
  exact eu_tup (ea_cons ha (ea_cons hb ea_nil)) (by show 2 ≤ 100000; decide) H1 e _ fun p H2 _ e2 h2 => ⟨sz_of (show 1 ≤ 100000 by decide), fun l hl => k _ _ (e2.trans (Ex.new hl)) ⟨l, rfl, [.ref p], upd_same, ⟨⟨p, rfl, Ex.new hl p _ h2⟩, trivial⟩⟩⟩
theorem ev_opR {R : V → Hp → Prop} (ha : Ev ta σ H x) (hb : EvR tb σ H R) (hr : ∀ v H1, Ex H H1 → R v H1 → RV r x v H1 z) : Ev (tOp r ta tb) σ H z := fun H1 e Q q =>
  ha H1 e _ fun H2 e2 => hb H2 (e.trans e2) _ fun v H3 e3 hv => hr v H3 ((e.trans e2).trans e3) hv H3 (Ex.refl H3) Q fun H4 e4 => q H4 ((e2.trans e3).trans e4)
theorem ev_opUV {xs : List V} (ha : EvU ta σ H xs) (hb : Ev tb σ H y) (hr : ∀ p H1, H1 p = some (.tup xs) → Ex H H1 → RV r (.ref p) y H1 z) : Ev (tOp r ta tb) σ H z := fun H1 e Q q =>
  ha H1 e _ fun p H2 _ e2 h2 => hb H2 (e.trans e2) _ fun H3 e3 => hr p H3 (e3 p _ h2) ((e.trans e2).trans e3) H3 (Ex.refl H3) Q fun H4 e4 => q H4 ((e2.trans e3).trans e4)
theorem er_if {b : Bool} {R : V → Hp → Prop} (h : EvT t σ H b) (h1 : b = true → EvR ta σ H R) (h2 : b = false → EvR tb σ H R) : EvR (tIf t ta tb) σ H R := fun H1 e Q q => h H1 e _ fun H2 e2 => by
  cases b with
  | true => exact h1 rfl H2 (e.trans e2) Q fun v H3 e3 hv => q v H3 (e2.trans e3) hv
  | false => exact h2 rfl H2 (e.trans e2) Q fun v H3 e3 hv => q v H3 (e2.trans e3) hv
theorem er_callL2 {sp : Sp} {dvs xs : List V} {E : XK} {R : V → Hp → Prop} (h : EvL ta σ H xs) (hb : Ev tb σ H y) (hs : ∀ p H1, Ex H H1 → H1 p = some (.lst xs) → ∀ Q : VK, (∀ v H2, Ex H1 H2 → R v H2 → Q v H2) → sp ([.ref p, y] ++ dvs) H1 Q E) : EvR (tCall sp dvs E (tCons ta (tCons tb tNil))) σ H R := fun H1 e Q q =>
  h H1 e _ fun p H2 _ e2 h2 => hb H2 (e.trans e2) _ fun H3 e3 => hs p H3 ((e.trans e2).trans e3) (e3 p _ h2) Q fun v H4 e4 hv => q v H4 ((e2.trans e3).trans e4) hv
/-- over a new tuple -/
theorem s_forU {xs : List V} {tl : TE} {j : Nat} {tu : TS} (h : EvU tl σ H xs) (Pv : Nat → L2.St → Hp → Prop) (h0 : ∀ H1, Ex H H1 → Pv 0 σ H1)
    (hs : ∀ H1, Ex H H1 → ∀ i x σ' H', xs[i]? = some x → Pv i σ' H' → Ex H1 H' → tu { D with nx := fun s h => Pv (i + 1) s h ∧ Ex H1 h, ct := fun s h => Pv (i + 1) s h ∧ Ex H1 h, bk := D.nx } (σ'.set j (some x)) H') (hd : ∀ σ' H', Pv xs.length σ' H' → D.nx σ' H') : tFor (iTup K tl) (gName j) tu D σ H :=
  h H (Ex.refl H) _ fun p H1 _ e h1 => ⟨p, rfl, ⟨xs, st_of h1⟩, for_tup (K := K) (fun i σ' H' => Pv i σ' H' ∧ Ex H1 H') ⟨h0 H1 e, Ex.refl H1⟩ (fun i σ' H' _ q => st_of (q.2 p _ h1)) (fun i x σ' H' hx q => hs H1 e i x σ' H' hx q.1 q.2) (fun σ' H' q => hd σ' H' q.1)⟩
end
/-! ### promises -/
def sp_asked_half (K : PySem.W.Frag) : Sp := fun vs H Q _ => ∃ (a : Addr) (n : Nat) (f : Nat → Nat → Bool), vs = [.ref a] ∧ TabAt K H a n f ∧ 1 ≤ n ∧ n ≤ 100 ∧ (∃ xs, H a = some (.lst xs)) ∧ halfB n f = true ∧ RetV .non H Q
def sp_read (K : PySem.W.Frag) (CN CF : Addr) : Sp := fun vs H Q _ => ∃ (a : Addr) (n : Nat) (f : Nat → Nat → Bool) (k : Nat → Bool), vs = [.ref a, .str (rowS n k)] ∧ TabAt K H a n f ∧ 1 ≤ n ∧ n ≤ 100 ∧ (∃ xs, H a = some (.lst xs)) ∧ halfB n f = true ∧
  (∀ i b, i < n → nearB n (f i) k b = true → ∀ p dx H2, H p = none → Ex H H2 → H2 p = some (.ins CN dx (nf (.int (i : Int)) (.bl b))) → Q (.ref p) H2) ∧
  ((∀ i, i < n → ∀ b, nearB n (f i) k b = false) → ∀ p dx H2, H p = none → Ex H H2 → H2 p = some (.ins CF dx []) → Q (.ref p) H2)
def sp_L_near (K : PySem.W.Frag) : Sp := fun vs H Q _ => ∃ (a : Addr) (n : Nat) (f : Nat → Nat → Bool) (k : Nat → Bool), vs = [.ref a, .str (rowS n k)] ∧ TabAt K H a n f ∧ n ≤ 1000 ∧ ∀ p xs H2, H p = none → Ex H H2 → H2 p = some (.lst xs) → Tups H2 xs (nvs (nearUp n f k n)) → Q (.ref p) H2
def sp_right5 (K : PySem.W.Frag) : Sp := fun vs H Q _ => ∃ (a b : Addr) (n : Nat) (f : Nat → Nat → Bool) (k : Nat → Bool) (ks : List (Nat → Bool)), vs = [.ref a, .str (rowS n k), .ref b] ∧ TabAt K H a n f ∧ SqL K H b (ks.map fun g => V.str (rowS n g)) ∧ 1 ≤ n ∧ n ≤ 100 ∧ halfB n f = true ∧ RetV (.bl true) H Q
theorem near_t (n : Nat) (g k : Nat → Bool) : decide (4 * ((n : Int) - (alk n g k : Int)) < (n : Int)) = nearB n g k true := by
  have h := nearB_int n g k true
  rw [if_pos rfl] at h
  exact h
theorem near_f (n : Nat) (g k : Nat → Bool) : decide (4 * (alk n g k : Int) < (n : Int)) = nearB n g k false := by
  have h := nearB_int n g k false
  rw [if_neg (by decide)] at h
  exact h
theorem nearUp_len (n : Nat) (f : Nat → Nat → Bool) (k : Nat → Bool) : ∀ m, (nearUp n f k m).length ≤ 2 * m
  | 0 => Nat.le_refl 0
  | m + 1 => by
    have ih := nearUp_len n f k m
    rw [nearUp_succ, List.length_append, List.length_append]
    have a : (if nearB n (f m) k true = true then [(m, true)] else []).length ≤ 1 := by
      split <;> simp
    have b : (if nearB n (f m) k false = true then [(m, false)] else []).length ≤ 1 := by
      split <;> simp
    omega
/-- what read answered -/
def Fnd (CN CF : Addr) (H : Hp) (p : Addr) (o : Option (Nat × Bool)) : Prop := match o with
  | some (i, b) => ∃ dx, H p = some (.ins CN dx (nf (.int (i : Int)) (.bl b)))
  | none => ∃ dx, H p = some (.ins CF dx [])
theorem Fnd.ex {CN CF : Addr} {H H' : Hp} {p : Addr} (e : Ex H H') : ∀ {o : Option (Nat × Bool)}, Fnd CN CF H p o → Fnd CN CF H' p o
  | some (_, _), ⟨dx, h⟩ => ⟨dx, e p _ h⟩
  | none, ⟨dx, h⟩ => ⟨dx, e p _ h⟩
theorem er_read {K : PySem.W.Frag} {σ : L2.St} {H : Hp} {CN CF : Addr} {E : XK} {ts : TA} {a : Addr} {n : Nat} {f : Nat → Nat → Bool} {k : Nat → Bool} {xs : List V} (h : EvA ts σ H [.ref a, .str (rowS n k)]) (hT : TabAt K H a n f) (h1 : 1 ≤ n) (h2 : n ≤ 100) (hx : H a = some (.lst xs)) (hh : halfB n f = true) :
    EvR (tCall (sp_read K CN CF) [] E ts) σ H (fun v H2 => ∃ p o, v = .ref p ∧ Fnd CN CF H2 p o ∧ NearO n f k o) :=
  er_call h fun H1 e1 Q q => ⟨a, n, f, k, rfl, TabAt.ex e1 hT, h1, h2, ⟨xs, e1 a _ hx⟩, hh, fun i b hi hb p dx H2 _ e2 h2' => q _ H2 e2 ⟨p, some (i, b), rfl, ⟨dx, h2'⟩, nearO_some (half_had hh) hi hb⟩, fun hf p dx H2 _ e2 h2' => q _ H2 e2 ⟨p, none, rfl, ⟨dx, h2'⟩, nearO_none hf⟩⟩
theorem er_near {K : PySem.W.Frag} {σ : L2.St} {H : Hp} {E : XK} {ts : TA} {a : Addr} {n : Nat} {f : Nat → Nat → Bool} {k : Nat → Bool} {o : Option (Nat × Bool)} (h : EvA ts σ H [.ref a, .str (rowS n k)]) (hT : TabAt K H a n f) (h2 : n ≤ 1000) (hO : NearO n f k o) :
    EvR (tCall (sp_L_near K) [] E ts) σ H (fun v H2 => ∃ p, v = .ref p ∧ NearAt H2 p o) :=
  er_call h fun H1 e1 Q q => ⟨a, n, f, k, rfl, TabAt.ex e1 hT, h2, fun p xs H2 _ e2 h2' ht => q _ H2 e2 ⟨p, rfl, xs, h2', by rw [hO.1] at ht; exact ht⟩⟩
theorem atI_last {xs : List V} {v : V} (hl : 1 ≤ xs.length) (h : xs[xs.length - 1]? = some v) : atI xs (-1) = some v := by
  unfold atI ixN
  rw [if_neg (by decide)]
  first
    | (rw [if_pos (by omega)]; show xs[((-1 : Int) + (xs.length : Int)).toNat]? = _; rw [show ((-1 : Int) + (xs.length : Int)).toNat = xs.length - 1 by omega]; exact h)
    | (simp; exact h)
theorem units65 {k : Nat} {A : Around} (r : Room k A) : A.units + 65 < cLine := by
  have := r.un
  omega
def dueO (o o' : Option (Nat × Bool)) : Bool := match o with
  | some r => decide (o' = some r)
  | none => o'.isNone
end HA

end
section
set_option maxRecDepth 100000
set_option maxHeartbeats 4000000
namespace HA
open PySem PySem.Spec PyProof.Rows L2 Evl
/-! ### tables changed stay half alike -/
def trn (f : Nat → Nat → Bool) : Nat → Nat → Bool := fun i j => f j i
def trd (r : Nat) (f : Nat → Nat → Bool) : Nat → Nat → Bool := fun i j => if i = r then !f i j else f i j
def pfs (f : Nat → Nat → Bool) : Nat → Nat → Bool := fun i j => f i j == f i 0
def evn (f : Nat → Nat → Bool) : Nat → Nat → Bool := fun i j => (f i j == f 0 j) == (f i 0 == f 0 0)
def kron (m : Nat) (f g : Nat → Nat → Bool) : Nat → Nat → Bool := fun i j => f (i / m) (j / m) == g (i % m) (j % m)
theorem had_col {n : Nat} {f : Nat → Nat → Bool} (c : Nat → Bool) (h : Had n f) : Had n (fun i j => f i j == c j) := fun i hi j hj hne => by
  rw [← h i hi j hj hne]
  show S n _ = S n _
  refine S_congr fun k _ => ?_
  show sg (f i k == c k) * sg (f j k == c k) = sg (f i k) * sg (f j k)
  cases f i k <;> cases f j k <;> cases c k <;> rfl
theorem had_trd {n : Nat} {f : Nat → Nat → Bool} (r : Nat) (h : Had n f) : Had n (trd r f) :=
  had_perm id (fun i => decide (i = r)) (fun i hi => hi) (fun i _ j _ e => e) (fun i _ k _ => by
    show trd r f i k = (f i k ^^ decide (i = r))
    unfold trd
    by_cases e : i = r
    · rw [if_pos e, decide_eq_true e]
      cases f i k <;> rfl
    · rw [if_neg e, decide_eq_false e]
      cases f i k <;> rfl) h
theorem had_evn {n : Nat} {f : Nat → Nat → Bool} (h : Had n f) : Had n (evn f) :=
  had_perm id (fun i => !(f i 0 == f 0 0)) (fun i hi => hi) (fun i _ j _ e => e) (fun i _ k _ => by
    show ((f i k == f 0 k) == (f i 0 == f 0 0)) = ((f i k == f 0 k) ^^ !(f i 0 == f 0 0))
    cases (f i k == f 0 k) <;> cases (f i 0 == f 0 0) <;> rfl) (had_col (f 0) h)
theorem S_mul (m : Nat) : ∀ (n : Nat) (F : Nat → Int), S (n * m) F = S n fun a => S m fun b => F (a * m + b)
  | 0, F => by
    rw [Nat.zero_mul]
    rfl
  | n + 1, F => by
    rw [Nat.succ_mul, S_split, S_mul m n F]
    rfl
theorem had_kron {n m : Nat} {f g : Nat → Nat → Bool} (hf : Had n f) (hg : Had m g) : Had (n * m) (kron m f g) := fun i hi j hj hne => by
  have hm : 0 < m := by
    rcases Nat.eq_zero_or_pos m with q | q
    · rw [q, Nat.mul_zero] at hi
      exact absurd hi (by omega)
    · exact q
  have key : ip (n * m) (kron m f g i) (kron m f g j) = ip n (f (i / m)) (f (j / m)) * ip m (g (i % m)) (g (j % m)) := by
    show S (n * m) _ = S n _ * _
    rw [S_mul, ← S_mulR]
    refine S_congr fun a _ => ?_
    show S m _ = _ * S m _
    rw [← S_mulL]
    refine S_congr fun b hb => ?_
    have e1 : (a * m + b) / m = a := by
      rw [Nat.mul_comm, Nat.mul_add_div hm, Nat.div_eq_of_lt hb]
      rfl
    have e2 : (a * m + b) % m = b := by
      rw [Nat.mul_comm, Nat.mul_add_mod, Nat.mod_eq_of_lt hb]
    unfold kron
    rw [e1, e2]
    cases f (i / m) a <;> cases f (j / m) a <;> cases g (i % m) b <;> cases g (j % m) b <;> rfl
  rw [key]
  have hi1 : i / m < n := (Nat.div_lt_iff_lt_mul hm).mpr hi
  have hj1 : j / m < n := (Nat.div_lt_iff_lt_mul hm).mpr hj
  by_cases c : i / m = j / m
  · have d : i % m ≠ j % m := fun e => hne (by rw [← Nat.div_add_mod i m, ← Nat.div_add_mod j m, c, e])
    rw [hg _ (Nat.mod_lt _ hm) _ (Nat.mod_lt _ hm) d, Int.mul_zero]
  · rw [hf _ hi1 _ hj1 c, Int.zero_mul]
theorem half_trn {n : Nat} {f : Nat → Nat → Bool} (h : halfB n f = true) : halfB n (trn f) = true := had_half (had_tr (half_had h))
theorem half_trd {n : Nat} {f : Nat → Nat → Bool} (r : Nat) (h : halfB n f = true) : halfB n (trd r f) = true := had_half (had_trd r (half_had h))
theorem half_evn {n : Nat} {f : Nat → Nat → Bool} (h : halfB n f = true) : halfB n (evn f) = true := had_half (had_evn (half_had h))
theorem half_kron {n m : Nat} {f g : Nat → Nat → Bool} (hf : halfB n f = true) (hg : halfB m g = true) : halfB (n * m) (kron m f g) = true := had_half (had_kron (half_had hf) (half_had hg))
theorem evn_is (f : Nat → Nat → Bool) : pfs (trn (pfs (trn f))) = evn f := rfl
/-! ### joins of rows -/
theorem join_snoc (ys : List Str) (y : Str) : Txt.join ⟨#[]⟩ (ys ++ [y]) = Txt.join ⟨#[]⟩ ys ++ y := by
  apply str_ext
  rw [join_toList, app_cps, Array.toList_append, join_toList, List.map_append, List.flatten_append]
  simp
theorem join_rows (m : Nat) (h : Nat → Nat → Bool) : ∀ n, Txt.join ⟨#[]⟩ ((List.range n).map fun a => rowS m (h a)) = rowS (n * m) fun j => h (j / m) (j % m)
  | 0 => by
    rw [Nat.zero_mul]
    rfl
  | n + 1 => by
    rw [List.range_succ, List.map_append]
    show Txt.join ⟨#[]⟩ (((List.range n).map fun a => rowS m (h a)) ++ [rowS m (h n)]) = _
    rw [join_snoc, join_rows m h n, rowS_app, Nat.succ_mul]
    refine rowS_ext fun j hj => ?_
    by_cases c : j < n * m
    · rw [if_pos c]
    · have hm : 0 < m := by omega
      obtain ⟨b, rfl⟩ : ∃ b, j = n * m + b := ⟨j - n * m, by omega⟩
      have hb : b < m := by omega
      have e1 : (n * m + b) / m = n := by
        rw [Nat.mul_comm, Nat.mul_add_div hm, Nat.div_eq_of_lt hb]
        rfl
      have e2 : (n * m + b) % m = b := by
        rw [Nat.mul_comm, Nat.mul_add_mod, Nat.mod_eq_of_lt hb]
      rw [if_neg c, e1, e2, show n * m + b - n * m = b by omega]
theorem sum_lens (m : Nat) (h : Nat → Nat → Bool) : ∀ n, (((List.range n).map fun a => rowS m (h a)).map (·.length)).sum = n * m
  | 0 => by
    rw [Nat.zero_mul]
    rfl
  | n + 1 => by
    rw [List.range_succ, List.map_append, List.map_append, List.sum_append, sum_lens m h n, Nat.succ_mul]
    show n * m + ((rowS m (h n)).length + 0) = _
    rw [rowS_len]
    rfl
/-- a table's rows as far as k -/
def rowsTo (n : Nat) (f : Nat → Nat → Bool) (k : Nat) : List V := (List.range k).map fun i => V.str (rowS n (f i))
theorem rowsTo_len (n : Nat) (f : Nat → Nat → Bool) (k : Nat) : (rowsTo n f k).length = k := by
  unfold rowsTo
  rw [List.length_map, List.length_range]
/-! ### what is known of arguments -/
section
variable {K : PySem.W.Frag} {σ : L2.St} {H H' : Hp} {ta tb tc td te tx : TE} {t u : TT} {x y z v : V} {r r' r'' : R2} {D : Ends} {tz : TS}
def EvAR (ts : TA) (σ : L2.St) (H : Hp) (R : List V → Hp → Prop) : Prop := ∀ H1, Ex H H1 → ∀ Q : List V → Hp → Prop, (∀ vs H2, Ex H1 H2 → R vs H2 → Q vs H2) → ts σ H1 Q
def Kept {α : Type} (R : α → Hp → Prop) : Prop := ∀ v H H', Ex H H' → R v H → R v H'
theorem ear_nil : EvAR tNil σ H (fun vs _ => vs = []) := fun H1 _ Q q => q [] H1 (Ex.refl H1) rfl
theorem ear_cons {ts : TA} {R1 : V → Hp → Prop} {R2 : List V → Hp → Prop} (k : Kept R1) (ha : EvR ta σ H R1) (hs : EvAR ts σ H R2) : EvAR (tCons ta ts) σ H (fun vs H => ∃ v r, vs = v :: r ∧ R1 v H ∧ R2 r H) := fun H1 e Q q =>
  ha H1 e _ fun v H2 e2 hv => hs H2 (e.trans e2) _ fun vs H3 e3 hvs => q (v :: vs) H3 (e2.trans e3) ⟨v, vs, rfl, k v H2 H3 e3 hv, hvs⟩
theorem er_ev (h : Ev ta σ H x) : EvR ta σ H (fun v _ => v = x) := fun H1 e Q q => h H1 e Q fun H2 e2 => q x H2 e2 rfl
theorem er_tup {ts : TA} {R : List V → Hp → Prop} (k : Kept R) (hl : ∀ vs H, R vs H → vs.length ≤ 100000) (h : EvAR ts σ H R) : EvR (tTup ts) σ H (fun v H => ∃ p vs, v = .ref p ∧ H p = some (.tup vs) ∧ R vs H) := fun H1 e Q q =>
  h H1 e _ fun vs H2 e2 hv => ⟨sz_of (hl vs H2 hv), fun p hp => q _ _ (e2.trans (Ex.new hp)) ⟨p, vs, rfl, upd_same, k vs H2 _ (Ex.new hp) hv⟩⟩
theorem er_lst {ts : TA} {R : List V → Hp → Prop} (k : Kept R) (hl : ∀ vs H, R vs H → vs.length ≤ 100000) (h : EvAR ts σ H R) : EvR (tLst ts) σ H (fun v H => ∃ p vs, v = .ref p ∧ H p = some (.lst vs) ∧ R vs H) := fun H1 e Q q =>
  h H1 e _ fun vs H2 e2 hv => ⟨sz_of (hl vs H2 hv), fun p hp => q _ _ (e2.trans (Ex.new hp)) ⟨p, vs, rfl, upd_same, k vs H2 _ (Ex.new hp) hv⟩⟩
/-- a new list of the items xs -/
def IsL (xs : List V) : V → Hp → Prop := fun v H => ∃ p, v = .ref p ∧ H p = some (.lst xs)
theorem kept_isL (xs : List V) : Kept (IsL xs) := fun v H H' e ⟨p, h1, h2⟩ => ⟨p, h1, e p _ h2⟩
theorem kept_eq (x : V) : Kept (fun v (_ : Hp) => v = x) := fun _ _ _ _ h => h
theorem er_isL {xs : List V} (h : EvL ta σ H xs) : EvR ta σ H (IsL xs) := EvL.evR h
theorem ev_opLR {xs ys : List V} (ha : EvL ta σ H xs) (hb : EvL tb σ H ys) (hr : ∀ p q H1, H1 p = some (.lst xs) → H1 q = some (.lst ys) → Ex H H1 → RV r (.ref p) (.ref q) H1 z) : Ev (tOp r ta tb) σ H z := fun H1 e Q k =>
  ha H1 e _ fun p H2 _ e2 h2 => hb H2 (e.trans e2) _ fun q H3 _ e3 h3 => hr p q H3 (e3 p _ h2) h3 ((e.trans e2).trans e3) H3 (Ex.refl H3) Q fun H4 e4 => k H4 ((e2.trans e3).trans e4)
theorem ev_opLV {xs : List V} (ha : EvL ta σ H xs) (hb : Ev tb σ H y) (hr : ∀ p H1, H1 p = some (.lst xs) → Ex H H1 → RV r (.ref p) y H1 z) : Ev (tOp r ta tb) σ H z := fun H1 e Q k =>
  ha H1 e _ fun p H2 _ e2 h2 => hb H2 (e.trans e2) _ fun H3 e3 => hr p H3 (e3 p _ h2) ((e.trans e2).trans e3) H3 (Ex.refl H3) Q fun H4 e4 => k H4 ((e2.trans e3).trans e4)
/-- f(g(..)): the argument a new list -/
theorem el_callL {sp : Sp} {xs zs : List V} {E : XK} (h : EvL ta σ H xs) (hs : ∀ p H1, Ex H H1 → H1 p = some (.lst xs) → ∀ Q, RetL zs H1 Q → ∀ E', sp [.ref p] H1 Q E') : EvL (tCall sp [] E (tCons ta tNil)) σ H zs := fun H1 e Q q =>
  h H1 e _ fun p H2 hp e2 h2 => hs p H2 (e.trans e2) h2 Q (fun p' H3 hp' e3 h3 => q p' H3 (fresh_back e2 hp') (e2.trans e3) h3) E
theorem el_callLV {sp : Sp} {xs zs : List V} {E : XK} (h : EvL ta σ H xs) (hb : Ev tb σ H y) (hs : ∀ p H1, Ex H H1 → H1 p = some (.lst xs) → ∀ Q, RetL zs H1 Q → ∀ E', sp [.ref p, y] H1 Q E') : EvL (tCall sp [] E (tCons ta (tCons tb tNil))) σ H zs := fun H1 e Q q =>
  h H1 e _ fun p H2 hp e2 h2 => hb H2 (e.trans e2) _ fun H3 e3 => hs p H3 ((e.trans e2).trans e3) (e3 p _ h2) Q (fun p' H4 hp' e4 h4 => q p' H4 (fresh_back (e2.trans e3) hp') ((e2.trans e3).trans e4) h4) E
theorem el_callVL {sp : Sp} {ys zs : List V} {E : XK} (h : Ev ta σ H x) (hb : EvL tb σ H ys) (hs : ∀ p H1, Ex H H1 → H1 p = some (.lst ys) → ∀ Q, RetL zs H1 Q → ∀ E', sp [x, .ref p] H1 Q E') : EvL (tCall sp [] E (tCons ta (tCons tb tNil))) σ H zs := fun H1 e Q q =>
  h H1 e _ fun H2 e2 => hb H2 (e.trans e2) _ fun p H3 hp e3 h3 => hs p H3 ((e.trans e2).trans e3) h3 Q (fun p' H4 hp' e4 h4 => q p' H4 (fresh_back (e2.trans e3) hp') ((e2.trans e3).trans e4) h4) E
end
/-! ### promises -/
def sp_is_number : Sp := fun vs H Q _ => ∃ z : Int, vs = [.int z] ∧ RetV (.bl true) H Q
def sp_tab (K : PySem.W.Frag) (F : (Nat → Nat → Bool) → Nat → Nat → Bool) : Sp := fun vs H Q _ => ∃ (a : Addr) (n : Nat) (f : Nat → Nat → Bool), vs = [.ref a] ∧ TabAt K H a n f ∧ 1 ≤ n ∧ n ≤ 100 ∧ (∃ xs, H a = some (.lst xs)) ∧ RetL (tabV n (F f)) H Q
def sp_turned (K : PySem.W.Frag) : Sp := fun vs H Q _ => ∃ (a : Addr) (n r : Nat) (f : Nat → Nat → Bool), vs = [.ref a, .int (r : Int)] ∧ TabAt K H a n f ∧ r < n ∧ n ≤ 100 ∧ (∃ xs, H a = some (.lst xs)) ∧ RetL (tabV n (trd r f)) H Q
def sp_product (K : PySem.W.Frag) : Sp := fun vs H Q _ => ∃ (a b : Addr) (n m : Nat) (f g : Nat → Nat → Bool), vs = [.ref a, .ref b] ∧ TabAt K H a n f ∧ TabAt K H b m g ∧ 1 ≤ n ∧ 1 ≤ m ∧ n * m ≤ 100 ∧ (∃ xs, H a = some (.lst xs)) ∧ (∃ xs, H b = some (.lst xs)) ∧ RetL (tabV (n * m) (kron m f g)) H Q
def sp_is_table (K : PySem.W.Frag) : Sp := fun vs H Q _ => ∃ (a : Addr) (n : Nat) (f : Nat → Nat → Bool), vs = [.ref a, .int (n : Int)] ∧ H a = some (.lst (tabV n f)) ∧ n ≤ 1000 ∧ RetV (.bl true) H Q
def sp_right3 (K : PySem.W.Frag) : Sp := fun vs H Q _ => ∃ (a : Addr) (n r : Nat) (f : Nat → Nat → Bool), vs = [.ref a, .int (r : Int)] ∧ TabAt K H a n f ∧ r < n ∧ n ≤ 100 ∧ (∃ xs, H a = some (.lst xs)) ∧ RetV (.bl true) H Q
theorem strip_all3 {goes : Nat → Bool} {x : Str} (h : ∀ c ∈ x.cps.toList, goes c = true) : Txt.stripBy goes true true x = ⟨#[]⟩ := by
  have tw : x.cps.toList.takeWhile goes = x.cps.toList := by
    have : ∀ l : List Nat, (∀ c ∈ l, goes c = true) → l.takeWhile goes = l := fun l => by
      induction l with
      | nil => intro _; rfl
      | cons a r ih =>
        intro hl
        rw [List.takeWhile_cons, if_pos (hl a (List.mem_cons_self ..)), ih fun c hc => hl c (List.mem_cons_of_mem _ hc)]
    exact this _ h
  have lo : PySem.stripLo goes true x = x.length := by
    unfold PySem.stripLo
    rw [if_pos rfl, tw]
    rfl
  have hi : PySem.stripHi goes true x x.length = x.length := by
    unfold PySem.stripHi
    have hd : List.drop x.length x.cps.toList = [] := List.drop_of_length_le (Nat.le_of_eq (by simp [Str.length]))
    rw [if_pos rfl, hd]
    rfl
  unfold Txt.stripBy PySem.stripSame PySem.stripped
  rw [lo, hi]
  by_cases e : x.length = 0
  · rw [if_pos (by simp [e])]
    obtain ⟨a⟩ := x
    have : a = #[] := Array.eq_empty_of_size_eq_zero e
    rw [this]
  · rw [if_neg (by simp [e])]
    unfold Builtin.Str.strSub
    apply str_ext
    simp
theorem row_strip3 (n : Nat) (g : Nat → Bool) : Txt.stripChars (rowS n g) (Str.ofString "+-") = ⟨#[]⟩ := by
  unfold Txt.stripChars
  refine strip_all3 fun c hc => ?_
  have hc' : c ∈ (List.range n).map fun j => cp (g j) := hc
  obtain ⟨j, _, rfl⟩ := List.mem_map.mp hc'
  cases g j <;> decide +kernel
/-! ### lists of lists and of pairs -/
section
variable {K : PySem.W.Frag} {σ : L2.St} {H H' : Hp} {ta tb tc td te tx : TE} {t u : TT} {x y z v : V} {r r' r'' : R2} {D : Ends} {tz : TS}
def PL (w : Int) (xs : List V) : V → Hp → Prop := fun v H => ∃ t d, v = .ref t ∧ H t = some (.tup [.int w, .ref d]) ∧ H d = some (.lst xs)
theorem kept_PL (w : Int) (xs : List V) : Kept (PL w xs) := fun v H H' e ⟨t, d, h1, h2, h3⟩ => ⟨t, d, h1, e t _ h2, e d _ h3⟩
theorem er_PL {w : Int} {xs : List V} (ha : Ev ta σ H (.int w)) (hb : EvR tb σ H (IsL xs)) : EvR (tTup (tCons ta (tCons tb tNil))) σ H (PL w xs) := fun H1 e Q q =>
  ha H1 e _ fun H2 e2 => hb H2 (e.trans e2) _ fun v H3 e3 ⟨d, hv, hd⟩ => ⟨sz_of (show 2 ≤ 100000 by decide), fun p hp => by
    subst hv
    exact q _ _ ((e2.trans e3).trans (Ex.new hp)) ⟨p, d, rfl, upd_same, Ex.new hp d _ hd⟩⟩
theorem er_varL {p : Addr} {xs : List V} (ha : Ev ta σ H (.ref p)) (hp : H p = some (.lst xs)) : EvR ta σ H (IsL xs) := fun H1 e Q q => ha H1 e _ fun H2 e2 => q _ H2 e2 ⟨p, rfl, (e.trans e2) p _ hp⟩
theorem er_lst3 {R1 R2 R3 : V → Hp → Prop} (k1 : Kept R1) (k2 : Kept R2) (k3 : Kept R3) (h1 : EvR ta σ H R1) (h2 : EvR tb σ H R2) (h3 : EvR tc σ H R3) : EvR (tLst (tCons ta (tCons tb (tCons tc tNil)))) σ H (fun v H => ∃ l x y z, v = .ref l ∧ H l = some (.lst [x, y, z]) ∧ R1 x H ∧ R2 y H ∧ R3 z H) := fun H1 e Q q =>
  h1 H1 e _ fun x H2 e2 hx => h2 H2 (e.trans e2) _ fun y H3 e3 hy => h3 H3 ((e.trans e2).trans e3) _ fun z H4 e4 hz => ⟨sz_of (show 3 ≤ 100000 by decide), fun p hp =>
    q _ _ (((e2.trans e3).trans e4).trans (Ex.new hp)) ⟨p, x, y, z, rfl, upd_same, k1 x _ _ ((e3.trans e4).trans (Ex.new hp)) hx, k2 y _ _ (e4.trans (Ex.new hp)) hy, k3 z _ _ (Ex.new hp) hz⟩⟩
/-- one of four new lists -/
theorem er_pick4 {x1 x2 x3 x4 : List V} {m : Nat} (hm : m < 4) (h1 : EvL ta σ H x1) (h2 : EvL tb σ H x2) (h3 : EvL tc σ H x3) (h4 : EvL td σ H x4) (hi : Ev te σ H (.int (m : Int))) : EvR (tOp (rIxL K) (tLst (tCons ta (tCons tb (tCons tc (tCons td tNil))))) te) σ H (fun v H => ∃ xs, xs ∈ [x1, x2, x3, x4] ∧ IsL xs v H) := fun H1 e Q q =>
  h1 H1 e _ fun p1 H2 _ e2 q1 => h2 H2 (e.trans e2) _ fun p2 H3 _ e3 q2 => h3 H3 ((e.trans e2).trans e3) _ fun p3 H4 _ e4 q3 => h4 H4 (((e.trans e2).trans e3).trans e4) _ fun p4 H5 _ e5 q4 => ⟨sz_of (show 4 ≤ 100000 by decide), fun p hp =>
    hi _ (((((e.trans e2).trans e3).trans e4).trans e5).trans (Ex.new hp)) _ fun H6 e6 => by
      have E5 := (Ex.new hp (o := .lst [.ref p1, .ref p2, .ref p3, .ref p4])).trans e6
      have F : Ex H1 H6 := ((((e2.trans e3).trans e4).trans e5)).trans E5
      have hl : H6 p = some (.lst [.ref p1, .ref p2, .ref p3, .ref p4]) := e6 p _ upd_same
      match m, hm with
      | 0, _ => exact ⟨p, _, _, .ref p1, rfl, rfl, sq_of hl, rfl, q _ H6 F ⟨x1, by simp, p1, rfl, (((e3.trans e4).trans e5).trans E5) p1 _ q1⟩⟩
      | 1, _ => exact ⟨p, _, _, .ref p2, rfl, rfl, sq_of hl, rfl, q _ H6 F ⟨x2, by simp, p2, rfl, ((e4.trans e5).trans E5) p2 _ q2⟩⟩
      | 2, _ => exact ⟨p, _, _, .ref p3, rfl, rfl, sq_of hl, rfl, q _ H6 F ⟨x3, by simp, p3, rfl, (e5.trans E5) p3 _ q3⟩⟩
      | 3, _ => exact ⟨p, _, _, .ref p4, rfl, rfl, sq_of hl, rfl, q _ H6 F ⟨x4, by simp, p4, rfl, E5 p4 _ q4⟩⟩⟩
theorem Tups.get : ∀ {xs : List V} {qs : List (List V)} {i : Nat} {x : V}, Tups H xs qs → xs[i]? = some x → ∃ q a, q ∈ qs ∧ x = .ref a ∧ H a = some (.tup q)
  | x :: xs, q :: qs, 0, y, h, e => by
    obtain ⟨a, rfl, ha⟩ := h.1
    have e' : some (V.ref a) = some y := e
    cases e'
    exact ⟨q, a, List.mem_cons_self .., rfl, ha⟩
  | _ :: xs, q :: qs, i + 1, y, h, e => by
    have e' : xs[i]? = some y := e
    obtain ⟨q', a, m, r⟩ := Tups.get h.2 e'
    exact ⟨q', a, List.mem_cons_of_mem _ m, r⟩
  | [], [], _, _, _, e => nomatch e
  | [], _ :: _, _, _, h, _ => h.elim
  | _ :: _, [], _, _, h, _ => h.elim
def EvTs (ts : TA) (σ : L2.St) (H : Hp) (qs : List (List V)) : Prop := EvAR ts σ H (fun xs H => Tups H xs qs)
theorem ets_nil : EvTs tNil σ H [] := fun H1 _ Q q => q [] H1 (Ex.refl H1) trivial
theorem ets_cons {ta ts : TA} {vs : List V} {qs : List (List V)} (h : EvA ta σ H vs) (hl : vs.length ≤ 1000) (hs : EvTs ts σ H qs) : EvTs (tCons (tTup ta) ts) σ H (vs :: qs) := fun H1 e Q q =>
  eu_tup h (by omega) H1 e _ fun p H2 _ e2 h2 => hs H2 (e.trans e2) _ fun xs H3 e3 h3 => q (.ref p :: xs) H3 (e2.trans e3) ⟨⟨p, rfl, e3 p _ h2⟩, h3⟩
/-- for a, b in [(..), ..] -/
theorem q_forTs {ts : TA} {qs : List (List V)} {j l : Nat} {tu : TS} (h : EvTs ts σ H qs) (hl : qs.length ≤ 1000) (Pv : L2.St → Hp → Prop) (h0 : ∀ H1, Ex H H1 → Pv σ H1)
    (hs : ∀ H1, Ex H H1 → ∀ q σ' H', q ∈ qs → Pv σ' H' → Ex H1 H' → ∃ x y, q = [x, y] ∧ tu { D with nx := fun s h => Pv s h ∧ Ex H1 h, ct := fun s h => Pv s h ∧ Ex H1 h, bk := tz D } ((σ'.set j (some x)).set l (some y)) H') (hd : ∀ σ' H', Pv σ' H' → tz D σ' H') : tSeq (tFor (iList K (tLst ts)) (gTup K 2 (gCons (gName j) (gCons (gName l) gNil))) tu) tz D σ H := by
  refine h H (Ex.refl H) _ fun xs H1 e hx => ⟨sz_of (by rw [hx.len]; omega), fun p hp => ⟨p, rfl, ⟨xs, sq_of upd_same⟩, ?_⟩⟩
  have e2 : Ex H (upd H1 p (.lst xs)) := e.trans (Ex.new hp)
  have hx2 : Tups (upd H1 p (.lst xs)) xs qs := hx.ex (Ex.new hp)
  have hp2 : (upd H1 p (.lst xs)) p = some (.lst xs) := upd_same
  generalize upd H1 p (.lst xs) = H2 at e2 hx2 hp2 ⊢
  refine for_list (K := K) (xs := xs) (fun i σ' H' => Pv σ' H' ∧ Ex H2 H') ⟨h0 H2 e2, Ex.refl H2⟩ (fun i σ' H' _ q => sq_of (q.2 p _ hp2)) (fun i x σ' H' hx' q => ?_) (fun σ' H' q => hd σ' H' q.1)
  obtain ⟨qq, a, m, rfl, ha⟩ := (hx2.ex q.2).get hx'
  obtain ⟨x, y, rfl, k⟩ := hs H2 e2 qq σ' H' m q.1 q.2
  exact g_pair ha k
end
theorem cutV_to (xs : List V) (k : Nat) : cutV xs none (some (k : Int)) = xs.take k := by
  unfold cutV
  rw [HT.sIx_none, HT.sIx_nat, List.drop_zero, Nat.sub_zero, ← List.take_eq_take_min]
theorem cutV_from (xs : List V) (k : Nat) : cutV xs (some (k : Int)) none = xs.drop k := by
  unfold cutV
  rw [HT.sIx_none, HT.sIx_nat]
  by_cases h : k ≤ xs.length
  · rw [Nat.min_eq_left h]
    exact List.take_of_length_le (by rw [List.length_drop]; exact Nat.le_refl _)
  · rw [Nat.min_eq_right (by omega), Nat.sub_self, List.take_zero, List.drop_eq_nil_of_le (show xs.length ≤ k by omega)]
theorem tab_trd {n r : Nat} (f : Nat → Nat → Bool) (hr : r < n) : (tabV n f).take r ++ [V.str (rowS n fun j => !f r j)] ++ (tabV n f).drop (r + 1) = tabV n (trd r f) := by
  apply List.ext_getElem?
  intro k
  have lt : ((tabV n f).take r).length = r := by rw [List.length_take, tabV_len]; omega
  rw [List.append_assoc]
  by_cases c1 : k < r
  · rw [List.getElem?_append_left (by rw [lt]; exact c1), List.getElem?_take, if_pos c1, tabV_get (by omega), tabV_get (by omega)]
    refine congrArg (fun z => some (V.str z)) (rowS_ext fun j _ => ?_)
    unfold trd
    rw [if_neg (by omega)]
  · rw [List.getElem?_append_right (by rw [lt]; omega), lt]
    by_cases c2 : k = r
    · subst c2
      rw [Nat.sub_self, tabV_get hr]
      refine congrArg (fun z => some (V.str z)) (rowS_ext fun j _ => ?_)
      unfold trd
      rw [if_pos rfl]
    · rw [show k - r = (k - r - 1) + 1 by omega]
      show ((tabV n f).drop (r + 1))[k - r - 1]? = _
      rw [List.getElem?_drop, show r + 1 + (k - r - 1) = k by omega]
      by_cases c3 : k < n
      · rw [tabV_get c3, tabV_get c3]
        refine congrArg (fun z => some (V.str z)) (rowS_ext fun j _ => ?_)
        unfold trd
        rw [if_neg c2]
      · rw [List.getElem?_eq_none (by rw [tabV_len]; omega), List.getElem?_eq_none (by rw [tabV_len]; omega)]
theorem trd_trd (n r : Nat) (f : Nat → Nat → Bool) : tabV n (trd r (trd r f)) = tabV n f := tabV_ext fun i _ j _ => by
  unfold trd
  by_cases c : i = r
  · rw [if_pos c, if_pos c, Bool.not_not]
  · rw [if_neg c, if_neg c]
def chg (r : Nat) (f : Nat → Nat → Bool) (w : Nat) : Nat → Nat → Bool := if w = 0 then trn f else if w = 1 then trd r f else evn f
theorem half_chg {n : Nat} {f : Nat → Nat → Bool} (r w : Nat) (h : halfB n f = true) : halfB n (chg r f w) = true := by
  unfold chg
  split
  · exact half_trn h
  · split
    · exact half_trd r h
    · exact half_evn h
theorem q_for3 {K : PySem.W.Frag} {σ : L2.St} {H : Hp} {D : Ends} {tz tu : TS} {tl : TE} {g : TG} {R1 R2 R3 : V → Hp → Prop} (k1 : Kept R1) (k2 : Kept R2) (k3 : Kept R3) (h : EvR tl σ H (fun v H => ∃ l x y z, v = .ref l ∧ H l = some (.lst [x, y, z]) ∧ R1 x H ∧ R2 y H ∧ R3 z H)) (Pv : L2.St → Hp → Prop) (h0 : ∀ H1, Ex H H1 → Pv σ H1)
    (hs : ∀ H1, Ex H H1 → ∀ x σ' H', (R1 x H' ∨ R2 x H' ∨ R3 x H') → Pv σ' H' → Ex H1 H' → g x σ' H' fun σ2 H2 => tu { D with nx := fun s h => Pv s h ∧ Ex H1 h, ct := fun s h => Pv s h ∧ Ex H1 h, bk := tz D } σ2 H2) (hd : ∀ σ' H', Pv σ' H' → tz D σ' H') : tSeq (tFor (iList K tl) g tu) tz D σ H := by
  refine h H (Ex.refl H) _ fun v H1 e hv => ?_
  obtain ⟨l, x, y, z, rfl, hl, h1, h2, h3⟩ := hv
  refine ⟨l, rfl, ⟨_, sq_of hl⟩, for_list (K := K) (xs := [x, y, z]) (fun i σ' H' => Pv σ' H' ∧ Ex H1 H') ⟨h0 H1 e, Ex.refl H1⟩ (fun i σ' H' _ q => sq_of (q.2 l _ hl)) (fun i w σ' H' hx q => hs H1 e w σ' H' ?_ q.1 q.2) (fun σ' H' q => hd σ' H' q.1)⟩
  match i, hx with
  | 0, hx =>
    cases hx
    exact .inl (k1 _ _ _ q.2 h1)
  | 1, hx =>
    cases hx
    exact .inr (.inl (k2 _ _ _ q.2 h2))
  | 2, hx =>
    cases hx
    exact .inr (.inr (k3 _ _ _ q.2 h3))
  | _ + 3, hx => cases hx
end HA

end
section
set_option maxRecDepth 100000
set_option maxHeartbeats 4000000
namespace HA
open PySem PySem.Spec PyProof.Rows L2 Evl HotX L2H
/-! ### any(list) where an exception is handled -/
section
variable {prog : Program} {w : World} {A : Around} {E : Value → Shared → Prop} {s : Shared}
theorem next_end_hot {J L x1 : Addr} {k : Nat} {ys : Array Value} {Q : Option Value → Shared → Prop} (hot : HotAt A x1 s.heap) (nx : x1 ≠ J) (hJ : s.heap.IsListIter J L k) (hL : s.heap.IsList L ys) (hk : ys[k]? = none)
    (fin : ∀ h', (∀ b u, b ≠ J → s.heap.get? b = some u → h'.get? b = some u) → Q none { s with heap := h' }) : wpAny (model prog w) A (pyNext (.ref J)) Q E s := by
  obtain ⟨oJ, gJ, cJ, dJ⟩ := id hJ
  obtain ⟨oL, gL, _, mL, dL⟩ := hL
  obtain ⟨hh, o1, vs1, g1, d1, c1⟩ := hot
  unfold pyNext
  refine wpAny_bind (wpAny_attempt (wpAny_callSpecial?_slot (name := Str.ofString "__next__") hJ.typeIs slot_listiter_next (wpAny_call_entry slot_listiter_next hJ.typeIs entry_listiter_next ?_ (args_listiter_next _))))
  show wpAny _ _ (field (.ref J) 0 >>= _) _ _ s
  refine wpAny_bind (wpAny_field gJ dJ (x := .ref L) rfl ?_)
  show wpAny _ _ (if (Value.ref L == Value.none) = true then _ else _) _ _ s
  rw [if_neg (c := (Value.ref L == Value.none) = true) Bool.false_ne_true]
  show wpAny _ _ (field (.ref J) 1 >>= _) _ _ s
  refine wpAny_bind (wpAny_field gJ dJ (x := .int k 0) rfl ?_)
  show wpAny _ _ (seqItems? (.ref L) >>= _) _ _ s
  refine wpAny_bind (wpAny_seqItems gL dL ?_)
  simp only [Int.toNat_natCast, hk]
  refine wpAny_bind (wpAny_rule (wpAny_bind (wpAny_setField gJ dJ (by simp) ?_)))
  show wpAny _ _ (newExc (.type "StopIteration") [] >>= _) _ _ _
  refine wpAny_bind ?_
  simp only [newExc, newTuple]
  refine wpAny_bind (wpAny_newObj_type ?_ (by size_fits))
  refine wpAny_bind (m := firstArgMember _ _) (wpAny_of_eq (a := .none) (by first | rfl | (simp only [firstArgMember]; rfl)) ?_)
  refine wpAny_newObj_type ?_ (by size_fits)
  have old : ∀ b u, b ≠ J → s.heap.get? b = some u → ((s.heap.update J (Obj.mapFields (·.setIfInBounds 0 .none))).get? b) = some u := fun b u hb e => by
    rw [Heap.get?_update_other _ _ (Ne.symm hb)]
    exact e
  have g2 := Heap.get?_push_of_some { cls := Value.type "tuple", data := Data.seq #[] } (old x1 o1 nx g1)
  refine raiseNew_hot (x1 := x1) ⟨hh, o1, vs1, Heap.get?_push_of_some _ g2, d1, c1⟩ (Nat.ne_of_lt (Heap.lt_size g2)) (Heap.get?_push_size _ rfl) rfl (by first | (simp; done) | (simp; omega) | (simp only [Array.size_append]; simp; omega)) ?_
  refine wpAny_bind (wpAny_isInstance (b := true) (T := "StopIteration") ⟨_, Heap.get?_update_self _ (Heap.get?_push_size _ rfl) rfl, rfl⟩ isSubtype_stop ?_)
  refine wpAny_pure (fin _ fun b u hb e => ?_)
  have e2 := Heap.get?_push_of_some { cls := Value.type "tuple", data := Data.seq #[] } (old b u hb e)
  rw [Heap.get?_update_other _ _ (Nat.ne_of_gt (Heap.lt_size e2))]
  exact Heap.get?_push_of_some _ e2
/-- a list's walk there -/
theorem walks_hot (I ax x1 : Addr) (hne : ax ≠ I) (nx : x1 ≠ I) (hh : A.handled = some (.ref x1)) (items : Array Value) :
    Walks prog w A I [I, ax, x1] [I] items.size (fun i v => items[i]? = some v) (fun i h => h.IsListIter I ax i ∧ h.IsList ax items ∧ HotAt A x1 h) where
  sub := fun b hb => by
    have e : b = I := by simpa using hb
    simp [e]
  frame := fun i h h' st hk => ⟨st.1.at fun o e => hk I (by simp) o e, st.2.1.at fun o e => hk ax (by simp) o e, st.2.2.1, by
    obtain ⟨_, o, vs, g, d, c⟩ := st.2.2
    exact ⟨o, vs, hk x1 (by simp) o g, d, c⟩⟩
  item := fun i s Q E hi st hQ => by
    refine wpAny_pyNext_list_item st.1 st.2.1 (x := items[i]) (by simp [hi]) fun h' hit' hs' => ?_
    refine hQ _ h' s.toks (by simp [hi]) ⟨hit', st.2.1.extBut hs'.extBut hne, st.2.2.1, ?_⟩ fun b o hb e => hs'.extBut b o (fun h => hb (by simp [h])) e
    obtain ⟨_, o, vs, g, d, c⟩ := st.2.2
    exact ⟨o, vs, hs'.extBut x1 o nx g, d, c⟩
  done := fun s Q E st hQ => next_end_hot st.2.2 nx st.1 st.2.1 (by simp) fun h' he' => hQ h' s.toks fun b o hb e => he' b o (fun h => hb (by simp [h])) e
  self := fun _ _ _ _ st hQ => wpAny_pyIter_listiter st.1 hQ
end
theorem cr_anyH {X : Cx} (hc : HotC X) : CallR X (.builtin "any") (rAny X.K) := by
  intro pins s σ H vs us Q I r h
  obtain ⟨a, bs, rfl, hs, q⟩ := h
  obtain ⟨its, rv, hl, _⟩ := I.list hs
  obtain ⟨x1, hot⟩ := hc.at I
  rw [Vals.ref1 r]
  have hb := rv.bls
  refine call_any_walk (iter_any hl.isList fun s₂ e2 st hne => ?_)
  subst e2
  obtain ⟨hh, o1, vs1, g1, d1, c1⟩ := hot
  have nx : x1 ≠ s.heap.objs.size := Nat.ne_of_lt (Heap.lt_size g1)
  refine ⟨_, _, _, _, _, _, _, rfl, walks_hot (A := X.A.in1) _ a x1 hne nx hh its.toArray, ⟨st.1, st.2, hh, o1, vs1, Heap.get?_push_of_some _ g1, d1, c1⟩, truth_bools hb, fun h' tk hk => ?_⟩
  refine ⟨.bl _, H, I.kept fun b o eo => hk b o (fun hmem => ?_) (Heap.get?_push_of_some _ eo), ?_, q⟩
  · have e1 : b = s.heap.objs.size := by simpa using hmem
    exact absurd (e1 ▸ Heap.lt_size eo) (Nat.lt_irrefl _)
  · show Value.bool _ = Value.bool _
    rw [← L2.any_range, List.size_toArray, hb, List.length_map]
/-! ### defs that raise, their exceptions without a context -/
theorem passLN {X : Cx} : Passes (L2N.CX X.prog X.w) X E0 := fun _ _ _ _ _ _ _ h => by
  obtain ⟨_, _, _, _, _, _, _, _, _, _, _, _, z⟩ := h
  exact z.elim
theorem takesN {X : Cx} : L2N.Takes X (fun _ _ _ _ => False) := fun _ _ x => by
  obtain ⟨_, _, _, _, _, _, _, _, _, _, _, _, _, _, _, _, z⟩ := x
  exact z.elim
section
variable {P : Program} {w : World} {K : PySem.W.Frag} {mg : Str → Option Value} {base : Heap}
theorem okN {x qual : Str} {st : Stmt} {f : Addr} {fd : FuncData} {N ps : List Str} {k : Nat} {sp : Sp} (F : Fun K x qual st f fd) (S : FnScope N ps (defScope st)) (len : ∀ vs H Q E, sp vs H Q E → vs.length = ps.length)
    (hbody : ∀ (cdv : Value) (A : Around) (outer : List Env) (s : Shared) (H : Hp) (vs : List V) (Q : VK) (E : XK), Room k (A.deeper (envOfC qual (defScope st) s.heap.objs.size f cdv)) → sp vs H Q E →
      ∃ t, PSs (cxOf (L2N.CX P w) P w K mg base N qual (defScope st) f cdv A outer s H E) (defBody st) t ∧ t { nx := fun _ H' => Q .non H', rt := Q } (start N vs) H) : FnOk P w K mg base (L2N.CX P w) (k + 1) f fd ps sp := by
  obtain ⟨oc, od, kV, doc, pm, an, cdv, ct, osl, rfl, lk, hcd⟩ := F.ex
  exact fn_of lk hcd S len fun A' outer' s' H' vs' Q' E' hr' hsp' => hbody cdv A' outer' s' H' vs' Q' E' hr' hsp'
end
/-- isinstance(e, c) in the suite: what e's class says -/
def rIsG (K : PySem.W.Frag) (cls : Value) (d : Option Addr) (a : Addr) : List V → Hp → VK → Prop := fun xs H Q => ∃ D, cls = .ref D ∧ d = none ∧ ExcC K D ∧ rIsE K D a xs H Q
theorem call_isG {X : Cx} {a : Addr} {cls : Value} {d : Option Addr} {oe : Obj} {pn : List (Addr × Obj)} (hz : Zc cls d oe) (hf : ∃ vs, oe.data = .fields vs) : CallR (X.suite a ((a, oe) :: pn)) (.builtin "isinstance") (rIsG X.K cls d a) := by
  intro pins s σ H xs us Q I r h
  obtain ⟨D, rfl, rfl, C, h⟩ := h
  exact call_isE C hz hf pins s σ H xs us Q I r h
theorem hot_suite {X : Cx} {a : Addr} {cls : Value} {d : Option Addr} {oe : Obj} {pn : List (Addr × Obj)} (hz : L2N.Zn cls d oe) (hf : ∃ vs, oe.data = .fields vs) : HotC (X.suite a ((a, oe) :: pn)) := by
  obtain ⟨vs, hv⟩ := hf
  exact ⟨(a, oe), ⟨rfl, vs, hv, hz.2.2 vs hv⟩, List.mem_cons_self ..⟩
/-- two readings of a walk -/
theorem pi_either {X : Cx} {tg it : Expr} {u v : TI} (h : PI X tg it u) (k : PI X tg it v) : PI X tg it (fun σ H R => u σ H R ∨ v σ H R) :=
  ⟨fun pins s σ H R I q => q.elim (h.run pins s σ H R I) (k.run pins s σ H R I)⟩
theorem cr_anyS {X : Cx} {a : Addr} {cls : Value} {d : Option Addr} {oe : Obj} {pn : List (Addr × Obj)} (hz : L2N.Zn cls d oe) (hf : ∃ vs, oe.data = .fields vs) : CallR (X.suite a ((a, oe) :: pn)) (.builtin "any") (rAny X.K) := cr_anyH (X := X.suite a ((a, oe) :: pn)) (hot_suite hz hf)
end HA

end
section
set_option maxRecDepth 100000
set_option maxHeartbeats 4000000
namespace HA
open PySem PySem.Spec PyProof.Rows L2 Evl
/-! ### worths and the numbers back -/
def ws (n : Nat) (f : Nat → Nat → Bool) (u : Nat → Int) (i : Nat) : Int := S n fun k => sg (f i k) * u k
def cs (n : Nat) (f : Nat → Nat → Bool) (w : Nat → Int) (p : Nat) : Int := S n fun r => sg (f r p) * w r
theorem ws_back {n : Nat} {f : Nat → Nat → Bool} (had : Had n f) (u : Nat → Int) {p : Nat} (hp : p < n) : cs n f (ws n f u) p = (n : Int) * u p := by
  have e1 : cs n f (ws n f u) p = S n fun r => S n fun k => sg (f r p) * (sg (f r k) * u k) := S_congr fun r _ => by
    show sg (f r p) * S n _ = _
    rw [← S_mulL]
  have e2 : (S n fun k => S n fun r => sg (f r p) * (sg (f r k) * u k)) = S n fun k => ip n (trn f p) (trn f k) * u k := S_congr fun k _ => by
    show _ = S n _ * u k
    rw [← S_mulR]
    exact S_congr fun r _ => (Int.mul_assoc _ _ _).symm
  rw [e1, S_swap, e2, S_one (a := p) hp fun k hk hne => ?_]
  · show ip n (trn f p) (trn f p) * u p = _
    rw [ip_self]
  · have h := had_tr had p hp k hk (Ne.symm hne)
    have h' : ip n (trn f p) (trn f k) = 0 := h
    rw [h', Int.zero_mul]
theorem ws_norm {n : Nat} {f : Nat → Nat → Bool} (had : Had n f) (u : Nat → Int) : (S n fun i => ws n f u i * ws n f u i) = (n : Int) * S n fun k => u k * u k := by
  have e1 : (S n fun i => ws n f u i * ws n f u i) = S n fun i => S n fun k => u k * (sg (f i k) * ws n f u i) := S_congr fun i _ => by
    have e : ws n f u i * ws n f u i = (S n fun k => sg (f i k) * u k) * ws n f u i := rfl
    rw [e, ← S_mulR]
    refine S_congr fun k _ => ?_
    rw [Int.mul_comm (sg (f i k)) (u k), Int.mul_assoc]
  have e2 : (S n fun k => S n fun i => u k * (sg (f i k) * ws n f u i)) = S n fun k => (n : Int) * (u k * u k) := S_congr fun k hk => by
    rw [S_mulL]
    have e := ws_back had u hk
    unfold cs at e
    rw [e, Int.mul_left_comm]
  rw [e1, S_swap, e2, S_mulL]
theorem sum_S (u : Nat → Int) : ∀ n, ((List.range n).map u).sum = S n u
  | 0 => rfl
  | n + 1 => by
    rw [List.range_succ, List.map_append, List.sum_append, sum_S u n]
    show S n u + (u n + 0) = S n u + u n
    rw [Int.add_zero]
/-- a list of numbers -/
def numV (n : Nat) (u : Nat → Int) : List V := (List.range n).map fun i => V.int (u i)
theorem numV_len (n : Nat) (u : Nat → Int) : (numV n u).length = n := by
  unfold numV
  rw [List.length_map, List.length_range]
theorem numV_get {n : Nat} {u : Nat → Int} {i : Nat} (h : i < n) : (numV n u)[i]? = some (.int (u i)) := by
  unfold numV
  rw [List.getElem?_map, List.getElem?_range h]
  rfl
theorem numV_some {n : Nat} {u : Nat → Int} {i : Nat} {x : V} (h : (numV n u)[i]? = some x) : i < n ∧ x = .int (u i) := by
  have hi : i < n := by
    have q := (List.getElem?_eq_some_iff.mp h).1
    rwa [numV_len] at q
  rw [numV_get hi] at h
  exact ⟨hi, (Option.some.inj h).symm⟩
theorem numV_ext {n : Nat} {u v : Nat → Int} (e : ∀ i, i < n → u i = v i) : numV n u = numV n v := List.map_congr_left fun i hi => by rw [e i (List.mem_range.mp hi)]
theorem numV_ints (n : Nat) (u : Nat → Int) : numV n u = ((List.range n).map u).map V.int := by
  unfold numV
  rw [List.map_map]
  rfl
def NumAt (K : PySem.W.Frag) (H : Hp) (a : Addr) (n : Nat) (u : Nat → Int) : Prop := SqL K H a (numV n u)
theorem NumAt.ex {K : PySem.W.Frag} {H H' : Hp} {a : Addr} {n : Nat} {u : Nat → Int} (e : Ex H H') (h : NumAt K H a n u) : NumAt K H' a n u := ex_l e h
theorem numV_inj {n : Nat} {u v : Nat → Int} (h : ∀ i, i < n → u i = v i) : (List.range n).map u = (List.range n).map v := List.map_congr_left fun i hi => h i (List.mem_range.mp hi)
/-! ### promises -/
def sp_asked_numbers (K : PySem.W.Frag) : Sp := fun vs H Q _ => ∃ (a b : Addr) (n : Nat) (f : Nat → Nat → Bool) (u : Nat → Int), vs = [.ref a, .ref b] ∧ TabAt K H a n f ∧ 1 ≤ n ∧ n ≤ 100 ∧ (∃ xs, H a = some (.lst xs)) ∧ halfB n f = true ∧ H b = some (.lst (numV n u)) ∧ RetV .non H Q
def sp_signed_sum (K : PySem.W.Frag) : Sp := fun vs H Q _ => ∃ (b : Addr) (n : Nat) (g : Nat → Bool) (u : Nat → Int), NumAt K H b n u ∧ n ≤ 1000 ∧ (vs = [.str (rowS n g), .ref b] ∨ ∃ c, vs = [.ref c, .ref b] ∧ SqL K H c ((List.range n).map fun k => V.str (sgS (g k)))) ∧ RetV (.int (S n fun k => sg (g k) * u k)) H Q
def sp_worths (K : PySem.W.Frag) : Sp := fun vs H Q _ => ∃ (a b : Addr) (n : Nat) (f : Nat → Nat → Bool) (u : Nat → Int), vs = [.ref a, .ref b] ∧ TabAt K H a n f ∧ 1 ≤ n ∧ n ≤ 100 ∧ (∃ xs, H a = some (.lst xs)) ∧ halfB n f = true ∧ H b = some (.lst (numV n u)) ∧ RetL (numV n (ws n f u)) H Q
/-- all sums are of whole numbers -/
def allB (n : Nat) (f : Nat → Nat → Bool) (u : Nat → Int) : Bool := (List.range n).all fun p => decide (cs n f u p % (n : Int) = 0)
def sp_numbers_of (K : PySem.W.Frag) (C : Addr) : Sp := fun vs H Q E => ∃ (a b : Addr) (n : Nat) (f : Nat → Nat → Bool) (u : Nat → Int), vs = [.ref a, .ref b] ∧ TabAt K H a n f ∧ 1 ≤ n ∧ n ≤ 100 ∧ (∃ xs, H a = some (.lst xs)) ∧ halfB n f = true ∧ H b = some (.lst (numV n u)) ∧
  (allB n f u = true → RetL (numV n fun p => cs n f u p / (n : Int)) H Q) ∧ (allB n f u = false → ∀ H', Ex H H' → E (.ref C) none H')
def sp_L_sums (K : PySem.W.Frag) : Sp := fun vs H Q _ => ∃ (a b : Addr) (n : Nat) (f : Nat → Nat → Bool) (u : Nat → Int), vs = [.ref a, .ref b] ∧ TabAt K H a n f ∧ n ≤ 1000 ∧ NumAt K H b n u ∧ RetL (numV n (ws n f u)) H Q
def sp_L_numbers (K : PySem.W.Frag) : Sp := fun vs H Q _ => ∃ (a : Addr) (n : Nat) (u : Nat → Int), vs = [.ref a] ∧ H a = some (.lst (numV n u)) ∧ n ≤ 1000 ∧ RetV (.bl true) H Q
def sp_L_none (K : PySem.W.Frag) : Sp := fun vs H Q _ => ∃ (a b : Addr) (n : Nat) (f : Nat → Nat → Bool) (u : Nat → Int), vs = [.ref a, .ref b] ∧ TabAt K H a n f ∧ 1 ≤ n ∧ n ≤ 100 ∧ (∃ xs, H a = some (.lst xs)) ∧ halfB n f = true ∧ H b = some (.lst (numV n u)) ∧ allB n f u = false ∧ RetV (.bl true) H Q
theorem ev_callLV {σ : L2.St} {H : Hp} {ta tb : TE} {sp : Sp} {xs : List V} {y z : V} {E : XK} (h : EvL ta σ H xs) (hb : Ev tb σ H y) (hs : ∀ p H1, Ex H H1 → H1 p = some (.lst xs) → SpV sp [.ref p, y] H1 z) : Ev (tCall sp [] E (tCons ta (tCons tb tNil))) σ H z := fun H1 e Q q =>
  h H1 e _ fun p H2 _ e2 h2 => hb H2 (e.trans e2) _ fun H3 e3 => hs p H3 ((e.trans e2).trans e3) (e3 p _ h2) H3 (Ex.refl H3) Q (fun H4 e4 => q H4 ((e2.trans e3).trans e4)) E
theorem any_not_all (n : Nat) (p : Nat → Bool) : ((List.range n).map fun i => !p i).any id = !((List.range n).all p) := by
  rw [List.any_map]
  induction n with
  | zero => rfl
  | succ n ih =>
    rw [List.range_succ, List.any_append, List.all_append, Bool.not_and, ih]
    simp
def sp_wide_right (K : PySem.W.Frag) : Sp := fun vs H Q _ => ∃ (c : Addr) (cl : List Int) (wh : Int), vs = [.ref c, .int wh] ∧ H c = some (.lst (cl.map V.int)) ∧ Cells cl ∧ 1 ≤ cl.length ∧ RetV (.bl true) H Q
theorem all_back {n : Nat} {f : Nat → Nat → Bool} (had : Had n f) (hn : 1 ≤ n) (u : Nat → Int) : allB n f (ws n f u) = true := by
  unfold allB
  rw [List.all_eq_true]
  intro p hp
  rw [ws_back had u (List.mem_range.mp hp), Int.mul_emod_right]
  exact decide_eq_true rfl
theorem num_back {n : Nat} {f : Nat → Nat → Bool} (had : Had n f) (hn : 1 ≤ n) (u : Nat → Int) : (numV n fun p => cs n f (ws n f u) p / (n : Int)) = numV n u := numV_ext fun p hp => by
  rw [ws_back had u hp, Int.mul_ediv_cancel_left _ (by omega)]
theorem rv_neN {K : PySem.W.Frag} {H : Hp} {a b : Addr} {n : Nat} {u v : Nat → Int} (ha : NumAt K H a n u) (hb : NumAt K H b n v) (h : ∀ i, i < n → u i = v i) : RV (rNeD K) (.ref a) (.ref b) H (.bl false) := by
  unfold NumAt at ha hb
  rw [numV_ints] at ha hb
  have q := rv_neI ha hb
  rw [decide_eq_true (numV_inj h)] at q
  exact q
theorem rv_eqN {K : PySem.W.Frag} {H : Hp} {a b : Addr} {n : Nat} {u v : Nat → Int} (ha : NumAt K H a n u) (hb : NumAt K H b n v) (h : ∀ i, i < n → u i = v i) : RV (rEqD K) (.ref a) (.ref b) H (.bl true) := by
  unfold NumAt at ha hb
  rw [numV_ints] at ha hb
  have q := rv_eqI ha hb
  rw [decide_eq_true (numV_inj h)] at q
  exact q
theorem S_bound {B : Nat} : ∀ {n : Nat} {g : Nat → Int}, (∀ k, k < n → (g k).natAbs ≤ B) → (S n g).natAbs ≤ n * B
  | 0, _, _ => by
    rw [Nat.zero_mul]
    exact Nat.le_refl 0
  | n + 1, g, h => by
    have ih := S_bound (n := n) fun k hk => h k (by omega)
    have h1 := h n (by omega)
    show (S n g + g n).natAbs ≤ _
    rw [Nat.succ_mul]
    have h2 := Int.natAbs_add_le (S n g) (g n)
    omega
theorem sg_abs (b : Bool) (x : Int) : (sg b * x).natAbs = x.natAbs := by
  cases b
  · show ((-1) * x).natAbs = _
    rw [Int.neg_mul, Int.one_mul, Int.natAbs_neg]
  · show (1 * x).natAbs = _
    rw [Int.one_mul]
theorem ws_bound {B n : Nat} {f : Nat → Nat → Bool} {u : Nat → Int} (h : ∀ k, k < n → (u k).natAbs ≤ B) (i : Nat) : (ws n f u i).natAbs ≤ n * B := S_bound fun k hk => by
  rw [sg_abs]
  exact h k hk
end HA
namespace HA
open PySem PySem.Spec PyProof.Rows L2 Evl
/-- [table, numbers] -/
def PairAt (H : Hp) (l : Addr) (n : Nat) (f : Nat → Nat → Bool) (u : Nat → Int) : Prop := ∃ p q, H l = some (.lst [.ref p, .ref q]) ∧ H p = some (.lst (tabV n f)) ∧ H q = some (.lst (numV n u))
theorem PairAt.ex {H H' : Hp} {l : Addr} {n : Nat} {f : Nat → Nat → Bool} {u : Nat → Int} (e : Ex H H') (h : PairAt H l n f u) : PairAt H' l n f u := by
  obtain ⟨p, q, h1, h2, h3⟩ := h
  exact ⟨p, q, e l _ h1, e p _ h2, e q _ h3⟩
def pdP (n : Nat) (f : Nat → Nat → Bool) (u : Nat → Int) : PyData := .list [.list (((List.range n).map fun i => rowS n (f i)).map .str), .list (((List.range n).map u).map .int)]
theorem PairAt.dp {K : PySem.W.Frag} {H : Hp} {l : Addr} {n : Nat} {f : Nat → Nat → Bool} {u : Nat → Int} (h : PairAt H l n f u) : Dp K H (.ref l) (pdP n f u) := by
  obtain ⟨p, q, h1, h2, h3⟩ := h
  rw [tabV_strs] at h2
  rw [numV_ints] at h3
  exact .lst (sq_of h1) (.cons (.lst (sq_of h2) (dp_strs _)) (.cons (.lst (sq_of h3) (dp_ints _)) .nil))
theorem shP (n : Nat) (f : Nat → Nat → Bool) (u : Nat → Int) : SeqAt.shaped (pdP n f u) = true := by
  unfold SeqAt.shaped pdP
  have a : PyData.canLay0 (.list [.list (((List.range n).map fun i => rowS n (f i)).map .str), .list (((List.range n).map u).map .int)]) = true := by
    show (PyData.canLayAll0 (((List.range n).map fun i => rowS n (f i)).map .str) && (PyData.canLayAll0 (((List.range n).map u).map .int) && true)) = true
    rw [canLay_strs _ (tab_good n f), canLay_ints]
    rfl
  have b : PyData.depth (.list [.list (((List.range n).map fun i => rowS n (f i)).map .str), .list (((List.range n).map u).map .int)]) = 2 := by
    show (max (PyData.depthAll (((List.range n).map fun i => rowS n (f i)).map .str) + 1) (max (PyData.depthAll (((List.range n).map u).map .int) + 1) 0)) + 1 = 2
    rw [depth_strs, depth_ints]
    rfl
  rw [a, b]
  rfl
theorem eqv_P (n : Nat) (f : Nat → Nat → Bool) (u : Nat → Int) : PyData.eqv (pdP n f u) (pdP n f u) = true := by
  show (PyData.eqvAll (((List.range n).map fun i => rowS n (f i)).map .str) (((List.range n).map fun i => rowS n (f i)).map .str) && (PyData.eqvAll (((List.range n).map u).map .int) (((List.range n).map u).map .int) && true)) = true
  rw [eqv_strs, eqv_ints, decide_eq_true rfl, decide_eq_true rfl]
  rfl
theorem rv_neP {K : PySem.W.Frag} {H : Hp} {l l' : Addr} {n : Nat} {f : Nat → Nat → Bool} {u : Nat → Int} (h : PairAt H l n f u) (h' : PairAt H l' n f u) : RV (rNeD K) (.ref l) (.ref l') H (.bl false) := fun H1 e Q q =>
  ⟨_, _, (h.ex e).dp, (h'.ex e).dp, shP n f u, shP n f u, by rw [eqv_P]; exact q H1 (Ex.refl H1)⟩
theorem er_two {σ : L2.St} {H : Hp} {ta tb : TE} {n : Nat} {f : Nat → Nat → Bool} {u : Nat → Int} (h1 : EvL ta σ H (tabV n f)) (h2 : EvL tb σ H (numV n u)) : EvR (tLst (tCons ta (tCons tb tNil))) σ H (fun v H => ∃ l, v = .ref l ∧ PairAt H l n f u) := fun H1 e Q q =>
  h1 H1 e _ fun p H2 _ e2 k2 => h2 H2 (e.trans e2) _ fun r H3 _ e3 k3 => ⟨sz_of (show 2 ≤ 100000 by decide), fun l hl => q _ _ ((e2.trans e3).trans (Ex.new hl)) ⟨l, rfl, p, r, upd_same, ((e3.trans (Ex.new hl)) p _ k2), Ex.new hl r _ k3⟩⟩
end HA
namespace HA
open PySem PySem.Spec PyProof.Rows L2 Evl
/-- the columns of rows that stand, by any count -/
theorem tr_compG {K : PySem.W.Frag} {σ : L2.St} {H : Hp} {a : Addr} {n j l : Nat} {g : Nat → Nat → Bool} {vs ws : List Nat} {ta tx ty : TE} {tr : TA} (ha : ∀ x H1, Ex H H1 → Ev ta ((wipe σ vs).set j (some x)) H1 (.ref a)) (hl : EvA tr σ H [.int (n : Int)]) (hx : SqL K H a ((List.range n).map fun k => V.str (rowS n (g k)))) (hn : n ≤ 1000)
    (hw : ∀ x, wipe ((wipe σ vs).set j (some x)) vs = wipe σ vs) (hw2 : ∀ x y, wipe ((wipe ((wipe σ vs).set j (some x)) ws).set l (some y)) ws = wipe ((wipe σ vs).set j (some x)) ws)
    (hy : ∀ x y H1, Ex H H1 → Ev tx ((wipe ((wipe σ vs).set j (some x)) ws).set l (some y)) H1 y) (hz : ∀ x y H1, Ex H H1 → Ev ty ((wipe ((wipe σ vs).set j (some x)) ws).set l (some y)) H1 x) :
    EvL (tLc (iRng1 tr) (gName j) tYes (tM1 (rJoin K) (tC (.str (Str.ofString ""))) (tLc (iList K ta) (gName l) tYes (tOp rIxS tx ty) ws)) vs) σ H (tabV n fun i k => g k i) := by
  refine ev_list (el_lcR1 (n := (n : Int)) (fun _ => true) (fun i => V.str (rowS n fun k => g k i)) hl ⟨by omega, by omega⟩ hw (fun i H1 e hi => et_yes) (fun i H1 e hi _ => ?_)) ?_
  · refine ev_joinRow (K := K) (g := fun k => g k i) (ev_list (el_lcL (K := K) (xs := (List.range n).map fun k => V.str (rowS n (g k))) (fun _ => true) (fun k => V.str (sgS (g k i))) (ha _ H1 e) (ex_l e hx) (by rw [List.length_map, List.length_range]; omega) (hw2 _) (fun k x H2 e2 hk => et_yes) (fun k x H2 e2 hk _ => ?_)) ?_) (by omega)
    · have hk' : k < n := by
        have q := (List.getElem?_eq_some_iff.mp hk).1
        rwa [List.length_map, List.length_range] at q
      rw [List.getElem?_map, List.getElem?_range hk'] at hk
      cases hk
      exact ev_itS (hy _ _ H2 (e.trans e2)) (hz _ _ H2 (e.trans e2)) (by omega) (by omega)
    · rw [given_all, List.length_map, List.length_range]
  · rw [given_all, Int.toNat_natCast]
    rfl
theorem num_set {n m : Nat} {u : Nat → Int} (z : Int) (hm : m < n) : (numV n u).set m (.int z) = numV n (fun i => if i = m then z else u i) := by
  apply List.ext_getElem?
  intro k
  by_cases hk : k < n
  · by_cases h : m = k
    · subst h
      rw [List.getElem?_set_self (by rw [numV_len]; exact hm), numV_get hm, if_pos rfl]
    · rw [List.getElem?_set_ne h, numV_get hk, numV_get hk, if_neg (Ne.symm h)]
  · rw [List.getElem?_eq_none (by rw [List.length_set, numV_len]; omega), List.getElem?_eq_none (by rw [numV_len]; omega)]
/-- the sum of all squares -/
theorem ev_sqs {K : PySem.W.Frag} {σ : L2.St} {H : Hp} {tl ta tb : TE} {p : Addr} {n j : Nat} {u : Nat → Int} {vs : List Nat} (h : Ev tl σ H (.ref p)) (hp : NumAt K H p n u) (hn : n ≤ 1000) (hB : ∀ k, k < n → CMulB (u k) (u k)) (hw : ∀ x, wipe ((wipe σ vs).set j (some x)) vs = wipe σ vs)
    (ha : ∀ x H1, Ex H H1 → Ev ta ((wipe σ vs).set j (some x)) H1 x) (hb : ∀ x H1, Ex H H1 → Ev tb ((wipe σ vs).set j (some x)) H1 x) :
    Ev (tCB (rSum K) (tCons (tLc (iList K tl) (gName j) tYes (tOp (rI CMulB fun i j => .int (i * j)) ta tb) vs) tNil)) σ H (.int (S n fun k => u k * u k)) := by
  refine ev_is (ev_sumN (K := K) (ns := (List.range n).map fun k => u k * u k) (ev_list (el_lcL (K := K) (xs := numV n u) (fun _ => true) (fun k => .int (u k * u k)) h hp (by rw [numV_len]; omega) hw (fun i x H1 e hx => et_yes) (fun i x H1 e hx _ => ?_)) (by rw [given_all, numV_len, List.map_map]; rfl))) (by rw [sum_S])
  obtain ⟨hi, rfl⟩ := numV_some hx
  exact ev_op (ha _ H1 e) (hb _ H1 e) (rv_I (hB i hi))
theorem mulB_of {x y : Int} {B : Nat} (hx : x.natAbs ≤ B) (hy : y.natAbs ≤ B) (hB : B < 2 ^ 1000) : CMulB x y := by
  have l : ∀ z : Int, z.natAbs ≤ B → z.natAbs.log2 ≤ 1000 := fun z hz => by
    by_cases h0 : z.natAbs = 0
    · rw [h0]
      decide
    · have h1 : 2 ^ z.natAbs.log2 ≤ z.natAbs := Nat.log2_self_le h0
      have h2 : 2 ^ z.natAbs.log2 < 2 ^ 1000 := by omega
      exact Nat.le_of_lt ((Nat.pow_lt_pow_iff_right (by decide)).mp h2)
  have a := l x hx
  have b := l y hy
  show x.natAbs.log2 + y.natAbs.log2 < 134217000
  omega
theorem pos_rest {n : Nat} (hn : 1 ≤ n) (z : Int) : decide (z % (n : Int) > 0) = !decide (z % (n : Int) = 0) := by
  have h := Int.emod_nonneg z (show (n : Int) ≠ 0 by omega)
  rw [Bool.eq_iff_iff]
  simp only [decide_eq_true_eq, Bool.not_eq_true', decide_eq_false_iff_not]
  omega
theorem el_callLL {σ : L2.St} {H : Hp} {ta tb : TE} {sp : Sp} {xs ys zs : List V} {E : XK} (h : EvL ta σ H xs) (hb : EvL tb σ H ys) (hs : ∀ p q H1, Ex H H1 → H1 p = some (.lst xs) → H1 q = some (.lst ys) → ∀ Q, RetL zs H1 Q → ∀ E', sp [.ref p, .ref q] H1 Q E') : EvL (tCall sp [] E (tCons ta (tCons tb tNil))) σ H zs := fun H1 e Q q =>
  h H1 e _ fun p H2 hp e2 h2 => hb H2 (e.trans e2) _ fun p' H3 hp' e3 h3 => hs p p' H3 ((e.trans e2).trans e3) (e3 p _ h2) h3 Q (fun p2 H4 hp2 e4 h4 => q p2 H4 (fresh_back (e2.trans e3) hp2) ((e2.trans e3).trans e4) h4) E
end HA

end
section
set_option maxRecDepth 100000
set_option maxHeartbeats 4000000
namespace HA
open PySem PySem.Spec PyProof.Rows L2 Evl
def topS (i : Nat) : Stmt := PySem.Challenge.pw_halfalike_k04_whole_worths.main.body.getD i (.Pass ⟨0, 0, 0, 0⟩)
abbrev s_is_number : Stmt := topS 11
theorem sc_is_number : FnScope ["thing"] ["thing"] (defScope s_is_number) := ⟨rfl, rfl, rfl, by decide +kernel, rfl, by decide +kernel, by decide +kernel⟩
abbrev s_is_row : Stmt := topS 12
theorem sc_is_row : FnScope ["thing", "size"] ["thing", "size"] (defScope s_is_row) := ⟨rfl, rfl, rfl, by decide +kernel, rfl, by decide +kernel, by decide +kernel⟩
abbrev s_asked_table : Stmt := topS 13
theorem sc_asked_table : FnScope ["table", "row"] ["table"] (defScope s_asked_table) := ⟨rfl, rfl, rfl, by decide +kernel, rfl, by decide +kernel, by decide +kernel⟩
abbrev s_alike : Stmt := topS 14
theorem sc_alike : FnScope ["one", "other", "place", "sign"] ["one", "other"] (defScope s_alike) := ⟨rfl, rfl, rfl, by decide +kernel, rfl, by decide +kernel, by decide +kernel⟩
abbrev s_first_unlike : Stmt := topS 15
theorem sc_first_unlike : FnScope ["table", "other", "one"] ["table"] (defScope s_first_unlike) := ⟨rfl, rfl, rfl, by decide +kernel, rfl, by decide +kernel, by decide +kernel⟩
abbrev s_asked_half : Stmt := topS 16
theorem sc_asked_half : FnScope ["table"] ["table"] (defScope s_asked_half) := ⟨rfl, rfl, rfl, by decide +kernel, rfl, by decide +kernel, by decide +kernel⟩
abbrev s_asked_numbers : Stmt := topS 18
theorem sc_asked_numbers : FnScope ["table", "numbers", "one"] ["table", "numbers"] (defScope s_asked_numbers) := ⟨rfl, rfl, rfl, by decide +kernel, rfl, by decide +kernel, by decide +kernel⟩
abbrev s_signed_sum : Stmt := topS 19
theorem sc_signed_sum : FnScope ["row", "numbers", "sign", "number"] ["row", "numbers"] (defScope s_signed_sum) := ⟨rfl, rfl, rfl, by decide +kernel, rfl, by decide +kernel, by decide +kernel⟩
abbrev s_worths : Stmt := topS 20
theorem sc_worths : FnScope ["table", "numbers", "row"] ["table", "numbers"] (defScope s_worths) := ⟨rfl, rfl, rfl, by decide +kernel, rfl, by decide +kernel, by decide +kernel⟩
abbrev s_numbers_of : Stmt := topS 21
theorem sc_numbers_of : FnScope ["table", "told_worths", "size", "sums", "place", "row", "one"] ["table", "told_worths"] (defScope s_numbers_of) := ⟨rfl, rfl, rfl, by decide +kernel, rfl, by decide +kernel, by decide +kernel⟩
abbrev s_L_number : Stmt := topS 23
theorem sc_L_number : FnScope ["_law_cell", "_law_at", "_law_whole", "_law_mixed", "_law_more"] ["_law_cell", "_law_at", "_law_whole"] (defScope s_L_number) := ⟨rfl, rfl, rfl, by decide +kernel, rfl, by decide +kernel, by decide +kernel⟩
abbrev s_L_other : Stmt := topS 26
theorem sc_L_other : FnScope ["_law_row", "_law_sign"] ["_law_row"] (defScope s_L_other) := ⟨rfl, rfl, rfl, by decide +kernel, rfl, by decide +kernel, by decide +kernel⟩
abbrev s_L_doubled : Stmt := topS 27
theorem sc_L_doubled : FnScope ["_law_table_here", "_law_row"] ["_law_table_here"] (defScope s_L_doubled) := ⟨rfl, rfl, rfl, by decide +kernel, rfl, by decide +kernel, by decide +kernel⟩
abbrev s_L_prime_table : Stmt := topS 28
theorem sc_L_prime_table : FnScope ["_law_prime", "_law_squares", "_law_found", "_law_row", "_law_signs", "_law_place", "_law_at"] ["_law_prime"] (defScope s_L_prime_table) := ⟨rfl, rfl, rfl, by decide +kernel, rfl, by decide +kernel, by decide +kernel⟩
abbrev s_L_table : Stmt := topS 29
theorem sc_L_table : FnScope ["_law_script", "_law_cells", "_law_whole", "_law_found", "_law_turn", "_law_time", "_law_rows", "_law_at", "_law_row", "_law_number_here", "_law_place"] ["_law_script"] (defScope s_L_table) := ⟨rfl, rfl, rfl, by decide +kernel, rfl, by decide +kernel, by decide +kernel⟩
abbrev s_L_sums : Stmt := topS 30
theorem sc_L_sums : FnScope ["_law_rows", "_law_numbers_here", "_law_found", "_law_row", "_law_total", "_law_sign", "_law_number_here"] ["_law_rows", "_law_numbers_here"] (defScope s_L_sums) := ⟨rfl, rfl, rfl, by decide +kernel, rfl, by decide +kernel, by decide +kernel⟩
abbrev s_L_numbers : Stmt := topS 31
theorem sc_L_numbers : FnScope ["_law_found", "_law_one"] ["_law_found"] (defScope s_L_numbers) := ⟨rfl, rfl, rfl, by decide +kernel, rfl, by decide +kernel, by decide +kernel⟩
abbrev s_L_none : Stmt := topS 32
theorem sc_L_none : FnScope ["_law_table_here", "_law_some", "error", "_law_others"] ["_law_table_here", "_law_some"] (defScope s_L_none) := ⟨rfl, rfl, rfl, by decide +kernel, rfl, by decide +kernel, by decide +kernel⟩
abbrev s_L_wide_right : Stmt := topS 33
theorem sc_L_wide_right : FnScope ["_law_cells", "_law_whole", "_law_wide", "_law_more", "_law_at"] ["_law_cells", "_law_whole"] (defScope s_L_wide_right) := ⟨rfl, rfl, rfl, by decide +kernel, rfl, by decide +kernel, by decide +kernel⟩
abbrev s_law : Stmt := topS 34
theorem sc_law : FnScope ["_law_script", "_law_whole", "_law_cells", "_law_table_here", "_law_size", "_law_most", "_law_numbers_here", "_law_handed", "_law_found", "_law_due", "_law_back", "_law_columns", "_law_bent", "_law_some", "_law_sums_here", "_law_at", "_law_one", "_law_place", "_law_row"] ["_law_script"] (defScope s_law) := ⟨rfl, rfl, rfl, by decide +kernel, rfl, by decide +kernel, by decide +kernel⟩
/-- what the top has written -/
structure Txt (K : PySem.W.Frag) (mg : Str → Option Value) where
  a_is_number : Addr
  d_is_number : FuncData
  F_is_number : Fun K "is_number" "is_number" s_is_number a_is_number d_is_number
  b_is_number : Binds K d_is_number ["thing"] []
  g_is_number : mg "is_number" = some (.ref a_is_number)
  a_is_row : Addr
  d_is_row : FuncData
  F_is_row : Fun K "is_row" "is_row" s_is_row a_is_row d_is_row
  b_is_row : Binds K d_is_row ["thing", "size"] []
  g_is_row : mg "is_row" = some (.ref a_is_row)
  a_asked_table : Addr
  d_asked_table : FuncData
  F_asked_table : Fun K "asked_table" "asked_table" s_asked_table a_asked_table d_asked_table
  b_asked_table : Binds K d_asked_table ["table"] []
  g_asked_table : mg "asked_table" = some (.ref a_asked_table)
  a_alike : Addr
  d_alike : FuncData
  F_alike : Fun K "alike" "alike" s_alike a_alike d_alike
  b_alike : Binds K d_alike ["one", "other"] []
  g_alike : mg "alike" = some (.ref a_alike)
  a_first_unlike : Addr
  d_first_unlike : FuncData
  F_first_unlike : Fun K "first_unlike" "first_unlike" s_first_unlike a_first_unlike d_first_unlike
  b_first_unlike : Binds K d_first_unlike ["table"] []
  g_first_unlike : mg "first_unlike" = some (.ref a_first_unlike)
  a_asked_half : Addr
  d_asked_half : FuncData
  F_asked_half : Fun K "asked_half" "asked_half" s_asked_half a_asked_half d_asked_half
  b_asked_half : Binds K d_asked_half ["table"] []
  g_asked_half : mg "asked_half" = some (.ref a_asked_half)
  a_asked_numbers : Addr
  d_asked_numbers : FuncData
  F_asked_numbers : Fun K "asked_numbers" "asked_numbers" s_asked_numbers a_asked_numbers d_asked_numbers
  b_asked_numbers : Binds K d_asked_numbers ["table", "numbers"] []
  g_asked_numbers : mg "asked_numbers" = some (.ref a_asked_numbers)
  a_signed_sum : Addr
  d_signed_sum : FuncData
  F_signed_sum : Fun K "signed_sum" "signed_sum" s_signed_sum a_signed_sum d_signed_sum
  b_signed_sum : Binds K d_signed_sum ["row", "numbers"] []
  g_signed_sum : mg "signed_sum" = some (.ref a_signed_sum)
  a_worths : Addr
  d_worths : FuncData
  F_worths : Fun K "worths" "worths" s_worths a_worths d_worths
  b_worths : Binds K d_worths ["table", "numbers"] []
  g_worths : mg "worths" = some (.ref a_worths)
  a_numbers_of : Addr
  d_numbers_of : FuncData
  F_numbers_of : Fun K "numbers_of" "numbers_of" s_numbers_of a_numbers_of d_numbers_of
  b_numbers_of : Binds K d_numbers_of ["table", "told_worths"] []
  g_numbers_of : mg "numbers_of" = some (.ref a_numbers_of)
  a_L_number : Addr
  d_L_number : FuncData
  F_L_number : Fun K "_law_number" "_law_number" s_L_number a_L_number d_L_number
  b_L_number : Binds K d_L_number ["_law_cell", "_law_at", "_law_whole"] []
  g_L_number : mg "_law_number" = some (.ref a_L_number)
  a_L_other : Addr
  d_L_other : FuncData
  F_L_other : Fun K "_law_other" "_law_other" s_L_other a_L_other d_L_other
  b_L_other : Binds K d_L_other ["_law_row"] []
  g_L_other : mg "_law_other" = some (.ref a_L_other)
  a_L_doubled : Addr
  d_L_doubled : FuncData
  F_L_doubled : Fun K "_law_doubled" "_law_doubled" s_L_doubled a_L_doubled d_L_doubled
  b_L_doubled : Binds K d_L_doubled ["_law_table_here"] []
  g_L_doubled : mg "_law_doubled" = some (.ref a_L_doubled)
  a_L_prime_table : Addr
  d_L_prime_table : FuncData
  F_L_prime_table : Fun K "_law_prime_table" "_law_prime_table" s_L_prime_table a_L_prime_table d_L_prime_table
  b_L_prime_table : Binds K d_L_prime_table ["_law_prime"] []
  g_L_prime_table : mg "_law_prime_table" = some (.ref a_L_prime_table)
  a_L_table : Addr
  d_L_table : FuncData
  F_L_table : Fun K "_law_table" "_law_table" s_L_table a_L_table d_L_table
  b_L_table : Binds K d_L_table ["_law_script"] []
  g_L_table : mg "_law_table" = some (.ref a_L_table)
  a_L_sums : Addr
  d_L_sums : FuncData
  F_L_sums : Fun K "_law_sums" "_law_sums" s_L_sums a_L_sums d_L_sums
  b_L_sums : Binds K d_L_sums ["_law_rows", "_law_numbers_here"] []
  g_L_sums : mg "_law_sums" = some (.ref a_L_sums)
  a_L_numbers : Addr
  d_L_numbers : FuncData
  F_L_numbers : Fun K "_law_numbers" "_law_numbers" s_L_numbers a_L_numbers d_L_numbers
  b_L_numbers : Binds K d_L_numbers ["_law_found"] []
  g_L_numbers : mg "_law_numbers" = some (.ref a_L_numbers)
  a_L_none : Addr
  d_L_none : FuncData
  F_L_none : Fun K "_law_none" "_law_none" s_L_none a_L_none d_L_none
  b_L_none : Binds K d_L_none ["_law_table_here", "_law_some"] []
  g_L_none : mg "_law_none" = some (.ref a_L_none)
  a_L_wide_right : Addr
  d_L_wide_right : FuncData
  F_L_wide_right : Fun K "_law_wide_right" "_law_wide_right" s_L_wide_right a_L_wide_right d_L_wide_right
  b_L_wide_right : Binds K d_L_wide_right ["_law_cells", "_law_whole"] []
  g_L_wide_right : mg "_law_wide_right" = some (.ref a_L_wide_right)
  a_law : Addr
  d_law : FuncData
  F_law : Fun K "law" "law" s_law a_law d_law
  b_law : Binds K d_law ["_law_script"] []
  g_law : mg "law" = some (.ref a_law)
  m_isinstance : mg "isinstance" = none
  m_int : mg "int" = none
  m_bool : mg "bool" = none
  m_str : mg "str" = none
  m_len : mg "len" = none
  m_all : mg "all" = none
  m_list : mg "list" = none
  m_enumerate : mg "enumerate" = none
  m_range : mg "range" = none
  m_sum : mg "sum" = none
  m_zip : mg "zip" = none
  m_any : mg "any" = none
  k_MOST : Tok
  g_MOST : mg "MOST" = some (.int 100 k_MOST)
  C_SignError : Addr
  g_SignError : mg "SignError" = some (.ref C_SignError)
  C_BadNumbers : Addr
  g_BadNumbers : mg "BadNumbers" = some (.ref C_BadNumbers)
  C_BadParts : Addr
  g_BadParts : mg "BadParts" = some (.ref C_BadParts)
  C_BadPlace : Addr
  g_BadPlace : mg "BadPlace" = some (.ref C_BadPlace)
  C_BadSigns : Addr
  g_BadSigns : mg "BadSigns" = some (.ref C_BadSigns)
  C_BadTable : Addr
  g_BadTable : mg "BadTable" = some (.ref C_BadTable)
  C_TooGreat : Addr
  g_TooGreat : mg "TooGreat" = some (.ref C_TooGreat)
  C_NoNumbers : Addr
  g_NoNumbers : mg "NoNumbers" = some (.ref C_NoNumbers)
  x_NoNumbers : PySem.W.excIn K C_NoNumbers [.type "ValueError", .type "Exception", .type "BaseException", .type "object"] "ValueError.__new__" = true
  k_NoNumbers : PySem.W.keepIn K (.ref C_NoNumbers) = true
  eb_NoNumbers : PySem.W.subIn K (.ref C_NoNumbers) (.type "BaseException") = some true
  et_NoNumbers : PySem.W.typeIn K (.ref C_NoNumbers) = some (.type "type")
  ec_NoNumbers : ExcC K C_NoNumbers
  ek_NoNumbers_BadNumbers : PySem.W.kitOne K (.ref C_NoNumbers) (.ref C_BadNumbers) = some false
  ek_NoNumbers_BadParts : PySem.W.kitOne K (.ref C_NoNumbers) (.ref C_BadParts) = some false
  ek_NoNumbers_BadPlace : PySem.W.kitOne K (.ref C_NoNumbers) (.ref C_BadPlace) = some false
  ek_NoNumbers_BadSigns : PySem.W.kitOne K (.ref C_NoNumbers) (.ref C_BadSigns) = some false
  ek_NoNumbers_BadTable : PySem.W.kitOne K (.ref C_NoNumbers) (.ref C_BadTable) = some false
  ek_NoNumbers_TooGreat : PySem.W.kitOne K (.ref C_NoNumbers) (.ref C_TooGreat) = some false
  ek_NoNumbers_NoNumbers : PySem.W.kitOne K (.ref C_NoNumbers) (.ref C_NoNumbers) = some true
  em_NoNumbers_SignError : PySem.W.exmOne K (.ref C_NoNumbers) (.ref C_SignError) = some true
end HA

end
section
set_option maxRecDepth 100000
set_option maxHeartbeats 4000000
namespace HA
open PySem PySem.Spec PyProof.Rows L2 Evl
section
variable {P : Program} {w : World} {K : PySem.W.Frag} {mg : Str → Option Value} {base : Heap}
theorem ok_is_number (T : Txt K mg) : FnOk P w K mg base CX0 1 T.a_is_number T.d_is_number ["thing"] sp_is_number := by
  refine T.F_is_number.ok sc_is_number (fun vs H Q E h => ?_) (fun cdv A outer s H vs Q E hr h => ?_)
  · obtain ⟨z, rfl, _⟩ := h
    rfl
  · obtain ⟨z, rfl, q⟩ := h
    skip
    refine ⟨_, pss_one (ps_ret (pe_and (pe_callB call_isi (by rfl) T.m_isinstance (by decide +kernel) (pa_cons (pv 0) (pa_cons (pe_bltn (v := .ty "int") (by rfl) T.m_int (by decide +kernel) rfl) pa_nil))) (pe_one (pe_not (pe_callB call_isi (by rfl) T.m_isinstance (by decide +kernel) (pa_cons (pv 0) (pa_cons (pe_bltn (v := .ty "bool") (by rfl) T.m_bool (by decide +kernel) rfl) pa_nil))))))), ?_⟩
    refine s_ret (v := .bl true) (ev_is (ev_andV (ev_isi (b := true) (ea_cons (ev_var rfl) (ea_cons ev_c ea_nil)) (.ty _) (fun H1 e1 => .base (.int _)) (kit_ty (by decide +kernel))) fun _ => ev_notV (ev_isi (b := false) (ea_cons (ev_var rfl) (ea_cons ev_c ea_nil)) (.ty _) (fun H1 e1 => .base (.int _)) (kit_ty (by decide +kernel)))) rfl) fun H1 e1 => q H1 e1

end
end HA

end
section
set_option maxRecDepth 100000
set_option maxHeartbeats 4000000
namespace HA
open PySem PySem.Spec PyProof.Rows L2 Evl
section
variable {P : Program} {w : World} {K : PySem.W.Frag} {mg : Str → Option Value} {base : Heap}
theorem strip_all {goes : Nat → Bool} {x : Str} (h : ∀ c ∈ x.cps.toList, goes c = true) : Txt.stripBy goes true true x = ⟨#[]⟩ := by
  have tw : x.cps.toList.takeWhile goes = x.cps.toList := by
    have : ∀ l : List Nat, (∀ c ∈ l, goes c = true) → l.takeWhile goes = l := fun l => by
      induction l with
      | nil => intro _; rfl
      | cons a r ih =>
        intro hl
        rw [List.takeWhile_cons, if_pos (hl a (List.mem_cons_self ..)), ih fun c hc => hl c (List.mem_cons_of_mem _ hc)]
    exact this _ h
  have lo : PySem.stripLo goes true x = x.length := by
    unfold PySem.stripLo
    rw [if_pos rfl, tw]
    rfl
  have hi : PySem.stripHi goes true x x.length = x.length := by
    unfold PySem.stripHi
    have hd : List.drop x.length x.cps.toList = [] := List.drop_of_length_le (Nat.le_of_eq (by simp [Str.length]))
    rw [if_pos rfl, hd]
    rfl
  unfold Txt.stripBy PySem.stripSame PySem.stripped
  rw [lo, hi]
  by_cases e : x.length = 0
  · rw [if_pos (by simp [e])]
    obtain ⟨a⟩ := x
    have : a = #[] := Array.eq_empty_of_size_eq_zero e
    rw [this]
  · rw [if_neg (by simp [e])]
    unfold Builtin.Str.strSub
    apply str_ext
    simp
theorem row_strip (n : Nat) (g : Nat → Bool) : Txt.stripChars (rowS n g) (Str.ofString "+-") = ⟨#[]⟩ := by
  unfold Txt.stripChars
  refine strip_all fun c hc => ?_
  have hc' : c ∈ (List.range n).map fun j => cp (g j) := hc
  obtain ⟨j, _, rfl⟩ := List.mem_map.mp hc'
  cases g j <;> decide +kernel
theorem ok_is_row (T : Txt K mg) : FnOk P w K mg base CX0 1 T.a_is_row T.d_is_row ["thing", "size"] sp_is_row := by
  refine T.F_is_row.ok sc_is_row (fun vs H Q E h => ?_) (fun cdv A outer s H vs Q E hr h => ?_)
  · obtain ⟨n, g, rfl, _⟩ := h
    rfl
  · obtain ⟨n, g, rfl, hn, q⟩ := h
    refine ⟨_, pss_one (ps_ret (pe_and (pe_callB call_isi (by rfl) T.m_isinstance (by decide +kernel) (pa_cons (pv 0) (pa_cons (pe_bltn (v := .ty "str") (by rfl) T.m_str (by decide +kernel) rfl) pa_nil))) (pe_and (pe_cmpR op_eq (pe_callB call_len_str (by rfl) T.m_len (by decide +kernel) (pa_cons (pv 0) pa_nil)) (pv 1) (nomark _)) (pe_one (pe_cmpR op_eq (pe_bm PySem.F.plainAttrs_str PySem.F.slot_str_strip PySem.F.type_str_strip mt_stripChars (pv 0) (pa_cons pe_str pa_nil)) pe_str (nomark _)))))), ?_⟩
    refine s_ret (v := .bl true) ?_ (fun H1 e => q H1 e)
    refine ev_is (ev_andV (a := true) (ev_cb (ea_cons (ev_var rfl) (ea_cons ev_c ea_nil)) (fun H1 e Q q => ⟨_, _, _, _, true, rfl, .ty _, .base (.str _), kit_ty (by decide +kernel), q H1 (Ex.refl H1)⟩)) fun _ => ev_andV (ev_op (ev_lenS (ev_var rfl) (by rw [rowS_len]; omega)) (ev_var rfl) (rv_eq rfl)) fun _ => ev_op (x := .str ⟨#[]⟩) (fun H1 e Q q => ⟨_, rfl, rfl, _, _, rfl, rfl, sz_of (by rw [rowS_len]; omega), ?_⟩) ev_c (rv_eq rfl)) ?_
    · rw [row_strip]
      exact q H1 (Ex.refl H1)
    · rw [rowS_len]
      have e0 : (⟨#[]⟩ : Str) = Str.ofString "" := by decide +kernel
      rw [e0]
      simp

end
end HA

end
section
set_option maxRecDepth 100000
set_option maxHeartbeats 4000000
namespace HA
open PySem PySem.Spec PyProof.Rows L2 Evl
section
variable {P : Program} {w : World} {K : PySem.W.Frag} {mg : Str → Option Value} {base : Heap}
theorem ok_asked_table (T : Txt K mg) : FnOk P w K mg base CX0 2 T.a_asked_table T.d_asked_table ["table"] (sp_asked_table K) := by
  refine T.F_asked_table.ok sc_asked_table (fun vs H Q E h => ?_) (fun cdv A outer s H vs Q E hr h => ?_)
  · obtain ⟨a, n, f, rfl, _⟩ := h
    rfl
  · obtain ⟨a, n, f, rfl, hT, h1, h2, ⟨xs, hL⟩, q⟩ := h
    have G_is_row := ok_is_row (P := P) (w := w) (base := base) T
    refine ⟨_, pss_cons (ps_if (PW.pt (pw_or (pt_not (pt_val (pe_callB call_isi (by rfl) T.m_isinstance (by decide +kernel) (pa_cons (pv 0) (pa_cons (pe_bltn (v := .ty "list") (by rfl) T.m_list (by decide +kernel) rfl) pa_nil))))) (pw_or1 (pt_not (pt_chain op_le op_le pe_int (pe_callB call_len_seq (by rfl) T.m_len (by decide +kernel) (pa_cons (pv 0) pa_nil)) (pe_glob (v := .int 100) (by rfl) T.g_MOST ⟨_, rfl⟩)))))) (pss_one (ps_never)) (pss_nil))
      (pss_one (ps_if (pt_not (pt_val (pe_callB (cr_all rfl) (by rfl) T.m_all (by decide +kernel) (pa_cons (pe_lc (own := [("row", 1)]) (g := (gName 1)) (tt := tYes) (te := (tCall _ _ _ (tCons (tVar 1) (tCons (tCB (rLenS K) (tCons (tVar 0) tNil)) tNil)))) (by rfl) sc_asked_table.nd (pi_list (pv 0)) (blkOk_by (by kernel_rfl)) (fun _ _ _ _ _ => pg_name (i := 1) sc_asked_table.nd rfl (.inl rfl)) (fun _ _ _ _ _ => pts_nil) (fun _ _ _ _ _ => pe_call G_is_row (hr.mono (by decide)) (by rfl) T.g_is_row T.F_is_row.kp T.b_is_row .nil pass0 (pa_cons (pv 1) (pa_cons (pe_callB call_len_seq (by rfl) T.m_len (by decide +kernel) (pa_cons (pv 0) pa_nil)) pa_nil)))) pa_nil)))) (pss_one (ps_never)) (pss_nil))), ?_⟩
    refine q_when (b := false) ?_ (fun hb => nomatch hb) fun _ H1 e1 => ?_
    · refine et_is (et_or (a := false) (b := false) (et_is (et_not (et_B (ev_isi (b := true) (ea_cons (ev_var rfl) (ea_cons ev_c ea_nil)) (.ty _) (fun H1 e => .base (.lst (e a _ hL))) (kit_ty (by decide +kernel))))) rfl) fun _ => et_is (et_not (et_test (ev_chain ev_c (ev_lenT (ev_var rfl) hT) rv_I0 (fun _ => ev_c) (fun _ => rv_I0)))) ?_) rfl
      have a1 : decide ((1 : Int) ≤ (n : Int)) = true := decide_eq_true (by omega)
      have a2 : decide ((n : Int) ≤ 100) = true := decide_eq_true (by omega)
      rw [a1, a2]
      rfl
    · refine s_when (b := false) ?_ (fun hb => nomatch hb) fun _ H2 e2 => q H2 (e1.trans e2)
      refine et_is (et_not (et_B (ev_allN (K := K) (bs := (List.range n).map fun _ => true) (ev_list (el_lcL (K := K) (fun _ => true) (fun _ => .bl true) (ev_var rfl) (ex_l e1 hT) (by rw [tabV_len]; omega) (fun x => rfl) (fun i x H2 e2 hx => et_yes) (fun i x H2 e2 hx _ => ?_)) ?_)))) ?_
      · obtain ⟨hi, rfl⟩ := tabV_some hx
        exact ev_call (ea_cons (ev_var rfl) (ea_cons (ev_lenT (ev_var rfl) (TabAt.ex (e1.trans e2) hT)) ea_nil)) fun H3 e3 Q3 q3 _ => ⟨n, f i, rfl, by omega, q3⟩
      · rw [given_all, tabV_len, List.map_map]
        rfl
      · have e : ((List.range n).map fun _ => true).all id = true := by simp
        rw [e]
        rfl

end
end HA

end
section
set_option maxRecDepth 100000
set_option maxHeartbeats 4000000
namespace HA
open PySem PySem.Spec PyProof.Rows L2 Evl
section
variable {P : Program} {w : World} {K : PySem.W.Frag} {mg : Str → Option Value} {base : Heap}
theorem ok_alike (T : Txt K mg) : FnOk P w K mg base CX0 1 T.a_alike T.d_alike ["one", "other"] sp_alike := by
  refine T.F_alike.ok sc_alike (fun vs H Q E h => ?_) (fun cdv A outer s H vs Q E hr h => ?_)
  · obtain ⟨n, g, k, rfl, _⟩ := h
    rfl
  · obtain ⟨n, g, k, rfl, hn, q⟩ := h
    refine ⟨_, pss_one (ps_ret (pe_callB call_len_seq (by rfl) T.m_len (by decide +kernel) (pa_cons (pe_lc (own := [("place", 2), ("sign", 3)]) (g := (gTup K 2 (gCons (gName 2) (gCons (gName 3) gNil)))) (tt := (tTest (tOp _ (tVar 3) (tOp rIxS (tVar 1) (tVar 2))))) (te := (tVar 2)) (by rfl) sc_alike.nd (pi_enumS (by rfl) T.m_enumerate (pa_cons (pv 0) pa_nil)) (blkOk_by (by kernel_rfl)) (fun _ _ _ _ _ => pg_tup rfl (pgs_cons (pg_name (i := 2) sc_alike.nd rfl (.inl rfl)) (pgs_cons (pg_name (i := 3) sc_alike.nd rfl (.inl rfl)) pgs_nil))) (fun _ _ _ _ _ => pts_one (pt_cmpR op_eq (pv 3) (pe_ix ix_str (pv 1) (pv 2) (fun _ _ => rfl)) (nomark _))) (fun _ _ _ _ _ => pv 2)) pa_nil))), ?_⟩
    refine s_ret (ev_lenN (K := K) (el_lcES (K := K) (c := fun i => cp (g i)) (fun i => g i == k i) (fun i => .int (i : Nat)) (ea_cons (ev_var rfl) ea_nil) (rowS_size n g) (fun i hi => rowS_get hi) (by omega) (fun x y => rfl) (fun i H1 e hi => ?_) (fun i H1 e hi _ => ev_var rfl))) (fun H1 e => ?_)
    · exact et_is (et_test (ev_op (ev_var rfl) (ev_itS (ev_var rfl) (ev_var rfl) hi (by omega)) (rv_eq rfl))) (sgS_dec _ _)
    · rw [given_count]
      exact q H1 e

end
end HA

end
section
set_option maxRecDepth 100000
set_option maxHeartbeats 4000000
namespace HA
open PySem PySem.Spec PyProof.Rows L2 Evl
section
variable {P : Program} {w : World} {K : PySem.W.Frag} {mg : Str → Option Value} {base : Heap}
theorem ok_first_unlike (T : Txt K mg) : FnOk P w K mg base CX0 2 T.a_first_unlike T.d_first_unlike ["table"] (sp_first_unlike K) := by
  refine T.F_first_unlike.ok sc_first_unlike (fun vs H Q E h => ?_) (fun cdv A outer s H vs Q E hr h => ?_)
  · obtain ⟨a, n, f, rfl, _⟩ := h
    rfl
  · obtain ⟨a, n, f, rfl, hT, hn, qh, qu⟩ := h
    have G_alike := ok_alike (P := P) (w := w) (base := base) T
    refine ⟨_, pss_cons (ps_for PassesOwn.never (by rfl) (pi_range1 (by rfl) T.m_range (pa_cons (pe_callB call_len_seq (by rfl) T.m_len (by decide +kernel) (pa_cons (pv 0) pa_nil)) pa_nil)) (pg_name (i := 1) sc_first_unlike.nd rfl (.inl rfl))
        (pss_one (ps_for PassesOwn.never (by rfl) (pi_range1 (by rfl) T.m_range (pa_cons (pv 1) pa_nil)) (pg_name (i := 2) sc_first_unlike.nd rfl (.inl rfl))
          (pss_one (ps_if (pt_cmpR op_ne (pe_op op_mul pe_int (pe_call G_alike (hr.mono (by decide)) (by rfl) T.g_alike T.F_alike.kp T.b_alike .nil pass0 (pa_cons (pe_ix ix_list (pv 0) (pv 2) (fun _ _ => rfl)) (pa_cons (pe_ix ix_list (pv 0) (pv 1) (fun _ _ => rfl)) pa_nil)))) (pe_callB call_len_seq (by rfl) T.m_len (by decide +kernel) (pa_cons (pv 0) pa_nil)) (nomark _)) (pss_one (ps_ret (pe_tup (pa_cons (pv 2) (pa_cons (pv 1) pa_nil))))) (pss_nil))))))
      (pss_one (ps_ret (pe_non))), ?_⟩
    refine q_forR1 (n := (n : Int)) (ea_cons (ev_lenT (ev_var rfl) hT) ea_nil) ⟨by omega, by omega⟩
      (fun j σ' H' => ∃ v1 v2, σ' = [some (.ref a), v1, v2] ∧ Ex H H' ∧ ∀ j', j' < j → ∀ i, i < j' → 2 * alk n (f i) (f j') = n) (fun H1 e1 => ⟨none, none, rfl, e1, fun j' hj' => absurd hj' (by omega)⟩) ?_ ?_
    · rintro j σ' H' hj ⟨v1, v2, rfl, e1, ih⟩
      refine s_forR1 (n := (j : Int)) (ea_cons (ev_var rfl) ea_nil) ⟨by omega, by omega⟩
        (fun i σ' H' => ∃ v2, σ' = [some (.ref a), some (.int (j : Int)), v2] ∧ Ex H H' ∧ ∀ i', i' < i → 2 * alk n (f i') (f j) = n) (fun H2 e2 => ⟨v2, rfl, e1.trans e2, fun i' hi' => absurd hi' (by omega)⟩) ?_ ?_
      · rintro i σ' H2 hi ⟨v2, rfl, e2, ih2⟩
        refine s_when (et_is (et_test (ev_op (ev_op ev_c (ev_call (z := .int (alk n (f i) (f j) : Int)) (ea_cons (ev_itT (K := K) (n := n) (f := f) (i := i) (ev_var rfl) (ev_var rfl) (TabAt.ex e2 hT) (by omega)) (ea_cons (ev_itT (K := K) (n := n) (f := f) (i := j) (ev_var rfl) (ev_var rfl) (TabAt.ex e2 hT) (by omega)) ea_nil)) fun H3 e3 Q3 q3 _ => ⟨n, f i, f j, rfl, hn, q3⟩) (rv_I (.inl ⟨by decide, by decide⟩))) (ev_lenT (ev_var rfl) (TabAt.ex e2 hT)) (rv_ne rfl))) (congrArg not (dec_intB _ _))) ?_ ?_
        · intro hb H3 e3
          refine s_retU (eu_tup (ea_cons (ev_var rfl) (ea_cons (ev_var rfl) ea_nil)) (by show 2 ≤ 100000; decide)) fun p H4 hp e4 h4 => ?_
          refine qu i j (by omega) (by omega) ?_ p H4 (fresh_back (e2.trans e3) hp) ((e2.trans e3).trans e4) h4
          have hb' : ¬ (2 * (alk n (f i) (f j) : Int) = (n : Int)) := by simpa using hb
          omega
        · intro hb H3 e3
          refine ⟨_, rfl, e2.trans e3, fun i' hi' => ?_⟩
          by_cases hc : i' = i
          · subst hc
            have hb' : 2 * (alk n (f i') (f j) : Int) = (n : Int) := by simpa using hb
            omega
          · exact ih2 i' (by omega)
      · rintro σ' H2 ⟨v2, rfl, e2, ih2⟩
        refine ⟨_, _, rfl, e2, fun j' hj' i hi => ?_⟩
        by_cases hc : j' = j
        · subst hc
          exact ih2 i (by rw [Int.toNat_natCast]; exact hi)
        · exact ih j' (by omega) i hi
    · rintro σ' H' ⟨v1, v2, rfl, e1, ih⟩
      refine s_ret ev_c fun H2 e2 => qh ?_ H2 (e1.trans e2)
      rw [Int.toNat_natCast] at ih
      exact (halfB_iff n f).mpr fun j hj i hi => ih j hj i hi

end
end HA

end
section
set_option maxRecDepth 100000
set_option maxHeartbeats 4000000
namespace HA
open PySem PySem.Spec PyProof.Rows L2 Evl
section
variable {P : Program} {w : World} {K : PySem.W.Frag} {mg : Str → Option Value} {base : Heap}
theorem ok_asked_half (T : Txt K mg) : FnOk P w K mg base CX0 3 T.a_asked_half T.d_asked_half ["table"] (sp_asked_half K) := by
  refine T.F_asked_half.ok sc_asked_half (fun vs H Q E h => ?_) (fun cdv A outer s H vs Q E hr h => ?_)
  · obtain ⟨a, n, f, rfl, _⟩ := h
    rfl
  · obtain ⟨a, n, f, rfl, hT, h1, h2, ⟨xs, hL⟩, hh, q⟩ := h
    have G_asked_table := ok_asked_table (P := P) (w := w) (base := base) T
    have G_first_unlike := ok_first_unlike (P := P) (w := w) (base := base) T
    refine ⟨_, pss_cons (ps_expr (pe_call G_asked_table (hr.mono (by decide)) (by rfl) T.g_asked_table T.F_asked_table.kp T.b_asked_table .nil pass0 (pa_cons (pv 0) pa_nil)))
      (pss_one (ps_if (pt_cmpR op_notN (pe_call G_first_unlike (hr.mono (by decide)) (by rfl) T.g_first_unlike T.F_first_unlike.kp T.b_first_unlike .nil pass0 (pa_cons (pv 0) pa_nil)) pe_non (nomark _)) (pss_one (ps_never)) (pss_nil))), ?_⟩
    refine q_drop (v := .non) (ev_call (ea_cons (ev_var rfl) ea_nil) fun H3 e3 Q3 q3 _ => ⟨a, n, f, rfl, TabAt.ex e3 hT, h1, h2, ⟨xs, e3 a _ hL⟩, q3⟩) fun H1 e1 => ?_
    refine s_when (b := false) ?_ (fun hz => nomatch hz) fun _ H2 e2 => q H2 (e1.trans e2)
    exact et_is (et_test (ev_op (x := .non) (y := .non) (ev_call (ea_cons (ev_var rfl) ea_nil) fun H3 e3 Q3 q3 _ => ⟨a, n, f, rfl, TabAt.ex (e1.trans e3) hT, by omega, fun _ => q3, fun i j hij hj hu => absurd ((halfB_iff _ _).mp hh j hj i hij) hu⟩) ev_c (fun H3 _ Q3 q3 => ⟨rfl, q3 H3 (Ex.refl H3)⟩))) rfl

end
end HA

end
section
set_option maxRecDepth 100000
set_option maxHeartbeats 4000000
namespace HA
open PySem PySem.Spec PyProof.Rows L2 Evl
section
variable {P : Program} {w : World} {K : PySem.W.Frag} {mg : Str → Option Value} {base : Heap}
theorem ok_asked_numbers (T : Txt K mg) : FnOk P w K mg base CX0 4 T.a_asked_numbers T.d_asked_numbers ["table", "numbers"] (sp_asked_numbers K) := by
  refine T.F_asked_numbers.ok sc_asked_numbers (fun vs H Q E h => ?_) (fun cdv A outer s H vs Q E hr h => ?_)
  · obtain ⟨a, b, n, f, u, rfl, _⟩ := h
    rfl
  · obtain ⟨a, b, n, f, u, rfl, hT, h1, h2, ⟨xs, hL⟩, hh, hB, q⟩ := h
    have G_asked_half := ok_asked_half (P := P) (w := w) (base := base) T
    have G_is_number := ok_is_number (P := P) (w := w) (base := base) T
    refine ⟨_, pss_cons (ps_expr (pe_call G_asked_half (hr.mono (by decide)) (by rfl) T.g_asked_half T.F_asked_half.kp T.b_asked_half .nil pass0 (pa_cons (pv 0) pa_nil)))
      (pss_one (ps_if (PW.pt (pw_or (pt_not (pt_val (pe_callB call_isi (by rfl) T.m_isinstance (by decide +kernel) (pa_cons (pv 1) (pa_cons (pe_bltn (v := .ty "list") (by rfl) T.m_list (by decide +kernel) rfl) pa_nil))))) (pw_or (pt_cmpR op_ne (pe_callB call_len_seq (by rfl) T.m_len (by decide +kernel) (pa_cons (pv 1) pa_nil)) (pe_callB call_len_seq (by rfl) T.m_len (by decide +kernel) (pa_cons (pv 0) pa_nil)) (nomark _)) (pw_or1 (pt_not (pt_val (pe_callB (cr_all rfl) (by rfl) T.m_all (by decide +kernel) (pa_cons (pe_lc (own := [("one", 2)]) (g := (gName 2)) (tt := tYes) (te := (tCall _ _ _ (tCons (tVar 2) tNil))) (by rfl) sc_asked_numbers.nd (pi_list (pv 1)) (blkOk_by (by kernel_rfl)) (fun _ _ _ _ _ => pg_name (i := 2) sc_asked_numbers.nd rfl (.inl rfl)) (fun _ _ _ _ _ => pts_nil) (fun _ _ _ _ _ => pe_call G_is_number (hr.mono (by decide)) (by rfl) T.g_is_number T.F_is_number.kp T.b_is_number .nil pass0 (pa_cons (pv 2) pa_nil))) pa_nil)))))))) (pss_one (ps_never)) (pss_nil))), ?_⟩
    refine q_drop (v := .non) (ev_call (ea_cons (ev_var rfl) ea_nil) fun H3 e3 Q3 q3 _ => ⟨a, n, f, rfl, TabAt.ex e3 hT, h1, h2, ⟨xs, e3 a _ hL⟩, hh, q3⟩) fun H1 e1 => ?_
    have hN : NumAt K H1 b n u := sq_of (e1 b _ hB)
    refine s_when (b := false) ?_ (fun hz => nomatch hz) fun _ H2 e2 => q H2 (e1.trans e2)
    refine et_is (et_or (et_not (et_B (ev_isi (b := true) (ea_cons (ev_var rfl) (ea_cons ev_c ea_nil)) (.ty _) (fun H2 e2 => .base (.lst ((e1.trans e2) b _ hB))) (kit_ty (by decide +kernel))))) fun _ => et_or (et_test (ev_op (ev_len (K := K) (ev_var rfl) hN) (ev_lenT (ev_var rfl) (TabAt.ex e1 hT)) (rv_ne rfl))) fun _ => et_not (et_B (ev_allN (K := K) (bs := (List.range n).map fun _ => true) (ev_list (el_lcL (K := K) (fun _ => true) (fun _ => .bl true) (ev_var rfl) hN (by rw [numV_len]; omega) (fun x => rfl) (fun i x H2 e2 hx => et_yes) (fun i x H2 e2 hx _ => ?_)) ?_)))) ?_
    · obtain ⟨hi, rfl⟩ := numV_some hx
      exact ev_call (ea_cons (ev_var rfl) ea_nil) fun H3 e3 Q3 q3 _ => ⟨_, rfl, q3⟩
    · rw [given_all, numV_len, List.map_map]
      rfl
    · rw [numV_len]
      simp

end
end HA

end
section
set_option maxRecDepth 100000
set_option maxHeartbeats 4000000
namespace HA
open PySem PySem.Spec PyProof.Rows L2 Evl
section
variable {P : Program} {w : World} {K : PySem.W.Frag} {mg : Str → Option Value} {base : Heap}
theorem ok_signed_sum (T : Txt K mg) : FnOk P w K mg base CX0 1 T.a_signed_sum T.d_signed_sum ["row", "numbers"] (sp_signed_sum K) := by
  refine T.F_signed_sum.ok sc_signed_sum (fun vs H Q E h => ?_) (fun cdv A outer s H vs Q E hr h => ?_)
  · obtain ⟨b, n, g, u, _, _, rfl | ⟨c, rfl, _⟩, _⟩ := h
    · rfl
    · rfl
  · obtain ⟨b, n, g, u, hN, hn, hv, q⟩ := h
    refine ⟨_, pss_one (ps_ret (pe_callB (cr_sum rfl) (by rfl) T.m_sum (by decide +kernel) (pa_cons (pe_lc (own := [("sign", 2), ("number", 3)]) (g := (gTup K 2 (gCons (gName 2) (gCons (gName 3) gNil)))) (tt := tYes) (te := (tIf (tTest (tOp _ (tVar 2) (tC _))) (tVar 3) (tUn _ (tVar 3)))) (by rfl) sc_signed_sum.nd (pi_either (pi_zipSL (by rfl) T.m_zip (pa_cons (pv 0) (pa_cons (pv 1) pa_nil))) (pi_zip (by rfl) T.m_zip (pa_cons (pv 0) (pa_cons (pv 1) pa_nil)))) (blkOk_by (by kernel_rfl)) (fun _ _ _ _ _ => pg_tup rfl (pgs_cons (pg_name (i := 2) sc_signed_sum.nd rfl (.inl rfl)) (pgs_cons (pg_name (i := 3) sc_signed_sum.nd rfl (.inl rfl)) pgs_nil))) (fun _ _ _ _ _ => pts_nil) (fun _ _ _ _ _ => pe_ifExp (pt_cmpR op_eq (pv 2) pe_str (nomark _)) (pv 3) (pe_un un_neg (pv 3)))) pa_nil))), ?_⟩
    have tm : ∀ {σ : L2.St} {H1 : Hp} {ta tb tc : TE} {k : Nat}, Ev ta σ H1 (.str (sgS (g k))) → Ev tb σ H1 (.int (u k)) → Ev tc σ H1 (.int (u k)) → Ev (tIf (tTest (tOp _ ta (tC (.str (Str.ofString "+"))))) tb (tUn (rU fun i => .int (-i)) tc)) σ H1 (.int (sg (g k) * u k)) := fun {σ H1 ta tb tc k} h1 h2 h3 => by
      refine ev_if (b := g k) (et_is (et_test (ev_op h1 ev_c (rv_eq rfl))) ?_) (fun hb => ev_is h2 ?_) (fun hb => ev_is (ev_un h3 ru_neg) ?_)
      · rw [sg_plus, sgS_dec]
        cases g k <;> rfl
      · rw [hb, show sg true = 1 from rfl, Int.one_mul]
      · rw [hb, show sg false = -1 from rfl, Int.neg_mul, Int.one_mul]
    rcases hv with rfl | ⟨c, rfl, hc⟩
    · refine s_ret (v := .int (S n fun k => sg (g k) * u k)) (ev_is (ev_sumN (K := K) (ns := (List.range n).map fun k => sg (g k) * u k) fun H0 e Q0 q0 => Or.inl (ev_list (el_lcZSL (K := K) (n := n) (c := fun k => cp (g k)) (d := fun k => .int (u k)) (fun _ => true) (fun k => .int (sg (g k) * u k)) (ea_cons (ev_var rfl) (ea_cons (ev_var rfl) ea_nil)) hN (by rw [rowS_size, numV_len, Nat.min_self]) (fun k hk => rowS_get hk) (fun k hk => numV_get hk) (by omega) (fun x y => rfl) (fun k H1 e hk => et_yes) (fun k H1 e hk _ => tm (ev_var rfl) (ev_var rfl) (ev_var rfl))) (by rw [given_all, List.map_map]; rfl) H0 e Q0 q0)) (by rw [sum_S])) fun H1 e1 => q H1 e1
    · refine s_ret (v := .int (S n fun k => sg (g k) * u k)) (ev_is (ev_sumN (K := K) (ns := (List.range n).map fun k => sg (g k) * u k) fun H0 e Q0 q0 => Or.inr (ev_list (el_lcZLL (K := K) (n := n) (c := fun k => .str (sgS (g k))) (d := fun k => .int (u k)) (fun _ => true) (fun k => .int (sg (g k) * u k)) (ea_cons (ev_var rfl) (ea_cons (ev_var rfl) ea_nil)) hc hN (by rw [List.length_map, List.length_range, numV_len, Nat.min_self]) (fun k hk => by rw [List.getElem?_map, List.getElem?_range hk]; rfl) (fun k hk => numV_get hk) (by omega) (fun x y => rfl) (fun k H1 e hk => et_yes) (fun k H1 e hk _ => tm (ev_var rfl) (ev_var rfl) (ev_var rfl))) (by rw [given_all, List.map_map]; rfl) H0 e Q0 q0)) (by rw [sum_S])) fun H1 e1 => q H1 e1

end
end HA

end
section
set_option maxRecDepth 100000
set_option maxHeartbeats 4000000
namespace HA
open PySem PySem.Spec PyProof.Rows L2 Evl
section
variable {P : Program} {w : World} {K : PySem.W.Frag} {mg : Str → Option Value} {base : Heap}
theorem ok_worths (T : Txt K mg) : FnOk P w K mg base CX0 5 T.a_worths T.d_worths ["table", "numbers"] (sp_worths K) := by
  refine T.F_worths.ok sc_worths (fun vs H Q E h => ?_) (fun cdv A outer s H vs Q E hr h => ?_)
  · obtain ⟨a, b, n, f, u, rfl, _⟩ := h
    rfl
  · obtain ⟨a, b, n, f, u, rfl, hT, h1, h2, ⟨xs, hL⟩, hh, hB, q⟩ := h
    have G_asked_numbers := ok_asked_numbers (P := P) (w := w) (base := base) T
    have G_signed_sum := ok_signed_sum (P := P) (w := w) (base := base) T
    refine ⟨_, pss_cons (ps_expr (pe_call G_asked_numbers (hr.mono (by decide)) (by rfl) T.g_asked_numbers T.F_asked_numbers.kp T.b_asked_numbers .nil pass0 (pa_cons (pv 0) (pa_cons (pv 1) pa_nil))))
      (pss_one (ps_ret (pe_lc (own := [("row", 2)]) (g := (gName 2)) (tt := tYes) (te := (tCall _ _ _ (tCons (tVar 2) (tCons (tVar 1) tNil)))) (by rfl) sc_worths.nd (pi_list (pv 0)) (blkOk_by (by kernel_rfl)) (fun _ _ _ _ _ => pg_name (i := 2) sc_worths.nd rfl (.inl rfl)) (fun _ _ _ _ _ => pts_nil) (fun _ _ _ _ _ => pe_call G_signed_sum (hr.mono (by decide)) (by rfl) T.g_signed_sum T.F_signed_sum.kp T.b_signed_sum .nil pass0 (pa_cons (pv 2) (pa_cons (pv 1) pa_nil)))))), ?_⟩
    refine q_drop (v := .non) (ev_call (ea_cons (ev_var rfl) (ea_cons (ev_var rfl) ea_nil)) fun H3 e3 Q3 q3 _ => ⟨a, b, n, f, u, rfl, TabAt.ex e3 hT, h1, h2, ⟨xs, e3 a _ hL⟩, hh, e3 b _ hB, q3⟩) fun H1 e1 => ?_
    refine s_retL (ev_list (el_lcL (K := K) (fun _ => true) (fun i => .int (ws n f u i)) (ev_var rfl) (TabAt.ex e1 hT) (by rw [tabV_len]; omega) (fun x => rfl) (fun i x H2 e2 hx => et_yes) (fun i x H2 e2 hx _ => ?_)) (by rw [given_all, tabV_len]; rfl)) fun p H2 hp e2 h2 => q p H2 (fresh_back e1 hp) (e1.trans e2) h2
    obtain ⟨hi, rfl⟩ := tabV_some hx
    exact ev_call (ea_cons (ev_var rfl) (ea_cons (ev_var rfl) ea_nil)) fun H3 e3 Q3 q3 _ => ⟨b, n, f i, u, sq_of (((e1.trans e2).trans e3) b _ hB), by omega, .inl rfl, q3⟩

end
end HA

end
section
set_option maxRecDepth 100000
set_option maxHeartbeats 4000000
namespace HA
open PySem PySem.Spec PyProof.Rows L2 Evl
section
variable {P : Program} {w : World} {K : PySem.W.Frag} {mg : Str → Option Value} {base : Heap}
theorem ok_numbers_of (T : Txt K mg) : FnOk P w K mg base (L2N.CX P w) 5 T.a_numbers_of T.d_numbers_of ["table", "told_worths"] (sp_numbers_of K T.C_NoNumbers) := by
  refine okN T.F_numbers_of sc_numbers_of (fun vs H Q E h => ?_) (fun cdv A outer s H vs Q E hr h => ?_)
  · obtain ⟨a, b, n, f, u, rfl, _⟩ := h
    rfl
  · obtain ⟨a, b, n, f, u, rfl, hT, h1, h2, ⟨xs, hL⟩, hh, hB, qy, qn⟩ := h
    have G_asked_numbers := ok_asked_numbers (P := P) (w := w) (base := base) T
    have G_signed_sum := ok_signed_sum (P := P) (w := w) (base := base) T
    refine ⟨_, pss_cons (ps_expr (pe_call G_asked_numbers (hr.mono (by decide)) (by rfl) T.g_asked_numbers T.F_asked_numbers.kp T.b_asked_numbers .nil pass0 (pa_cons (pv 0) (pa_cons (pv 1) pa_nil))))
      (pss_cons (ps_set (i := 2) sc_numbers_of.nd rfl (.inr rfl) (pe_callB call_len_seq (by rfl) T.m_len (by decide +kernel) (pa_cons (pv 0) pa_nil)))
      (pss_cons (ps_setLc (i := 3) (own := [("place", 4)]) (g := (gName 4)) (tt := tYes) (te := (tCall _ _ _ (tCons (tLc (iList K (tVar 0)) (gName 5) tYes (tOp rIxS (tVar 5) (tVar 4)) [5]) (tCons (tVar 1) tNil)))) (by rfl) sc_numbers_of.nd rfl rfl (sw_true rfl rfl rfl (by decide +kernel)) (pi_range1 (by rfl) T.m_range (pa_cons (pv 2) pa_nil)) (blkOk_by (by kernel_rfl)) (fun _ _ _ _ _ => pg_name (i := 4) sc_numbers_of.nd rfl (.inr rfl)) (fun _ _ _ _ _ => pts_nil) (fun _ _ _ _ _ => pe_call G_signed_sum (hr.mono (by decide)) (by rfl) T.g_signed_sum T.F_signed_sum.kp T.b_signed_sum .nil pass0 (pa_cons (pe_lc (own := [("row", 5)]) (g := (gName 5)) (tt := tYes) (te := (tOp rIxS (tVar 5) (tVar 4))) (by rfl) sc_numbers_of.nd (pi_list (pv 0)) (blkOk_by (by kernel_rfl)) (fun _ _ _ _ _ => pg_name (i := 5) sc_numbers_of.nd rfl (.inl rfl)) (fun _ _ _ _ _ => pts_nil) (fun _ _ _ _ _ => pe_ix ix_str (pv 5) (pv 4) (fun _ _ => rfl))) (pa_cons (pv 1) pa_nil))))
      (pss_cons (ps_if (pt_val (pe_callB (cr_any rfl) (by rfl) T.m_any (by decide +kernel) (pa_cons (pe_lc (own := [("one", 6)]) (g := (gName 6)) (tt := tYes) (te := (tOp _ (tOp _ (tVar 6) (tVar 2)) (tC _))) (by rfl) sc_numbers_of.nd (pi_list (pv 3)) (blkOk_by (by kernel_rfl)) (fun _ _ _ _ _ => pg_name (i := 6) sc_numbers_of.nd rfl (.inl rfl)) (fun _ _ _ _ _ => pts_nil) (fun _ _ _ _ _ => pe_cmpR op_ne (pe_op op_mod (pv 6) (pv 2)) pe_int (nomark _))) pa_nil))) (pss_one (L2N.ps_raise rfl (L2N.takes_of rfl rfl rfl rfl) (L2N.pmk_own PySem.F.excBase_ValueError T.x_NoNumbers T.g_NoNumbers T.k_NoNumbers (raises_own T.eb_NoNumbers T.et_NoNumbers) rfl))) (pss_nil))
      (pss_one (ps_ret (pe_lc (own := [("one", 6)]) (g := (gName 6)) (tt := tYes) (te := (tOp _ (tVar 6) (tVar 2))) (by rfl) sc_numbers_of.nd (pi_list (pv 3)) (blkOk_by (by kernel_rfl)) (fun _ _ _ _ _ => pg_name (i := 6) sc_numbers_of.nd rfl (.inl rfl)) (fun _ _ _ _ _ => pts_nil) (fun _ _ _ _ _ => pe_op op_fdiv (pv 6) (pv 2)))))))), ?_⟩
    have hn0 : (0 : Int) < (n : Int) := by omega
    refine q_drop (v := .non) (ev_call (ea_cons (ev_var rfl) (ea_cons (ev_var rfl) ea_nil)) fun H3 e3 Q3 q3 _ => ⟨a, b, n, f, u, rfl, TabAt.ex e3 hT, h1, h2, ⟨xs, e3 a _ hL⟩, hh, e3 b _ hB, q3⟩) fun H1 e1 => ?_
    refine q_asg (ev_lenT (K := K) (n := n) (f := f) (ev_var rfl) (TabAt.ex e1 hT)) fun H2 e2 => ?_
    have E2 := e1.trans e2
    refine q_asgL (xs := numV n (cs n f u)) (ev_list (el_lcR1 (n := (n : Int)) (fun _ => true) (fun p => .int (cs n f u p)) (ea_cons (ev_var rfl) ea_nil) ⟨by omega, by omega⟩ (fun x => rfl) (fun p H3 e3 hp => et_yes) (fun p H3 e3 hp _ => ?_)) (by rw [given_all, Int.toNat_natCast]; rfl)) fun ps H3 hps e3 h3 => ?_
    · have hp' : p < n := by omega
      refine ev_callLV (xs := (List.range n).map fun r => V.str (sgS (f r p))) (ev_list (el_lcL (K := K) (fun _ => true) (fun r => V.str (sgS (f r p))) (ev_var rfl) (TabAt.ex (E2.trans e3) hT) (by rw [tabV_len]; omega) (fun x => rfl) (fun r x H4 e4 hx => et_yes) (fun r x H4 e4 hx _ => ?_)) (by rw [given_all, tabV_len])) (ev_var rfl) fun q' H4 e4 h4 H5 e5 Q5 q5 _ => ⟨b, n, fun r => f r p, u, sq_of ((((E2.trans e3).trans e4).trans e5) b _ hB), by omega, .inr ⟨q', rfl, sq_of (e5 q' _ h4)⟩, q5⟩
      obtain ⟨hr', rfl⟩ := tabV_some hx
      exact ev_itS (ev_var rfl) (ev_var rfl) hp' (by omega)
    have E3 := E2.trans e3
    refine q_when (b := !allB n f u) ?_ (fun hb H4 e4 => ?_) fun hb H4 e4 => ?_
    · refine et_is (et_B (ev_anyN (K := K) (bs := (List.range n).map fun p => !decide (cs n f u p % (n : Int) = 0)) (ev_list (el_lcL (K := K) (xs := numV n (cs n f u)) (fun _ => true) (fun p => .bl (!decide (cs n f u p % (n : Int) = 0))) (ev_var rfl) (sq_of h3) (by rw [numV_len]; omega) (fun x => rfl) (fun i x H4 e4 hx => et_yes) (fun i x H4 e4 hx _ => ?_)) (by rw [given_all, numV_len, List.map_map]; rfl)))) (any_not_all n _)
      obtain ⟨hi, rfl⟩ := numV_some hx
      exact ev_is (ev_op (ev_op (ev_var rfl) (ev_var rfl) (rv_I hn0)) ev_c (rv_ne rfl)) (by rw [dec_intB])
    · exact qn (bnot1 hb) H4 (E3.trans e4)
    · refine s_retL (ev_list (el_lcL (K := K) (xs := numV n (cs n f u)) (fun _ => true) (fun p => .int (cs n f u p / (n : Int))) (ev_var rfl) (sq_of (e4 ps _ h3)) (by rw [numV_len]; omega) (fun x => rfl) (fun i x H5 e5 hx => et_yes) (fun i x H5 e5 hx _ => ?_)) (by rw [given_all, numV_len]; rfl)) fun p H5 hp e5 h5 => qy (bnot0 hb) p H5 (fresh_back (E3.trans e4) hp) ((E3.trans e4).trans e5) h5
      obtain ⟨hi, rfl⟩ := numV_some hx
      exact ev_op (ev_var rfl) (ev_var rfl) (rv_I ⟨hn0, by omega⟩)

end
end HA

end
section
set_option maxRecDepth 100000
set_option maxHeartbeats 4000000
namespace HA
open PySem PySem.Spec PyProof.Rows L2 Evl
section
variable {P : Program} {w : World} {K : PySem.W.Frag} {mg : Str → Option Value} {base : Heap}
theorem num_add {x y : Int} {a : Nat} (hx : x.natAbs < 2 ^ a) (hy : y.natAbs < 2 ^ a) : (x + y).natAbs < 2 ^ (a + 1) := by
  have e : (2 : Nat) ^ (a + 1) = 2 ^ a + 2 ^ a := by rw [Nat.pow_succ]; omega
  rw [e]
  generalize (2 : Nat) ^ a = G at hx hy
  omega
theorem num_small {x : Int} {a : Nat} (ha : 40 ≤ a) (h : x.natAbs < 2 ^ 40) : x.natAbs < 2 ^ a := Nat.lt_of_lt_of_le h (Nat.pow_le_pow_right (by decide) ha)
theorem num_bits {c a m : Int} (hc : c.natAbs < 2 ^ BB) (ha : 0 ≤ a) (ha2 : a ≤ 10000) (hm0 : 0 ≤ m) (hm1 : m < 2147483647) :
    CMulB (m * (c + 31 * a + 7)) (m + c + 5) ∧ CMulB (m * (c + 31 * a + 7) * (m + c + 5)) (m * m + 11) := by
  have hB : BB = 1048700 := rfl
  have h40 : 40 ≤ BB := by rw [hB]; decide
  have b0 : m.natAbs < 2 ^ 31 := by
    have : (2 : Nat) ^ 31 = 2147483648 := by decide
    rw [this]
    omega
  have s1 : (31 * a + 7).natAbs < 2 ^ BB := num_small h40 (by
    have : (2 : Nat) ^ 40 = 1099511627776 := by decide
    rw [this]
    omega)
  have s2 : (m + 5).natAbs < 2 ^ BB := num_small h40 (by
    have : (2 : Nat) ^ 40 = 1099511627776 := by decide
    rw [this]
    omega)
  have b1 : (c + 31 * a + 7).natAbs < 2 ^ (BB + 1) := by
    rw [Int.add_assoc]
    exact num_add hc s1
  have b3 : (m + c + 5).natAbs < 2 ^ (BB + 1) := by
    rw [show m + c + 5 = c + (m + 5) by omega]
    exact num_add hc s2
  have b2 := wide_lt b0 b1
  have b4 := wide_lt b2 b3
  have b5 : (m * m + 11).natAbs < 2 ^ 63 := by
    have q := wide_lt b0 b0
    have e62 : (2 : Nat) ^ (31 + 31) = 4611686018427387904 := by decide
    have e63 : (2 : Nat) ^ 63 = 9223372036854775808 := by decide
    rw [e62] at q
    rw [e63]
    have e : (m * m + 11).natAbs ≤ (m * m).natAbs + 11 := by
      generalize m * m = z
      omega
    omega
  have l2 := PySem.Flt.log2_lt_of (by omega) b2
  have l3 := PySem.Flt.log2_lt_of (by omega) b3
  have l4 := PySem.Flt.log2_lt_of (by omega) b4
  have l5 := PySem.Flt.log2_lt_of (by omega) b5
  unfold CMulB
  rw [hB] at l2 l3 l4
  exact ⟨by omega, by omega⟩
theorem ok_L_number (T : Txt K mg) : FnOk P w K mg base CX0 1 T.a_L_number T.d_L_number ["_law_cell", "_law_at", "_law_whole"] sp_L_number := by
  refine T.F_L_number.ok sc_L_number (fun vs H Q E h => ?_) (fun cdv A outer s H vs Q E hr h => ?_)
  · obtain ⟨c, a, z, rfl, _⟩ := h
    rfl
  · obtain ⟨c, a, z, rfl, hc, ha, ha2, q⟩ := h
    refine ⟨_, pss_cons (ps_if (pt_cmpR op_ge (pv 0) (pe_op op_pow pe_int pe_int) (nomark _)) (pss_one (ps_ret (pe_op op_fdiv (pv 0) (pe_op op_add pe_int (pe_op op_mod (pv 1) pe_int))))) (pss_nil))
      (pss_cons (ps_set (i := 3) sc_L_number.nd rfl (.inl rfl) (pe_op op_mod (pe_op op_add (pe_op op_mul (pe_op op_add (pv 0) (pe_op op_mul pe_int (pv 1))) pe_int) (pv 2)) pe_int))
      (pss_cons (ps_set (i := 4) sc_L_number.nd rfl (.inl rfl) (pe_op op_mul (pv 3) (pe_op op_add (pe_op op_add (pv 0) (pe_op op_mul pe_int (pv 1))) pe_int)))
      (pss_one (ps_ret (pe_op op_fdiv (pe_op op_mulB (pe_op op_mulB (pv 4) (pe_op op_add (pe_op op_add (pv 3) (pv 0)) pe_int)) (pe_op op_add (pe_op op_mul (pv 3) (pv 3)) pe_int)) (pe_op op_add pe_int (pv 1))))))), ?_⟩
    refine q_when (et_test (ev_op (ev_var rfl) (ev_op ev_c ev_c (rv_I ⟨by decide, by decide, by decide⟩)) rv_I0)) ?_ ?_
    · intro hb H1 e1
      have hb' : (10 : Int) ^ 18 ≤ c := of_decide_eq_true hb
      refine s_ret (ev_op (ev_var rfl) (ev_op ev_c (ev_op (ev_var rfl) ev_c (rv_I (by decide))) rv_I0) (rv_I ⟨?_, ?_⟩)) fun H2 e2 => ?_
      · omega
      · omega
      · have e := q H2 (e1.trans e2)
        unfold lawNum at e
        rw [if_pos hb'] at e
        exact e
    · intro hb H1 e1
      have hb' : ¬ (10 : Int) ^ 18 ≤ c := of_decide_eq_false hb
      refine q_asg (ev_op (ev_op (ev_op (ev_op (ev_var rfl) (ev_op ev_c (ev_var rfl) (rv_I (.inl ⟨by decide, by decide⟩))) rv_I0) ev_c (rv_I (.inr ⟨by decide, by decide⟩))) (ev_var rfl) rv_I0) ev_c (rv_I (by decide))) fun H2 e2 => ?_
      generalize hm : ((c + 977 * a) * 48271 + z) % 2147483647 = m
      have hm0 : 0 ≤ m := by rw [← hm]; exact Int.emod_nonneg _ (by decide)
      have hm1 : m < 2147483647 := by rw [← hm]; exact Int.emod_lt_of_pos _ (by decide)
      obtain ⟨k1, k2⟩ := num_bits hc ha ha2 hm0 hm1
      refine q_asg (ev_op (ev_var rfl) (ev_op (ev_op (ev_var rfl) (ev_op ev_c (ev_var rfl) (rv_I (.inl ⟨by decide, by decide⟩))) rv_I0) ev_c rv_I0) (rv_I (.inl ⟨by omega, by omega⟩))) fun H3 e3 => ?_
      refine s_ret (ev_op (ev_op (ev_op (ev_var rfl) (ev_op (ev_op (ev_var rfl) (ev_var rfl) rv_I0) ev_c rv_I0) (rv_I k1)) (ev_op (ev_op (ev_var rfl) (ev_var rfl) (rv_I (.inl ⟨by omega, by omega⟩))) ev_c rv_I0) (rv_I k2)) (ev_op ev_c (ev_var rfl) rv_I0) (rv_I ⟨by omega, by omega⟩)) fun H4 e4 => ?_
      have e := q H4 (((e1.trans e2).trans e3).trans e4)
      unfold lawNum at e
      rw [if_neg hb', hm] at e
      exact e

end
end HA

end
section
set_option maxRecDepth 100000
set_option maxHeartbeats 4000000
namespace HA
open PySem PySem.Spec PyProof.Rows L2 Evl
section
variable {P : Program} {w : World} {K : PySem.W.Frag} {mg : Str → Option Value} {base : Heap}
theorem ok_L_other (T : Txt K mg) : FnOk P w K mg base CX0 1 T.a_L_other T.d_L_other ["_law_row"] sp_L_other := by
  refine T.F_L_other.ok sc_L_other (fun vs H Q E h => ?_) (fun cdv A outer s H vs Q E hr h => ?_)
  · obtain ⟨n, g, rfl, _⟩ := h
    rfl
  · obtain ⟨n, g, rfl, hn, q⟩ := h
    refine ⟨_, pss_one (ps_ret (pe_join pe_str (pe_lc (own := [("_law_sign", 1)]) (g := (gName 1)) (tt := tYes) (te := (tOp rIxS (tC _) (tCB _ (tCons (tOp _ (tVar 1) (tC _)) tNil)))) (by rfl) sc_L_other.nd (pi_str (pv 0)) (blkOk_by (by kernel_rfl)) (fun _ _ _ _ _ => pg_name (i := 1) sc_L_other.nd rfl (.inl rfl)) (fun _ _ _ _ _ => pts_nil) (fun _ _ _ _ _ => pe_ix ix_str pe_str (pe_callTy call_int1 (by rfl) T.m_int (by decide +kernel) (pa_cons (pe_cmpR op_eq (pv 1) pe_str (nomark _)) pa_nil)) (fun _ _ => rfl))))), ?_⟩
    refine s_ret (ev_joinRow (K := K) (g := fun j => !g j) (ev_list (el_lcS (c := fun i => cp (g i)) (fun _ => true) (fun j => V.str (sgS (!g j))) (ev_var rfl) (rowS_size n g) (fun i hi => rowS_get hi) (by omega) (fun x => rfl) (fun i H1 e hi => et_yes) (fun i H1 e hi _ => ?_)) (given_all _ _)) (by omega)) (fun H1 e => q H1 e)
    have e1 : decide (V.str ⟨#[cp (g i)]⟩ = V.str (Str.ofString "+")) = g i := by
      rw [sg_plus]
      exact (sgS_dec (g i) true).trans (by cases g i <;> rfl)
    refine ev_op (x := .str (Str.ofString "+-")) (y := .int (if g i = true then 1 else 0)) ev_c (ev_is (ev_cb (ea_cons (ev_op (ev_var rfl) ev_c (rv_eq rfl)) ea_nil) (fun H2 e2 Q2 q2 => .inr ⟨_, rfl, q2 H2 (Ex.refl H2)⟩)) ?_) (rv_ixS (by decide +kernel) ?_)
    · rw [e1]
    · cases g i <;> decide +kernel

end
end HA

end
section
set_option maxRecDepth 100000
set_option maxHeartbeats 4000000
namespace HA
open PySem PySem.Spec PyProof.Rows L2 Evl
section
variable {P : Program} {w : World} {K : PySem.W.Frag} {mg : Str → Option Value} {base : Heap}
theorem ok_L_doubled (T : Txt K mg) : FnOk P w K mg base CX0 2 T.a_L_doubled T.d_L_doubled ["_law_table_here"] (sp_L_doubled K) := by
  refine T.F_L_doubled.ok sc_L_doubled (fun vs H Q E h => ?_) (fun cdv A outer s H vs Q E hr h => ?_)
  · obtain ⟨a, n, f, rfl, _⟩ := h
    rfl
  · obtain ⟨a, n, f, rfl, hT, hn, q⟩ := h
    have G_L_other := ok_L_other (P := P) (w := w) (base := base) T
    refine ⟨_, pss_one (ps_ret (pe_op op_cat (pe_lc (own := [("_law_row", 1)]) (g := (gName 1)) (tt := tYes) (te := (tOp _ (tVar 1) (tVar 1))) (by rfl) sc_L_doubled.nd (pi_list (pv 0)) (blkOk_by (by kernel_rfl)) (fun _ _ _ _ _ => pg_name (i := 1) sc_L_doubled.nd rfl (.inl rfl)) (fun _ _ _ _ _ => pts_nil) (fun _ _ _ _ _ => pe_op op_add_str (pv 1) (pv 1))) (pe_lc (own := [("_law_row", 1)]) (g := (gName 1)) (tt := tYes) (te := (tOp _ (tVar 1) (tCall _ _ _ (tCons (tVar 1) tNil)))) (by rfl) sc_L_doubled.nd (pi_list (pv 0)) (blkOk_by (by kernel_rfl)) (fun _ _ _ _ _ => pg_name (i := 1) sc_L_doubled.nd rfl (.inl rfl)) (fun _ _ _ _ _ => pts_nil) (fun _ _ _ _ _ => pe_op op_add_str (pv 1) (pe_call G_L_other (hr.mono (by decide)) (by rfl) T.g_L_other T.F_L_other.kp T.b_L_other .nil pass0 (pa_cons (pv 1) pa_nil)))))), ?_⟩
    refine s_retL (ev_list (el_cat
        (el_lcL (K := K) (fun _ => true) (fun i => V.str (rowS n (f i) ++ rowS n (f i))) (ev_var rfl) hT (by rw [tabV_len]; omega) (fun x => rfl) (fun i x H2 e2 hx => et_yes) (fun i x H2 e2 hx _ => ?_))
        (el_lcL (K := K) (fun _ => true) (fun i => V.str (rowS n (f i) ++ rowS n (fun j => !f i j))) (ev_var rfl) hT (by rw [tabV_len]; omega) (fun x => rfl) (fun i x H2 e2 hx => et_yes) (fun i x H2 e2 hx _ => ?_)) ?_) ?_) (fun p H1 hp e h1 => q p H1 hp e h1)
    · obtain ⟨hi, rfl⟩ := tabV_some hx
      exact ev_op (ev_var rfl) (ev_var rfl) (rv_addS (by rw [rowS_len]; omega))
    · obtain ⟨hi, rfl⟩ := tabV_some hx
      exact ev_op (ev_var rfl) (ev_call (z := .str (rowS n fun j => !f i j)) (ea_cons (ev_var rfl) ea_nil) fun H3 e3 Q3 q3 _ => ⟨n, f i, rfl, hn, q3⟩) (rv_addS (by rw [rowS_len, rowS_len]; omega))
    · have l1 := given_len (tabV n f).length (fun _ => true) (fun i => V.str (rowS n (f i) ++ rowS n (f i)))
      have l2 := given_len (tabV n f).length (fun _ => true) (fun i => V.str (rowS n (f i) ++ rowS n (fun j => !f i j)))
      rw [tabV_len] at l1 l2 ⊢
      omega
    · rw [given_all, given_all, tabV_len]
      unfold tabV
      rw [List.range_add, List.map_append, List.map_map]
      congr 1
      · refine List.map_congr_left fun i hi => ?_
        have hi' := List.mem_range.mp hi
        rw [rowS_app]
        refine congrArg V.str (rowS_ext fun j hj => ?_)
        unfold dbl
        rw [if_pos hi']
        by_cases hj' : j < n
        · rw [if_pos hj', if_pos hj']
        · rw [if_neg hj', if_neg hj']
      · refine List.map_congr_left fun i hi => ?_
        have hi' := List.mem_range.mp hi
        show V.str (rowS n (f i) ++ rowS n (fun j => !f i j)) = V.str (rowS (n + n) (dbl n f (n + i)))
        rw [rowS_app]
        refine congrArg V.str (rowS_ext fun j hj => ?_)
        unfold dbl
        rw [if_neg (show ¬ n + i < n by omega), show n + i - n = i by omega]

end
end HA

end
section
set_option maxRecDepth 100000
set_option maxHeartbeats 4000000
namespace HA
open PySem PySem.Spec PyProof.Rows L2 Evl
section
variable {P : Program} {w : World} {K : PySem.W.Frag} {mg : Str → Option Value} {base : Heap}
theorem foldl_one (c : Nat) : ∀ (n : Nat) (a : Array Nat), (List.replicate n (#[c] : Array Nat)).foldl (· ++ ·) a = a ++ (List.replicate n c).toArray
  | 0, a => by simp
  | n + 1, a => by
    rw [List.replicate_succ, List.foldl_cons, foldl_one c n, List.replicate_succ]
    apply Array.ext'
    simp
theorem mul_sg (b : Bool) (n : Nat) (hn : 1 ≤ n) : Txt.mul (sgS b) (n : Int) = rowS n (fun _ => b) := by
  unfold Txt.mul
  rw [if_neg (by omega)]
  by_cases h : n = 1
  · subst h
    rw [if_pos (by rfl)]
    rfl
  · have e : ((n : Int) == 1 || (sgS b).length == 0) = false := by
      have e1 : ((n : Int) == 1) = false := by
        rw [beq_eq_false_iff_ne]
        omega
      rw [e1]
      rfl
    rw [e, if_neg (by decide)]
    apply str_ext
    show ((List.replicate (n : Int).toNat (#[cp b] : Array Nat)).foldl (· ++ ·) #[]).toList = (List.range n).map fun j => cp b
    rw [foldl_one, Int.toNat_natCast, List.map_const', List.length_range]
    simp
theorem in_squares (p : Nat) (hp : 2 ≤ p) (r : Nat) : inV (.int (r : Int)) ((List.range (p - 1)).map fun k => V.int ((1 + (k : Nat)) * (1 + (k : Nat)) % (p : Int))) = isSq p r := by
  unfold inV isSq
  rw [List.any_map]
  congr 1
  funext k
  show ((1 + (k : Int)) * (1 + (k : Int)) % (p : Int) == (r : Int)) = ((k + 1) * (k + 1) % p == r)
  have e : (1 + (k : Int)) * (1 + (k : Int)) % (p : Int) = (((k + 1) * (k + 1) % p : Nat) : Int) := by
    rw [Int.natCast_emod, Int.natCast_mul, Int.natCast_add, Int.add_comm]
    rfl
  rw [e, Bool.eq_iff_iff, beq_iff_eq, beq_iff_eq]
  omega
theorem pri_step (p : Nat) (hp : 2 ≤ p) (i j : Nat) (hi : i < p) (hj : j < p) : (decide (V.int (1 + (j : Int)) = V.int (1 + (i : Int))) || inV (.int ((1 + (j : Int) - (1 + (i : Int))) % (p : Int))) ((List.range (p - 1)).map fun k => V.int ((1 + (k : Nat)) * (1 + (k : Nat)) % (p : Int)))) = pri p (1 + i) (1 + j) := by
  have e : (1 + (j : Int) - (1 + (i : Int))) % (p : Int) = (((1 + j + p - (1 + i)) % p : Nat) : Int) := by
    rw [Int.natCast_emod, show ((1 + j + p - (1 + i) : Nat) : Int) = (1 + (j : Int) - (1 + (i : Int))) + p by omega, Int.add_emod_right]
  rw [e, in_squares p hp]
  unfold pri
  rw [if_neg (by omega), if_neg (by omega), dec_intB]
  congr 1
  rw [Bool.eq_iff_iff, decide_eq_true_eq, decide_eq_true_eq]
  omega
theorem ok_L_prime_table (T : Txt K mg) : FnOk P w K mg base CX0 1 T.a_L_prime_table T.d_L_prime_table ["_law_prime"] sp_L_prime_table := by
  refine T.F_L_prime_table.ok sc_L_prime_table (fun vs H Q E h => ?_) (fun cdv A outer s H vs Q E hr h => ?_)
  · obtain ⟨p, rfl, _⟩ := h
    rfl
  · obtain ⟨p, rfl, hp, hp2, q⟩ := h
    refine ⟨_, pss_cons (ps_setLc (i := 1) (own := [("_law_at", 6)]) (g := (gName 6)) (tt := tYes) (te := (tOp _ (tOp _ (tVar 6) (tVar 6)) (tVar 0))) (by rfl) sc_L_prime_table.nd rfl rfl (sw_true rfl rfl rfl (by decide +kernel)) (pi_range2 (by rfl) T.m_range (pa_cons pe_int (pa_cons (pv 0) pa_nil))) (blkOk_by (by kernel_rfl)) (fun _ _ _ _ _ => pg_name (i := 6) sc_L_prime_table.nd rfl (.inl rfl)) (fun _ _ _ _ _ => pts_nil) (fun _ _ _ _ _ => pe_op op_mod (pe_op op_mul (pv 6) (pv 6)) (pv 0)))
      (pss_cons (ps_set (i := 2) sc_L_prime_table.nd rfl (.inl rfl) (pe_lst (pa_cons (pe_op op_mulS pe_str (pe_op op_add (pv 0) pe_int)) pa_nil)))
      (pss_cons (ps_for PassesOwn.never (by rfl) (pi_range2 (by rfl) T.m_range (pa_cons pe_int (pa_cons (pe_op op_add (pv 0) pe_int) pa_nil))) (pg_name (i := 3) sc_L_prime_table.nd rfl (.inl rfl))
        (pss_cons (ps_set (i := 4) sc_L_prime_table.nd rfl (.inl rfl) pe_str)
        (pss_cons (ps_for PassesOwn.never (by rfl) (pi_range2 (by rfl) T.m_range (pa_cons pe_int (pa_cons (pe_op op_add (pv 0) pe_int) pa_nil))) (pg_name (i := 5) sc_L_prime_table.nd rfl (.inl rfl))
          (pss_one (ps_set (i := 4) sc_L_prime_table.nd rfl (.inl rfl) (pe_op op_add_str (pv 4) (pe_ifExp (PW.pt (pw_or (pt_cmpR op_eq (pv 5) (pv 3) (nomark _)) (pw_or1 (pt_cmpR op_in_seq (pe_op op_mod (pe_op op_sub (pv 5) (pv 3)) (pv 0)) (pv 1) (by rfl))))) pe_str pe_str)))))
        (pss_one (ps_expr (pe_bm PySem.F.plainAttrs_list PySem.F.slot_list_append PySem.F.type_list_append mt_append (pv 2) (pa_cons (pv 4) pa_nil)))))))
      (pss_one (ps_ret (pv 2))))), ?_⟩
    refine q_asgL (ev_list (el_lcR2 (lo := 1) (hi := (p : Int)) (n := p - 1) (fun _ => true) (fun k => V.int ((1 + (k : Nat)) * (1 + (k : Nat)) % (p : Int))) (ea_cons ev_c (ea_cons (ev_var rfl) ea_nil)) ⟨by omega, by omega, by omega, by omega⟩ (by omega) (by omega) (fun x => rfl) (fun i H1 e hi => et_yes) (fun i H1 e hi _ => ?_)) (given_all _ _)) fun ps H1 hps e1 h1 => ?_
    · exact ev_op (ev_op (ev_var rfl) (ev_var rfl) (rv_I (.inl ⟨by omega, by omega⟩))) (ev_var rfl) (rv_I (show (0 : Int) < (p : Int) by omega))
    refine q_asgL (ev_list (el_lst (ea_cons (ev_op (x := .str (Str.ofString "+")) ev_c (ev_op (ev_var rfl) ev_c rv_I0) (rv_mulS (mulOk_small (by decide +kernel) (by omega) (by omega)))) ea_nil) (by show 1 ≤ 100000; decide)) (ys := (List.range 1).map fun r => V.str (rowS (p + 1) (pri p r))) ?_) fun pf H2 hpf e2 h2 => ?_
    · have e : Txt.mul (Str.ofString "+") ((p : Int) + 1) = rowS (p + 1) (pri p 0) := by
        rw [sg_plus, show (p : Int) + 1 = ((p + 1 : Nat) : Int) by omega, mul_sg true (p + 1) (by omega)]
        exact rowS_ext fun j hj => by unfold pri; rw [if_pos rfl]
      show [V.str (Txt.mul (Str.ofString "+") ((p : Int) + 1))] = [V.str (rowS (p + 1) (pri p 0))]
      rw [e]
    have nps : ps ≠ pf := ne_of_none h1 hpf
    refine q_forR2 (lo := 1) (n := (p : Int) + 1) (ea_cons ev_c (ea_cons (ev_op (ev_var rfl) ev_c rv_I0) ea_nil)) ⟨by decide, by decide, by omega, by omega⟩
      (fun i σ' H' => ∃ v3 v4 v5, σ' = [some (.int (p : Int)), some (.ref ps), some (.ref pf), v3, v4, v5, none] ∧ Ex H1 H' ∧ H' pf = some (.lst ((List.range (i + 1)).map fun r => V.str (rowS (p + 1) (pri p r)))))
      (fun H3 e3 => ⟨none, none, none, rfl, e2.trans e3, e3 pf _ h2⟩) ?_ ?_
    · rintro i σ' H3 hi ⟨v3, v4, v5, rfl, e3, h3⟩
      refine q_asg ev_c fun H4 e4 => ?_
      refine q_forR2 (lo := 1) (n := (p : Int) + 1) (ea_cons ev_c (ea_cons (ev_op (ev_var rfl) ev_c rv_I0) ea_nil)) ⟨by decide, by decide, by omega, by omega⟩
        (fun j σ' H' => ∃ v5, σ' = [some (.int (p : Int)), some (.ref ps), some (.ref pf), some (.int (1 + (i : Int))), some (.str (rowS (1 + j) (pri p (1 + i)))), v5, none] ∧ Ex H3 H')
        (fun H5 e5 => ⟨v5, ?_, e4.trans e5⟩) ?_ ?_
      · have e : rowS (1 + 0) (pri p (1 + i)) = Str.ofString "-" := by
          rw [sg_minus]
          have : pri p (1 + i) 0 = false := by
            unfold pri
            rw [if_neg (by omega), if_pos rfl]
          show rowS 1 (pri p (1 + i)) = sgS false
          rw [← this]
          rfl
        rw [e]
        rfl
      · rintro j σ' H5 hj ⟨v5, rfl, e5⟩
        have E5 := e3.trans e5
        have hb := pri_step p hp i j (by omega) (by omega)
        refine s_asg (v := .str (rowS (1 + (j + 1)) (pri p (1 + i)))) (ev_is (ev_op (ev_var rfl) (ev_if (v := .str (sgS (pri p (1 + i) (1 + j)))) (et_is (et_or (et_test (ev_op (ev_var rfl) (ev_var rfl) (rv_eq rfl))) fun _ => et_test (ev_op (ev_op (ev_op (ev_var rfl) (ev_var rfl) rv_I0) (ev_var rfl) (rv_I (show (0 : Int) < (p : Int) by omega))) (ev_var rfl) (rv_isL (K := K) (sq_of (E5 ps _ h1)) rfl ?_))) hb) (fun hq => ev_is ev_c ?_) (fun hq => ev_is ev_c ?_)) (rv_addS ?_)) ?_) fun H6 e6 => ⟨_, rfl, e5.trans e6⟩
        · rw [List.all_map]
          exact List.all_eq_true.mpr fun _ _ => rfl
        · rw [hq, ← sg_plus]
        · rw [hq, ← sg_minus]
        · rw [rowS_len]
          show 1 + j + 1 ≤ 100000
          omega
        · rw [show 1 + j = j + 1 by omega, rowS_snoc, show j + 1 + 1 = 1 + (j + 1) by omega]
      · rintro σ' H5 ⟨v5, rfl, e5⟩
        have en : ((p : Int) + 1 - 1).toNat = p := by omega
        rw [en]
        refine s_app (e5 pf _ h3) (ev_var rfl) (ev_var rfl) (by rw [List.length_map, List.length_range]; omega) fun H6 e6 => ?_
        refine ⟨_, _, _, rfl, Ex.mut ((e3.trans e5).trans e6) hpf, ?_⟩
        · rw [upd_same, List.range_succ (n := i + 1), List.map_append, show 1 + p = p + 1 by omega, show 1 + i = i + 1 by omega]
          rfl
    · rintro σ' H3 ⟨v3, v4, v5, rfl, e3, h3⟩
      have en : ((p : Int) + 1 - 1).toNat = p := by omega
      rw [en] at h3
      refine s_ret (ev_var rfl) fun H4 e4 => ?_
      exact q pf H4 (fresh_back e1 hpf) ((e1.trans e3).trans e4) (e4 pf _ h3)

end
end HA

end
section
set_option maxRecDepth 100000
set_option maxHeartbeats 4000000
namespace HA
open PySem PySem.Spec PyProof.Rows L2 Evl
section
variable {P : Program} {w : World} {K : PySem.W.Frag} {mg : Str → Option Value} {base : Heap}
theorem ok_L_table (T : Txt K mg) : FnOk P w K mg base CX0 3 T.a_L_table T.d_L_table ["_law_script"] (sp_L_table K) := by
  refine T.F_L_table.ok sc_L_table (fun vs H Q E h => ?_) (fun cdv A outer s H vs Q E hr h => ?_)
  · obtain ⟨a, ns, rfl, _⟩ := h
    rfl
  · obtain ⟨a, ns, rfl, hS, hC, q⟩ := h
    have G_L_prime_table := ok_L_prime_table (P := P) (w := w) (base := base) T
    have G_L_doubled := ok_L_doubled (P := P) (w := w) (base := base) T
    have G_L_number := ok_L_number (P := P) (w := w) (base := base) T
    have G_L_other := ok_L_other (P := P) (w := w) (base := base) T
    refine ⟨_, pss_cons (ps_set (i := 1) sc_L_table.nd rfl (.inl rfl) (pe_ifExp (pt_cmpR (op_neD hr.units) (pv 0) (pe_lst pa_nil) (nomark _)) (pe_slice sl_list (pv 0) po_none (po_some pe_int)) (pe_lst (pa_cons pe_int pa_nil))))
      (pss_cons (ps_set (i := 2) sc_L_table.nd rfl (.inl rfl) (pe_callB (cr_sum rfl) (by rfl) T.m_sum (by decide +kernel) (pa_cons (pv 1) pa_nil)))
      (pss_cons (ps_set (i := 3) sc_L_table.nd rfl (.inl rfl) (pe_lst (pa_cons pe_str pa_nil)))
      (Evl.pss_cut (ps_if (pt_cmpR op_gt (pe_op op_mod (pv 2) pe_int) pe_int (nomark _)) (pss_one (ps_set (i := 3) sc_L_table.nd rfl (.inl rfl) (pe_call G_L_prime_table (hr.mono (by decide)) (by rfl) T.g_L_prime_table T.F_L_prime_table.kp T.b_L_prime_table .nil pass0 (pa_cons (pe_ix ix_tup (pe_tup (pa_cons pe_int (pa_cons pe_int (pa_cons pe_int (pa_cons pe_int (pa_cons pe_int (pa_cons pe_int (pa_cons pe_int (pa_cons pe_int pa_nil))))))))) (pe_op op_mod (pe_op op_fdiv (pv 2) pe_int) pe_int) (fun _ _ => rfl)) pa_nil)))) (pss_nil))
      (pss_cons (ps_for PassesOwn.never (by rfl) (pi_range1 (by rfl) T.m_range (pa_cons (pe_op op_add (pe_ix ix_tup (pe_tup (pa_cons pe_int (pa_cons pe_int (pa_cons pe_int pa_nil)))) (pe_op op_mod (pv 2) pe_int) (fun _ _ => rfl)) (pe_op op_mod (pe_op op_fdiv (pv 2) pe_int) pe_int)) pa_nil)) (pg_name (i := 4) sc_L_table.nd rfl (.inl rfl))
        (pss_one (ps_set (i := 3) sc_L_table.nd rfl (.inl rfl) (pe_ifExp (pt_cmpR op_lt (pe_callB call_len_seq (by rfl) T.m_len (by decide +kernel) (pa_cons (pv 3) pa_nil)) pe_int (nomark _)) (pe_call G_L_doubled (hr.mono (by decide)) (by rfl) T.g_L_doubled T.F_L_doubled.kp T.b_L_doubled .nil pass0 (pa_cons (pv 3) pa_nil)) (pv 3)))))
      (pss_cons (ps_for PassesOwn.never (by rfl) (pi_range1 (by rfl) T.m_range (pa_cons pe_int pa_nil)) (pg_name (i := 5) sc_L_table.nd rfl (.inl rfl))
        (pss_cons (ps_set (i := 6) sc_L_table.nd rfl (.inr rfl) (pe_lst pa_nil))
        (pss_cons (ps_for PassesOwn.never (by rfl) (pi_enum (by rfl) T.m_enumerate (pa_cons (pv 3) pa_nil)) (pg_tup rfl (pgs_cons (pg_name (i := 7) sc_L_table.nd rfl (.inl rfl)) (pgs_cons (pg_name (i := 8) sc_L_table.nd rfl (.inl rfl)) pgs_nil)))
          (pss_cons (ps_set (i := 9) sc_L_table.nd rfl (.inl rfl) (pe_call G_L_number (hr.mono (by decide)) (by rfl) T.g_L_number T.F_L_number.kp T.b_L_number .nil pass0 (pa_cons (pe_ix ix_list (pv 1) (pe_op op_mod (pv 7) (pe_callB call_len_seq (by rfl) T.m_len (by decide +kernel) (pa_cons (pv 1) pa_nil))) (fun _ _ => rfl)) (pa_cons (pe_op op_add (pv 7) (pe_op op_mul pe_int (pv 5))) (pa_cons (pv 2) pa_nil)))))
          (pss_one (ps_expr (pe_bm PySem.F.plainAttrs_list PySem.F.slot_list_insert PySem.F.type_list_insert mt_insert (pv 6) (pa_cons (pe_op op_mod (pe_op op_fdiv (pv 9) pe_int) (pe_op op_add (pv 7) pe_int)) (pa_cons (pe_ifExp (pt_cmpR op_eq (pe_op op_mod (pv 9) pe_int) pe_int (nomark _)) (pe_call G_L_other (hr.mono (by decide)) (by rfl) T.g_L_other T.F_L_other.kp T.b_L_other .nil pass0 (pa_cons (pv 8) pa_nil)) (pv 8)) pa_nil)))))))
        (pss_one (ps_setLc (i := 3) (own := [("_law_place", 10)]) (g := (gName 10)) (tt := tYes) (te := (tM1 (rJoin K) (tC _) (tLc (iList K (tVar 6)) (gName 8) tYes (tOp rIxS (tVar 8) (tVar 10)) [8]))) (by rfl) sc_L_table.nd rfl rfl (sw_true rfl rfl rfl (by decide +kernel)) (pi_range1 (by rfl) T.m_range (pa_cons (pe_callB call_len_seq (by rfl) T.m_len (by decide +kernel) (pa_cons (pv 6) pa_nil)) pa_nil)) (blkOk_by (by kernel_rfl)) (fun _ _ _ _ _ => pg_name (i := 10) sc_L_table.nd rfl (.inr rfl)) (fun _ _ _ _ _ => pts_nil) (fun _ _ _ _ _ => pe_join pe_str (pe_lc (own := [("_law_row", 8)]) (g := (gName 8)) (tt := tYes) (te := (tOp rIxS (tVar 8) (tVar 10))) (by rfl) sc_L_table.nd (pi_list (pv 6)) (blkOk_by (by kernel_rfl)) (fun _ _ _ _ _ => pg_name (i := 8) sc_L_table.nd rfl (.inl rfl)) (fun _ _ _ _ _ => pts_nil) (fun _ _ _ _ _ => pe_ix ix_str (pv 8) (pv 10) (fun _ _ => rfl)))))))))
      (pss_one (ps_ret (pv 3)))))))), ?_⟩
    obtain ⟨hD, hD1⟩ := cellsOf_ok (d := 3) (by decide) hC
    refine q_asgL (el_cells (d := 3) (ev_var rfl) (ev_var rfl) hS hC.1) fun pc H1 hpc e1 h1 => ?_
    generalize hcs : cellsOf 3 ns = cs at hD hD1 h1
    refine q_asg (ev_sum (K := K) (ev_var rfl) (sq_of h1)) fun H2 e2 => ?_
    generalize hw : cs.sum = wh
    refine q_asgL (ev_list (el_lst (ea_cons ev_c ea_nil) (by show 1 ≤ 100000; decide)) (ys := tabV 1 fun _ _ => true) ?_) fun pf H3 hpf e3 h3 => ?_
    · show [V.str (Str.ofString "+")] = [V.str (rowS 1 fun _ => true)]
      rw [sg_plus]
      rfl
    have had1 : Had 1 (fun _ _ => true) := fun i hi j hj hne => absurd hne (by omega)
    refine q_cut (M := fun σ' H' => ∃ n f pf, σ' = [some (.ref a), some (.ref pc), some (.int wh), some (.ref pf), none, none, none, none, none, none, none] ∧ 1 ≤ n ∧ n ≤ 20 ∧ Had n f ∧ Ex H1 H' ∧ H' pf = some (.lst (tabV n f)) ∧ H pf = none) ?_ ?_
    · refine s_when (et_test (ev_op (ev_op (ev_var rfl) ev_c (rv_I (by decide))) ev_c rv_I0)) (fun hb H4 e4 => ?_) (fun hb H4 e4 => ⟨1, _, pf, rfl, Nat.le_refl 1, by decide, had1, (e2.trans e3).trans e4, e4 pf _ h3, fresh_back (e1.trans e2) hpf⟩)
      have hm : 0 ≤ wh / 3 % 8 ∧ wh / 3 % 8 < 8 := ⟨Int.emod_nonneg _ (by decide), Int.emod_lt_of_pos _ (by decide)⟩
      obtain ⟨m, hm'⟩ : ∃ m : Nat, wh / 3 % 8 = (m : Int) := ⟨(wh / 3 % 8).toNat, by omega⟩
      have go : ∀ p : Nat, (([3, 7, 3, 3, 7, 11, 3, 19] : List Nat)[m]? = some p) → 2 ≤ p ∧ p ≤ 19 ∧ Had (p + 1) (pri p) := fun p hp => by
        have hm8 : m < 8 := by omega
        have c : m = 0 ∨ m = 1 ∨ m = 2 ∨ m = 3 ∨ m = 4 ∨ m = 5 ∨ m = 6 ∨ m = 7 := by omega
        rcases c with rfl | rfl | rfl | rfl | rfl | rfl | rfl | rfl <;> cases hp <;> refine ⟨by decide, by decide, half_had ?_⟩ <;> first | exact half_pri3 | exact half_pri7 | exact half_pri11 | exact half_pri19
      have hm8 : m < ([3, 7, 3, 3, 7, 11, 3, 19] : List Nat).length := by
        show m < 8
        omega
      obtain ⟨g1, g2, g3⟩ := go _ (List.getElem?_eq_getElem hm8)
      refine s_asgL (xs := tabV (([3, 7, 3, 3, 7, 11, 3, 19] : List Nat)[m] + 1) (pri ([3, 7, 3, 3, 7, 11, 3, 19] : List Nat)[m])) (el_call (ea_cons (x := .int ((([3, 7, 3, 3, 7, 11, 3, 19] : List Nat)[m] : Nat) : Int)) (ev_itU (K := K) (i := m) (eu_tup (ea_cons ev_c (ea_cons ev_c (ea_cons ev_c (ea_cons ev_c (ea_cons ev_c (ea_cons ev_c (ea_cons ev_c (ea_cons ev_c ea_nil)))))))) (by show 8 ≤ 100000; decide)) (ev_is (ev_op (ev_op (ev_var rfl) ev_c (rv_I ⟨by decide, by decide⟩)) ev_c (rv_I (by decide))) (by rw [hm'])) ?_) ea_nil) fun H5 e5 Q5 q5 _ => ⟨_, rfl, g1, by omega, q5⟩) fun pg H5 hpg e5 h5 => ?_
      · have e : ([V.int 3, V.int 7, V.int 3, V.int 3, V.int 7, V.int 11, V.int 3, V.int 19] : List V) = ([3, 7, 3, 3, 7, 11, 3, 19] : List Nat).map fun p => V.int ((p : Nat) : Int) := rfl
        rw [e, List.getElem?_map, List.getElem?_eq_getElem hm8]
        rfl
      · exact ⟨_, _, pg, rfl, by omega, by omega, g3, ((e2.trans e3).trans e4).trans e5, h5, fresh_back (((e1.trans e2).trans e3).trans e4) hpg⟩
    rintro σ4 H4 ⟨n0, f0, pf0, rfl, n01, n02, had0, e4, h4, p04⟩
    have hm3 : 0 ≤ wh % 3 ∧ wh % 3 < 3 := ⟨Int.emod_nonneg _ (by decide), Int.emod_lt_of_pos _ (by decide)⟩
    obtain ⟨m3, hm3'⟩ : ∃ m : Nat, wh % 3 = (m : Int) := ⟨(wh % 3).toNat, by omega⟩
    have hm24 : 0 ≤ wh / 24 % 2 ∧ wh / 24 % 2 < 2 := ⟨Int.emod_nonneg _ (by decide), Int.emod_lt_of_pos _ (by decide)⟩
    have hl3 : m3 < ([3, 1, 0] : List Int).length := by
      show m3 < 3
      omega
    have hv3 : 0 ≤ ([3, 1, 0] : List Int)[m3] ∧ ([3, 1, 0] : List Int)[m3] ≤ 3 := by
      have c : m3 = 0 ∨ m3 = 1 ∨ m3 = 2 := by omega
      rcases c with rfl | rfl | rfl <;> exact ⟨by simp, by simp⟩
    refine q_forR1 (n := ([3, 1, 0] : List Int)[m3] + wh / 24 % 2) (ea_cons (ev_op (ev_itU (K := K) (v := .int ([3, 1, 0] : List Int)[m3]) (i := m3) (eu_tup (ea_cons ev_c (ea_cons ev_c (ea_cons ev_c ea_nil))) (by show 3 ≤ 100000; decide)) (ev_is (ev_op (ev_var rfl) ev_c (rv_I (by decide))) (by rw [hm3'])) ?_) (ev_op (ev_op (ev_var rfl) ev_c (rv_I ⟨by decide, by decide⟩)) ev_c (rv_I (by decide))) rv_I0) ea_nil) ⟨by omega, by omega⟩
      (fun i σ' H' => ∃ n f pf v4, σ' = [some (.ref a), some (.ref pc), some (.int wh), some (.ref pf), v4, none, none, none, none, none, none] ∧ 1 ≤ n ∧ n ≤ 20 ∧ Had n f ∧ Ex H1 H' ∧ H' pf = some (.lst (tabV n f)) ∧ H pf = none)
      (fun H5 e5 => ⟨n0, f0, pf0, none, rfl, n01, n02, had0, e4.trans e5, e5 pf0 _ h4, p04⟩) ?_ ?_
    · have e : ([V.int 3, V.int 1, V.int 0] : List V) = ([3, 1, 0] : List Int).map V.int := rfl
      rw [e]
      exact getI hl3
    · rintro i σ' H5 hi ⟨n, f, pf, v4, rfl, n1, n2, had, e5, h5, p05⟩
      refine s_asgIf (et_test (ev_op (ev_lenT (K := K) (f := f) (ev_var rfl) (sq_of h5)) ev_c rv_I0)) (fun hb H6 e6 => ?_) (fun hb H6 e6 => ?_)
      · have hb' : (n : Int) < 9 := of_decide_eq_true hb
        refine s_asgL (xs := tabV (n + n) (dbl n f)) (el_call (ea_cons (ev_var rfl) ea_nil) fun H7 e7 Q7 q7 _ => ⟨pf, n, f, rfl, sq_of (e7 pf _ (e6 pf _ h5)), by omega, q7⟩) fun pg H7 hpg e7 h7 => ?_
        exact ⟨n + n, dbl n f, pg, _, rfl, by omega, by omega, had_dbl had, (e5.trans e6).trans e7, h7, fresh_back ((e1.trans e5).trans e6) hpg⟩
      · exact s_asg (ev_var rfl) fun H7 e7 => ⟨n, f, pf, _, rfl, n1, n2, had, (e5.trans e6).trans e7, e7 pf _ (e6 pf _ h5), p05⟩
    rintro σ5 H5 ⟨n1, f1, pf1, v4, rfl, n11, n12, had1', e5, h5, p06⟩
    refine q_forR1 (n := 2) (ea_cons ev_c ea_nil) ⟨by decide, by decide⟩
      (fun i σ' H' => ∃ n f pf v4 v5 v6 v7 v8 v9, σ' = [some (.ref a), some (.ref pc), some (.int wh), some (.ref pf), v4, v5, v6, v7, v8, v9, none] ∧ 1 ≤ n ∧ n ≤ 20 ∧ Had n f ∧ Ex H1 H' ∧ H' pf = some (.lst (tabV n f)) ∧ H pf = none)
      (fun H6 e6 => ⟨n1, f1, pf1, v4, none, none, none, none, none, rfl, n11, n12, had1', e5.trans e6, e6 pf1 _ h5, p06⟩) ?_ ?_
    · rintro tm σ' H6 htm ⟨n, f, pf, v4, v5, v6, v7, v8, v9, rfl, hn1, hn2, had, e6, h6, hpf0⟩
      refine q_asgL (el_lst ea_nil (by show 0 ≤ 100000; decide)) fun pr H7 hpr e7 h7 => ?_
      have hne : pf ≠ pr := ne_of_none h6 hpr
      refine q_forW (walk_enum (K := K) (a := pf) (xs := tabV n f)) (fun H8 e8 R r => ⟨.ref pf, rfl, pf, tabV n f, rfl, sq_of (e8 pf _ (e7 pf _ h6)), r H8 (Ex.refl H8)⟩)
        (fun i σ' H' => ∃ g v7 v8 v9, σ' = [some (.ref a), some (.ref pc), some (.int wh), some (.ref pf), v4, some (.int (tm : Int)), some (.ref pr), v7, v8, v9, none] ∧ Ex H6 H' ∧ Laid n i f g ∧ H' pr = some (.lst ((List.range i).map fun k => V.str (rowS n (g k)))))
        (fun H8 e8 => ⟨f, v7, v8, v9, rfl, e7.trans e8, laid_zero _ _ _, e8 pr _ h7⟩) (fun i σ' H' _ hp => ?_) (fun i x σ' H8 H8' hi hp y => ?_) (fun σ' H8 hp => ?_)
      · obtain ⟨g, v7, v8, v9, rfl, e8, _⟩ := hp
        exact sq_of (e8 pf _ h6)
      · rw [tabV_len] at hi
        obtain ⟨g, v7, v8, v9, rfl, e8, hlaid, h8⟩ := hp
        obtain ⟨Tp, y1, y2, rfl, hTp, rfl, hy1, hy2⟩ := y
        cases hy1
        obtain ⟨_, rfl⟩ := tabV_some hy2
        refine ⟨Tp, _, rfl, st_of upd_same, rfl, _, _, rfl, _, _, rfl, rfl, ?_⟩
        have e9 : Ex H8 (upd H8 Tp (.tup [.int (i : Nat), .str (rowS n (f i))])) := Ex.new hTp
        generalize hH9 : upd H8 Tp (.tup [.int (i : Nat), .str (rowS n (f i))]) = H9 at e9
        have E9 : Ex H1 H9 := (e6.trans e8).trans e9
        have hcl : i % cs.length < cs.length := Nat.mod_lt _ (by omega)
        have hcm : ((i : Int) % (cs.length : Int)) = ((i % cs.length : Nat) : Int) := by rw [Int.natCast_emod]
        refine q_asg (v := .int (lawNum cs[i % cs.length] ((i : Int) + 40 * (tm : Int)) wh)) (ev_call (ea_cons (ev_itL (K := K) (i := i % cs.length) (ev_var rfl) (ev_is (ev_op (ev_var rfl) (ev_len (K := K) (ev_var rfl) (sq_of (E9 pc _ h1))) (rv_I ?_)) ?_) (sq_of (E9 pc _ h1)) (getI hcl)) (ea_cons (ev_op (ev_var rfl) (ev_op ev_c (ev_var rfl) (rv_I (.inl ⟨by decide, by decide⟩))) rv_I0) (ea_cons (ev_var rfl) ea_nil))) fun H10 e10 Q10 q10 _ => ⟨_, _, _, rfl, hD.2 _ (List.getElem_mem hcl), by omega, by omega, q10⟩) fun H10 e10 => ?_
        · show (0 : Int) < (((cs.map V.int).length : Nat) : Int)
          rw [List.length_map]
          omega
        · rw [List.length_map, hcm]
        generalize lawNum cs[i % cs.length] ((i : Int) + 40 * (tm : Int)) wh = nh
        have hmi : 0 ≤ nh / 3 % ((i : Int) + 1) ∧ nh / 3 % ((i : Int) + 1) < (i : Int) + 1 := ⟨Int.emod_nonneg _ (by omega), Int.emod_lt_of_pos _ (by omega)⟩
        obtain ⟨m, hm⟩ : ∃ m : Nat, nh / 3 % ((i : Int) + 1) = (m : Int) := ⟨(nh / 3 % ((i : Int) + 1)).toNat, by omega⟩
        refine s_ins (K := K) (m := m) (v := .str (rowS n fun j => (f i j ^^ decide (nh % 2 = 1)))) (e10 pr _ (e9 pr _ h8)) (ev_var rfl) (ev_is (ev_op (ev_op (ev_var rfl) ev_c (rv_I ⟨by decide, by decide⟩)) (ev_op (ev_var rfl) ev_c rv_I0) (rv_I (show (0 : Int) < (i : Int) + 1 by omega))) (by rw [hm])) (ev_if (et_is (et_test (ev_op (ev_op (ev_var rfl) ev_c (rv_I (by decide))) ev_c (rv_eq rfl))) (dec_intB _ _)) (fun hb => ?_) (fun hb => ?_)) (by rw [List.length_map, List.length_range]; omega) (by rw [List.length_map, List.length_range]; omega) fun H11 e11 => ?_
        · rw [hb]
          exact ev_is (ev_call (z := .str (rowS n fun j => !f i j)) (ea_cons (ev_var rfl) ea_nil) fun H12 e12 Q12 q12 _ => ⟨n, f i, rfl, by omega, q12⟩) (congrArg V.str (rowS_ext fun j _ => by simp))
        · rw [hb]
          exact ev_is (ev_var rfl) (congrArg V.str (rowS_ext fun j _ => by simp))
        · refine ⟨insF m g (fun j => (f i j ^^ decide (nh % 2 = 1))), _, _, _, rfl, ?_, laid_ins hlaid (by omega) (fun j _ => rfl), ?_⟩
          · exact Ex.mut (((e8.trans e9).trans e10).trans e11) hpr
          · rw [upd_same, insF_list n i m (by omega)]
      · rw [tabV_len] at hp
        obtain ⟨g, v7, v8, v9, rfl, e8, hlaid, h8⟩ := hp
        refine s_asgL (tr_comp (K := K) (a := pr) (n := n) (g := g) (fun x H9 e9 => ev_var rfl) (ea_cons (ev_is (ev_len (K := K) (ev_var rfl) (sq_of h8)) (by rw [List.length_map, List.length_range])) ea_nil) (sq_of h8) (by omega) (fun x => rfl) (fun x y => rfl) (fun x y H9 e9 => ev_var rfl) (fun x y H9 e9 => ev_var rfl)) fun pg H9 hpg e9 h9 => ?_
        exact ⟨n, _, pg, _, _, _, _, _, _, rfl, hn1, hn2, had_tr (laid_had hlaid had), (e6.trans e8).trans e9, h9, fresh_back ((e1.trans e6).trans e8) hpg⟩
    · rintro σ' H6 ⟨n, f, pf, v4, v5, v6, v7, v8, v9, rfl, hn1, hn2, had, e6, h6, hpf0⟩
      exact s_ret (ev_var rfl) fun H7 e7 => q n f ⟨hn1, hn2, had⟩ pf H7 hpf0 ((e1.trans e6).trans e7) (e7 pf _ h6)

end
end HA

end
section
set_option maxRecDepth 100000
set_option maxHeartbeats 4000000
namespace HA
open PySem PySem.Spec PyProof.Rows L2 Evl
section
variable {P : Program} {w : World} {K : PySem.W.Frag} {mg : Str → Option Value} {base : Heap}
theorem ok_L_sums (T : Txt K mg) : FnOk P w K mg base CX0 1 T.a_L_sums T.d_L_sums ["_law_rows", "_law_numbers_here"] (sp_L_sums K) := by
  refine T.F_L_sums.ok sc_L_sums (fun vs H Q E h => ?_) (fun cdv A outer s H vs Q E hr h => ?_)
  · obtain ⟨a, b, n, f, u, rfl, _⟩ := h
    rfl
  · obtain ⟨a, b, n, f, u, rfl, hT, hn, hN, q⟩ := h
    refine ⟨_, pss_cons (ps_set (i := 2) sc_L_sums.nd rfl (.inl rfl) (pe_lst pa_nil))
      (pss_cons (ps_for PassesOwn.never (by rfl) (pi_list (pv 0)) (pg_name (i := 3) sc_L_sums.nd rfl (.inl rfl))
        (pss_cons (ps_set (i := 4) sc_L_sums.nd rfl (.inl rfl) pe_int)
        (pss_cons (ps_for PassesOwn.never (by rfl) (pi_zipSL (by rfl) T.m_zip (pa_cons (pv 3) (pa_cons (pv 1) pa_nil))) (pg_tup rfl (pgs_cons (pg_name (i := 5) sc_L_sums.nd rfl (.inl rfl)) (pgs_cons (pg_name (i := 6) sc_L_sums.nd rfl (.inl rfl)) pgs_nil)))
          (pss_one (ps_set (i := 4) sc_L_sums.nd rfl (.inl rfl) (pe_ifExp (pt_cmpR op_eq (pv 5) pe_str (nomark _)) (pe_op op_add (pv 4) (pv 6)) (pe_op op_sub (pv 4) (pv 6))))))
        (pss_one (ps_expr (pe_bm PySem.F.plainAttrs_list PySem.F.slot_list_append PySem.F.type_list_append mt_append (pv 2) (pa_cons (pv 4) pa_nil)))))))
      (pss_one (ps_ret (pv 2)))), ?_⟩
    refine q_asgL (el_lst ea_nil (by show 0 ≤ 100000; decide)) fun pf H1 hpf e1 h1 => ?_
    refine q_forLn (ev_var rfl) (TabAt.ex e1 hT) (fun i σ' H' => ∃ v3 v4 v5 v6, σ' = [some (.ref a), some (.ref b), some (.ref pf), v3, v4, v5, v6] ∧ Ex H H' ∧ H' pf = some (.lst (numV i (ws n f u))))
      (fun H5 e5 => ⟨_, _, _, _, rfl, e1.trans e5, e5 pf _ h1⟩) (fun i σ' H' _ hp => ?_) (fun i x σ' H5 hx hp => ?_) (fun σ' H5 hp => ?_)
    · obtain ⟨v3, v4, v5, v6, rfl, e5, _⟩ := hp
      exact TabAt.ex e5 hT
    · obtain ⟨v3, v4, v5, v6, rfl, e5, h5⟩ := hp
      obtain ⟨hi, rfl⟩ := tabV_some hx
      refine q_asg ev_c fun H6 e6 => ?_
      have E6 := e5.trans e6
      refine q_forW (walk_zipSL (K := K) (x := rowS n (f i)) (a := b) (ys := numV n u) (n := n) (by rw [rowS_size, numV_len, Nat.min_self])) (fun H8 e8 R r => ⟨.str (rowS n (f i)), rfl, .ref b, rfl, _, _, _, rfl, NumAt.ex (E6.trans e8) hN, r H8 (Ex.refl H8)⟩)
        (fun k σ' H' => ∃ v5 v6, σ' = [some (.ref a), some (.ref b), some (.ref pf), some (.str (rowS n (f i))), some (.int (S k fun j => sg (f i j) * u j)), v5, v6] ∧ Ex H5 H')
        (fun H8 e8 => ⟨_, _, rfl, e6.trans e8⟩) (fun k σ' H' _ hp => ?_) (fun k x σ' H8 H8' hk hp y => ?_) (fun σ' H8 hp => ?_)
      · obtain ⟨v5, v6, rfl, e8⟩ := hp
        exact NumAt.ex (e5.trans e8) hN
      · obtain ⟨v5, v6, rfl, e8⟩ := hp
        obtain ⟨Tp, y1, y2, rfl, hTp, rfl, hy1, hy2⟩ := y
        have hy3 : ((rowS n (f i)).cps[k]?).map (fun c => V.str ⟨#[c]⟩) = some y1 := hy1
        rw [rowS_get hk] at hy3
        cases hy3
        obtain ⟨_, rfl⟩ := numV_some hy2
        refine ⟨Tp, _, rfl, st_of upd_same, rfl, _, _, rfl, _, _, rfl, rfl, ?_⟩
        have en := Ex.new hTp (o := .tup [.str ⟨#[cp (f i k)]⟩, .int (u k)])
        refine s_asg (v := .int (S (k + 1) fun j => sg (f i j) * u j)) (ev_if (b := f i k) (et_is (et_test (ev_op (ev_var rfl) ev_c (rv_eq rfl))) ?_) (fun hb => ev_is (ev_op (ev_var rfl) (ev_var rfl) rv_I0) ?_) (fun hb => ev_is (ev_op (ev_var rfl) (ev_var rfl) rv_I0) ?_)) fun H9 e9 => ⟨_, _, rfl, (e8.trans en).trans e9⟩
        · rw [sg_plus]
          exact (sgS_dec (f i k) true).trans (by cases f i k <;> rfl)
        · show V.int ((S k fun j => sg (f i j) * u j) + u k) = V.int ((S k fun j => sg (f i j) * u j) + sg (f i k) * u k)
          rw [hb, show sg true = 1 from rfl, Int.one_mul]
        · show V.int ((S k fun j => sg (f i j) * u j) - u k) = V.int ((S k fun j => sg (f i j) * u j) + sg (f i k) * u k)
          rw [hb, show sg false = -1 from rfl, Int.neg_mul, Int.one_mul, Int.sub_eq_add_neg]
      obtain ⟨v5, v6, rfl, e8⟩ := hp
      refine s_app (v := .int (ws n f u i)) (e8 pf _ h5) (ev_var rfl) (ev_var rfl) (by rw [numV_len]; omega) fun H9 e9 => ?_
      refine ⟨_, _, _, _, rfl, Ex.mut ((e5.trans e8).trans e9) hpf, ?_⟩
      rw [upd_same]
      unfold numV
      rw [List.range_succ, List.map_append]
      rfl
    · obtain ⟨v3, v4, v5, v6, rfl, e5, h5⟩ := hp
      rw [tabV_len] at h5
      exact s_ret (ev_var rfl) fun H6 e6 => q pf H6 hpf (e5.trans e6) (e6 pf _ h5)

end
end HA

end
section
set_option maxRecDepth 100000
set_option maxHeartbeats 4000000
namespace HA
open PySem PySem.Spec PyProof.Rows L2 Evl
section
variable {P : Program} {w : World} {K : PySem.W.Frag} {mg : Str → Option Value} {base : Heap}
theorem ok_L_numbers (T : Txt K mg) : FnOk P w K mg base CX0 1 T.a_L_numbers T.d_L_numbers ["_law_found"] (sp_L_numbers K) := by
  refine T.F_L_numbers.ok sc_L_numbers (fun vs H Q E h => ?_) (fun cdv A outer s H vs Q E hr h => ?_)
  · obtain ⟨a, n, u, rfl, _⟩ := h
    rfl
  · obtain ⟨a, n, u, rfl, hL, hn, q⟩ := h
    skip
    refine ⟨_, pss_one (ps_ret (pe_and (pe_callB call_isi (by rfl) T.m_isinstance (by decide +kernel) (pa_cons (pv 0) (pa_cons (pe_bltn (v := .ty "list") (by rfl) T.m_list (by decide +kernel) rfl) pa_nil))) (pe_one (pe_callB (cr_all rfl) (by rfl) T.m_all (by decide +kernel) (pa_cons (pe_lc (own := [("_law_one", 1)]) (g := (gName 1)) (tt := tYes) (te := (tAndV (tCB (rIsi K) (tCons (tVar 1) (tCons (tC _) tNil))) (tNotV (tCB (rIsi K) (tCons (tVar 1) (tCons (tC _) tNil)))))) (by rfl) sc_L_numbers.nd (pi_list (pv 0)) (blkOk_by (by kernel_rfl)) (fun _ _ _ _ _ => pg_name (i := 1) sc_L_numbers.nd rfl (.inl rfl)) (fun _ _ _ _ _ => pts_nil) (fun _ _ _ _ _ => pe_and (pe_callB call_isi (by rfl) T.m_isinstance (by decide +kernel) (pa_cons (pv 1) (pa_cons (pe_bltn (v := .ty "int") (by rfl) T.m_int (by decide +kernel) rfl) pa_nil))) (pe_one (pe_not (pe_callB call_isi (by rfl) T.m_isinstance (by decide +kernel) (pa_cons (pv 1) (pa_cons (pe_bltn (v := .ty "bool") (by rfl) T.m_bool (by decide +kernel) rfl) pa_nil))))))) pa_nil))))), ?_⟩
    refine s_ret (v := .bl true) (ev_is (ev_andV (ev_isi (b := true) (ea_cons (ev_var rfl) (ea_cons ev_c ea_nil)) (.ty _) (fun H2 e2 => .base (.lst (e2 a _ hL))) (kit_ty (by decide +kernel))) fun _ => ev_allN (K := K) (bs := (List.range n).map fun _ => true) (ev_list (el_lcL (K := K) (fun _ => true) (fun _ => .bl true) (ev_var rfl) (sq_of hL) (by rw [numV_len]; omega) (fun x => rfl) (fun i x H2 e2 hx => et_yes) (fun i x H2 e2 hx _ => ?_)) ?_)) ?_) fun H1 e1 => q H1 e1
    · obtain ⟨hi, rfl⟩ := numV_some hx
      exact ev_is (ev_andV (ev_isi (b := true) (ea_cons (ev_var rfl) (ea_cons ev_c ea_nil)) (.ty _) (fun H1 e1 => .base (.int _)) (kit_ty (by decide +kernel))) fun _ => ev_notV (ev_isi (b := false) (ea_cons (ev_var rfl) (ea_cons ev_c ea_nil)) (.ty _) (fun H1 e1 => .base (.int _)) (kit_ty (by decide +kernel)))) rfl
    · rw [given_all, numV_len, List.map_map]
      rfl
    · simp

end
end HA

end
section
set_option maxRecDepth 100000
set_option maxHeartbeats 4000000
namespace HA
open PySem PySem.Spec PyProof.Rows L2 Evl
section
variable {P : Program} {w : World} {K : PySem.W.Frag} {mg : Str → Option Value} {base : Heap}
theorem ok_L_none (T : Txt K mg) : FnOk P w K mg base CX0 6 T.a_L_none T.d_L_none ["_law_table_here", "_law_some"] (sp_L_none K) := by
  refine T.F_L_none.ok sc_L_none (fun vs H Q E h => ?_) (fun cdv A outer s H vs Q E hr h => ?_)
  · obtain ⟨a, b, n, f, u, rfl, _⟩ := h
    rfl
  · obtain ⟨a, b, n, f, u, rfl, hT, h1, h2, ⟨xs, hL⟩, hh, hB, hno, q⟩ := h
    have G_numbers_of := ok_numbers_of (P := P) (w := w) (base := base) T
    refine ⟨_, pss_cons (L2N.ps_try_as (i := 2) rfl rfl sc_L_none.nd rfl rfl ⟨rfl, rfl, .inl T.g_SignError⟩ takesN (fun W pn xe tk po => pss_one (ps_expr (pe_callS G_numbers_of (hr.mono (by decide)) (by rfl) T.g_numbers_of T.F_numbers_of.kp T.b_numbers_of (fun σ => L2N.passAt tk σ) (pa_cons (pv 0) (pa_cons (pv 1) pa_nil))))) (fun a oe cls d pn hz hf => pss_cons (ps_set (i := 3) sc_L_none.nd rfl (.inl rfl) (pe_lst (pa_cons (pe_callB (call_isG hz.zc hf) (by rfl) T.m_isinstance (by decide +kernel) (pa_cons (pv 2) (pa_cons (pe_glob (v := .ref T.C_BadNumbers) (by rfl) T.g_BadNumbers rfl) pa_nil))) (pa_cons (pe_callB (call_isG hz.zc hf) (by rfl) T.m_isinstance (by decide +kernel) (pa_cons (pv 2) (pa_cons (pe_glob (v := .ref T.C_BadParts) (by rfl) T.g_BadParts rfl) pa_nil))) (pa_cons (pe_callB (call_isG hz.zc hf) (by rfl) T.m_isinstance (by decide +kernel) (pa_cons (pv 2) (pa_cons (pe_glob (v := .ref T.C_BadPlace) (by rfl) T.g_BadPlace rfl) pa_nil))) pa_nil)))))
        (pss_cons (ps_set (i := 3) sc_L_none.nd rfl (.inl rfl) (pe_op op_cat (pv 3) (pe_lst (pa_cons (pe_callB (call_isG hz.zc hf) (by rfl) T.m_isinstance (by decide +kernel) (pa_cons (pv 2) (pa_cons (pe_glob (v := .ref T.C_BadSigns) (by rfl) T.g_BadSigns rfl) pa_nil))) (pa_cons (pe_callB (call_isG hz.zc hf) (by rfl) T.m_isinstance (by decide +kernel) (pa_cons (pv 2) (pa_cons (pe_glob (v := .ref T.C_BadTable) (by rfl) T.g_BadTable rfl) pa_nil))) (pa_cons (pe_callB (call_isG hz.zc hf) (by rfl) T.m_isinstance (by decide +kernel) (pa_cons (pv 2) (pa_cons (pe_glob (v := .ref T.C_TooGreat) (by rfl) T.g_TooGreat rfl) pa_nil))) pa_nil))))))
        (pss_one (ps_ret (pe_and (pe_callB (call_isG hz.zc hf) (by rfl) T.m_isinstance (by decide +kernel) (pa_cons (pv 2) (pa_cons (pe_glob (v := .ref T.C_NoNumbers) (by rfl) T.g_NoNumbers rfl) pa_nil))) (pe_one (pe_not (pe_callB (cr_anyS hz hf) (by rfl) T.m_any (by decide +kernel) (pa_cons (pv 3) pa_nil))))))))))
      (pss_one (ps_ret (pe_bl))), ?_⟩
    refine ⟨.ref a, rfl, .ref b, rfl, a, b, n, f, u, rfl, hT, h1, h2, ⟨xs, hL⟩, hh, hB, fun hz => absurd (hz.symm.trans hno) (by decide), fun _ H1 e1 => ?_⟩
    refine ⟨true, T.em_NoNumbers_SignError, fun _ ae hae => ?_, fun hz => nomatch hz⟩
    have isi : ∀ {σ : L2.St} {H' : Hp} {ta : TE} {C : Addr} {bb : Bool}, Ev ta σ H' (.ref ae) → PySem.W.kitOne K (.ref T.C_NoNumbers) (.ref C) = some bb → Ev (tCB (rIsG K (.ref T.C_NoNumbers) none ae) (tCons ta (tCons (tC (.ref C)) tNil))) σ H' (.bl bb) := fun {σ H' ta C bb} h k =>
      ev_cb (ea_cons h (ea_cons ev_c ea_nil)) fun H2 e2 Q2 q2 => ⟨T.C_NoNumbers, rfl, rfl, T.ec_NoNumbers, .ref C, .ref C, bb, rfl, fun w hw => by cases hw; rfl, k, q2 H2 (Ex.refl H2)⟩
    refine q_asgL (el_lst (ea_cons (isi (ev_var rfl) T.ek_NoNumbers_BadNumbers) (ea_cons (isi (ev_var rfl) T.ek_NoNumbers_BadParts) (ea_cons (isi (ev_var rfl) T.ek_NoNumbers_BadPlace) ea_nil))) (by show 3 ≤ 100000; decide)) fun po H2 hpo e2 h2 => ?_
    refine q_asgL (el_catV (ev_var rfl) h2 (el_lst (ea_cons (isi (ev_var rfl) T.ek_NoNumbers_BadSigns) (ea_cons (isi (ev_var rfl) T.ek_NoNumbers_BadTable) (ea_cons (isi (ev_var rfl) T.ek_NoNumbers_TooGreat) ea_nil))) (by show 3 ≤ 100000; decide)) (by show 3 + 3 ≤ 100000; decide)) fun p2 H3 hp2 e3 h3 => ?_
    refine s_ret (v := .bl true) (ev_is (ev_andV (isi (ev_var rfl) T.ek_NoNumbers_NoNumbers) fun _ => ev_notV (ev_cb (z := .bl false) (ea_cons (ev_var rfl) ea_nil) fun H4 e4 Q4 q4 => ⟨p2, [false, false, false, false, false, false], rfl, sq_of (e4 p2 _ h3), q4 H4 (Ex.refl H4)⟩)) rfl) fun H4 e4 => q H4 (((e1.trans e2).trans e3).trans e4)

end
end HA

end
section
set_option maxRecDepth 100000
set_option maxHeartbeats 4000000
namespace HA
open PySem PySem.Spec PyProof.Rows L2 Evl
section
variable {P : Program} {w : World} {K : PySem.W.Frag} {mg : Str → Option Value} {base : Heap}
theorem ok_L_wide_right (T : Txt K mg) : FnOk P w K mg base CX0 6 T.a_L_wide_right T.d_L_wide_right ["_law_cells", "_law_whole"] (sp_wide_right K) := by
  refine T.F_L_wide_right.ok sc_L_wide_right (fun vs H Q E h => ?_) (fun cdv A outer s H vs Q E hr h => ?_)
  · obtain ⟨c, cl, wh, rfl, _⟩ := h
    rfl
  · obtain ⟨c, cl, wh, rfl, hc, hC, hc1, q⟩ := h
    have G_L_prime_table := ok_L_prime_table (P := P) (w := w) (base := base) T
    have G_numbers_of := ok_numbers_of (P := P) (w := w) (base := base) T
    have G_L_number := ok_L_number (P := P) (w := w) (base := base) T
    have G_worths := ok_worths (P := P) (w := w) (base := base) T
    refine ⟨_, pss_cons (ps_set (i := 2) sc_L_wide_right.nd rfl (.inl rfl) (pe_call G_L_prime_table (hr.mono (by decide)) (by rfl) T.g_L_prime_table T.F_L_prime_table.kp T.b_L_prime_table .nil pass0 (pa_cons (pe_ix ix_tup (pe_tup (pa_cons pe_int (pa_cons pe_int (pa_cons pe_int pa_nil)))) (pe_op op_mod (pe_op op_fdiv (pv 1) pe_int) pe_int) (fun _ _ => rfl)) pa_nil)))
      (pss_cons (ps_setLc (i := 3) (own := [("_law_at", 4)]) (g := (gName 4)) (tt := tYes) (te := (tOp _ (tCall _ _ _ (tCons (tOp (rIxL K) (tVar 0) (tOp _ (tVar 4) (tCB (rLenS K) (tCons (tVar 0) tNil)))) (tCons (tVar 4) (tCons (tVar 1) tNil)))) (tC _))) (by rfl) sc_L_wide_right.nd rfl rfl (sw_true rfl rfl rfl (by decide +kernel)) (pi_range1 (by rfl) T.m_range (pa_cons (pe_callB call_len_seq (by rfl) T.m_len (by decide +kernel) (pa_cons (pv 2) pa_nil)) pa_nil)) (blkOk_by (by kernel_rfl)) (fun _ _ _ _ _ => pg_name (i := 4) sc_L_wide_right.nd rfl (.inl rfl)) (fun _ _ _ _ _ => pts_nil) (fun _ _ _ _ _ => pe_op op_mod (pe_call G_L_number (hr.mono (by decide)) (by rfl) T.g_L_number T.F_L_number.kp T.b_L_number .nil pass0 (pa_cons (pe_ix ix_list (pv 0) (pe_op op_mod (pv 4) (pe_callB call_len_seq (by rfl) T.m_len (by decide +kernel) (pa_cons (pv 0) pa_nil))) (fun _ _ => rfl)) (pa_cons (pv 4) (pa_cons (pv 1) pa_nil)))) pe_int))
      (pss_one (ps_ret (pe_cmpR (op_eqD hr.units) (pe_call G_numbers_of (hr.mono (by decide)) (by rfl) T.g_numbers_of T.F_numbers_of.kp T.b_numbers_of .nil passLN (pa_cons (pv 2) (pa_cons (pe_call G_worths (hr.mono (by decide)) (by rfl) T.g_worths T.F_worths.kp T.b_worths .nil pass0 (pa_cons (pv 2) (pa_cons (pv 3) pa_nil))) pa_nil))) (pv 3) (nomark _))))), ?_⟩
    obtain ⟨m, hm', hm9⟩ := modNat (wh / 64) (n := 3) (by decide)
    have hm8 : m < ([31, 43, 67] : List Nat).length := hm9
    have go : ∀ p : Nat, (([31, 43, 67] : List Nat)[m]? = some p) → 31 ≤ p ∧ p ≤ 67 ∧ halfB (p + 1) (pri p) = true := fun p hp => by
      have c : m = 0 ∨ m = 1 ∨ m = 2 := by omega
      rcases c with rfl | rfl | rfl
      · cases hp
        exact ⟨by decide, by decide, half_pri31⟩
      · cases hp
        exact ⟨by decide, by decide, half_pri43⟩
      · cases hp
        exact ⟨by decide, by decide, half_pri67⟩
    obtain ⟨g1, g2, g3⟩ := go _ (List.getElem?_eq_getElem hm8)
    generalize hpp : ([31, 43, 67] : List Nat)[m] = pp at g1 g2 g3
    refine q_asgL (xs := tabV (pp + 1) (pri pp)) (el_call (ea_cons (x := .int (pp : Int)) (ev_itU (K := K) (i := m) (eu_tup (ea_cons ev_c (ea_cons ev_c (ea_cons ev_c ea_nil))) (by show 3 ≤ 100000; decide)) (ev_is (ev_op (ev_op (ev_var rfl) ev_c (rv_I ⟨by decide, by decide⟩)) ev_c (rv_I (by decide))) ?_) ?_) ea_nil) fun H20 e20 Q20 q20 _ => ⟨_, rfl, by omega, by omega, q20⟩) fun pg H1 hpg e1 h1 => ?_
    · exact congrArg V.int hm'
    · have e : ([V.int 31, V.int 43, V.int 67] : List V) = ([31, 43, 67] : List Nat).map fun p => V.int ((p : Nat) : Int) := rfl
      rw [e, List.getElem?_map, List.getElem?_eq_getElem hm8, ← hpp]
      rfl
    have hcl : ∀ i : Nat, i % cl.length < cl.length := fun i => Nat.mod_lt _ (by omega)
    refine q_asgL (xs := numV (pp + 1) fun i => lawNum cl[i % cl.length]! (i : Int) wh % 1000) (ev_list (el_lcR1 (n := ((pp + 1 : Nat) : Int)) (fun _ => true) (fun i => .int (lawNum cl[i % cl.length]! (i : Int) wh % 1000)) (ea_cons (ev_lenT (K := K) (n := pp + 1) (f := pri pp) (ev_var rfl) (sq_of h1)) ea_nil) ⟨by omega, by omega⟩ (fun x => rfl) (fun i H2 e2 hi => et_yes) (fun i H2 e2 hi _ => ?_)) (by rw [given_all, Int.toNat_natCast]; rfl)) fun pm H2 hpm e2 h2 => ?_
    · have hci : i % cl.length < cl.length := hcl i
      have hcm : ((i : Int) % (cl.length : Int)) = ((i % cl.length : Nat) : Int) := by rw [Int.natCast_emod]
      have hS : SqL K H2 c (cl.map V.int) := sq_of ((e1.trans e2) c _ hc)
      rw [getElem!_pos cl (i % cl.length) (hcl i)]
      refine ev_op (ev_call (z := .int (lawNum cl[i % cl.length] (i : Int) wh)) (ea_cons (ev_itL (K := K) (i := i % cl.length) (ev_var rfl) (ev_is (ev_op (ev_var rfl) (ev_len (K := K) (ev_var rfl) hS) (rv_I ?_)) ?_) hS (getI (hcl i))) (ea_cons (ev_var rfl) (ea_cons (ev_var rfl) ea_nil))) fun H3 e3 Q3 q3 _ => ⟨_, _, _, rfl, hC.2 _ (List.getElem_mem (hcl i)), by omega, by omega, q3⟩) ev_c (rv_I (by decide))
      · show (0 : Int) < (((cl.map V.int).length : Nat) : Int)
        rw [List.length_map]
        omega
      · rw [List.length_map, hcm]
    generalize (fun i => lawNum cl[i % cl.length]! (i : Int) wh % 1000) = u at h2
    have tb : ∀ {H' : Hp}, Ex H2 H' → H' pg = some (.lst (tabV (pp + 1) (pri pp))) := fun e => (e2.trans e) pg _ h1
    refine s_ret (v := .bl true) (ev_opLV (xs := numV (pp + 1) u) (ev_list (el_callVL (ev_var rfl) (el_call (ea_cons (ev_var rfl) (ea_cons (ev_var rfl) ea_nil)) fun H3 e3 Q3 q3 _ => ⟨pg, pm, pp + 1, pri pp, u, rfl, sq_of (tb e3), by omega, by omega, ⟨_, tb e3⟩, g3, e3 pm _ h2, q3⟩) fun p H3 e3 h3 Q3 q3 _ => ⟨pg, p, pp + 1, pri pp, ws (pp + 1) (pri pp) u, rfl, sq_of (tb e3), by omega, by omega, ⟨_, tb e3⟩, g3, h3, fun _ => q3, fun hz => absurd (hz.symm.trans (all_back (half_had g3) (by omega) u)) (by decide)⟩) (num_back (half_had g3) (by omega) u)) (ev_var rfl) fun p H3 h3 e3 => rv_eqN (n := pp + 1) (u := u) (v := u) (sq_of h3) (sq_of (e3 pm _ h2)) fun _ _ => rfl) fun H3 e3 => q H3 ((e1.trans e2).trans e3)

end
end HA

end
section
set_option maxRecDepth 100000
set_option maxHeartbeats 4000000
namespace HA
open PySem PySem.Spec PyProof.Rows L2 Evl
section
variable {P : Program} {w : World} {K : PySem.W.Frag} {mg : Str → Option Value} {base : Heap}
theorem ok_law (T : Txt K mg) : FnOk P w K mg base CX0 7 T.a_law T.d_law ["_law_script"] (sp_law K) := by
  refine T.F_law.ok sc_law (fun vs H Q E h => ?_) (fun cdv A outer s H vs Q E hr h => ?_)
  · obtain ⟨a, ns, rfl, _⟩ := h
    rfl
  · obtain ⟨a, ns, rfl, hS, hl, hbits, q⟩ := h
    have hC : Cells ns := ⟨hl, fun z hz => bits_lt (hbits z hz)⟩
    have G_L_table := ok_L_table (P := P) (w := w) (base := base) T
    have G_worths := ok_worths (P := P) (w := w) (base := base) T
    have G_L_sums := ok_L_sums (P := P) (w := w) (base := base) T
    have G_numbers_of := ok_numbers_of (P := P) (w := w) (base := base) T
    have G_L_numbers := ok_L_numbers (P := P) (w := w) (base := base) T
    have G_L_wide_right := ok_L_wide_right (P := P) (w := w) (base := base) T
    have G_L_number := ok_L_number (P := P) (w := w) (base := base) T
    have G_L_none := ok_L_none (P := P) (w := w) (base := base) T
    refine ⟨_, pss_cons (ps_set (i := 1) sc_law.nd rfl (.inr rfl) (pe_callB (cr_sum rfl) (by rfl) T.m_sum (by decide +kernel) (pa_cons (pe_slice sl_list (pv 0) po_none (po_some pe_int)) pa_nil)))
      (pss_cons (ps_set (i := 2) sc_law.nd rfl (.inr rfl) (pe_ifExp (pt_cmpR (op_neD hr.units) (pv 0) (pe_lst pa_nil) (nomark _)) (pe_slice sl_list (pv 0) po_none (po_some pe_int)) (pe_lst (pa_cons pe_int pa_nil))))
      (pss_cons (ps_set (i := 3) sc_law.nd rfl (.inr rfl) (pe_call G_L_table (hr.mono (by decide)) (by rfl) T.g_L_table T.F_L_table.kp T.b_L_table .nil pass0 (pa_cons (pv 0) pa_nil)))
      (pss_cons (ps_set (i := 4) sc_law.nd rfl (.inr rfl) (pe_callB call_len_seq (by rfl) T.m_len (by decide +kernel) (pa_cons (pv 3) pa_nil)))
      (pss_cons (ps_set (i := 5) sc_law.nd rfl (.inr rfl) (pe_ix ix_tup (pe_tup (pa_cons pe_int (pa_cons pe_int (pa_cons (pe_op op_pow pe_int pe_int) (pa_cons pe_int pa_nil))))) (pe_op op_mod (pe_op op_fdiv (pv 1) pe_int) pe_int) (fun _ _ => rfl)))
      (pss_cons (ps_setLc (i := 6) (own := [("_law_at", 15)]) (g := (gName 15)) (tt := tYes) (te := (tOp _ (tOp _ (tCall _ _ _ (tCons (tOp (rIxL K) (tVar 2) (tOp _ (tVar 15) (tCB (rLenS K) (tCons (tVar 2) tNil)))) (tCons (tVar 15) (tCons (tVar 1) tNil)))) (tVar 5)) (tOp _ (tVar 5) (tC _)))) (by rfl) sc_law.nd rfl rfl (sw_true rfl rfl rfl (by decide +kernel)) (pi_range1 (by rfl) T.m_range (pa_cons (pv 4) pa_nil)) (blkOk_by (by kernel_rfl)) (fun _ _ _ _ _ => pg_name (i := 15) sc_law.nd rfl (.inl rfl)) (fun _ _ _ _ _ => pts_nil) (fun _ _ _ _ _ => pe_op op_sub (pe_op op_mod (pe_call G_L_number (hr.mono (by decide)) (by rfl) T.g_L_number T.F_L_number.kp T.b_L_number .nil pass0 (pa_cons (pe_ix ix_list (pv 2) (pe_op op_mod (pv 15) (pe_callB call_len_seq (by rfl) T.m_len (by decide +kernel) (pa_cons (pv 2) pa_nil))) (fun _ _ => rfl)) (pa_cons (pv 15) (pa_cons (pv 1) pa_nil)))) (pv 5)) (pe_op op_fdiv (pv 5) pe_int)))
      (pss_cons (ps_set (i := 7) sc_law.nd rfl (.inl rfl) (pe_lst (pa_cons (pe_callTy call_list_of (by rfl) T.m_list (by decide +kernel) (pa_cons (pv 3) pa_nil)) (pa_cons (pe_callTy call_list_of (by rfl) T.m_list (by decide +kernel) (pa_cons (pv 6) pa_nil)) pa_nil))))
      (pss_cons (ps_set (i := 8) sc_law.nd rfl (.inl rfl) (pe_call G_worths (hr.mono (by decide)) (by rfl) T.g_worths T.F_worths.kp T.b_worths .nil pass0 (pa_cons (pe_ix ix_list (pv 7) pe_int (fun _ _ => rfl)) (pa_cons (pe_ix ix_list (pv 7) pe_int (fun _ _ => rfl)) pa_nil))))
      (pss_cons (ps_set (i := 9) sc_law.nd rfl (.inl rfl) (pe_call G_L_sums (hr.mono (by decide)) (by rfl) T.g_L_sums T.F_L_sums.kp T.b_L_sums .nil pass0 (pa_cons (pv 3) (pa_cons (pv 6) pa_nil))))
      (pss_cons (ps_if (PW.pt (pw_or (pt_not (pt_val (pe_call G_L_numbers (hr.mono (by decide)) (by rfl) T.g_L_numbers T.F_L_numbers.kp T.b_L_numbers .nil pass0 (pa_cons (pv 8) pa_nil)))) (pw_or (pt_cmpR (op_neD hr.units) (pv 8) (pv 9) (nomark _)) (pw_or1 (pt_cmpR (op_neD hr.units) (pv 7) (pe_lst (pa_cons (pv 3) (pa_cons (pv 6) pa_nil))) (nomark _)))))) (pss_one (ps_ret (pe_bl))) (pss_nil))
      (pss_cons (ps_if (pt_cmpR op_ne (pe_callB (cr_sum rfl) (by rfl) T.m_sum (by decide +kernel) (pa_cons (pe_lc (own := [("_law_one", 16)]) (g := (gName 16)) (tt := tYes) (te := (tOp _ (tVar 16) (tVar 16))) (by rfl) sc_law.nd (pi_list (pv 8)) (blkOk_by (by kernel_rfl)) (fun _ _ _ _ _ => pg_name (i := 16) sc_law.nd rfl (.inl rfl)) (fun _ _ _ _ _ => pts_nil) (fun _ _ _ _ _ => pe_op op_mulB (pv 16) (pv 16))) pa_nil)) (pe_op op_mul (pv 4) (pe_callB (cr_sum rfl) (by rfl) T.m_sum (by decide +kernel) (pa_cons (pe_lc (own := [("_law_one", 16)]) (g := (gName 16)) (tt := tYes) (te := (tOp _ (tVar 16) (tVar 16))) (by rfl) sc_law.nd (pi_list (pv 6)) (blkOk_by (by kernel_rfl)) (fun _ _ _ _ _ => pg_name (i := 16) sc_law.nd rfl (.inl rfl)) (fun _ _ _ _ _ => pts_nil) (fun _ _ _ _ _ => pe_op op_mulB (pv 16) (pv 16))) pa_nil))) (nomark _)) (pss_one (ps_ret (pe_bl))) (pss_nil))
      (pss_cons (ps_set (i := 10) sc_law.nd rfl (.inl rfl) (pe_call G_numbers_of (hr.mono (by decide)) (by rfl) T.g_numbers_of T.F_numbers_of.kp T.b_numbers_of .nil passLN (pa_cons (pe_ix ix_list (pv 7) pe_int (fun _ _ => rfl)) (pa_cons (pv 8) pa_nil))))
      (pss_cons (ps_if (PW.pt (pw_or (pt_not (pt_val (pe_call G_L_numbers (hr.mono (by decide)) (by rfl) T.g_L_numbers T.F_L_numbers.kp T.b_L_numbers .nil pass0 (pa_cons (pv 10) pa_nil)))) (pw_or (pt_cmpR (op_neD hr.units) (pv 10) (pv 6) (nomark _)) (pw_or1 (pt_cmpR (op_neD hr.units) (pv 8) (pv 9) (nomark _)))))) (pss_one (ps_ret (pe_bl))) (pss_nil))
      (pss_cons (ps_expr (pe_bm PySem.F.plainAttrs_list PySem.F.slot_list_append PySem.F.type_list_append mt_append (pv 8) (pa_cons pe_int pa_nil)))
      (pss_cons (ps_expr (pe_bm PySem.F.plainAttrs_list PySem.F.slot_list_append PySem.F.type_list_append mt_append (pv 10) (pa_cons pe_int pa_nil)))
      (pss_cons (ps_if (PW.pt (pw_or (pt_cmpR (op_neD hr.units) (pe_call G_worths (hr.mono (by decide)) (by rfl) T.g_worths T.F_worths.kp T.b_worths .nil pass0 (pa_cons (pv 3) (pa_cons (pv 6) pa_nil))) (pv 9) (nomark _)) (pw_or1 (pt_cmpR (op_neD hr.units) (pe_call G_numbers_of (hr.mono (by decide)) (by rfl) T.g_numbers_of T.F_numbers_of.kp T.b_numbers_of .nil passLN (pa_cons (pv 3) (pa_cons (pv 9) pa_nil))) (pv 6) (nomark _))))) (pss_one (ps_ret (pe_bl))) (pss_nil))
      (pss_cons (ps_setLc (i := 11) (own := [("_law_place", 17)]) (g := (gName 17)) (tt := tYes) (te := (tM1 (rJoin K) (tC _) (tLc (iList K (tVar 3)) (gName 18) tYes (tOp rIxS (tVar 18) (tVar 17)) [18]))) (by rfl) sc_law.nd rfl rfl (sw_true rfl rfl rfl (by decide +kernel)) (pi_range1 (by rfl) T.m_range (pa_cons (pv 4) pa_nil)) (blkOk_by (by kernel_rfl)) (fun _ _ _ _ _ => pg_name (i := 17) sc_law.nd rfl (.inr rfl)) (fun _ _ _ _ _ => pts_nil) (fun _ _ _ _ _ => pe_join pe_str (pe_lc (own := [("_law_row", 18)]) (g := (gName 18)) (tt := tYes) (te := (tOp rIxS (tVar 18) (tVar 17))) (by rfl) sc_law.nd (pi_list (pv 3)) (blkOk_by (by kernel_rfl)) (fun _ _ _ _ _ => pg_name (i := 18) sc_law.nd rfl (.inl rfl)) (fun _ _ _ _ _ => pts_nil) (fun _ _ _ _ _ => pe_ix ix_str (pv 18) (pv 17) (fun _ _ => rfl)))))
      (pss_cons (ps_set (i := 12) sc_law.nd rfl (.inl rfl) (pe_callTy call_list_of (by rfl) T.m_list (by decide +kernel) (pa_cons (pv 9) pa_nil)))
      (pss_cons (ps_asg (pe_op op_add (pe_op op_add (pe_ix ix_list (pv 12) (pe_op op_mod (pv 1) (pv 4)) (fun _ _ => rfl)) pe_int) (pe_op op_mod (pe_op op_fdiv (pv 1) pe_int) (pv 4))) (pg_sub (pv 12) (pe_op op_mod (pv 1) (pv 4)) set_list))
      (pss_cons (ps_for PassesOwn.never (by rfl) (pi_list (pe_lst (pa_cons (pv 12) (pa_cons (pv 6) (pa_cons (pe_lc (own := [("_law_one", 16)]) (g := (gName 16)) (tt := tYes) (te := (tOp _ (tVar 4) (tVar 16))) (by rfl) sc_law.nd (pi_list (pv 6)) (blkOk_by (by kernel_rfl)) (fun _ _ _ _ _ => pg_name (i := 16) sc_law.nd rfl (.inl rfl)) (fun _ _ _ _ _ => pts_nil) (fun _ _ _ _ _ => pe_op op_mul (pv 4) (pv 16))) pa_nil))))) (pg_name (i := 13) sc_law.nd rfl (.inl rfl))
        (pss_cons (ps_set (i := 14) sc_law.nd rfl (.inl rfl) (pe_call G_L_sums (hr.mono (by decide)) (by rfl) T.g_L_sums T.F_L_sums.kp T.b_L_sums .nil pass0 (pa_cons (pv 11) (pa_cons (pv 13) pa_nil))))
        (pss_one (ps_if (pt_val (pe_callB (cr_any rfl) (by rfl) T.m_any (by decide +kernel) (pa_cons (pe_lc (own := [("_law_one", 16)]) (g := (gName 16)) (tt := tYes) (te := (tOp _ (tOp _ (tVar 16) (tVar 4)) (tC _))) (by rfl) sc_law.nd (pi_list (pv 14)) (blkOk_by (by kernel_rfl)) (fun _ _ _ _ _ => pg_name (i := 16) sc_law.nd rfl (.inl rfl)) (fun _ _ _ _ _ => pts_nil) (fun _ _ _ _ _ => pe_cmpR op_gt (pe_op op_mod (pv 16) (pv 4)) pe_int (nomark _))) pa_nil))) (pss_one (ps_if (pt_not (pt_val (pe_call G_L_none (hr.mono (by decide)) (by rfl) T.g_L_none T.F_L_none.kp T.b_L_none .nil pass0 (pa_cons (pv 3) (pa_cons (pv 13) pa_nil))))) (pss_one (ps_ret (pe_bl))) (pss_nil))) (pss_one (ps_if (pt_cmpR (op_neD hr.units) (pe_call G_numbers_of (hr.mono (by decide)) (by rfl) T.g_numbers_of T.F_numbers_of.kp T.b_numbers_of .nil passLN (pa_cons (pv 3) (pa_cons (pv 13) pa_nil))) (pe_lc (own := [("_law_one", 16)]) (g := (gName 16)) (tt := tYes) (te := (tOp _ (tVar 16) (tVar 4))) (by rfl) sc_law.nd (pi_list (pv 14)) (blkOk_by (by kernel_rfl)) (fun _ _ _ _ _ => pg_name (i := 16) sc_law.nd rfl (.inl rfl)) (fun _ _ _ _ _ => pts_nil) (fun _ _ _ _ _ => pe_op op_fdiv (pv 16) (pv 4))) (nomark _)) (pss_one (ps_ret (pe_bl))) (pss_nil)))))))
      (pss_cons (ps_if (PW.pt (pw_and (pt_cmpR op_eq (pe_op op_mod (pv 1) pe_int) pe_int (nomark _)) (pw_and1 (pt_not (pt_val (pe_call G_L_wide_right (hr.mono (by decide)) (by rfl) T.g_L_wide_right T.F_L_wide_right.kp T.b_L_wide_right .nil pass0 (pa_cons (pv 2) (pa_cons (pv 1) pa_nil)))))))) (pss_one (ps_ret (pe_bl))) (pss_nil))
      (pss_one (ps_ret (pe_and (pe_cmpR (op_eqD hr.units) (pe_call G_worths (hr.mono (by decide)) (by rfl) T.g_worths T.F_worths.kp T.b_worths .nil pass0 (pa_cons (pe_lst (pa_cons pe_str (pa_cons pe_str pa_nil))) (pa_cons (pe_lst (pa_cons pe_int (pa_cons pe_int pa_nil))) pa_nil))) (pe_lst (pa_cons pe_int (pa_cons pe_int pa_nil))) (nomark _)) (pe_one (pe_cmpR (op_eqD hr.units) (pe_call G_numbers_of (hr.mono (by decide)) (by rfl) T.g_numbers_of T.F_numbers_of.kp T.b_numbers_of .nil passLN (pa_cons (pe_lst (pa_cons pe_str (pa_cons pe_str pa_nil))) (pa_cons (pe_lst (pa_cons pe_int (pa_cons pe_int pa_nil))) pa_nil))) (pe_lst (pa_cons pe_int (pa_cons pe_int pa_nil))) (nomark _)))))))))))))))))))))))))), ?_⟩
    refine q_asg (v := .int ns.sum) (ev_sumN (K := K) (ns := ns) (ev_list (el_sl (ev_var rfl) eo_none (eo_some ev_c) hS) (cut63 (by rw [List.length_map]; exact hl)))) fun H1 e1 => ?_
    generalize hwh : ns.sum = wh
    obtain ⟨hD, hD1⟩ := cellsOf_ok (d := 2) (by decide) hC
    refine q_asgL (el_cells (d := 2) (ev_var rfl) (ev_var rfl) (ex_l e1 hS) hl) fun pc H2 hpc e2 h2 => ?_
    generalize hcs : cellsOf 2 ns = cl at hD hD1 h2
    refine q_asgC (ea_cons (ev_var rfl) ea_nil) fun H3 e3 => ⟨a, ns, rfl, ex_l ((e1.trans e2).trans e3) hS, hC, fun n f hLT pt H4 hpt e4 h4 => ?_⟩
    obtain ⟨hn1, hn2, had⟩ := hLT
    have hh := had_half had
    have hn0 : (0 : Int) < (n : Int) := by omega
    refine q_asg (ev_lenT (K := K) (n := n) (f := f) (ev_var rfl) (sq_of h4)) fun H5 e5 => ?_
    obtain ⟨m, hm, hm4⟩ := modNat (wh / 5) (n := 4) (by decide)
    obtain ⟨B, hB⟩ : ∃ B : Nat, B = 10 ^ 30 := ⟨_, rfl⟩
    obtain ⟨mo, hmo, hmo1, hmo2⟩ : ∃ mo : Int, ([.int 9, .int 1000, .int (10 ^ 30), .int 2] : List V)[m]? = some (.int mo) ∧ 2 ≤ mo ∧ mo ≤ (B : Int) := by
      rw [hB]
      match m, hm4 with
      | 0, _ => exact ⟨9, rfl, by decide, by decide⟩
      | 1, _ => exact ⟨1000, rfl, by decide, by decide⟩
      | 2, _ => exact ⟨10 ^ 30, rfl, by decide, by decide⟩
      | 3, _ => exact ⟨2, rfl, by decide, by decide⟩
    have hBm : ∀ x y : Int, x.natAbs ≤ 20 * B → y.natAbs ≤ 20 * B → CMulB x y := fun x y hx hy => mulB_of hx hy (by rw [hB]; decide +kernel)
    clear hB
    refine q_asg (v := .int mo) (ev_itU (K := K) (i := m) (eu_tup (ea_cons ev_c (ea_cons ev_c (ea_cons (ev_op ev_c ev_c (rv_I ⟨by decide, by decide, by decide⟩)) (ea_cons ev_c ea_nil)))) (by show 4 ≤ 100000; decide)) (ev_is (ev_op (ev_op (ev_var rfl) ev_c (rv_I ⟨by decide, by decide⟩)) ev_c (rv_I (by decide))) (congrArg V.int hm)) hmo) fun H6 e6 => ?_
    have h6c : H6 pc = some (.lst (cl.map V.int)) := (((e3.trans e4).trans e5).trans e6) pc _ h2
    have h6t : H6 pt = some (.lst (tabV n f)) := (e5.trans e6) pt _ h4
    have hcl : ∀ i : Nat, i % cl.length < cl.length := fun i => Nat.mod_lt _ (by omega)
    refine q_asgL (xs := numV n fun i => lawNum cl[i % cl.length]! (i : Int) wh % mo - mo / 3) (ev_list (el_lcR1 (n := (n : Int)) (fun _ => true) (fun i => .int (lawNum cl[i % cl.length]! (i : Int) wh % mo - mo / 3)) (ea_cons (ev_var rfl) ea_nil) ⟨by omega, by omega⟩ (fun x => rfl) (fun i H7 e7 hi => et_yes) (fun i H7 e7 hi _ => ?_)) (by rw [given_all, Int.toNat_natCast]; rfl)) fun pn H7 hpn e7 h7 => ?_
    · have hci : i % cl.length < cl.length := hcl i
      have hcm : ((i : Int) % (cl.length : Int)) = ((i % cl.length : Nat) : Int) := by rw [Int.natCast_emod]
      have hS7 : SqL K H7 pc (cl.map V.int) := sq_of (e7 pc _ h6c)
      rw [getElem!_pos cl (i % cl.length) hci]
      refine ev_op (ev_op (ev_call (z := .int (lawNum cl[i % cl.length] (i : Int) wh)) (ea_cons (ev_itL (K := K) (i := i % cl.length) (ev_var rfl) (ev_is (ev_op (ev_var rfl) (ev_len (K := K) (ev_var rfl) hS7) (rv_I ?_)) ?_) hS7 (getI hci)) (ea_cons (ev_var rfl) (ea_cons (ev_var rfl) ea_nil))) fun H8 e8 Q8 q8 _ => ⟨_, _, _, rfl, hD.2 _ (List.getElem_mem hci), by omega, by omega, q8⟩) (ev_var rfl) (rv_I (show (0 : Int) < mo by omega))) (ev_op (ev_var rfl) ev_c (rv_I ⟨by decide, by decide⟩)) rv_I0
      · show (0 : Int) < (((cl.map V.int).length : Nat) : Int)
        rw [List.length_map]
        omega
      · rw [List.length_map, hcm]
    have hu' : ∀ k, k < n → (lawNum cl[k % cl.length]! (k : Int) wh % mo - mo / 3).natAbs ≤ B := fun k _ => by
      have b1 := Int.emod_nonneg (lawNum cl[k % cl.length]! (k : Int) wh) (show mo ≠ 0 by omega)
      have b2 := Int.emod_lt_of_pos (lawNum cl[k % cl.length]! (k : Int) wh) (show (0 : Int) < mo by omega)
      omega
    obtain ⟨u, hu, h7u⟩ : ∃ u : Nat → Int, (∀ k, k < n → (u k).natAbs ≤ B) ∧ H7 pn = some (.lst (numV n u)) := ⟨_, hu', h7⟩
    clear hu' h7 hmo
    have h7t := e7 pt _ h6t
    have h7c := e7 pc _ h6c
    refine q_asgR (er_two (n := n) (f := f) (u := u) (el_listOf (K := K) (ev_var rfl) (sq_of h7t)) (el_listOf (K := K) (ev_var rfl) (sq_of h7u))) fun v H8 e8 hv => ?_
    obtain ⟨pl, rfl, hP⟩ := hv
    obtain ⟨p0, q0, k1, k2, k3⟩ := id hP
    have h8t := e8 pt _ h7t
    have h8c := e8 pc _ h7c
    have h8u := e8 pn _ h7u
    show tSeq _ _ _ [some (.ref a), some (.int wh), some (.ref pc), some (.ref pt), some (.int (n : Int)), some (.int mo), some (.ref pn), some (.ref pl), none, none, none, none, none, none, none, none, none, none, none] H8
    refine q_asgL (xs := numV n (ws n f u)) (el_call (ea_cons (ev_itL (K := K) (i := 0) (ev_var rfl) ev_c (sq_of k1) rfl) (ea_cons (ev_itL (K := K) (i := 1) (ev_var rfl) ev_c (sq_of k1) rfl) ea_nil)) fun H9 e9 Q9 q9 _ => ⟨p0, q0, n, f, u, rfl, sq_of (e9 p0 _ k2), hn1, by omega, ⟨_, e9 p0 _ k2⟩, hh, e9 q0 _ k3, q9⟩) fun pf H9 hpf e9 h9 => ?_
    refine q_asgL (xs := numV n (ws n f u)) (el_call (ea_cons (ev_var rfl) (ea_cons (ev_var rfl) ea_nil)) fun H10 e10 Q10 q10 _ => ⟨pt, pn, n, f, u, rfl, sq_of ((e9.trans e10) pt _ h8t), by omega, sq_of ((e9.trans e10) pn _ h8u), q10⟩) fun pd H10 hpd e10 h10 => ?_
    have E10 := e9.trans e10
    have h10f := e10 pf _ h9
    refine q_when (b := false) ?_ (fun hz => nomatch hz) fun _ H11 e11 => ?_
    · exact et_is (et_or (et_not (et_B (ev_call (z := .bl true) (ea_cons (ev_var rfl) ea_nil) fun H11 e11 Q11 q11 _ => ⟨pf, n, ws n f u, rfl, e11 pf _ h10f, by omega, q11⟩))) fun _ => et_or (et_test (ev_op (ev_var rfl) (ev_var rfl) (rv_neN (n := n) (sq_of h10f) (sq_of h10) fun _ _ => rfl))) fun _ => et_test (ev_opL (ev_var rfl) (el_lst (ea_cons (ev_var rfl) (ea_cons (ev_var rfl) ea_nil)) (by show 2 ≤ 100000; decide)) fun p H12 hp e12 => rv_neP (hP.ex (E10.trans e12)) ⟨pt, pn, hp, (E10.trans e12) pt _ h8t, (E10.trans e12) pn _ h8u⟩)) rfl
    have E11 := E10.trans e11
    have hw20 : ∀ k, k < n → (ws n f u k).natAbs ≤ 20 * B := fun k _ => Nat.le_trans (ws_bound (f := f) hu k) (Nat.mul_le_mul_right _ hn2)
    have hu20 : ∀ k, k < n → (u k).natAbs ≤ 20 * B := fun k hk => Nat.le_trans (hu k hk) (Nat.le_mul_of_pos_left B (by decide))
    refine q_when (b := false) ?_ (fun hz => nomatch hz) fun _ H12 e12 => ?_
    · refine et_is (et_test (ev_op (ev_sqs (K := K) (n := n) (u := ws n f u) (ev_var rfl) (sq_of (e11 pf _ h10f)) (by omega) (fun k hk => hBm _ _ (hw20 k hk) (hw20 k hk)) (fun x => rfl) (fun x H12 e12 => ev_var rfl) (fun x H12 e12 => ev_var rfl)) (ev_op (ev_var rfl) (ev_sqs (K := K) (n := n) (u := u) (ev_var rfl) (sq_of (E11 pn _ h8u)) (by omega) (fun k hk => hBm _ _ (hu20 k hk) (hu20 k hk)) (fun x => rfl) (fun x H12 e12 => ev_var rfl) (fun x H12 e12 => ev_var rfl)) (rv_I (.inl ⟨by omega, by omega⟩))) (rv_ne rfl))) ?_
      rw [ws_norm had u, decide_eq_true rfl]
      rfl
    have E12 := E11.trans e12
    have h12f := (e11.trans e12) pf _ h10f
    have h12d := (e11.trans e12) pd _ h10
    refine q_asgL (xs := numV n u) (ev_list (el_call (xs := numV n fun p => cs n f (ws n f u) p / (n : Int)) (ea_cons (ev_itL (K := K) (i := 0) (ev_var rfl) ev_c (sq_of (E12 pl _ k1)) rfl) (ea_cons (ev_var rfl) ea_nil)) fun H13 e13 Q13 q13 _ => ⟨p0, pf, n, f, ws n f u, rfl, sq_of ((E12.trans e13) p0 _ k2), hn1, by omega, ⟨_, (E12.trans e13) p0 _ k2⟩, hh, e13 pf _ h12f, fun _ => q13, fun hz => absurd (hz.symm.trans (all_back had hn1 u)) (by decide)⟩) (num_back had hn1 u)) fun pb H13 hpb e13 h13 => ?_
    refine q_when (b := false) ?_ (fun hz => nomatch hz) fun _ H14 e14 => ?_
    · exact et_is (et_or (et_not (et_B (ev_call (z := .bl true) (ea_cons (ev_var rfl) ea_nil) fun H14 e14 Q14 q14 _ => ⟨pb, n, u, rfl, e14 pb _ h13, by omega, q14⟩))) fun _ => et_or (et_test (ev_op (ev_var rfl) (ev_var rfl) (rv_neN (n := n) (sq_of h13) (sq_of ((E12.trans e13) pn _ h8u)) fun _ _ => rfl))) fun _ => et_test (ev_op (ev_var rfl) (ev_var rfl) (rv_neN (n := n) (sq_of (e13 pf _ h12f)) (sq_of (e13 pd _ h12d)) fun _ _ => rfl))) rfl
    have E14 := (E12.trans e13).trans e14
    refine q_app (v := .int 0) ((e13.trans e14) pf _ h12f) (ev_var rfl) ev_c (by rw [numV_len]; omega) fun H15 e15 => ?_
    have nf1 : ∀ {z : Addr} {o : HO}, H8 z = some o → z ≠ pf := fun h => ne_of_none h hpf
    have nf2 : pf ≠ pd := ne_of_none h9 hpd
    have nf3 : pf ≠ pb := ne_of_none h12f hpb
    have h15b : (upd H15 pf (.lst (numV n (ws n f u) ++ [.int 0]))) pb = some (.lst (numV n u)) := by
      rw [upd_ne (Ne.symm nf3)]
      exact (e14.trans e15) pb _ h13
    refine q_app (v := .int 0) h15b (ev_var rfl) ev_c (by rw [numV_len]; omega) fun H16 e16 => ?_
    have nb1 : ∀ {z : Addr} {o : HO}, H12 z = some o → z ≠ pb := fun h => ne_of_none h hpb
    have keep : ∀ {z : Addr} {o : HO}, H12 z = some o → z ≠ pf → (upd H16 pb (.lst (numV n u ++ [.int 0]))) z = some o := fun {z o} h h' => by
      rw [upd_ne (nb1 h)]
      refine e16 z o ?_
      rw [upd_ne h']
      exact ((e13.trans e14).trans e15) z o h
    have h17t := keep (E12 pt _ h8t) (nf1 h8t)
    have h17c := keep (E12 pc _ h8c) (nf1 h8c)
    have h17u := keep (E12 pn _ h8u) (nf1 h8u)
    have h17d := keep h12d (Ne.symm nf2)
    clear keep nb1 nf1 h15b
    generalize (upd H16 pb (.lst (numV n u ++ [.int 0]))) = H17 at h17t h17c h17u h17d ⊢
    show tSeq _ _ _ [some (.ref a), some (.int wh), some (.ref pc), some (.ref pt), some (.int (n : Int)), some (.int mo), some (.ref pn), some (.ref pl), some (.ref pf), some (.ref pd), some (.ref pb), none, none, none, none, none, none, none, none] H17
    refine q_when (b := false) ?_ (fun hz => nomatch hz) fun _ H18 e18 => ?_
    · exact et_is (et_or (et_test (ev_opLV (el_call (ea_cons (ev_var rfl) (ea_cons (ev_var rfl) ea_nil)) fun H18 e18 Q18 q18 _ => ⟨pt, pn, n, f, u, rfl, sq_of (e18 pt _ h17t), hn1, by omega, ⟨_, e18 pt _ h17t⟩, hh, e18 pn _ h17u, q18⟩) (ev_var rfl) fun p H18 hp e18 => rv_neN (n := n) (u := ws n f u) (v := ws n f u) (sq_of hp) (sq_of (e18 pd _ h17d)) fun _ _ => rfl)) fun _ => et_test (ev_opLV (ev_list (el_call (xs := numV n fun p => cs n f (ws n f u) p / (n : Int)) (ea_cons (ev_var rfl) (ea_cons (ev_var rfl) ea_nil)) fun H18 e18 Q18 q18 _ => ⟨pt, pd, n, f, ws n f u, rfl, sq_of (e18 pt _ h17t), hn1, by omega, ⟨_, e18 pt _ h17t⟩, hh, e18 pd _ h17d, fun _ => q18, fun hz => absurd (hz.symm.trans (all_back had hn1 u)) (by decide)⟩) (num_back had hn1 u)) (ev_var rfl) fun p H18 hp e18 => rv_neN (n := n) (u := u) (v := u) (sq_of hp) (sq_of (e18 pn _ h17u)) fun _ _ => rfl)) rfl
    have h18t := e18 pt _ h17t
    have h18c := e18 pc _ h17c
    have h18u := e18 pn _ h17u
    have h18d := e18 pd _ h17d
    refine q_asgL (xs := tabV n (trn f)) (tr_compG (K := K) (n := n) (g := f) (a := pt) (fun x H1 e => ev_var rfl) (ea_cons (ev_var rfl) ea_nil) (sq_of h18t) (by omega) (fun x => rfl) (fun x y => rfl) (fun x y H1 e => ev_var rfl) (fun x y H1 e => ev_var rfl)) fun pk H19 hpk e19 h19 => ?_
    refine q_asgL (el_listOf (K := K) (ev_var rfl) (sq_of (e19 pd _ h18d))) fun pv H20 hpv e20 h20 => ?_
    obtain ⟨mm, hmm, hmmn⟩ := modNat wh hn1
    refine q_setL (j := mm) (v := .int (ws n f u mm + 1 + wh / 3 % (n : Int))) h20 (ev_op (ev_op (ev_itL (K := K) (i := mm) (ev_var rfl) (ev_is (ev_op (ev_var rfl) (ev_var rfl) (rv_I hn0)) (congrArg V.int hmm)) (sq_of h20) (numV_get hmmn)) ev_c rv_I0) (ev_op (ev_op (ev_var rfl) ev_c (rv_I ⟨by decide, by decide⟩)) (ev_var rfl) (rv_I hn0)) rv_I0) (ev_var rfl) (ev_is (ev_op (ev_var rfl) (ev_var rfl) (rv_I hn0)) (congrArg V.int hmm)) (by rw [numV_len]; exact hmmn) fun H21 e21 => ?_
    have e22 : Ex H19 (upd H21 pv (.lst ((numV n (ws n f u)).set mm (.int (ws n f u mm + 1 + wh / 3 % (n : Int)))))) := Ex.mut (e20.trans e21) hpv
    have h22 : (upd H21 pv (.lst ((numV n (ws n f u)).set mm (.int (ws n f u mm + 1 + wh / 3 % (n : Int)))))) pv = some (.lst (numV n (fun i => if i = mm then ws n f u mm + 1 + wh / 3 % (n : Int) else ws n f u i))) := by
      rw [upd_same, num_set _ hmmn]
    generalize (upd H21 pv (.lst ((numV n (ws n f u)).set mm (.int (ws n f u mm + 1 + wh / 3 % (n : Int)))))) = H22 at e22 h22 ⊢
    generalize (fun i => if i = mm then ws n f u mm + 1 + wh / 3 % (n : Int) else ws n f u i) = b at h22
    have h22t := (e19.trans e22) pt _ h18t
    have h22c := (e19.trans e22) pc _ h18c
    have h22u := (e19.trans e22) pn _ h18u
    have h22k := e22 pk _ h19
    show tSeq _ _ _ [some (.ref a), some (.int wh), some (.ref pc), some (.ref pt), some (.int (n : Int)), some (.int mo), some (.ref pn), some (.ref pl), some (.ref pf), some (.ref pd), some (.ref pb), some (.ref pk), some (.ref pv), none, none, none, none, none, none] H22
    refine q_for3 (K := K) (kept_isL (numV n b)) (kept_isL (numV n u)) (kept_isL (numV n fun i => (n : Int) * u i)) (er_lst3 (kept_isL (numV n b)) (kept_isL (numV n u)) (kept_isL (numV n fun i => (n : Int) * u i)) (er_varL (ev_var rfl) h22) (er_varL (ev_var rfl) h22u) (er_isL ?_))
      (fun σ' H' => ∃ v13 v14, σ' = [some (.ref a), some (.int wh), some (.ref pc), some (.ref pt), some (.int (n : Int)), some (.int mo), some (.ref pn), some (.ref pl), some (.ref pf), some (.ref pd), some (.ref pb), some (.ref pk), some (.ref pv), v13, v14, none, none, none, none] ∧ Ex H22 H')
      (fun H23 e23 => ⟨_, _, rfl, e23⟩) (fun H23 e23 x σ' H24 hx hv e24 => ?_) (fun σ' H23 hv => ?_)
    · refine ev_list (el_lcL (K := K) (xs := numV n u) (fun _ => true) (fun k => .int ((n : Int) * u k)) (ev_var rfl) (sq_of h22u) (by rw [numV_len]; omega) (fun x => rfl) (fun i x H1 e hx => et_yes) (fun i x H1 e hx _ => ?_)) (by rw [given_all, numV_len]; rfl)
      obtain ⟨hi, rfl⟩ := numV_some hx
      exact ev_op (ev_var rfl) (ev_var rfl) (rv_I (.inl ⟨by omega, by omega⟩))
    · obtain ⟨v13, v14, rfl, e25⟩ := hv
      obtain ⟨g, ps, rfl, hps⟩ : ∃ (g : Nat → Int) (ps : Addr), x = .ref ps ∧ H24 ps = some (.lst (numV n g)) := by
        rcases hx with ⟨p, h1', h2'⟩ | ⟨p, h1', h2'⟩ | ⟨p, h1', h2'⟩
        · exact ⟨_, p, h1', h2'⟩
        · exact ⟨_, p, h1', h2'⟩
        · exact ⟨_, p, h1', h2'⟩
      refine q_asgL (xs := numV n (cs n f g)) (el_call (ea_cons (ev_var rfl) (ea_cons (ev_var rfl) ea_nil)) fun H25 e26 Q25 q25 _ => ⟨pk, ps, n, trn f, g, rfl, sq_of ((e25.trans e26) pk _ h22k), by omega, sq_of (e26 ps _ hps), q25⟩) fun pz H25 hpz e26 h25 => ?_
      have h25p := e26 ps _ hps
      have h25t := (e25.trans e26) pt _ h22t
      refine s_if (b := !allB n f g) ?_ (fun hb H26 e27 => ?_) fun hb H26 e27 => ?_
      · refine et_is (et_B (ev_anyN (K := K) (bs := (List.range n).map fun p => !decide (cs n f g p % (n : Int) = 0)) (ev_list (el_lcL (K := K) (xs := numV n (cs n f g)) (fun _ => true) (fun p => .bl (!decide (cs n f g p % (n : Int) = 0))) (ev_var rfl) (sq_of h25) (by rw [numV_len]; omega) (fun x => rfl) (fun i x H4 e4 hx => et_yes) (fun i x H4 e4 hx _ => ?_)) (by rw [given_all, numV_len, List.map_map]; rfl)))) (any_not_all n _)
        obtain ⟨hi, rfl⟩ := numV_some hx
        exact ev_is (ev_op (ev_op (ev_var rfl) (ev_var rfl) (rv_I hn0)) ev_c rv_I0) (congrArg V.bl (pos_rest hn1 _))
      · have hb' := bnot1 hb
        refine s_when (b := false) ?_ (fun hz => nomatch hz) fun _ H27 e28 => ⟨⟨_, _, rfl, ((e25.trans e26).trans e27).trans e28⟩, ((e24.trans e26).trans e27).trans e28⟩
        exact et_is (et_not (et_B (ev_call (z := .bl true) (ea_cons (ev_var rfl) (ea_cons (ev_var rfl) ea_nil)) fun H27 e28 Q27 q27 _ => ⟨pt, ps, n, f, g, rfl, sq_of ((e27.trans e28) pt _ h25t), hn1, by omega, ⟨_, (e27.trans e28) pt _ h25t⟩, hh, (e27.trans e28) ps _ h25p, hb', q27⟩))) rfl
      · have hb' := bnot0 hb
        refine s_when (b := false) ?_ (fun hz => nomatch hz) fun _ H27 e28 => ⟨⟨_, _, rfl, ((e25.trans e26).trans e27).trans e28⟩, ((e24.trans e26).trans e27).trans e28⟩
        refine et_is (et_test (ev_opLR (xs := numV n fun p => cs n f g p / (n : Int)) (ys := numV n fun p => cs n f g p / (n : Int)) (el_call (ea_cons (ev_var rfl) (ea_cons (ev_var rfl) ea_nil)) fun H27 e28 Q27 q27 _ => ⟨pt, ps, n, f, g, rfl, sq_of ((e27.trans e28) pt _ h25t), hn1, by omega, ⟨_, (e27.trans e28) pt _ h25t⟩, hh, (e27.trans e28) ps _ h25p, fun _ => q27, fun hz => absurd (hz.symm.trans hb') (by decide)⟩) (ev_list (el_lcL (K := K) (xs := numV n (cs n f g)) (fun _ => true) (fun p => .int (cs n f g p / (n : Int))) (ev_var rfl) (sq_of (e27 pz _ h25)) (by rw [numV_len]; omega) (fun x => rfl) (fun i x H5 e5 hx => et_yes) (fun i x H5 e5 hx _ => ?_)) (by rw [given_all, numV_len]; rfl)) fun p1 p2 H28 h1 h2 e28 => rv_neN (n := n) (sq_of h1) (sq_of h2) fun _ _ => rfl)) rfl
        obtain ⟨hi, rfl⟩ := numV_some hx
        exact ev_op (ev_var rfl) (ev_var rfl) (rv_I ⟨hn0, by omega⟩)
    obtain ⟨v13, v14, rfl, e23⟩ := hv
    refine q_when (b := false) ?_ (fun hz => nomatch hz) fun _ H24 e24 => ?_
    · refine et_is (et_and (et_test (ev_op (ev_op (ev_var rfl) ev_c (rv_I (by decide))) ev_c (rv_eq rfl))) fun _ => et_not (et_B (ev_call (z := .bl true) (ea_cons (ev_var rfl) (ea_cons (ev_var rfl) ea_nil)) fun H24 e24 Q24 q24 _ => ⟨pc, cl, wh, rfl, (e23.trans e24) pc _ h22c, hD, hD1, q24⟩))) (Bool.and_false _)
    have two : ∀ {σ : L2.St} {H' : Hp}, EvL (tLst (tCons (tC (.str (Str.ofString "++"))) (tCons (tC (.str (Str.ofString "+-"))) tNil))) σ H' (tabV 2 fun i j => !(i == 1 && j == 1)) := fun {σ H'} => ev_list (el_lst (ea_cons ev_c (ea_cons ev_c ea_nil)) (by show 2 ≤ 100000; decide)) (by decide +kernel)
    have half2 : halfB 2 (fun i j => !(i == 1 && j == 1)) = true := by decide
    refine s_ret (v := .bl true) (ev_is (ev_andV (ev_opLR (xs := numV 2 fun i => if i = 0 then 8 else 2) (ys := numV 2 fun i => if i = 0 then 8 else 2) (ev_list (el_callLL (xs := tabV 2 fun i j => !(i == 1 && j == 1)) (ys := numV 2 fun i => if i = 0 then 5 else 3) two (ev_list (el_lst (ea_cons ev_c (ea_cons ev_c ea_nil)) (by show 2 ≤ 100000; decide)) (by decide +kernel)) fun p1 p2 H24 e24 h1 h2 Q24 q24 _ => ⟨p1, p2, 2, _, _, rfl, sq_of h1, by decide, by decide, ⟨_, h1⟩, half2, h2, q24⟩) (by decide +kernel)) (ev_list (el_lst (ea_cons ev_c (ea_cons ev_c ea_nil)) (by show 2 ≤ 100000; decide)) (by decide +kernel)) fun p1 p2 H24 h1 h2 e24 => rv_eqN (n := 2) (sq_of h1) (sq_of h2) fun _ _ => rfl) fun _ => ev_opLR (xs := numV 2 fun i => if i = 0 then 5 else 3) (ys := numV 2 fun i => if i = 0 then 5 else 3) (ev_list (el_callLL (xs := tabV 2 fun i j => !(i == 1 && j == 1)) (ys := numV 2 fun i => if i = 0 then 8 else 2) two (ev_list (el_lst (ea_cons ev_c (ea_cons ev_c ea_nil)) (by show 2 ≤ 100000; decide)) (by decide +kernel)) fun p1 p2 H24 e24 h1 h2 Q24 q24 _ => ⟨p1, p2, 2, _, _, rfl, sq_of h1, by decide, by decide, ⟨_, h1⟩, half2, h2, fun _ => q24, fun hz => absurd hz (by decide +kernel)⟩) (by decide +kernel)) (ev_list (el_lst (ea_cons ev_c (ea_cons ev_c ea_nil)) (by show 2 ≤ 100000; decide)) (by decide +kernel)) fun p1 p2 H24 h1 h2 e24 => rv_eqN (n := 2) (sq_of h1) (sq_of h2) fun _ _ => rfl) rfl) fun H25 e25 => q H25

end
end HA

end
section
set_option maxRecDepth 100000
set_option maxHeartbeats 4000000
namespace HA
open PySem PySem.Spec PyProof.Rows L2 Evl
section
variable {P : Program} {w : World} {K : PySem.W.Frag} {mg : Str → Option Value} {base : Heap}
theorem all_mk {l : PySem.W.OpenLaw} {w : World} {K : PySem.W.Frag} {h : Heap} {mg : Str → Option Value} {fa f0 f1 f2 f3 f4 f5 f6 f7 f8 f9 f10 f11 f12 f13 f14 f15 f16 f17 f18 f19 C_SignError C_BadNumbers C_BadParts C_BadPlace C_BadSigns C_BadTable C_TooGreat C_NoNumbers : Addr} (X : K.In h) (G : h.Ns mainGlobals mg) (hfa : mg "law" = some (.ref fa))
    {od0 an0 : Option Addr} {sl0 : Array (Option Value)} {oc0 kV0 dc0 pm0 cd0 ct0 : Value}
    {od1 an1 : Option Addr} {sl1 : Array (Option Value)} {oc1 kV1 dc1 pm1 cd1 ct1 : Value}
    {od2 an2 : Option Addr} {sl2 : Array (Option Value)} {oc2 kV2 dc2 pm2 cd2 ct2 : Value}
    {od3 an3 : Option Addr} {sl3 : Array (Option Value)} {oc3 kV3 dc3 pm3 cd3 ct3 : Value}
    {od4 an4 : Option Addr} {sl4 : Array (Option Value)} {oc4 kV4 dc4 pm4 cd4 ct4 : Value}
    {od5 an5 : Option Addr} {sl5 : Array (Option Value)} {oc5 kV5 dc5 pm5 cd5 ct5 : Value}
    {od6 an6 : Option Addr} {sl6 : Array (Option Value)} {oc6 kV6 dc6 pm6 cd6 ct6 : Value}
    {od7 an7 : Option Addr} {sl7 : Array (Option Value)} {oc7 kV7 dc7 pm7 cd7 ct7 : Value}
    {od8 an8 : Option Addr} {sl8 : Array (Option Value)} {oc8 kV8 dc8 pm8 cd8 ct8 : Value}
    {od9 an9 : Option Addr} {sl9 : Array (Option Value)} {oc9 kV9 dc9 pm9 cd9 ct9 : Value}
    {od10 an10 : Option Addr} {sl10 : Array (Option Value)} {oc10 kV10 dc10 pm10 cd10 ct10 : Value}
    {od11 an11 : Option Addr} {sl11 : Array (Option Value)} {oc11 kV11 dc11 pm11 cd11 ct11 : Value}
    {od12 an12 : Option Addr} {sl12 : Array (Option Value)} {oc12 kV12 dc12 pm12 cd12 ct12 : Value}
    {od13 an13 : Option Addr} {sl13 : Array (Option Value)} {oc13 kV13 dc13 pm13 cd13 ct13 : Value}
    {od14 an14 : Option Addr} {sl14 : Array (Option Value)} {oc14 kV14 dc14 pm14 cd14 ct14 : Value}
    {od15 an15 : Option Addr} {sl15 : Array (Option Value)} {oc15 kV15 dc15 pm15 cd15 ct15 : Value}
    {od16 an16 : Option Addr} {sl16 : Array (Option Value)} {oc16 kV16 dc16 pm16 cd16 ct16 : Value}
    {od17 an17 : Option Addr} {sl17 : Array (Option Value)} {oc17 kV17 dc17 pm17 cd17 ct17 : Value}
    {od18 an18 : Option Addr} {sl18 : Array (Option Value)} {oc18 kV18 dc18 pm18 cd18 ct18 : Value}
    {od19 an19 : Option Addr} {sl19 : Array (Option Value)} {oc19 kV19 dc19 pm19 cd19 ct19 : Value}
    {k_MOST : Tok}
    (a0 : PySem.W.nsIn K mainGlobals "is_number" = some (some (.ref f0)))
    (l0 : K.lookup f0 = some ⟨oc0, od0, .func (PySem.W.fnOf "is_number" "is_number" (defArgs s_is_number) (defBody s_is_number) (defScope s_is_number) .none kV0 dc0 pm0 an0 cd0 ct0), sl0⟩)
    (c0 : PySem.W.codeIn K cd0 "is_number" = true)
    (k0 : PySem.W.keepIn K (.ref f0) = true)
    (a1 : PySem.W.nsIn K mainGlobals "is_row" = some (some (.ref f1)))
    (l1 : K.lookup f1 = some ⟨oc1, od1, .func (PySem.W.fnOf "is_row" "is_row" (defArgs s_is_row) (defBody s_is_row) (defScope s_is_row) .none kV1 dc1 pm1 an1 cd1 ct1), sl1⟩)
    (c1 : PySem.W.codeIn K cd1 "is_row" = true)
    (k1 : PySem.W.keepIn K (.ref f1) = true)
    (a2 : PySem.W.nsIn K mainGlobals "asked_table" = some (some (.ref f2)))
    (l2 : K.lookup f2 = some ⟨oc2, od2, .func (PySem.W.fnOf "asked_table" "asked_table" (defArgs s_asked_table) (defBody s_asked_table) (defScope s_asked_table) .none kV2 dc2 pm2 an2 cd2 ct2), sl2⟩)
    (c2 : PySem.W.codeIn K cd2 "asked_table" = true)
    (k2 : PySem.W.keepIn K (.ref f2) = true)
    (a3 : PySem.W.nsIn K mainGlobals "alike" = some (some (.ref f3)))
    (l3 : K.lookup f3 = some ⟨oc3, od3, .func (PySem.W.fnOf "alike" "alike" (defArgs s_alike) (defBody s_alike) (defScope s_alike) .none kV3 dc3 pm3 an3 cd3 ct3), sl3⟩)
    (c3 : PySem.W.codeIn K cd3 "alike" = true)
    (k3 : PySem.W.keepIn K (.ref f3) = true)
    (a4 : PySem.W.nsIn K mainGlobals "first_unlike" = some (some (.ref f4)))
    (l4 : K.lookup f4 = some ⟨oc4, od4, .func (PySem.W.fnOf "first_unlike" "first_unlike" (defArgs s_first_unlike) (defBody s_first_unlike) (defScope s_first_unlike) .none kV4 dc4 pm4 an4 cd4 ct4), sl4⟩)
    (c4 : PySem.W.codeIn K cd4 "first_unlike" = true)
    (k4 : PySem.W.keepIn K (.ref f4) = true)
    (a5 : PySem.W.nsIn K mainGlobals "asked_half" = some (some (.ref f5)))
    (l5 : K.lookup f5 = some ⟨oc5, od5, .func (PySem.W.fnOf "asked_half" "asked_half" (defArgs s_asked_half) (defBody s_asked_half) (defScope s_asked_half) .none kV5 dc5 pm5 an5 cd5 ct5), sl5⟩)
    (c5 : PySem.W.codeIn K cd5 "asked_half" = true)
    (k5 : PySem.W.keepIn K (.ref f5) = true)
    (a6 : PySem.W.nsIn K mainGlobals "asked_numbers" = some (some (.ref f6)))
    (l6 : K.lookup f6 = some ⟨oc6, od6, .func (PySem.W.fnOf "asked_numbers" "asked_numbers" (defArgs s_asked_numbers) (defBody s_asked_numbers) (defScope s_asked_numbers) .none kV6 dc6 pm6 an6 cd6 ct6), sl6⟩)
    (c6 : PySem.W.codeIn K cd6 "asked_numbers" = true)
    (k6 : PySem.W.keepIn K (.ref f6) = true)
    (a7 : PySem.W.nsIn K mainGlobals "signed_sum" = some (some (.ref f7)))
    (l7 : K.lookup f7 = some ⟨oc7, od7, .func (PySem.W.fnOf "signed_sum" "signed_sum" (defArgs s_signed_sum) (defBody s_signed_sum) (defScope s_signed_sum) .none kV7 dc7 pm7 an7 cd7 ct7), sl7⟩)
    (c7 : PySem.W.codeIn K cd7 "signed_sum" = true)
    (k7 : PySem.W.keepIn K (.ref f7) = true)
    (a8 : PySem.W.nsIn K mainGlobals "worths" = some (some (.ref f8)))
    (l8 : K.lookup f8 = some ⟨oc8, od8, .func (PySem.W.fnOf "worths" "worths" (defArgs s_worths) (defBody s_worths) (defScope s_worths) .none kV8 dc8 pm8 an8 cd8 ct8), sl8⟩)
    (c8 : PySem.W.codeIn K cd8 "worths" = true)
    (k8 : PySem.W.keepIn K (.ref f8) = true)
    (a9 : PySem.W.nsIn K mainGlobals "numbers_of" = some (some (.ref f9)))
    (l9 : K.lookup f9 = some ⟨oc9, od9, .func (PySem.W.fnOf "numbers_of" "numbers_of" (defArgs s_numbers_of) (defBody s_numbers_of) (defScope s_numbers_of) .none kV9 dc9 pm9 an9 cd9 ct9), sl9⟩)
    (c9 : PySem.W.codeIn K cd9 "numbers_of" = true)
    (k9 : PySem.W.keepIn K (.ref f9) = true)
    (a10 : PySem.W.nsIn K mainGlobals "_law_number" = some (some (.ref f10)))
    (l10 : K.lookup f10 = some ⟨oc10, od10, .func (PySem.W.fnOf "_law_number" "_law_number" (defArgs s_L_number) (defBody s_L_number) (defScope s_L_number) .none kV10 dc10 pm10 an10 cd10 ct10), sl10⟩)
    (c10 : PySem.W.codeIn K cd10 "_law_number" = true)
    (k10 : PySem.W.keepIn K (.ref f10) = true)
    (a11 : PySem.W.nsIn K mainGlobals "_law_other" = some (some (.ref f11)))
    (l11 : K.lookup f11 = some ⟨oc11, od11, .func (PySem.W.fnOf "_law_other" "_law_other" (defArgs s_L_other) (defBody s_L_other) (defScope s_L_other) .none kV11 dc11 pm11 an11 cd11 ct11), sl11⟩)
    (c11 : PySem.W.codeIn K cd11 "_law_other" = true)
    (k11 : PySem.W.keepIn K (.ref f11) = true)
    (a12 : PySem.W.nsIn K mainGlobals "_law_doubled" = some (some (.ref f12)))
    (l12 : K.lookup f12 = some ⟨oc12, od12, .func (PySem.W.fnOf "_law_doubled" "_law_doubled" (defArgs s_L_doubled) (defBody s_L_doubled) (defScope s_L_doubled) .none kV12 dc12 pm12 an12 cd12 ct12), sl12⟩)
    (c12 : PySem.W.codeIn K cd12 "_law_doubled" = true)
    (k12 : PySem.W.keepIn K (.ref f12) = true)
    (a13 : PySem.W.nsIn K mainGlobals "_law_prime_table" = some (some (.ref f13)))
    (l13 : K.lookup f13 = some ⟨oc13, od13, .func (PySem.W.fnOf "_law_prime_table" "_law_prime_table" (defArgs s_L_prime_table) (defBody s_L_prime_table) (defScope s_L_prime_table) .none kV13 dc13 pm13 an13 cd13 ct13), sl13⟩)
    (c13 : PySem.W.codeIn K cd13 "_law_prime_table" = true)
    (k13 : PySem.W.keepIn K (.ref f13) = true)
    (a14 : PySem.W.nsIn K mainGlobals "_law_table" = some (some (.ref f14)))
    (l14 : K.lookup f14 = some ⟨oc14, od14, .func (PySem.W.fnOf "_law_table" "_law_table" (defArgs s_L_table) (defBody s_L_table) (defScope s_L_table) .none kV14 dc14 pm14 an14 cd14 ct14), sl14⟩)
    (c14 : PySem.W.codeIn K cd14 "_law_table" = true)
    (k14 : PySem.W.keepIn K (.ref f14) = true)
    (a15 : PySem.W.nsIn K mainGlobals "_law_sums" = some (some (.ref f15)))
    (l15 : K.lookup f15 = some ⟨oc15, od15, .func (PySem.W.fnOf "_law_sums" "_law_sums" (defArgs s_L_sums) (defBody s_L_sums) (defScope s_L_sums) .none kV15 dc15 pm15 an15 cd15 ct15), sl15⟩)
    (c15 : PySem.W.codeIn K cd15 "_law_sums" = true)
    (k15 : PySem.W.keepIn K (.ref f15) = true)
    (a16 : PySem.W.nsIn K mainGlobals "_law_numbers" = some (some (.ref f16)))
    (l16 : K.lookup f16 = some ⟨oc16, od16, .func (PySem.W.fnOf "_law_numbers" "_law_numbers" (defArgs s_L_numbers) (defBody s_L_numbers) (defScope s_L_numbers) .none kV16 dc16 pm16 an16 cd16 ct16), sl16⟩)
    (c16 : PySem.W.codeIn K cd16 "_law_numbers" = true)
    (k16 : PySem.W.keepIn K (.ref f16) = true)
    (a17 : PySem.W.nsIn K mainGlobals "_law_none" = some (some (.ref f17)))
    (l17 : K.lookup f17 = some ⟨oc17, od17, .func (PySem.W.fnOf "_law_none" "_law_none" (defArgs s_L_none) (defBody s_L_none) (defScope s_L_none) .none kV17 dc17 pm17 an17 cd17 ct17), sl17⟩)
    (c17 : PySem.W.codeIn K cd17 "_law_none" = true)
    (k17 : PySem.W.keepIn K (.ref f17) = true)
    (a18 : PySem.W.nsIn K mainGlobals "_law_wide_right" = some (some (.ref f18)))
    (l18 : K.lookup f18 = some ⟨oc18, od18, .func (PySem.W.fnOf "_law_wide_right" "_law_wide_right" (defArgs s_L_wide_right) (defBody s_L_wide_right) (defScope s_L_wide_right) .none kV18 dc18 pm18 an18 cd18 ct18), sl18⟩)
    (c18 : PySem.W.codeIn K cd18 "_law_wide_right" = true)
    (k18 : PySem.W.keepIn K (.ref f18) = true)
    (a19 : PySem.W.nsIn K mainGlobals "law" = some (some (.ref f19)))
    (l19 : K.lookup f19 = some ⟨oc19, od19, .func (PySem.W.fnOf "law" "law" (defArgs s_law) (defBody s_law) (defScope s_law) .none kV19 dc19 pm19 an19 cd19 ct19), sl19⟩)
    (c19 : PySem.W.codeIn K cd19 "law" = true)
    (k19 : PySem.W.keepIn K (.ref f19) = true)
    (z_isinstance : PySem.W.nsIn K mainGlobals "isinstance" = some none)
    (z_int : PySem.W.nsIn K mainGlobals "int" = some none)
    (z_bool : PySem.W.nsIn K mainGlobals "bool" = some none)
    (z_str : PySem.W.nsIn K mainGlobals "str" = some none)
    (z_len : PySem.W.nsIn K mainGlobals "len" = some none)
    (z_all : PySem.W.nsIn K mainGlobals "all" = some none)
    (z_list : PySem.W.nsIn K mainGlobals "list" = some none)
    (z_enumerate : PySem.W.nsIn K mainGlobals "enumerate" = some none)
    (z_range : PySem.W.nsIn K mainGlobals "range" = some none)
    (z_sum : PySem.W.nsIn K mainGlobals "sum" = some none)
    (z_zip : PySem.W.nsIn K mainGlobals "zip" = some none)
    (z_any : PySem.W.nsIn K mainGlobals "any" = some none)
    (v_MOST : PySem.W.nsIn K mainGlobals "MOST" = some (some (.int 100 k_MOST)))
    (hnn : PySem.W.specialIn K (.builtin "object.__class__") "__get__" = some (some (.builtin "getset_descriptor.__get__")))
    (htk : PySem.W.takesIn K (.builtin "object.__class__") = some true)
    (g_SignError : PySem.W.nsIn K mainGlobals "SignError" = some (some (.ref C_SignError)))
    (g_BadNumbers : PySem.W.nsIn K mainGlobals "BadNumbers" = some (some (.ref C_BadNumbers)))
    (g_BadParts : PySem.W.nsIn K mainGlobals "BadParts" = some (some (.ref C_BadParts)))
    (g_BadPlace : PySem.W.nsIn K mainGlobals "BadPlace" = some (some (.ref C_BadPlace)))
    (g_BadSigns : PySem.W.nsIn K mainGlobals "BadSigns" = some (some (.ref C_BadSigns)))
    (g_BadTable : PySem.W.nsIn K mainGlobals "BadTable" = some (some (.ref C_BadTable)))
    (g_TooGreat : PySem.W.nsIn K mainGlobals "TooGreat" = some (some (.ref C_TooGreat)))
    (g_NoNumbers : PySem.W.nsIn K mainGlobals "NoNumbers" = some (some (.ref C_NoNumbers)))
    (x_NoNumbers : PySem.W.excIn K C_NoNumbers [.type "ValueError", .type "Exception", .type "BaseException", .type "object"] "ValueError.__new__" = true)
    (k_NoNumbers : PySem.W.keepIn K (.ref C_NoNumbers) = true)
    (eb_NoNumbers : PySem.W.subIn K (.ref C_NoNumbers) (.type "BaseException") = some true)
    (et_NoNumbers : PySem.W.typeIn K (.ref C_NoNumbers) = some (.type "type"))
    (eg_NoNumbers : PySem.W.findIn K (.ref C_NoNumbers) "__getattribute__" = some (some (.builtin "BaseException.__getattribute__")))
    (eq_NoNumbers : PySem.W.findIn K (.ref C_NoNumbers) "__getattr__" = some none)
    (eh_NoNumbers : PySem.W.hasDictIn K C_NoNumbers = true)
    (ea_NoNumbers : PySem.W.findIn K (.ref C_NoNumbers) "__class__" = some (some (.builtin "object.__class__")))
    (eo_NoNumbers : PySem.W.mroIn K C_NoNumbers (.type "object") = some true)
    (ek_NoNumbers_BadNumbers : PySem.W.kitOne K (.ref C_NoNumbers) (.ref C_BadNumbers) = some false)
    (ek_NoNumbers_BadParts : PySem.W.kitOne K (.ref C_NoNumbers) (.ref C_BadParts) = some false)
    (ek_NoNumbers_BadPlace : PySem.W.kitOne K (.ref C_NoNumbers) (.ref C_BadPlace) = some false)
    (ek_NoNumbers_BadSigns : PySem.W.kitOne K (.ref C_NoNumbers) (.ref C_BadSigns) = some false)
    (ek_NoNumbers_BadTable : PySem.W.kitOne K (.ref C_NoNumbers) (.ref C_BadTable) = some false)
    (ek_NoNumbers_TooGreat : PySem.W.kitOne K (.ref C_NoNumbers) (.ref C_TooGreat) = some false)
    (ek_NoNumbers_NoNumbers : PySem.W.kitOne K (.ref C_NoNumbers) (.ref C_NoNumbers) = some true)
    (ms_NoNumbers_SignError : PySem.W.subIn K (.ref C_NoNumbers) (.ref C_SignError) = some true)
    (mb_NoNumbers_SignError : PySem.W.subIn K (.ref C_SignError) (.type "BaseException") = some true)
    (mh_NoNumbers_SignError : PySem.W.hasDictIn K C_SignError = true)
    (mt_NoNumbers_SignError : PySem.W.typeIn K (.ref C_SignError) = some (.type "type")) :
    ∃ fd : FuncData, (∀ (s : Shared) (v : Value), BindsTo s fd ⟨[v], []⟩ [("_law_script", v)]) ∧ ∀ base : Heap, K.In base → base.Ns mainGlobals mg → FnOk l.prog w K mg base CX0 7 fa fd ["_law_script"] (sp_law K) := by
  have e := hfa.symm.trans (PySem.W.mg_of X G a19)
  cases e
  have F0 := fun_mk (st := s_is_number) l0 c0 k0
  have b0 := F0.binds (ps := ["thing"]) fun _ _ _ _ _ _ us hl => match us, hl with | [_], _ => rfl
  have F1 := fun_mk (st := s_is_row) l1 c1 k1
  have b1 := F1.binds (ps := ["thing", "size"]) fun _ _ _ _ _ _ us hl => match us, hl with | [_, _], _ => rfl
  have F2 := fun_mk (st := s_asked_table) l2 c2 k2
  have b2 := F2.binds (ps := ["table"]) fun _ _ _ _ _ _ us hl => match us, hl with | [_], _ => rfl
  have F3 := fun_mk (st := s_alike) l3 c3 k3
  have b3 := F3.binds (ps := ["one", "other"]) fun _ _ _ _ _ _ us hl => match us, hl with | [_, _], _ => rfl
  have F4 := fun_mk (st := s_first_unlike) l4 c4 k4
  have b4 := F4.binds (ps := ["table"]) fun _ _ _ _ _ _ us hl => match us, hl with | [_], _ => rfl
  have F5 := fun_mk (st := s_asked_half) l5 c5 k5
  have b5 := F5.binds (ps := ["table"]) fun _ _ _ _ _ _ us hl => match us, hl with | [_], _ => rfl
  have F6 := fun_mk (st := s_asked_numbers) l6 c6 k6
  have b6 := F6.binds (ps := ["table", "numbers"]) fun _ _ _ _ _ _ us hl => match us, hl with | [_, _], _ => rfl
  have F7 := fun_mk (st := s_signed_sum) l7 c7 k7
  have b7 := F7.binds (ps := ["row", "numbers"]) fun _ _ _ _ _ _ us hl => match us, hl with | [_, _], _ => rfl
  have F8 := fun_mk (st := s_worths) l8 c8 k8
  have b8 := F8.binds (ps := ["table", "numbers"]) fun _ _ _ _ _ _ us hl => match us, hl with | [_, _], _ => rfl
  have F9 := fun_mk (st := s_numbers_of) l9 c9 k9
  have b9 := F9.binds (ps := ["table", "told_worths"]) fun _ _ _ _ _ _ us hl => match us, hl with | [_, _], _ => rfl
  have F10 := fun_mk (st := s_L_number) l10 c10 k10
  have b10 := F10.binds (ps := ["_law_cell", "_law_at", "_law_whole"]) fun _ _ _ _ _ _ us hl => match us, hl with | [_, _, _], _ => rfl
  have F11 := fun_mk (st := s_L_other) l11 c11 k11
  have b11 := F11.binds (ps := ["_law_row"]) fun _ _ _ _ _ _ us hl => match us, hl with | [_], _ => rfl
  have F12 := fun_mk (st := s_L_doubled) l12 c12 k12
  have b12 := F12.binds (ps := ["_law_table_here"]) fun _ _ _ _ _ _ us hl => match us, hl with | [_], _ => rfl
  have F13 := fun_mk (st := s_L_prime_table) l13 c13 k13
  have b13 := F13.binds (ps := ["_law_prime"]) fun _ _ _ _ _ _ us hl => match us, hl with | [_], _ => rfl
  have F14 := fun_mk (st := s_L_table) l14 c14 k14
  have b14 := F14.binds (ps := ["_law_script"]) fun _ _ _ _ _ _ us hl => match us, hl with | [_], _ => rfl
  have F15 := fun_mk (st := s_L_sums) l15 c15 k15
  have b15 := F15.binds (ps := ["_law_rows", "_law_numbers_here"]) fun _ _ _ _ _ _ us hl => match us, hl with | [_, _], _ => rfl
  have F16 := fun_mk (st := s_L_numbers) l16 c16 k16
  have b16 := F16.binds (ps := ["_law_found"]) fun _ _ _ _ _ _ us hl => match us, hl with | [_], _ => rfl
  have F17 := fun_mk (st := s_L_none) l17 c17 k17
  have b17 := F17.binds (ps := ["_law_table_here", "_law_some"]) fun _ _ _ _ _ _ us hl => match us, hl with | [_, _], _ => rfl
  have F18 := fun_mk (st := s_L_wide_right) l18 c18 k18
  have b18 := F18.binds (ps := ["_law_cells", "_law_whole"]) fun _ _ _ _ _ _ us hl => match us, hl with | [_, _], _ => rfl
  have F19 := fun_mk (st := s_law) l19 c19 k19
  have b19 := F19.binds (ps := ["_law_script"]) fun _ _ _ _ _ _ us hl => match us, hl with | [_], _ => rfl
  let T : Txt K mg := { a_is_number := f0, d_is_number := _, F_is_number := F0, b_is_number := b0, g_is_number := PySem.W.mg_of X G a0, a_is_row := f1, d_is_row := _, F_is_row := F1, b_is_row := b1, g_is_row := PySem.W.mg_of X G a1, a_asked_table := f2, d_asked_table := _, F_asked_table := F2, b_asked_table := b2, g_asked_table := PySem.W.mg_of X G a2, a_alike := f3, d_alike := _, F_alike := F3, b_alike := b3, g_alike := PySem.W.mg_of X G a3, a_first_unlike := f4, d_first_unlike := _, F_first_unlike := F4, b_first_unlike := b4, g_first_unlike := PySem.W.mg_of X G a4, a_asked_half := f5, d_asked_half := _, F_asked_half := F5, b_asked_half := b5, g_asked_half := PySem.W.mg_of X G a5, a_asked_numbers := f6, d_asked_numbers := _, F_asked_numbers := F6, b_asked_numbers := b6, g_asked_numbers := PySem.W.mg_of X G a6, a_signed_sum := f7, d_signed_sum := _, F_signed_sum := F7, b_signed_sum := b7, g_signed_sum := PySem.W.mg_of X G a7, a_worths := f8, d_worths := _, F_worths := F8, b_worths := b8, g_worths := PySem.W.mg_of X G a8, a_numbers_of := f9, d_numbers_of := _, F_numbers_of := F9, b_numbers_of := b9, g_numbers_of := PySem.W.mg_of X G a9, a_L_number := f10, d_L_number := _, F_L_number := F10, b_L_number := b10, g_L_number := PySem.W.mg_of X G a10, a_L_other := f11, d_L_other := _, F_L_other := F11, b_L_other := b11, g_L_other := PySem.W.mg_of X G a11, a_L_doubled := f12, d_L_doubled := _, F_L_doubled := F12, b_L_doubled := b12, g_L_doubled := PySem.W.mg_of X G a12, a_L_prime_table := f13, d_L_prime_table := _, F_L_prime_table := F13, b_L_prime_table := b13, g_L_prime_table := PySem.W.mg_of X G a13, a_L_table := f14, d_L_table := _, F_L_table := F14, b_L_table := b14, g_L_table := PySem.W.mg_of X G a14, a_L_sums := f15, d_L_sums := _, F_L_sums := F15, b_L_sums := b15, g_L_sums := PySem.W.mg_of X G a15, a_L_numbers := f16, d_L_numbers := _, F_L_numbers := F16, b_L_numbers := b16, g_L_numbers := PySem.W.mg_of X G a16, a_L_none := f17, d_L_none := _, F_L_none := F17, b_L_none := b17, g_L_none := PySem.W.mg_of X G a17, a_L_wide_right := f18, d_L_wide_right := _, F_L_wide_right := F18, b_L_wide_right := b18, g_L_wide_right := PySem.W.mg_of X G a18, a_law := fa, d_law := _, F_law := F19, b_law := b19, g_law := PySem.W.mg_of X G a19, m_isinstance := PySem.W.mg_none_of X G z_isinstance, m_int := PySem.W.mg_none_of X G z_int, m_bool := PySem.W.mg_none_of X G z_bool, m_str := PySem.W.mg_none_of X G z_str, m_len := PySem.W.mg_none_of X G z_len, m_all := PySem.W.mg_none_of X G z_all, m_list := PySem.W.mg_none_of X G z_list, m_enumerate := PySem.W.mg_none_of X G z_enumerate, m_range := PySem.W.mg_none_of X G z_range, m_sum := PySem.W.mg_none_of X G z_sum, m_zip := PySem.W.mg_none_of X G z_zip, m_any := PySem.W.mg_none_of X G z_any, k_MOST := k_MOST, g_MOST := PySem.W.mg_of X G v_MOST, C_SignError := C_SignError, g_SignError := PySem.W.mg_of X G g_SignError, C_BadNumbers := C_BadNumbers, g_BadNumbers := PySem.W.mg_of X G g_BadNumbers, C_BadParts := C_BadParts, g_BadParts := PySem.W.mg_of X G g_BadParts, C_BadPlace := C_BadPlace, g_BadPlace := PySem.W.mg_of X G g_BadPlace, C_BadSigns := C_BadSigns, g_BadSigns := PySem.W.mg_of X G g_BadSigns, C_BadTable := C_BadTable, g_BadTable := PySem.W.mg_of X G g_BadTable, C_TooGreat := C_TooGreat, g_TooGreat := PySem.W.mg_of X G g_TooGreat, C_NoNumbers := C_NoNumbers, g_NoNumbers := PySem.W.mg_of X G g_NoNumbers, x_NoNumbers := x_NoNumbers, k_NoNumbers := k_NoNumbers, eb_NoNumbers := eb_NoNumbers, et_NoNumbers := et_NoNumbers, ec_NoNumbers := ⟨eg_NoNumbers, eq_NoNumbers, eb_NoNumbers, eh_NoNumbers, ea_NoNumbers, hnn, htk, eo_NoNumbers⟩, ek_NoNumbers_BadNumbers := ek_NoNumbers_BadNumbers, ek_NoNumbers_BadParts := ek_NoNumbers_BadParts, ek_NoNumbers_BadPlace := ek_NoNumbers_BadPlace, ek_NoNumbers_BadSigns := ek_NoNumbers_BadSigns, ek_NoNumbers_BadTable := ek_NoNumbers_BadTable, ek_NoNumbers_TooGreat := ek_NoNumbers_TooGreat, ek_NoNumbers_NoNumbers := ek_NoNumbers_NoNumbers, em_NoNumbers_SignError := PySem.W.exm_ref mb_NoNumbers_SignError mh_NoNumbers_SignError mt_NoNumbers_SignError ms_NoNumbers_SignError }
  exact ⟨_, fun s v => .of_eq rfl, fun base _ _ => ok_law (P := l.prog) (w := w) (base := base) T⟩
end
end HA

end
open PySem PySem.W PyProof.Rows
set_option maxRecDepth 100000 in
set_option maxHeartbeats 0 in
theorem PySem.Challenge.cw_halfalike_k04_whole_worths_holds : PySem.Challenge.rw_halfalike_k04_whole_worths.Holds := by
  w_on; o_law; k_head; (case hw => w_witness2)
  k_fill
  refine L2.walk_ofB (l := PySem.Challenge.rw_halfalike_k04_whole_worths) (n := 63) (k := 7) (x := "_law_script") (CX := fun _ => L2.CX0) (sp := fun w => HA.sp_law _) rfl (by decide) rfl ⟨rfl, by decide, by decide⟩ (fun w h Y => PySem.W.kIn_of Y) ?F (fun _ _ a ns hl hb _ hS => ⟨a, ns, rfl, hS, hl, hb, fun _ => rfl⟩) (fun _ _ _ _ _ h => h)
  case F =>
    intro w mg fa h KX G hmg
    refine' HA.all_mk KX G hmg ?a0 ?l0 ?c0 ?k0 ?a1 ?l1 ?c1 ?k1 ?a2 ?l2 ?c2 ?k2 ?a3 ?l3 ?c3 ?k3 ?a4 ?l4 ?c4 ?k4 ?a5 ?l5 ?c5 ?k5 ?a6 ?l6 ?c6 ?k6 ?a7 ?l7 ?c7 ?k7 ?a8 ?l8 ?c8 ?k8 ?a9 ?l9 ?c9 ?k9 ?a10 ?l10 ?c10 ?k10 ?a11 ?l11 ?c11 ?k11 ?a12 ?l12 ?c12 ?k12 ?a13 ?l13 ?c13 ?k13 ?a14 ?l14 ?c14 ?k14 ?a15 ?l15 ?c15 ?k15 ?a16 ?l16 ?c16 ?k16 ?a17 ?l17 ?c17 ?k17 ?a18 ?l18 ?c18 ?k18 ?a19 ?l19 ?c19 ?k19 ?z_isinstance ?z_int ?z_bool ?z_str ?z_len ?z_all ?z_list ?z_enumerate ?z_range ?z_sum ?z_zip ?z_any ?v_MOST ?hnn ?htk ?g_SignError ?g_BadNumbers ?g_BadParts ?g_BadPlace ?g_BadSigns ?g_BadTable ?g_TooGreat ?g_NoNumbers ?x_NoNumbers ?k_NoNumbers ?eb_NoNumbers ?et_NoNumbers ?eg_NoNumbers ?eq_NoNumbers ?eh_NoNumbers ?ea_NoNumbers ?eo_NoNumbers ?ek_NoNumbers_BadNumbers ?ek_NoNumbers_BadParts ?ek_NoNumbers_BadPlace ?ek_NoNumbers_BadSigns ?ek_NoNumbers_BadTable ?ek_NoNumbers_TooGreat ?ek_NoNumbers_NoNumbers ?ms_NoNumbers_SignError ?mb_NoNumbers_SignError ?mh_NoNumbers_SignError ?mt_NoNumbers_SignError
    (case a0 => k_is)
    (case l0 => k_is)
    (case c0 => k_is)
    (case k0 => k_is)
    (case a1 => k_is)
    (case l1 => k_is)
    (case c1 => k_is)
    (case k1 => k_is)
    (case a2 => k_is)
    (case l2 => k_is)
    (case c2 => k_is)
    (case k2 => k_is)
    (case a3 => k_is)
    (case l3 => k_is)
    (case c3 => k_is)
    (case k3 => k_is)
    (case a4 => k_is)
    (case l4 => k_is)
    (case c4 => k_is)
    (case k4 => k_is)
    (case a5 => k_is)
    (case l5 => k_is)
    (case c5 => k_is)
    (case k5 => k_is)
    (case a6 => k_is)
    (case l6 => k_is)
    (case c6 => k_is)
    (case k6 => k_is)
    (case a7 => k_is)
    (case l7 => k_is)
    (case c7 => k_is)
    (case k7 => k_is)
    (case a8 => k_is)
    (case l8 => k_is)
    (case c8 => k_is)
    (case k8 => k_is)
    (case a9 => k_is)
    (case l9 => k_is)
    (case c9 => k_is)
    (case k9 => k_is)
    (case a10 => k_is)
    (case l10 => k_is)
    (case c10 => k_is)
    (case k10 => k_is)
    (case a11 => k_is)
    (case l11 => k_is)
    (case c11 => k_is)
    (case k11 => k_is)
    (case a12 => k_is)
    (case l12 => k_is)
    (case c12 => k_is)
    (case k12 => k_is)
    (case a13 => k_is)
    (case l13 => k_is)
    (case c13 => k_is)
    (case k13 => k_is)
    (case a14 => k_is)
    (case l14 => k_is)
    (case c14 => k_is)
    (case k14 => k_is)
    (case a15 => k_is)
    (case l15 => k_is)
    (case c15 => k_is)
    (case k15 => k_is)
    (case a16 => k_is)
    (case l16 => k_is)
    (case c16 => k_is)
    (case k16 => k_is)
    (case a17 => k_is)
    (case l17 => k_is)
    (case c17 => k_is)
    (case k17 => k_is)
    (case a18 => k_is)
    (case l18 => k_is)
    (case c18 => k_is)
    (case k18 => k_is)
    (case a19 => k_is)
    (case l19 => k_is)
    (case c19 => k_is)
    (case k19 => k_is)
    (case z_isinstance => k_is)
    (case z_int => k_is)
    (case z_bool => k_is)
    (case z_str => k_is)
    (case z_len => k_is)
    (case z_all => k_is)
    (case z_list => k_is)
    (case z_enumerate => k_is)
    (case z_range => k_is)
    (case z_sum => k_is)
    (case z_zip => k_is)
    (case z_any => k_is)
    (case v_MOST => k_is)
    (case hnn => k_is)
    (case htk => k_is)
    (case g_SignError => k_is)
    (case g_BadNumbers => k_is)
    (case g_BadParts => k_is)
    (case g_BadPlace => k_is)
    (case g_BadSigns => k_is)
    (case g_BadTable => k_is)
    (case g_TooGreat => k_is)
    (case g_NoNumbers => k_is)
    (case x_NoNumbers => k_exc)
    (case k_NoNumbers => k_is)
    (case eb_NoNumbers => k_is)
    (case et_NoNumbers => k_is)
    (case eg_NoNumbers => k_is)
    (case eq_NoNumbers => k_is)
    (case eh_NoNumbers => k_is)
    (case ea_NoNumbers => k_is)
    (case eo_NoNumbers => k_is)
    (case ek_NoNumbers_BadNumbers => kit_is)
    (case ek_NoNumbers_BadParts => kit_is)
    (case ek_NoNumbers_BadPlace => kit_is)
    (case ek_NoNumbers_BadSigns => kit_is)
    (case ek_NoNumbers_BadTable => kit_is)
    (case ek_NoNumbers_TooGreat => kit_is)
    (case ek_NoNumbers_NoNumbers => kit_is)
    (case ms_NoNumbers_SignError => k_is)
    (case mb_NoNumbers_SignError => k_is)
    (case mh_NoNumbers_SignError => k_is)
    (case mt_NoNumbers_SignError => k_is)
