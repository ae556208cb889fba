import PyProof.Rows.All
import Wide.All
import OpenK.AllK
import Wide.FinOn
import HandS.ForMost
import HandS.ForExc
import HandS.Evl
import HandS.Wide
import HandS.IsInst
import HandS.StrMore
import HandS.Style
import HandS.Walk
import HandS.Deep
import HandS.EndBits
import HandS.More
import HandS.ExcIs
import HandS.HotCalls
import KE.GoesNew
import KE.GoesEnum
import KE.RegKIsAll
import PySem.Challenge.RW_halfalike_k02_whole_made
set_option Elab.async false
set_option linter.all false
section
set_option maxRecDepth 100000
set_option maxHeartbeats 4000000
/-! Own rules over the hand layer: enumerate and zip over texts, chains of three comparisons, text * int, great products, an instance without __init__. -/
namespace HA
open PySem PySem.Spec PyProof.Rows L2

/-! ### either of two readings -/
theorem pe_either {X : Cx} {e : Expr} {t u : TE} (h : PE X e t) (k : PE X e u) : PE X e (fun σ H Q => t σ H Q ∨ u σ H Q) :=
  ⟨fun pins s σ H Q I z => z.elim (h.run pins s σ H Q I) (k.run pins s σ H Q I)⟩

/-! ### great products -/
def CMulB (i j : Int) : Prop := i.natAbs.log2 + j.natAbs.log2 < 134217000
theorem CMulB.ok {i j : Int} (h : CMulB i j) : IntMulOk i j := by
  have b : ∀ x : Int, Builtin.Int.intBits x ≤ x.natAbs.log2 + 1 := fun x => by
    unfold Builtin.Int.intBits
    split <;> omega
  have h1 := b i
  have h2 := b j
  have h3 : i.natAbs.log2 + j.natAbs.log2 < 134217000 := h
  have e : bitsLine = 134217728 := by decide
  unfold IntMulOk
  intro z
  rw [Bool.and_eq_true] at z
  have z2 := z.2
  unfold Builtin.Int.intTooBig at z2
  have z3 := of_decide_eq_true z2
  rw [e] at z3
  omega
theorem op_mulB {X : Cx} : OpR X (binaryOp .Mult) (rI CMulB fun i j => .int (i * j)) := opI fun _ _ _ _ _ _ _ hc q => mul_int q hc.ok

/-! ### iterators of new pairs, from WalksT -/
theorem turn_wt {P : Program} {w : World} {K : PySem.W.Frag} {elts : List Expr} {kk : Nat} {tpos : Pos} {J : It} {fp : List Addr} {it : Addr} {tn : Nat → Heap → Prop} (mem : it ∈ fp)
    (obj : ∀ i h, tn i h → ∀ b ∈ fp, ∃ o, h.get? b = some o ∧ ∀ v, o.data ≠ .cell v)
    (keep : ∀ i h h', tn i h → (∀ b ∈ fp, ∀ o, h.get? b = some o → h'.get? b = some o) → tn i h')
    (self : ∀ (A : Around) (i : Nat) (s : Shared) (Q : Value → Shared → Prop) (E : Value → Shared → Prop), tn i s.heap → Q (.ref it) s → wpAny (model P w) A (pyIter (.ref it)) Q E s)
    (go : ∀ (X : Cx), X.prog = P → X.w = w → X.K = K → X.calm = true → ∀ (i : Nat) (pins : List (Addr × Obj)) (s : Shared) (σ : L2.St) (H : Hp), Inv X pins σ H s → tn i s.heap → J.go i H →
      ∃ (fpW wr : List Addr) (n : Nat) (Pt : Nat → Array Value → Prop) (St : Nat → Heap → Prop) (Mid : Nat → Addr → Heap → Prop), WalksT P w X.A it fpW wr n Pt St Mid ∧ (∀ b ∈ wr, b ∈ fp) ∧ i < n ∧ St i s.heap ∧ (∀ h, St (i + 1) h → tn (i + 1) h) ∧
        ∀ vals, Pt i vals → ∃ u1 u2 x1 x2, vals = #[u1, u2] ∧ RelV x1 u1 ∧ RelV x2 u2 ∧ ∀ T, H T = none → J.yld i H (.ref T) (upd H T (.tup [x1, x2])))
    (stop : ∀ (X : Cx), X.prog = P → X.w = w → X.K = K → X.calm = true → ∀ (i : Nat) (pins : List (Addr × Obj)) (s : Shared) (σ : L2.St) (H : Hp), Inv X pins σ H s → tn i s.heap → J.stop i H →
      ∃ (fpW wr : List Addr) (Pt : Nat → Array Value → Prop) (St : Nat → Heap → Prop) (Mid : Nat → Addr → Heap → Prop), WalksT P w X.A it fpW wr i Pt St Mid ∧ (∀ b ∈ wr, b ∈ fp) ∧ St i s.heap) :
    Turn P w K (.Tuple elts kk tpos) J fp it tn where
  mem := mem
  obj := obj
  keep := keep
  item := by
    intro X hP hw hK hc i pins s σ H E I hf st hg
    obtain ⟨fpW, wr, n, Pt, St, Mid, W, sub, hi, hst, nx, hP2⟩ := go X hP hw hK hc i pins s σ H I st hg
    have lt : ∀ b ∈ fp, b < s.heap.objs.size := fun b hb => by
      obtain ⟨o, e, _⟩ := obj i _ st b hb
      exact Heap.lt_size e
    refine W.item i s _ _ hi hst fun T vals h' tk hPt hT hTup hMid hk => ?_
    refine ⟨.ref T, rfl, W.go elts kk tpos i T { s with heap := h', toks := tk } _ _ hMid fun h2 hst2 hk2 => ?_⟩
    obtain ⟨u1, u2, x1, x2, ev, r1, r2, hy⟩ := hP2 vals hPt
    subst ev
    have hTup2 : h2.IsTuple T #[u1, u2] := hTup.at fun o e => hk2 T o (W.apart i T h' hMid) e
    have new : ObjOk X.prog X.w (upd H T (.tup [x1, x2])) h2 T (.tup [x1, x2]) :=
      ⟨by show 2 ≤ sizeLine; decide, [u1, u2], .cons r1 (.cons r2 .nil), hTup2⟩
    have I1 : Inv X pins σ (upd H T (.tup [x1, x2])) { s with heap := h2, toks := tk } :=
      I.turnedNew (ch := fp) (fun b o hb q => hk2 b o (fun z => hb (sub b z)) (hk b o (fun z => hb (sub b z)) q)) hf hT new
    refine ⟨.ref T, _, I1, rfl, hy T (I.hok.fresh hT), nx _ hst2, fun b hb => ?_⟩
    rw [upd_ne (Nat.ne_of_lt (Nat.lt_of_lt_of_le (lt b hb) hT))]
    exact (hf b hb).1
  done := by
    intro X hP hw hK hc i pins s σ H E I hf st hg
    obtain ⟨fpW, wr, Pt, St, Mid, W, sub, hst⟩ := stop X hP hw hK hc i pins s σ H I st hg
    exact W.done s _ _ hst fun h' tk hk => ⟨rfl, I.turnedL (ch := fp) (fun b o hb q => hk b o (fun z => hb (sub b z)) q) hf⟩
  self := self

/-! ### enumerate(text) -/
def ItES (x : Str) : It := ⟨fun i _ => i < x.cps.size, fun i H v H' => ∃ T c, v = .ref T ∧ H T = none ∧ H' = upd H T (.tup [.int (i : Nat), .str ⟨#[c]⟩]) ∧ x.cps[i]? = some c, fun i _ => i = x.cps.size⟩
theorem turn_enumS {P : Program} {w : World} {K : PySem.W.Frag} {elts : List Expr} {kk : Nat} {tpos : Pos} (e it : Addr) (hei : e ≠ it) (x : Str) (t : Tok) :
    Turn P w K (.Tuple elts kk tpos) (ItES x) [e, it] e (fun i h => (∃ old, IsEnum h e it (0 + (i : Int)) old) ∧ h.IsStrIter it (strIterType x) x t i) := by
  have hef : e ∉ [it] := by simpa using hei
  refine turn_wt (by simp) (fun i h st b hb => ?_) (fun i h h' st k => ?_) (fun A i s Q E st h => ?_) (fun X hP hw hK hc i pins s σ H I st hg => ?_) (fun X hP hw hK hc i pins s σ H I st hg => ?_)
  · obtain ⟨⟨old, he⟩, ⟨o, ho, hc, hd⟩⟩ := st
    have e' : b = e ∨ b = it := by simpa using hb
    rcases e' with z | z
    · rw [z]; exact ⟨_, he, fun v q => nomatch q⟩
    · rw [z]; exact ⟨o, ho, fun v q => by rw [hd] at q; cases q⟩
  · obtain ⟨⟨old, he⟩, ⟨o, ho, r⟩⟩ := st
    exact ⟨⟨old, k e (by simp) _ he⟩, ⟨o, k it (by simp) o ho, r⟩⟩
  · obtain ⟨⟨_, he⟩, _⟩ := st
    exact wpAny_pyIter_enum he h
  · subst hP hw
    refine ⟨_, _, _, _, _, _, WalksT.enumFrom 0 (Draws.text (A := X.A.in1) (I.ok.hd hc) it x t) e hei hef (by simp), fun b hb => hb, hg, st, fun h q => q, fun vals hp => ?_⟩
    obtain ⟨t', xv, ⟨c, u, hcx, hxv⟩, hv⟩ := hp
    subst hxv
    refine ⟨_, _, .int (i : Nat), .str ⟨#[c]⟩, hv, ⟨t', ?_⟩, ⟨u, rfl⟩, fun T hT => ⟨T, c, rfl, hT, rfl, hcx⟩⟩
    rw [Int.zero_add]
  · subst hP hw
    have hg' : i = x.cps.size := hg
    subst hg'
    exact ⟨_, _, _, _, _, WalksT.enumFrom 0 (Draws.text (A := X.A.in1) (I.ok.hd hc) it x t) e hei hef (by simp), fun b hb => hb, st⟩
def iEnumS (ta : TA) : TI := fun σ H R => ta σ H fun vs H1 => ∃ x, vs = [.str x] ∧ R (ItES x) H1
theorem pi_enumS {X : Cx} {e : Expr} {ta : TA} {p pos tpos : Pos} {elts : List Expr} {kk : Nat} (hg : Gl X "enumerate") (hm : X.mg "enumerate" = none) (ha : PA X [e] ta) (hs : starEach [e] X.env = [(false, eval e X.env)] := by rfl) :
    PI X (.Tuple elts kk tpos) (.Call (.Name "enumerate" p) [e] [] pos) (iEnumS ta) := by
  refine ⟨fun pins s σ H R I h => ?_⟩
  refine Call_ (ld_blt I hg hm boot_enumerate (PyProof.Rows.callWith_type1 (thn (ha.run pos pins s σ H _ I h) fun us s1 ⟨vs, H1, I1, r1, q1⟩ => ?_) hs rfl))
  obtain ⟨x, ex, q⟩ := q1
  subst ex
  cases r1 with
  | cons r rr =>
    cases rr
    obtain ⟨t, rfl⟩ := r
    refine call_enumerate_str fun h' he hit hsz hk => wpAny_pyIter_enum he ?_
    have I2 : Inv X pins σ H1 { s1 with heap := h' } := I1.kept (t' := s1.toks) hk
    refine ⟨s1.heap.objs.size + 1, [s1.heap.objs.size + 1, s1.heap.objs.size], _, _, H1, rfl, I2, turn_enumS _ _ (Nat.ne_of_gt (Nat.lt_succ_self _)) x t, ⟨⟨_, he⟩, hit⟩, fun c hcm => ?_, q⟩
    have e' : c = s1.heap.objs.size + 1 ∨ c = s1.heap.objs.size := by simpa using hcm
    have hle : s1.heap.objs.size ≤ c := by
      rcases e' with z | z
      · rw [z]; exact Nat.le_succ _
      · rw [z]; exact Nat.le_refl _
    exact I1.fpOk hle (I1.hok.fresh hle)
theorem walk_enumS {x : Str} : Walk (ItES x) x.cps.size (fun _ => True) (YPair (fun i => some (.int (i : Nat))) (fun i => (x.cps[i]?).map fun c => V.str ⟨#[c]⟩)) := by
  refine ⟨fun i _ hi _ => hi, fun _ _ => rfl, fun i H v H' _ _ y => ?_⟩
  obtain ⟨T, c, h1, h2, h3, h4⟩ := y
  exact ⟨T, _, _, h1, h2, h3, rfl, by simp [h4]⟩

/-! ### zip(text, text), zip(text, list) -/
def ItzSS (x y : Str) : It := ⟨fun i _ => i < min x.cps.size y.cps.size, fun i H v H' => ∃ T c d, v = .ref T ∧ H T = none ∧ H' = upd H T (.tup [.str ⟨#[c]⟩, .str ⟨#[d]⟩]) ∧ x.cps[i]? = some c ∧ y.cps[i]? = some d, fun i _ => i = min x.cps.size y.cps.size⟩
def ItzSL (K : PySem.W.Frag) (x : Str) (a : Addr) : It := ⟨fun i H => ∃ ys, SqL K H a ys ∧ i < min x.cps.size ys.length, fun i H v H' => ∃ T c d, v = .ref T ∧ H T = none ∧ H' = upd H T (.tup [.str ⟨#[c]⟩, d]) ∧ x.cps[i]? = some c ∧ ∀ ys, SqL K H a ys → ys[i]? = some d, fun i H => ∃ ys, SqL K H a ys ∧ i = min x.cps.size ys.length⟩
structure ZApart (z TI TO i1 i2 : Addr) : Prop where
  TIz : TI ≠ z
  TOz : TO ≠ z
  TITO : TI ≠ TO
  TIi1 : TI ≠ i1
  TIi2 : TI ≠ i2
  zi1 : z ≠ i1
  zi2 : z ≠ i2
  Ti1 : TO ≠ i1
  Ti2 : TO ≠ i2
  i12 : i1 ≠ i2
theorem zapart_new (n : Nat) : ZApart (n + 4) (n + 2) (n + 3) n (n + 1) :=
  ⟨show (n + 2 : Nat) ≠ n + 4 by omega, show (n + 3 : Nat) ≠ n + 4 by omega, show (n + 2 : Nat) ≠ n + 3 by omega, show (n + 2 : Nat) ≠ n by omega, show (n + 2 : Nat) ≠ n + 1 by omega,
    show (n + 4 : Nat) ≠ n by omega, show (n + 4 : Nat) ≠ n + 1 by omega, show (n + 3 : Nat) ≠ n by omega, show (n + 3 : Nat) ≠ n + 1 by omega, show (n : Nat) ≠ n + 1 by omega⟩
theorem ZApart.sep {z TI TO i1 i2 : Addr} (D : ZApart z TI TO i1 i2) : ZipSep2 z TI TO i1 i2 [i1] [i2] where
  TIz := D.TIz
  TOz := D.TOz
  TITO := D.TITO
  TIi1 := D.TIi1
  mem1 := by simp
  zf1 := by simpa using D.zi1
  Tf1 := by simpa using D.Ti1
  TIi2 := D.TIi2
  mem2 := by simp
  zf2 := by simpa using D.zi2
  Tf2 := by simpa using D.Ti2
  sep1_2 := by simpa using D.i12
  sep2_1 := by simpa using Ne.symm D.i12
theorem ZApart.sepL {z TI TO i1 i2 l : Addr} (D : ZApart z TI TO i1 i2) (h1 : z ≠ l) (h2 : TO ≠ l) (h3 : i1 ≠ l) : ZipSep2 z TI TO i1 i2 [i1] [i2, l] where
  TIz := D.TIz
  TOz := D.TOz
  TITO := D.TITO
  TIi1 := D.TIi1
  mem1 := by simp
  zf1 := by simpa using D.zi1
  Tf1 := by simpa using D.Ti1
  TIi2 := D.TIi2
  mem2 := by simp
  zf2 := by simp [D.zi2, h1]
  Tf2 := by simp [D.Ti2, h2]
  sep1_2 := by simp [D.i12, h3]
  sep2_1 := by simpa using Ne.symm D.i12
theorem in5 {z TI TO i1 i2 b : Addr} (h : b ∈ [z, TO, i1, i2]) : b ∈ [z, TI, TO, i1, i2] := by
  simp only [List.mem_cons, List.not_mem_nil, or_false] at h ⊢
  rcases h with h | h | h | h
  · exact .inl h
  · exact .inr (.inr (.inl h))
  · exact .inr (.inr (.inr (.inl h)))
  · exact .inr (.inr (.inr (.inr h)))
theorem turn_zipSS {P : Program} {w : World} {K : PySem.W.Frag} {elts : List Expr} {kk : Nat} {tpos : Pos} {z TI TO i1 i2 : Addr} (D : ZApart z TI TO i1 i2) (x y : Str) (t u : Tok) :
    Turn P w K (.Tuple elts kk tpos) (ItzSS x y) [z, TI, TO, i1, i2] z (fun i h => IsZip h z TI TO .none ∧ IsTupOf2 h TI (.ref i1) (.ref i2) ∧ (∃ a1 a2, IsTupOf2 h TO a1 a2) ∧ h.IsStrIter i1 (strIterType x) x t i ∧ h.IsStrIter i2 (strIterType y) y u i) := by
  refine turn_wt (by simp) (fun i h st c hc => ?_) (fun i h h' st k => ?_) (fun A i s Q E st h => ?_) (fun X hP hw hK hc i pins s σ H I st hg => ?_) (fun X hP hw hK hc i pins s σ H I st hg => ?_)
  · obtain ⟨hz, hTI, ⟨a1, a2, hTO⟩, ⟨o1, e1, _, d1⟩, ⟨o2, e2, _, d2⟩⟩ := st
    have e' : c = z ∨ c = TI ∨ c = TO ∨ c = i1 ∨ c = i2 := by simpa using hc
    rcases e' with q | q | q | q | q
    · rw [q]; exact ⟨_, hz, fun v q => nomatch q⟩
    · rw [q]; exact ⟨_, hTI, fun v q => nomatch q⟩
    · rw [q]; exact ⟨_, hTO, fun v q => nomatch q⟩
    · rw [q]; exact ⟨o1, e1, fun v q => by rw [d1] at q; cases q⟩
    · rw [q]; exact ⟨o2, e2, fun v q => by rw [d2] at q; cases q⟩
  · obtain ⟨hz, hTI, ⟨a1, a2, hTO⟩, ⟨o1, e1, r1⟩, ⟨o2, e2, r2⟩⟩ := st
    exact ⟨k z (by simp) _ hz, k TI (by simp) _ hTI, ⟨a1, a2, k TO (by simp) _ hTO⟩, ⟨o1, k i1 (by simp) _ e1, r1⟩, ⟨o2, k i2 (by simp) _ e2, r2⟩⟩
  · exact wpAny_pyIter_zip st.1 h
  · subst hP hw
    refine ⟨_, _, _, _, _, _, WalksT.zipD2 D.sep (Draws.text (A := X.A.in1) (I.ok.hd hc) i1 x t) (Draws.text (A := X.A.in1) (I.ok.hd hc) i2 y u), fun b hb => in5 hb, hg, st, fun h q => q, fun vals hp => ?_⟩
    obtain ⟨x1, x2, ⟨c, tc, hc1, rfl⟩, ⟨d, td, hd1, rfl⟩, hv⟩ := hp
    exact ⟨_, _, .str ⟨#[c]⟩, .str ⟨#[d]⟩, hv, ⟨tc, rfl⟩, ⟨td, rfl⟩, fun T hT => ⟨T, c, d, rfl, hT, rfl, hc1, hd1⟩⟩
  · subst hP hw
    have hg' : i = min x.cps.size y.cps.size := hg
    rw [hg'] at st ⊢
    exact ⟨_, _, _, _, _, WalksT.zipD2 D.sep (Draws.text (A := X.A.in1) (I.ok.hd hc) i1 x t) (Draws.text (A := X.A.in1) (I.ok.hd hc) i2 y u), fun b hb => in5 hb, st⟩
theorem turn_zipSL {P : Program} {w : World} {K : PySem.W.Frag} {elts : List Expr} {kk : Nat} {tpos : Pos} {z TI TO i1 i2 l : Addr} (D : ZApart z TI TO i1 i2) (h1 : z ≠ l) (h2 : TO ≠ l) (h3 : i1 ≠ l) (h4 : i2 ≠ l) (x : Str) (t : Tok) :
    Turn P w K (.Tuple elts kk tpos) (ItzSL K x l) [z, TI, TO, i1, i2] z (fun i h => IsZip h z TI TO .none ∧ IsTupOf2 h TI (.ref i1) (.ref i2) ∧ (∃ a1 a2, IsTupOf2 h TO a1 a2) ∧ h.IsStrIter i1 (strIterType x) x t i ∧ h.IsListIter i2 l i) := by
  refine turn_wt (by simp) (fun i h st c hc => ?_) (fun i h h' st k => ?_) (fun A i s Q E st h => ?_) (fun X hP hw hK hc i pins s σ H I st hg => ?_) (fun X hP hw hK hc i pins s σ H I st hg => ?_)
  · obtain ⟨hz, hTI, ⟨a1, a2, hTO⟩, ⟨o1, e1, _, d1⟩, ⟨o2, e2, _, d2⟩⟩ := st
    have e' : c = z ∨ c = TI ∨ c = TO ∨ c = i1 ∨ c = i2 := by simpa using hc
    rcases e' with q | q | q | q | q
    · rw [q]; exact ⟨_, hz, fun v q => nomatch q⟩
    · rw [q]; exact ⟨_, hTI, fun v q => nomatch q⟩
    · rw [q]; exact ⟨_, hTO, fun v q => nomatch q⟩
    · rw [q]; exact ⟨o1, e1, fun v q => by rw [d1] at q; cases q⟩
    · rw [q]; exact ⟨o2, e2, fun v q => by rw [d2] at q; cases q⟩
  · obtain ⟨hz, hTI, ⟨a1, a2, hTO⟩, ⟨o1, e1, r1⟩, h2⟩ := st
    exact ⟨k z (by simp) _ hz, k TI (by simp) _ hTI, ⟨a1, a2, k TO (by simp) _ hTO⟩, ⟨o1, k i1 (by simp) _ e1, r1⟩, h2.at fun o q => k i2 (by simp) o q⟩
  · exact wpAny_pyIter_zip st.1 h
  · subst hP hw hK
    obtain ⟨ys, hq, hi⟩ := hg
    obtain ⟨its, rv, p, hz⟩ := I.list hq
    have hl := rv.length
    refine ⟨_, _, _, _, _, _, WalksT.zipD2 (D.sepL h1 h2 h3) (Draws.text (A := X.A.in1) (I.ok.hd hc) i1 x t) (Draws.list (A := X.A.in1) (I.ok.hd hc) i2 l (Ne.symm h4) its.toArray), fun b hb => in5 hb, ?_, ⟨st.1, st.2.1, st.2.2.1, st.2.2.2.1, st.2.2.2.2, p.isList⟩,
      fun h q => ⟨q.1, q.2.1, q.2.2.1, q.2.2.2.1, q.2.2.2.2.1⟩, fun vals hp => ?_⟩
    · have e5 : its.toArray.size = ys.length := by simpa using hl.symm
      rw [e5]
      exact hi
    · obtain ⟨x1, x2, ⟨c, tc, hc1, rfl⟩, hx2, hv⟩ := hp
      have hi2 : i < ys.length := Nat.lt_of_lt_of_le hi (Nat.min_le_right _ _)
      obtain ⟨u2, hu2, ru2⟩ := rv.get (List.getElem?_eq_getElem hi2)
      have e2 : u2 = x2 := by
        have q : its.toArray[i]? = some x2 := hx2
        rw [List.getElem?_toArray, hu2] at q
        exact Option.some.inj q
      subst e2
      refine ⟨_, _, .str ⟨#[c]⟩, ys[i], hv, ⟨tc, rfl⟩, ru2, fun T hT => ⟨T, c, ys[i], rfl, hT, rfl, hc1, fun zs hzs => ?_⟩⟩
      rw [I.list_inj hzs hq]
      exact List.getElem?_eq_getElem hi2
  · subst hP hw hK
    obtain ⟨ys, hq, hi⟩ := hg
    obtain ⟨its, rv, p, hz⟩ := I.list hq
    have hl := rv.length
    have e5 : its.toArray.size = ys.length := by simpa using hl.symm
    have hg' : i = min x.cps.size its.toArray.size := by rw [e5]; exact hi
    rw [hg'] at st ⊢
    exact ⟨_, _, _, _, _, WalksT.zipD2 (D.sepL h1 h2 h3) (Draws.text (A := X.A.in1) (I.ok.hd hc) i1 x t) (Draws.list (A := X.A.in1) (I.ok.hd hc) i2 l (Ne.symm h4) its.toArray), fun b hb => in5 hb, ⟨st.1, st.2.1, st.2.2.1, st.2.2.2.1, st.2.2.2.2, p.isList⟩⟩
def iZipSS (ta : TA) : TI := fun σ H R => ta σ H fun vs H1 => ∃ x y, vs = [.str x, .str y] ∧ R (ItzSS x y) H1
def iZipSL (K : PySem.W.Frag) (ta : TA) : TI := fun σ H R => ta σ H fun vs H1 => ∃ x a ys, vs = [.str x, .ref a] ∧ SqL K H1 a ys ∧ R (ItzSL K x a) H1
theorem new5 {X : Cx} {pins : List (Addr × Obj)} {σ : L2.St} {H : Hp} {s : Shared} (I : Inv X pins σ H s) : ∀ c ∈ [s.heap.objs.size + 4, s.heap.objs.size + 2, s.heap.objs.size + 3, s.heap.objs.size, s.heap.objs.size + 1], FpOk X pins H c := fun c hcm => by
  have e' : c = s.heap.objs.size + 4 ∨ c = s.heap.objs.size + 2 ∨ c = s.heap.objs.size + 3 ∨ c = s.heap.objs.size ∨ c = s.heap.objs.size + 1 := by simpa using hcm
  have hle : s.heap.objs.size ≤ c := by
    rcases e' with z | z | z | z | z
    · rw [z]; exact Nat.le_add_right _ _
    · rw [z]; exact Nat.le_add_right _ _
    · rw [z]; exact Nat.le_add_right _ _
    · rw [z]; exact Nat.le_refl _
    · rw [z]; exact Nat.le_add_right _ _
  exact I.fpOk hle (I.hok.fresh hle)
theorem pi_zipSS {X : Cx} {e e2 : Expr} {ta : TA} {p pos tpos : Pos} {elts : List Expr} {kk : Nat} (hg : Gl X "zip") (hm : X.mg "zip" = none) (ha : PA X [e, e2] ta)
    (hs : starEach [e, e2] X.env = (false, eval e X.env) :: starEach [e2] X.env := by rfl) (hpl : (backTo pos (starEach [e2] X.env)).any (·.1) = false := by rfl) :
    PI X (.Tuple elts kk tpos) (.Call (.Name "zip" p) [e, e2] [] pos) (iZipSS ta) := by
  refine ⟨fun pins s σ H R I h => ?_⟩
  refine Call_ (ld_blt I hg hm PyProof.Rows.boot_zip (PyProof.Rows.callWith_type1 (thn (ha.run pos pins s σ H _ I h) fun us s1 ⟨vs, H1, I1, r1, q1⟩ => ?_) hs hpl))
  obtain ⟨x, y, ex, q⟩ := q1
  subst ex
  cases r1 with
  | cons r rr =>
    cases rr with
    | cons r' rr =>
      cases rr
      obtain ⟨t, rfl⟩ := r
      obtain ⟨u, rfl⟩ := r'
      refine zip_begins2 (begins_text x t) (begins_text y u) trivial trivial fun h' hz hTI hTO h1 h2 hsz hk => wpAny_pyIter_zip hz ?_
      have I2 : Inv X pins σ H1 { s1 with heap := h' } := I1.kept (t' := s1.toks) hk
      exact ⟨s1.heap.objs.size + 4, [s1.heap.objs.size + 4, s1.heap.objs.size + 2, s1.heap.objs.size + 3, s1.heap.objs.size, s1.heap.objs.size + 1], _, _, H1, rfl, I2, turn_zipSS (zapart_new _) x y t u, ⟨hz, hTI, ⟨_, _, hTO⟩, ⟨_, h1, rfl, rfl⟩, ⟨_, h2, rfl, rfl⟩⟩, new5 I1, q⟩
theorem pi_zipSL {X : Cx} {e e2 : Expr} {ta : TA} {p pos tpos : Pos} {elts : List Expr} {kk : Nat} (hg : Gl X "zip") (hm : X.mg "zip" = none) (ha : PA X [e, e2] ta)
    (hs : starEach [e, e2] X.env = (false, eval e X.env) :: starEach [e2] X.env := by rfl) (hpl : (backTo pos (starEach [e2] X.env)).any (·.1) = false := by rfl) :
    PI X (.Tuple elts kk tpos) (.Call (.Name "zip" p) [e, e2] [] pos) (iZipSL X.K ta) := by
  refine ⟨fun pins s σ H R I h => ?_⟩
  refine Call_ (ld_blt I hg hm PyProof.Rows.boot_zip (PyProof.Rows.callWith_type1 (thn (ha.run pos pins s σ H _ I h) fun us s1 ⟨vs, H1, I1, r1, q1⟩ => ?_) hs hpl))
  obtain ⟨x, a, ys, ex, hq, q⟩ := q1
  subst ex
  cases r1 with
  | cons r rr =>
    cases rr with
    | cons r' rr =>
      cases rr
      obtain ⟨t, rfl⟩ := r
      cases r'
      obtain ⟨its, rv, p1, _⟩ := I1.list hq
      have la : a < s1.heap.objs.size := p1.lt
      refine zip_begins2 (begins_text x t) (begins_list a its.toArray) trivial p1.isList fun h' hz hTI hTO h1 h2 hsz hk => wpAny_pyIter_zip hz ?_
      have I2 : Inv X pins σ H1 { s1 with heap := h' } := I1.kept (t' := s1.toks) hk
      have ne : ∀ k : Nat, s1.heap.objs.size + k ≠ a := fun k => Nat.ne_of_gt (Nat.lt_of_lt_of_le la (Nat.le_add_right _ _))
      exact ⟨s1.heap.objs.size + 4, [s1.heap.objs.size + 4, s1.heap.objs.size + 2, s1.heap.objs.size + 3, s1.heap.objs.size, s1.heap.objs.size + 1], _, _, H1, rfl, I2, turn_zipSL (zapart_new _) (ne 4) (ne 3) (ne 0) (ne 1) x t, ⟨hz, hTI, ⟨_, _, hTO⟩, ⟨_, h1, rfl, rfl⟩, ⟨_, h2, rfl, rfl⟩⟩, new5 I1, q⟩
theorem walk_zipSS {x y : Str} {n : Nat} (hn : n = min x.cps.size y.cps.size) : Walk (ItzSS x y) n (fun _ => True) (YPair (fun i => (x.cps[i]?).map fun c => V.str ⟨#[c]⟩) (fun i => (y.cps[i]?).map fun c => V.str ⟨#[c]⟩)) := by
  subst hn
  refine ⟨fun i _ hi _ => hi, fun _ _ => rfl, fun i H v H' _ _ y => ?_⟩
  obtain ⟨T, c, d, h1, h2, h3, h4, h5⟩ := y
  exact ⟨T, _, _, h1, h2, h3, by simp [h4], by simp [h5]⟩
theorem walk_zipSL {K : PySem.W.Frag} {x : Str} {a : Addr} {ys : List V} {n : Nat} (hn : n = min x.cps.size ys.length) : Walk (ItzSL K x a) n (fun H => SqL K H a ys) (YPair (fun i => (x.cps[i]?).map fun c => V.str ⟨#[c]⟩) (fun i => ys[i]?)) := by
  subst hn
  refine ⟨fun i _ hi q => ⟨ys, q, hi⟩, fun _ q => ⟨ys, q, rfl⟩, fun i H v H' _ q y => ?_⟩
  obtain ⟨T, c, d, h1, h2, h3, h4, h5⟩ := y
  exact ⟨T, _, _, h1, h2, h3, by simp [h4], h5 ys q⟩

/-! ### a chain of three -/
section
variable {X : Cx} {a b c d : Expr} {ta tb tc td : TE} {pos : Pos}
def tChain3 (r r' r'' : R2) (ta tb tc td : TE) : TE := fun σ H Q => ta σ H fun x H1 => tb σ H1 fun y H2 => r x y H2 fun z H3 => ∃ k, z = .bl k ∧
  (if k = true then tc σ H3 fun y' H4 => r' y y' H4 fun z' H5 => ∃ k', z' = .bl k' ∧ (if k' = true then td σ H5 fun w' H6 => r'' y' w' H6 Q else Q (.bl false) H5) else Q (.bl false) H3)
theorem pt_chain3 {op op' op'' : CmpOp} {r r' r'' : R2} (ho : OpR X (compareOp op) r) (ho' : OpR X (compareOp op') r') (ho'' : OpR X (compareOp op'') r'') (ha : PE X a ta) (hb : PE X b tb) (hc : PE X c tc) (hd : PE X d td)
    (hm : lastMarks [op, op', op''] [b, c, d] = false := by with_unfolding_all rfl) : PT X (.Compare a [op, op', op''] [b, c, d] pos) (tTest (tChain3 r r' r'' ta tb tc td)) := by
  refine ⟨fun pins s σ H Q I h => ?_⟩
  refine isTrue_chain (thn (ha.run pins s σ H _ I h) fun v s1 ⟨x, H1, I1, r1, q1⟩ => test_link (thn (hb.run pins s1 σ H1 _ I1 q1) fun u s2 ⟨y, H2, I2, r2, q2⟩ =>
    thn (ho pins s2 σ H2 x y v u _ I2 r1 r2 q2) fun d' s3 ⟨z, H3, I3, r3, k, e, q3⟩ => ?_)) hm
  subst e
  cases r3
  refine wpAny_truthy_bool ?_
  cases k with
  | false =>
    obtain ⟨k', e', q'⟩ := q3
    cases e'
    exact ite_ff ⟨H3, I3, q'⟩
  | true =>
    refine ite_tt (test_link (thn (hc.run pins s3 σ H3 _ I3 q3) fun u2 s4 ⟨y2, H4, I4, r4, q4⟩ => thn (ho' pins s4 σ H4 y y2 u u2 _ I4 r2 r4 q4) fun d2 s5 ⟨z2, H5, I5, r5, k2, e2, q5⟩ => ?_))
    subst e2
    cases r5
    refine wpAny_truthy_bool ?_
    cases k2 with
    | false =>
      obtain ⟨k', e', q'⟩ := q5
      cases e'
      exact ite_ff ⟨H5, I5, q'⟩
    | true =>
      refine ite_tt (test_last (thn (hd.run pins s5 σ H5 _ I5 q5) fun w' s6 ⟨z3, H6, I6, r6, q6⟩ => thn (ho'' pins s6 σ H6 y2 z3 u2 w' _ I6 r4 r6 q6) fun c2 s7 ⟨z4, H7, I7, r7, k7, e7, q7⟩ => ?_))
      subst e7
      cases r7
      exact wpAny_truthy_bool ⟨H7, I7, q7⟩
end
end HA

end
section
set_option maxRecDepth 100000
set_option maxHeartbeats 4000000
namespace HA
open PySem PySem.Spec PyProof.Rows L2 Evl

/-! ### text * int -/
def rMulS : R2 := fun x y H Q => ∃ (z : Str) (n : Int), x = .str z ∧ y = .int n ∧ MulOk z n ∧ Q (.str (Txt.mul z n)) H
theorem op_mulS {X : Cx} : OpR X (binaryOp .Mult) rMulS := by
  intro pins s σ H x y v u Q I rx ry h
  obtain ⟨z, n, rfl, rfl, ok, q⟩ := h
  obtain ⟨t, rfl⟩ := rx
  obtain ⟨t', rfl⟩ := ry
  exact SB.mul ok fun t2 k => ⟨.str (Txt.mul z n), H, I.tok _, ⟨_, rfl⟩, q⟩
theorem mulOk_small {z : Str} {n : Int} (hz : z.length ≤ 1000) (h0 : 0 ≤ n) (h1 : n ≤ 10000) : MulOk z n := by
  refine ⟨?_, fun _ _ => ?_, fun _ _ => ?_⟩
  · have a : ¬ n < -(2 ^ 63 : Int) := by omega
    have b : ¬ n ≥ 2 ^ 63 := by omega
    rw [decide_eq_false a, decide_eq_false b]
    rfl
  · have e : (0 : Int) < n ∨ n = 0 := by omega
    rcases e with e | e
    · have h2 : (1000 : Int) ≤ (2 ^ 63 - 1) / n := by
        apply Int.le_ediv_of_mul_le e
        have : (1000 : Int) * n ≤ 1000 * 10000 := by omega
        omega
      have h3 : (z.length : Int) ≤ 1000 := by omega
      omega
    · omega
  · have h2 : n.toNat ≤ 10000 := by omega
    have h3 : z.length * n.toNat ≤ 1000 * 10000 := Nat.mul_le_mul hz h2
    have e : sizeLine = 16777216 := by decide
    show decide (z.length * n.toNat > sizeLine) = false
    rw [decide_eq_false]
    omega

/-! ### an instance of a class without __init__ -/
structure Mk0 (K : PySem.W.Frag) (C : Addr) : Prop where
  makes : PySem.W.makesIn K C = true
  init : PySem.W.findIn K (.ref C) "__init__" = some (some (.builtin "object.__init__"))
  kp : PySem.W.keepIn K (.ref C) = true
def tMake0 (C : Addr) : TE := fun σ H Q => ∀ x dx, H x = none → H dx = none → dx ≠ x → Q (.ref x) (upd (upd H dx (.own x)) x (.ins C dx []))
open PySem.W in
theorem run_make0 {X : Cx} {C : Addr} {pins : List (Addr × Obj)} {σ : L2.St} {H : Hp} {s : Shared} {Q : VK} (M : Mk0 X.K C) (I : L2.Inv X pins σ H s)
    (h : ∀ x dx, H x = none → H dx = none → dx ≠ x → Q (.ref x) (upd (upd H dx (.own x)) x (.ins C dx []))) : wpAny (model X.prog X.w) X.A (call (.ref C) []) (EP X pins σ Q) X.xe s := by
  have hq := h (s.heap.objs.size + 1) s.heap.objs.size (I.hok.fresh (Nat.le_succ _)) (I.hok.fresh (Nat.le_refl _)) (Nat.ne_of_lt (Nat.lt_succ_self _))
  have I2 := L2.Inv.made (C := C) I
  have hin : X.K.In s.heap := I.kIn
  refine wpAny_call ?_
  obtain ⟨hh, g, d, t, os⟩ := s
  have Y := makes_of (M := model X.prog X.w) hin M.makes
  refine make_core Y (looks_findIn hin M.init) (fun self => Looks.of_pure (oi_bind self)) (.inr ⟨rfl, rfl⟩) ?_
  have e2 : ((hh.push emptyDict).push (instObj C hh.objs.size)).get? (hh.objs.size + 1) = some (instObj C hh.objs.size) := by
    have := Heap.get?_push_size (hh.push emptyDict) (o := instObj C hh.objs.size) rfl
    rwa [Heap.size_push] at this
  have t1 : Looks (model X.prog X.w) ((hh.push emptyDict).push (instObj C hh.objs.size)) (typeOf (.ref (hh.objs.size + 1))) (.ref C) := (Looks.ld e2).andThen .now
  have t2 : Looks (model X.prog X.w) ((hh.push emptyDict).push (instObj C hh.objs.size)) (isInstance (.ref (hh.objs.size + 1)) (.type "object")) true := t1.andThen (Y.top.keeps fun b o e => Heap.get?_push_of_some _ (Heap.get?_push_of_some _ e))
  refine codeAny_call_builtin oi_plain entry_oi (@check_slot (model X.prog X.w) _ _ _ "object.__init__" "object" "__init__" (.ref (hh.objs.size + 1)) [] [] _ oi_kind oi_split t2 (oi_args (.ref (hh.objs.size + 1))) ?_)
  rw [oi_run]
  exact wpAny_pure (And.intro rfl ⟨V.ref (hh.objs.size + 1), _, I2, rfl, hq⟩)
theorem pe_makeO {X : Cx} {C : Addr} {x : Str} {p pos : Pos} (M : Mk0 X.K C) (hg : Gl X x) (hm : X.mg x = some (.ref C)) (hdb : (x == ("__debug__" : Str)) = false := by decide) : PE X (.Call (.Name x p) [] [] pos) (tMake0 C) := by
  refine ⟨fun pins s σ H Q I h => ?_⟩
  refine wpAny_Call_Name_kw (ld_glob I hg hm ?_ hdb)
  exact PySem.W.callWith_K0 I.kIn M.kp (run_make0 M I h)
end HA

end
section
set_option maxRecDepth 100000
set_option maxHeartbeats 4000000
namespace HA
open PySem PySem.Spec PyProof.Rows L2 Evl

/-! ### rows and tables of signs -/
def cp (b : Bool) : Nat := if b = true then 43 else 45
def sgS (b : Bool) : Str := ⟨#[cp b]⟩
def rowS (n : Nat) (g : Nat → Bool) : Str := ⟨((List.range n).map fun j => cp (g j)).toArray⟩
def tabV (n : Nat) (f : Nat → Nat → Bool) : List V := (List.range n).map fun i => V.str (rowS n (f i))
theorem cp_inj {a b : Bool} (h : cp a = cp b) : a = b := by
  cases a <;> cases b <;> first | rfl | exact absurd h (by decide)
theorem sg_plus : (Str.ofString "+") = sgS true := by decide +kernel
theorem sg_minus : (Str.ofString "-") = sgS false := by decide +kernel
theorem sgS_inj {a b : Bool} (h : sgS a = sgS b) : a = b := by
  have e : (sgS a).cps.toList = (sgS b).cps.toList := by rw [h]
  exact cp_inj (List.cons.inj e).1
theorem sgS_dec (a b : Bool) : decide (V.str (sgS a) = V.str (sgS b)) = (a == b) := by
  cases a <;> cases b <;> decide +kernel
theorem rowS_len (n : Nat) (g : Nat → Bool) : (rowS n g).length = n := by
  show ((List.range n).map fun j => cp (g j)).toArray.size = n
  simp
theorem rowS_size (n : Nat) (g : Nat → Bool) : (rowS n g).cps.size = n := rowS_len n g
theorem rowS_get {n : Nat} {g : Nat → Bool} {j : Nat} (h : j < n) : (rowS n g).cps[j]? = some (cp (g j)) := by
  show (((List.range n).map fun j => cp (g j)).toArray)[j]? = some (cp (g j))
  simp [h]
theorem rowS_getL {n : Nat} {g : Nat → Bool} {j : Nat} (h : j < n) : (rowS n g).cps.toList[j]? = some (cp (g j)) := by
  show (((List.range n).map fun j => cp (g j)).toArray).toList[j]? = some (cp (g j))
  simp [h]
theorem rowS_ext {n : Nat} {g h : Nat → Bool} (e : ∀ j, j < n → g j = h j) : rowS n g = rowS n h := by
  have q : ((List.range n).map fun j => cp (g j)) = ((List.range n).map fun j => cp (h j)) := List.map_congr_left fun j hj => by rw [e j (List.mem_range.mp hj)]
  unfold rowS
  rw [q]
theorem rowS_inj {n : Nat} {g h : Nat → Bool} (e : rowS n g = rowS n h) : ∀ j, j < n → g j = h j := fun j hj => by
  have a := rowS_get (g := g) hj
  rw [e, rowS_get hj] at a
  exact (cp_inj (Option.some.inj a)).symm
theorem tabV_len (n : Nat) (f : Nat → Nat → Bool) : (tabV n f).length = n := by
  unfold tabV
  rw [List.length_map, List.length_range]
theorem tabV_get {n : Nat} {f : Nat → Nat → Bool} {i : Nat} (h : i < n) : (tabV n f)[i]? = some (V.str (rowS n (f i))) := by
  unfold tabV
  rw [List.getElem?_map, List.getElem?_range h]
  rfl
theorem tabV_some {n : Nat} {f : Nat → Nat → Bool} {i : Nat} {x : V} (h : (tabV n f)[i]? = some x) : i < n ∧ x = V.str (rowS n (f i)) := by
  have hi : i < n := by
    have q := (List.getElem?_eq_some_iff.mp h).1
    rwa [tabV_len] at q
  rw [tabV_get hi] at h
  exact ⟨hi, (Option.some.inj h).symm⟩
theorem tabV_ext {n : Nat} {f g : Nat → Nat → Bool} (e : ∀ i, i < n → ∀ j, j < n → f i j = g i j) : tabV n f = tabV n g :=
  List.map_congr_left fun i hi => by rw [rowS_ext (e i (List.mem_range.mp hi))]
theorem tabV_at {n : Nat} {f : Nat → Nat → Bool} {i : Nat} (h : i < n) : atI (tabV n f) (i : Int) = some (V.str (rowS n (f i))) := atI_nat (tabV_get h)

/-! ### joins -/
theorem app_cps (a b : Str) : (a ++ b : Str).cps = a.cps ++ b.cps := rfl
theorem join_nil_toList : ∀ ys : List Str, (Str.join ⟨#[]⟩ ys).cps.toList = (ys.map fun y => y.cps.toList).flatten
  | [] => rfl
  | [x] => by simp [Str.join]
  | x :: y :: r => by
    have ih := join_nil_toList (y :: r)
    show ((x ++ (⟨#[]⟩ : Str) ++ Str.join ⟨#[]⟩ (y :: r) : Str)).cps.toList = _
    rw [app_cps, app_cps, Array.toList_append, ih]
    simp
theorem str_ext {a b : Str} (h : a.cps.toList = b.cps.toList) : a = b := by
  obtain ⟨a⟩ := a
  obtain ⟨b⟩ := b
  have e : a = b := Array.toList_inj.mp h
  rw [e]
theorem join_toList (ys : List Str) : (Txt.join ⟨#[]⟩ ys).cps.toList = (ys.map fun y => y.cps.toList).flatten := by
  unfold Txt.join
  rw [PySem.StrLaws.glued_eq_join]
  exact join_nil_toList ys
theorem flat_one : ∀ (l : List Nat) (g : Nat → Nat), ((l.map fun j => [g j])).flatten = l.map g
  | [], _ => rfl
  | a :: l, g => by
    show [g a] ++ ((l.map fun j => [g j])).flatten = g a :: l.map g
    rw [flat_one l g]
    rfl
theorem join_row (n : Nat) (g : Nat → Bool) : Txt.join ⟨#[]⟩ ((List.range n).map fun j => sgS (g j)) = rowS n g := by
  apply str_ext
  rw [join_toList, List.map_map]
  exact flat_one (List.range n) fun j => cp (g j)
theorem sum_ones : ∀ l : List Nat, (∀ x ∈ l, x = 1) → l.sum = l.length
  | [], _ => rfl
  | a :: l, h => by
    rw [List.sum_cons, List.length_cons, h a (List.mem_cons_self ..), sum_ones l fun x hx => h x (List.mem_cons_of_mem _ hx)]
    omega

/-! ### what evaluates to what, more -/
section
variable {K : PySem.W.Frag} {σ : L2.St} {H H' : Hp} {ta tb te tx : TE} {t u : TT} {x y z v : V} {r : R2}
/-- a value of which R is known -/
def EvR (te : TE) (σ : L2.St) (H : Hp) (R : V → Hp → Prop) : Prop := ∀ H1, Ex H H1 → ∀ Q : VK, (∀ v H2, Ex H1 H2 → R v H2 → Q v H2) → te σ H1 Q
theorem EvR.mono {R : V → Hp → Prop} (e : Ex H H') (h : EvR te σ H R) : EvR te σ H' R := fun H1 a Q q => h H1 (e.trans a) Q q
theorem EvL.evR {xs : List V} (h : EvL te σ H xs) : EvR te σ H (fun v H2 => ∃ p, v = .ref p ∧ H2 p = some (.lst xs)) := fun H1 e Q q => h H1 e Q fun p H2 _ e2 h2 => q _ H2 e2 ⟨p, rfl, h2⟩
theorem ev_lenS {w : Str} (ha : Ev ta σ H (.str w)) (hw : w.length ≤ 100000) :
    Ev (tCB (fun xs H Q => ∃ z, xs = [.str z] ∧ z.length ≤ sizeLine ∧ Q (.int z.length) H) (tCons ta tNil)) σ H (.int (w.length : Int)) := fun H1 e Q q =>
  ha H1 e _ fun H2 e2 => ⟨w, rfl, sz_of hw, q H2 e2⟩
theorem ev_allN {bs : List Bool} (h : EvL ta σ H (bs.map V.bl)) : Ev (tCB (rAll K) (tCons ta tNil)) σ H (.bl (bs.all id)) := fun H1 e Q q =>
  h H1 e _ fun p H2 _ e2 h2 => ⟨p, bs, rfl, sq_of h2, q H2 e2⟩
theorem ev_anyN {bs : List Bool} (h : EvL ta σ H (bs.map V.bl)) : Ev (tCB (rAny K) (tCons ta tNil)) σ H (.bl (bs.any id)) := fun H1 e Q q =>
  h H1 e _ fun p H2 _ e2 h2 => ⟨p, bs, rfl, sq_of h2, q H2 e2⟩
theorem ev_sumN {ns : List Int} (h : EvL ta σ H (ns.map V.int)) : Ev (tCB (rSum K) (tCons ta tNil)) σ H (.int ns.sum) := fun H1 e Q q =>
  h H1 e _ fun p H2 _ e2 h2 => ⟨p, ns, rfl, sq_of h2, q H2 e2⟩
theorem ev_sum {a : Addr} {ns : List Int} (h : Ev ta σ H (.ref a)) (hs : SqL K H a (ns.map V.int)) : Ev (tCB (rSum K) (tCons ta tNil)) σ H (.int ns.sum) := fun H1 e Q q =>
  h H1 e _ fun H2 e2 => ⟨a, ns, rfl, ex_l (e.trans e2) hs, q H2 e2⟩
def rJoin (K : PySem.W.Frag) : V → List V → Hp → VK → Prop := fun x xs H Q => ∃ a p, ∃ ys : List Str, x = .str a ∧ xs = [.ref p] ∧ (SqL K H p (ys.map V.str) ∨ SqT K H p (ys.map V.str)) ∧ (ys.map (·.length)).sum + ys.length * a.length ≤ 16777216 ∧ Q (.str (Txt.join a ys)) H
/-- ''.join([..]) of single signs -/
theorem ev_joinN {ys : List Str} (h : EvL te σ H (ys.map V.str)) (hz : (ys.map (·.length)).sum ≤ 100000) : Ev (tM1 (rJoin K) (tC (.str (Str.ofString ""))) te) σ H (.str (Txt.join ⟨#[]⟩ ys)) := fun H1 e Q q => by
  refine ⟨⟨_, rfl⟩, h H1 e _ fun p H2 _ e2 h2 => ⟨_, p, ys, rfl, rfl, .inl (sq_of h2), ?_, ?_⟩⟩
  · have e0 : (Str.ofString "").length = 0 := by decide +kernel
    rw [e0, Nat.mul_zero]
    omega
  · have e0 : (Str.ofString "") = ⟨#[]⟩ := by decide +kernel
    rw [e0]
    exact q H2 e2
theorem ev_joinRow {n : Nat} {g : Nat → Bool} (h : EvL te σ H ((List.range n).map fun j => V.str (sgS (g j)))) (hz : n ≤ 100000) : Ev (tM1 (rJoin K) (tC (.str (Str.ofString ""))) te) σ H (.str (rowS n g)) := by
  have e : ((List.range n).map fun j => V.str (sgS (g j))) = ((List.range n).map fun j => sgS (g j)).map V.str := by rw [List.map_map]; rfl
  rw [e] at h
  have q := ev_joinN (K := K) h (by
    rw [List.map_map, sum_ones]
    · rw [List.length_map, List.length_range]
      exact hz
    · intro x hx
      obtain ⟨a, _, rfl⟩ := List.mem_map.mp hx
      rfl)
  rw [join_row] at q
  exact q
/-- an item of a text -/
theorem ev_itS {n : Nat} {g : Nat → Bool} {j : Nat} (ha : Ev ta σ H (.str (rowS n g))) (hb : Ev tb σ H (.int (j : Int))) (hj : j < n) (hn : n ≤ 100000) : Ev (tOp rIxS ta tb) σ H (.str (sgS (g j))) :=
  ev_op ha hb (rv_ixS (by rw [rowS_len]; exact hn) (atI_nat (rowS_getL hj)))
theorem ev_itL {p : Addr} {xs : List V} {i : Nat} (ha : Ev ta σ H (.ref p)) (hb : Ev tb σ H (.int (i : Int))) (h : SqL K H p xs) (hx : xs[i]? = some v) : Ev (tOp (rIxL K) ta tb) σ H v :=
  ev_op ha hb (rv_ixL h (atI_nat hx))
theorem ev_itT {p : Addr} {n : Nat} {f : Nat → Nat → Bool} {i : Nat} (ha : Ev ta σ H (.ref p)) (hb : Ev tb σ H (.int (i : Int))) (h : SqL K H p (tabV n f)) (hi : i < n) : Ev (tOp (rIxL K) ta tb) σ H (.str (rowS n (f i))) := ev_itL ha hb h (tabV_get hi)
theorem ev_itU {xs : List V} {i : Nat} (ha : EvU ta σ H xs) (hb : Ev tb σ H (.int (i : Int))) (hx : xs[i]? = some v) : Ev (tOp (rIxT K) ta tb) σ H v := fun H1 e Q q =>
  ha H1 e _ fun p H2 _ e2 h2 => hb H2 (e.trans e2) _ fun H3 e3 => ⟨p, xs, (i : Int), v, rfl, rfl, st_of (e3 p _ h2), atI_nat hx, q H3 (e2.trans e3)⟩
theorem rv_addS {a b : Str} (h : a.length + b.length ≤ 100000) : RV (fun x y H Q => ∃ i j, x = V.str i ∧ y = V.str j ∧ i.length + j.length ≤ sizeLine ∧ Q (V.str (i ++ j)) H) (.str a) (.str b) H (.str (a ++ b)) := fun H1 _ _ q => ⟨a, b, rfl, rfl, sz_of h, q H1 (Ex.refl H1)⟩
theorem rv_mulS {a : Str} {n : Int} (h : MulOk a n) : RV rMulS (.str a) (.int n) H (.str (Txt.mul a n)) := fun H1 _ _ q => ⟨a, n, rfl, rfl, h, q H1 (Ex.refl H1)⟩
theorem ev_slS {w : Str} {tl th : TO} {lo hi : Option Int} (h : Ev te σ H (.str w)) (h1 : EvO tl σ H lo) (h2 : EvO th σ H hi) (hw : w.length ≤ 100000) : Ev (tSl rSlS te tl th) σ H (.str (cutS w lo hi)) := fun H1 e _ q =>
  h H1 e _ fun H2 e2 => h1 H2 (e.trans e2) _ fun H3 e3 => h2 H3 ((e.trans e2).trans e3) _ fun H4 e4 => ⟨w, rfl, sz_of hw, q H4 ((e2.trans e3).trans e4)⟩

/-! ### comprehensions over any walk -/
theorem lcW {J : It} {n : Nat} {G : Hp → Prop} {Y : Nat → Hp → V → Hp → Prop} (w : Walk J n G Y) {g : TG} {vs : List Nat} {H1 : Hp} (hn : n ≤ 40000) (hG : ∀ H', Ex H1 H' → G H') (f : Nat → Bool) (v : Nat → V) (σt : Nat → L2.St)
    (hg : ∀ i x H H', i < n → Ex H1 H → Y i H x H' → Ex H H' ∧ ∀ k : L2.St → Hp → Prop, k (σt i) H' → g x (wipe σ vs) H' k) (hw : ∀ i, i < n → wipe (σt i) vs = wipe σ vs)
    (ht : ∀ i, i < n → EvT t (σt i) H1 (f i)) (he : ∀ i, i < n → f i = true → Ev te (σt i) H1 (v i)) {Q : VK} (q : ∀ p H2, H1 p = none → Ex H1 H2 → H2 p = some (.lst (given n f v)) → Q (.ref p) H2) :
    ∀ D, H1 D = none → ∃ W : Nat → Nat → Hp → Prop, (∃ m, W 0 m (upd H1 D (.lst []))) ∧ ∀ i m H, W i m H →
      (J.stop i H ∧ Q (.ref D) H) ∨ (J.go i H ∧ ∃ Nx : Hp → Prop, (∀ H', Nx H' → ∃ m', m' < m ∧ W (i + 1) m' H') ∧ ∀ x H', J.yld i H x H' → g x (wipe σ vs) H' fun σ2 H2 => wipe σ2 vs = wipe σ vs ∧ t σ2 H2 fun b H3 =>
        if b = true then te σ2 H3 fun y H4 => ∃ acc, H4 D = some (.lst acc) ∧ acc.length < sizeLine ∧ Nx (upd H4 D (.lst (acc ++ [y]))) else Nx H3) := fun D hD =>
  lc_it w (Cw H1 f v D) ⟨hD, Ex.new hD, upd_same⟩ (fun i H' _ p => hG H' p.2.1) (fun i x H H' hi p y => by
    obtain ⟨e1, k⟩ := hg i x H H' hi p.2.1 y
    exact k _ ⟨hw i hi, cw_turn ⟨p.1, p.2.1.trans e1, e1 D _ p.2.2⟩ (by omega) (ht i hi) (he i hi)⟩) (fun H' p => q D H' p.1 p.2.1 p.2.2)
/-- a name takes the item -/
theorem hg_name {n : Nat} {H1 : Hp} {j : Nat} {vs : List Nat} (xs : Nat → V) (i : Nat) (x : V) (H H' : Hp) (hi : i < n) (e : Ex H1 H) (y : H' = H ∧ x = xs i) : Ex H H' ∧ ∀ k : L2.St → Hp → Prop, k ((wipe σ vs).set j (some (xs i))) H' → gName j x (wipe σ vs) H' k := by
  obtain ⟨rfl, rfl⟩ := y
  exact ⟨Ex.refl _, fun k h => h⟩
/-- two names take the pair -/
theorem hg_pair {n : Nat} {H1 : Hp} {j l : Nat} {vs : List Nat} (xs ys : Nat → V) {fx fy : Nat → Option V} (hx : ∀ i, i < n → fx i = some (xs i)) (hy : ∀ i, i < n → fy i = some (ys i)) (i : Nat) (x : V) (H H' : Hp) (hi : i < n) (e : Ex H1 H) (y : YPair fx fy i H x H') :
    Ex H H' ∧ ∀ k : L2.St → Hp → Prop, k (((wipe σ vs).set j (some (xs i))).set l (some (ys i))) H' → gTup K 2 (gCons (gName j) (gCons (gName l) gNil)) x (wipe σ vs) H' k := by
  obtain ⟨T, a, b, rfl, hT, rfl, ha, hb⟩ := y
  rw [hx i hi] at ha
  rw [hy i hi] at hb
  cases ha
  cases hb
  exact ⟨Ex.new hT, fun k h => ⟨T, _, rfl, st_of upd_same, rfl, _, _, rfl, _, _, rfl, rfl, h⟩⟩
/-- [.. for c in text] -/
theorem el_lcS {w : Str} {n : Nat} {c : Nat → Nat} {tl : TE} {j : Nat} {vs : List Nat} (f : Nat → Bool) (v : Nat → V) (h : Ev tl σ H (.str w)) (hsz : w.cps.size = n) (hc : ∀ i, i < n → w.cps[i]? = some (c i)) (hn : n ≤ 40000)
    (hw : ∀ x, wipe ((wipe σ vs).set j (some x)) vs = wipe σ vs) (ht : ∀ i H1, Ex H H1 → i < n → EvT t ((wipe σ vs).set j (some (.str ⟨#[c i]⟩))) H1 (f i)) (he : ∀ i H1, Ex H H1 → i < n → f i = true → Ev te ((wipe σ vs).set j (some (.str ⟨#[c i]⟩))) H1 (v i)) :
    EvL (tLc (iStr tl) (gName j) t te vs) σ H (given n f v) := fun H0 e Q q => h H0 e _ fun H1 e1 => ⟨w, rfl, by
  subst hsz
  exact lcW (walk_str (z := w)) hn (fun _ _ => trivial) f v (fun i => (wipe σ vs).set j (some (.str ⟨#[c i]⟩))) (fun i x H H' hi ex y => by
    obtain ⟨rfl, d, hd, rfl⟩ := y
    rw [hc i hi] at hd
    cases hd
    exact ⟨Ex.refl _, fun k h => h⟩) (fun i _ => hw _) (fun i hi => ht i H1 (e.trans e1) hi) (fun i hi => he i H1 (e.trans e1) hi) fun p H2 hp e2 h2 => q p H2 (fresh_back e1 hp) (e1.trans e2) h2⟩
/-- [.. for i in range(a, b)] -/
theorem el_lcR2 {ta : TA} {j : Nat} {vs : List Nat} {lo hi : Int} {n : Nat} (f : Nat → Bool) (v : Nat → V) (h : EvA ta σ H [.int lo, .int hi]) (hb : -100000 ≤ lo ∧ lo ≤ 100000 ∧ -100000 ≤ hi ∧ hi ≤ 100000) (hn : (hi - lo).toNat = n) (hz : n ≤ 40000)
    (hw : ∀ x, wipe ((wipe σ vs).set j (some x)) vs = wipe σ vs) (ht : ∀ i H1, Ex H H1 → i < n → EvT t ((wipe σ vs).set j (some (.int (lo + (i : Nat))))) H1 (f i)) (he : ∀ i H1, Ex H H1 → i < n → f i = true → Ev te ((wipe σ vs).set j (some (.int (lo + (i : Nat))))) H1 (v i)) :
    EvL (tLc (iRng2 ta) (gName j) t te vs) σ H (given n f v) := fun H0 e Q q => h H0 e _ fun H1 e1 => ⟨lo, hi, rfl, ⟨by omega, by omega, by omega, by omega⟩, by
  subst hn
  exact lcW (walk_range (lo := lo)) hz (fun _ _ => trivial) f v (fun i => (wipe σ vs).set j (some (.int (lo + (i : Nat))))) (fun i x H H' hi' ex y => hg_name (n := (hi - lo).toNat + i + 1) (fun i => .int (lo + (i : Nat))) i x H H' (by omega) ex y)
    (fun i _ => hw _) (fun i hi => ht i H1 (e.trans e1) hi) (fun i hi => he i H1 (e.trans e1) hi) fun p H2 hp e2 h2 => q p H2 (fresh_back e1 hp) (e1.trans e2) h2⟩
/-- [.. for i, c in enumerate(text)] -/
theorem el_lcES {w : Str} {n : Nat} {c : Nat → Nat} {ta : TA} {j l : Nat} {vs : List Nat} (f : Nat → Bool) (v : Nat → V) (h : EvA ta σ H [.str w]) (hsz : w.cps.size = n) (hc : ∀ i, i < n → w.cps[i]? = some (c i)) (hn : n ≤ 40000)
    (hw : ∀ x y, wipe (((wipe σ vs).set j (some x)).set l (some y)) vs = wipe σ vs) (ht : ∀ i H1, Ex H H1 → i < n → EvT t (((wipe σ vs).set j (some (.int (i : Nat)))).set l (some (.str ⟨#[c i]⟩))) H1 (f i))
    (he : ∀ i H1, Ex H H1 → i < n → f i = true → Ev te (((wipe σ vs).set j (some (.int (i : Nat)))).set l (some (.str ⟨#[c i]⟩))) H1 (v i)) :
    EvL (tLc (iEnumS ta) (gTup K 2 (gCons (gName j) (gCons (gName l) gNil))) t te vs) σ H (given n f v) := fun H0 e Q q => h H0 e _ fun H1 e1 => ⟨w, rfl, by
  subst hsz
  exact lcW (walk_enumS (x := w)) hn (fun _ _ => trivial) f v (fun i => ((wipe σ vs).set j (some (.int (i : Nat)))).set l (some (.str ⟨#[c i]⟩))) (fun i x H H' hi ex y =>
    hg_pair (fun i => .int (i : Nat)) (fun i => .str ⟨#[c i]⟩) (n := w.cps.size) (fun i _ => rfl) (fun i hi => by rw [hc i hi]; rfl) i x H H' hi ex y)
    (fun i _ => hw _ _) (fun i hi => ht i H1 (e.trans e1) hi) (fun i hi => he i H1 (e.trans e1) hi) fun p H2 hp e2 h2 => q p H2 (fresh_back e1 hp) (e1.trans e2) h2⟩
/-- [.. for a, b in zip(text, text)] -/
theorem el_lcZSS {w w' : Str} {n : Nat} {c c' : Nat → Nat} {ta : TA} {j l : Nat} {vs : List Nat} (f : Nat → Bool) (v : Nat → V) (h : EvA ta σ H [.str w, .str w']) (hsz : min w.cps.size w'.cps.size = n) (hc : ∀ i, i < n → w.cps[i]? = some (c i)) (hc' : ∀ i, i < n → w'.cps[i]? = some (c' i)) (hn : n ≤ 40000)
    (hw : ∀ x y, wipe (((wipe σ vs).set j (some x)).set l (some y)) vs = wipe σ vs) (ht : ∀ i H1, Ex H H1 → i < n → EvT t (((wipe σ vs).set j (some (.str ⟨#[c i]⟩))).set l (some (.str ⟨#[c' i]⟩))) H1 (f i))
    (he : ∀ i H1, Ex H H1 → i < n → f i = true → Ev te (((wipe σ vs).set j (some (.str ⟨#[c i]⟩))).set l (some (.str ⟨#[c' i]⟩))) H1 (v i)) :
    EvL (tLc (iZipSS ta) (gTup K 2 (gCons (gName j) (gCons (gName l) gNil))) t te vs) σ H (given n f v) := fun H0 e Q q => h H0 e _ fun H1 e1 => ⟨w, w', rfl,
  lcW (walk_zipSS (x := w) (y := w') hsz.symm) hn (fun _ _ => trivial) f v (fun i => ((wipe σ vs).set j (some (.str ⟨#[c i]⟩))).set l (some (.str ⟨#[c' i]⟩))) (fun i x H H' hi ex y =>
    hg_pair (fun i => .str ⟨#[c i]⟩) (fun i => .str ⟨#[c' i]⟩) (n := n) (fun i hi => by rw [hc i hi]; rfl) (fun i hi => by rw [hc' i hi]; rfl) i x H H' hi ex y)
    (fun i _ => hw _ _) (fun i hi => ht i H1 (e.trans e1) hi) (fun i hi => he i H1 (e.trans e1) hi) fun p H2 hp e2 h2 => q p H2 (fresh_back e1 hp) (e1.trans e2) h2⟩
/-- [.. for a, b in zip(text, list)] -/
theorem el_lcZSL {w : Str} {a : Addr} {ys : List V} {n : Nat} {c : Nat → Nat} {d : Nat → V} {ta : TA} {j l : Nat} {vs : List Nat} (f : Nat → Bool) (v : Nat → V) (h : EvA ta σ H [.str w, .ref a]) (hq : SqL K H a ys) (hsz : min w.cps.size ys.length = n) (hc : ∀ i, i < n → w.cps[i]? = some (c i)) (hd : ∀ i, i < n → ys[i]? = some (d i)) (hn : n ≤ 40000)
    (hw : ∀ x y, wipe (((wipe σ vs).set j (some x)).set l (some y)) vs = wipe σ vs) (ht : ∀ i H1, Ex H H1 → i < n → EvT t (((wipe σ vs).set j (some (.str ⟨#[c i]⟩))).set l (some (d i))) H1 (f i))
    (he : ∀ i H1, Ex H H1 → i < n → f i = true → Ev te (((wipe σ vs).set j (some (.str ⟨#[c i]⟩))).set l (some (d i))) H1 (v i)) :
    EvL (tLc (iZipSL K ta) (gTup K 2 (gCons (gName j) (gCons (gName l) gNil))) t te vs) σ H (given n f v) := fun H0 e Q q => h H0 e _ fun H1 e1 => ⟨w, a, ys, rfl, ex_l (e.trans e1) hq,
  lcW (walk_zipSL (x := w) (a := a) (ys := ys) hsz.symm) hn (fun H' e' => ex_l ((e.trans e1).trans e') hq) f v (fun i => ((wipe σ vs).set j (some (.str ⟨#[c i]⟩))).set l (some (d i))) (fun i x H H' hi ex y =>
    hg_pair (fun i => .str ⟨#[c i]⟩) d (n := n) (fun i hi => by rw [hc i hi]; rfl) (fun i hi => hd i hi) i x H H' hi ex y)
    (fun i _ => hw _ _) (fun i hi => ht i H1 (e.trans e1) hi) (fun i hi => he i H1 (e.trans e1) hi) fun p H2 hp e2 h2 => q p H2 (fresh_back e1 hp) (e1.trans e2) h2⟩
/-- [.. for a, b in zip(list, list)] -/
theorem el_lcZLL {b a : Addr} {xs ys : List V} {n : Nat} {c d : Nat → V} {ta : TA} {j l : Nat} {vs : List Nat} (f : Nat → Bool) (v : Nat → V) (h : EvA ta σ H [.ref b, .ref a]) (hp : SqL K H b xs) (hq : SqL K H a ys) (hsz : min xs.length ys.length = n) (hc : ∀ i, i < n → xs[i]? = some (c i)) (hd : ∀ i, i < n → ys[i]? = some (d i)) (hn : n ≤ 40000)
    (hw : ∀ x y, wipe (((wipe σ vs).set j (some x)).set l (some y)) vs = wipe σ vs) (ht : ∀ i H1, Ex H H1 → i < n → EvT t (((wipe σ vs).set j (some (c i))).set l (some (d i))) H1 (f i))
    (he : ∀ i H1, Ex H H1 → i < n → f i = true → Ev te (((wipe σ vs).set j (some (c i))).set l (some (d i))) H1 (v i)) :
    EvL (tLc (iZip K ta) (gTup K 2 (gCons (gName j) (gCons (gName l) gNil))) t te vs) σ H (given n f v) := fun H0 e Q q => h H0 e _ fun H1 e1 => ⟨b, a, xs, ys, rfl, ex_l (e.trans e1) hp, ex_l (e.trans e1) hq,
  lcW (walk_zip (a := b) (b := a) (xs := xs) (ys := ys) hsz.symm) hn (fun H' e' => ⟨ex_l ((e.trans e1).trans e') hp, ex_l ((e.trans e1).trans e') hq⟩) f v (fun i => ((wipe σ vs).set j (some (c i))).set l (some (d i))) (fun i x H H' hi ex y =>
    hg_pair c d (n := n) hc hd i x H H' hi ex y)
    (fun i _ => hw _ _) (fun i hi => ht i H1 (e.trans e1) hi) (fun i hi => he i H1 (e.trans e1) hi) fun p H2 hp e2 h2 => q p H2 (fresh_back e1 hp) (e1.trans e2) h2⟩
/-- [.. for i, x in enumerate(list)] -/
theorem el_lcEL {a : Addr} {xs : List V} {n : Nat} {d : Nat → V} {ta : TA} {j l : Nat} {vs : List Nat} (f : Nat → Bool) (v : Nat → V) (h : EvA ta σ H [.ref a]) (hq : SqL K H a xs) (hsz : xs.length = n) (hd : ∀ i, i < n → xs[i]? = some (d i)) (hn : n ≤ 40000)
    (hw : ∀ x y, wipe (((wipe σ vs).set j (some x)).set l (some y)) vs = wipe σ vs) (ht : ∀ i H1, Ex H H1 → i < n → EvT t (((wipe σ vs).set j (some (.int (i : Nat)))).set l (some (d i))) H1 (f i))
    (he : ∀ i H1, Ex H H1 → i < n → f i = true → Ev te (((wipe σ vs).set j (some (.int (i : Nat)))).set l (some (d i))) H1 (v i)) :
    EvL (tLc (iEnum K ta) (gTup K 2 (gCons (gName j) (gCons (gName l) gNil))) t te vs) σ H (given n f v) := fun H0 e Q q => h H0 e _ fun H1 e1 => ⟨a, xs, rfl, ex_l (e.trans e1) hq, by
  subst hsz
  exact lcW (walk_enum (a := a) (xs := xs)) hn (fun H' e' => ex_l ((e.trans e1).trans e') hq) f v (fun i => ((wipe σ vs).set j (some (.int (i : Nat)))).set l (some (d i))) (fun i x H H' hi ex y =>
    hg_pair (fun i => .int (i : Nat)) d (n := xs.length) (fun i _ => rfl) hd i x H H' hi ex y)
    (fun i _ => hw _ _) (fun i hi => ht i H1 (e.trans e1) hi) (fun i hi => he i H1 (e.trans e1) hi) fun p H2 hp e2 h2 => q p H2 (fresh_back e1 hp) (e1.trans e2) h2⟩
/-- all turns give -/
theorem given_all (n : Nat) (v : Nat → V) : given n (fun _ => true) v = (List.range n).map v := by
  unfold given
  rw [List.filter_eq_self.mpr fun _ _ => rfl]
theorem given_count (n : Nat) (f : Nat → Bool) (v : Nat → V) : (given n f v).length = ((List.range n).filter f).length := by
  unfold given
  rw [List.length_map]
theorem given_ext {n : Nat} {f : Nat → Bool} {v w : Nat → V} (h : ∀ i, i < n → v i = w i) : given n f v = given n f w := by
  unfold given
  exact List.map_congr_left fun i hi => h i (List.mem_range.mp (List.mem_filter.mp hi).1)
theorem ev_list {xs ys : List V} (h : EvL te σ H xs) (e : xs = ys) : EvL te σ H ys := by
  rw [← e]
  exact h
/-- the test of a comprehension without ifs -/
theorem et_yes : EvT (fun _ H Q => Q true H) σ H true := fun H1 _ _ q => q H1 (Ex.refl H1)
/-- for over any walk -/
theorem s_forW {J : It} {n : Nat} {G : Hp → Prop} {Y : Nat → Hp → V → Hp → Prop} (w : Walk J n G Y) {wi : TI} {g : TG} {tu : TS} {D : Ends} (hi : ∀ H1, Ex H H1 → ∀ R : It → Hp → Prop, (∀ H2, Ex H1 H2 → R J H2) → wi σ H1 R) (Pv : Nat → L2.St → Hp → Prop) (h0 : ∀ H1, Ex H H1 → Pv 0 σ H1)
    (hG : ∀ i σ' H', i ≤ n → Pv i σ' H' → G H') (hs : ∀ i x σ' H1 H', i < n → Pv i σ' H1 → Y i H1 x H' → g x σ' H' fun σ2 H2 => tu { D with nx := Pv (i + 1), ct := Pv (i + 1), bk := D.nx } σ2 H2) (hd : ∀ σ' H', Pv n σ' H' → D.nx σ' H') :
    tFor wi g tu D σ H := hi H (Ex.refl H) _ fun H1 e => for_it w Pv (h0 H1 e) hG hs hd
end
end HA

end
section
namespace HA
/-! Plain mathematics: sums, counts, half alike tables. -/
/-! ### sums -/
def S : Nat → (Nat → Int) → Int
  | 0, _ => 0
  | n + 1, g => S n g + g n
theorem S_congr : ∀ {n : Nat} {g h : Nat → Int}, (∀ k, k < n → g k = h k) → S n g = S n h
  | 0, _, _, _ => rfl
  | n + 1, g, h, e => by
    show S n g + g n = S n h + h n
    rw [S_congr (n := n) fun k hk => e k (by omega), e n (by omega)]
theorem S_add : ∀ (n : Nat) (g h : Nat → Int), S n (fun k => g k + h k) = S n g + S n h
  | 0, _, _ => rfl
  | n + 1, g, h => by
    show S n (fun k => g k + h k) + (g n + h n) = S n g + g n + (S n h + h n)
    rw [S_add n g h]
    omega
theorem S_zero : ∀ n : Nat, S n (fun _ => 0) = 0
  | 0 => rfl
  | n + 1 => by
    show S n (fun _ => 0) + 0 = 0
    rw [S_zero n]
    rfl
theorem S_mulL : ∀ (n : Nat) (c : Int) (g : Nat → Int), S n (fun k => c * g k) = c * S n g
  | 0, c, _ => (Int.mul_zero c).symm
  | n + 1, c, g => by
    show S n (fun k => c * g k) + c * g n = c * (S n g + g n)
    rw [S_mulL n c g, Int.mul_add]
theorem S_mulR (n : Nat) (c : Int) (g : Nat → Int) : S n (fun k => g k * c) = S n g * c := by
  rw [Int.mul_comm, ← S_mulL]
  exact S_congr fun k _ => Int.mul_comm _ _
theorem S_neg (n : Nat) (g : Nat → Int) : S n (fun k => -g k) = -S n g := by
  have h := S_mulL n (-1) g
  rw [Int.neg_one_mul] at h
  rw [← h]
  exact S_congr fun k _ => (Int.neg_one_mul _).symm
theorem S_const : ∀ (n : Nat) (c : Int), S n (fun _ => c) = n * c
  | 0, c => by simp [S]
  | n + 1, c => by
    show S n (fun _ => c) + c = ((n + 1 : Nat) : Int) * c
    rw [S_const n c, Int.natCast_add, Int.add_mul]
    simp
theorem S_swap : ∀ (n m : Nat) (F : Nat → Nat → Int), S n (fun a => S m (fun b => F a b)) = S m (fun b => S n (fun a => F a b))
  | 0, m, F => (S_zero m).symm
  | n + 1, m, F => by
    show S n (fun a => S m (fun b => F a b)) + S m (fun b => F n b) = S m (fun b => S n (fun a => F a b) + F n b)
    rw [S_add, S_swap n m F]
theorem S_nonneg : ∀ {n : Nat} {g : Nat → Int}, (∀ k, k < n → 0 ≤ g k) → 0 ≤ S n g
  | 0, _, _ => Int.le_refl _
  | n + 1, g, h => by
    have h1 := S_nonneg (n := n) fun k hk => h k (by omega)
    have h2 := h n (by omega)
    show 0 ≤ S n g + g n
    omega
theorem S_zero_each : ∀ {n : Nat} {g : Nat → Int}, (∀ k, k < n → 0 ≤ g k) → S n g = 0 → ∀ k, k < n → g k = 0
  | 0, _, _, _, k, hk => absurd hk (by omega)
  | n + 1, g, h, e, k, hk => by
    have h1 := S_nonneg (n := n) (g := g) fun k hk => h k (by omega)
    have h2 := h n (by omega)
    have e' : S n g + g n = 0 := e
    by_cases hkn : k = n
    · subst hkn; omega
    · exact S_zero_each (n := n) (fun k hk => h k (by omega)) (by omega) k (by omega)
theorem S_split (n : Nat) : ∀ (m : Nat) (g : Nat → Int), S (n + m) g = S n g + S m (fun k => g (n + k))
  | 0, g => by
    show S n g = S n g + 0
    omega
  | m + 1, g => by
    show S (n + m) g + g (n + m) = S n g + (S m (fun k => g (n + k)) + g (n + m))
    rw [S_split n m g]
    omega
theorem S_one : ∀ {n : Nat} {g : Nat → Int} {a : Nat}, a < n → (∀ k, k < n → k ≠ a → g k = 0) → S n g = g a
  | 0, _, _, h, _ => absurd h (by omega)
  | n + 1, g, a, h, z => by
    show S n g + g n = g a
    by_cases e : a = n
    · subst e
      rw [S_congr (h := fun _ => 0) fun k hk => z k (by omega) (by omega), S_zero]
      omega
    · rw [S_one (n := n) (a := a) (by omega) fun k hk hne => z k (by omega) hne, z n (by omega) (by omega)]
      omega
/-! ### counts -/
def cnt (n : Nat) (p : Nat → Bool) : Nat := ((List.range n).filter p).length
theorem cnt_zero (p : Nat → Bool) : cnt 0 p = 0 := rfl
theorem cnt_succ (n : Nat) (p : Nat → Bool) : cnt (n + 1) p = cnt n p + (if p n = true then 1 else 0) := by
  unfold cnt
  rw [List.range_succ, List.filter_append, List.length_append]
  cases h : p n with
  | true => simp [List.filter, h]
  | false => simp [List.filter, h]
theorem cnt_le (n : Nat) (p : Nat → Bool) : cnt n p ≤ n := by
  unfold cnt
  have h := List.length_filter_le p (List.range n)
  rwa [List.length_range] at h
theorem cnt_congr : ∀ {n : Nat} {p q : Nat → Bool}, (∀ k, k < n → p k = q k) → cnt n p = cnt n q
  | 0, _, _, _ => rfl
  | n + 1, p, q, h => by
    rw [cnt_succ, cnt_succ, cnt_congr (n := n) fun k hk => h k (by omega), h n (by omega)]
theorem cnt_not : ∀ (n : Nat) (p : Nat → Bool), cnt n p + cnt n (fun k => !p k) = n
  | 0, _ => rfl
  | n + 1, p => by
    have ih := cnt_not n p
    rw [cnt_succ, cnt_succ]
    cases h : p n <;> simp <;> omega
def sg (b : Bool) : Int := if b = true then 1 else -1
theorem sg_mul (a b : Bool) : sg a * sg b = if (a == b) = true then 1 else -1 := by cases a <;> cases b <;> rfl
theorem sg_sq (a : Bool) : sg a * sg a = 1 := by cases a <;> rfl
theorem sg_not (a : Bool) : sg (!a) = -sg a := by cases a <;> rfl
theorem sg_xor (a b : Bool) : sg (a ^^ b) = -(sg a * sg b) := by cases a <;> cases b <;> rfl
def ip (n : Nat) (g h : Nat → Bool) : Int := S n (fun k => sg (g k) * sg (h k))
def alk (n : Nat) (g h : Nat → Bool) : Nat := cnt n (fun k => g k == h k)
theorem ip_alk : ∀ (n : Nat) (g h : Nat → Bool), ip n g h = 2 * (alk n g h : Int) - n
  | 0, _, _ => rfl
  | n + 1, g, h => by
    have ih : S n (fun k => sg (g k) * sg (h k)) = 2 * ((cnt n (fun k => g k == h k) : Nat) : Int) - n := ip_alk n g h
    show S n (fun k => sg (g k) * sg (h k)) + sg (g n) * sg (h n) = 2 * ((cnt (n + 1) (fun k => g k == h k) : Nat) : Int) - ((n + 1 : Nat) : Int)
    rw [cnt_succ, ih, sg_mul]
    cases e : (g n == h n) <;> simp <;> omega
theorem alk_le (n : Nat) (g h : Nat → Bool) : alk n g h ≤ n := cnt_le _ _
theorem alk_comm (n : Nat) (g h : Nat → Bool) : alk n g h = alk n h g := cnt_congr fun k _ => by cases g k <;> cases h k <;> rfl
theorem alk_congr {n : Nat} {g h g' h' : Nat → Bool} (e : ∀ k, k < n → g k = g' k) (e' : ∀ k, k < n → h k = h' k) : alk n g h = alk n g' h' := cnt_congr fun k hk => by rw [e k hk, e' k hk]
theorem ip_comm (n : Nat) (g h : Nat → Bool) : ip n g h = ip n h g := S_congr fun k _ => Int.mul_comm _ _
theorem ip_congr {n : Nat} {g h g' h' : Nat → Bool} (e : ∀ k, k < n → g k = g' k) (e' : ∀ k, k < n → h k = h' k) : ip n g h = ip n g' h' := S_congr fun k hk => by rw [e k hk, e' k hk]
theorem ip_self (n : Nat) (g : Nat → Bool) : ip n g g = n := by
  show S n (fun k => sg (g k) * sg (g k)) = n
  rw [S_congr (h := fun _ => 1) fun k _ => sg_sq _, S_const]
  omega
theorem ip_zero_iff (n : Nat) (g h : Nat → Bool) : ip n g h = 0 ↔ 2 * alk n g h = n := by
  rw [ip_alk]
  omega
/-! ### half alike -/
def halfB (n : Nat) (f : Nat → Nat → Bool) : Bool := (List.range n).all fun j => (List.range j).all fun i => decide (2 * alk n (f i) (f j) = n)
def Had (n : Nat) (f : Nat → Nat → Bool) : Prop := ∀ i, i < n → ∀ j, j < n → i ≠ j → ip n (f i) (f j) = 0
theorem halfB_iff (n : Nat) (f : Nat → Nat → Bool) : halfB n f = true ↔ ∀ j, j < n → ∀ i, i < j → 2 * alk n (f i) (f j) = n := by
  unfold halfB
  simp only [List.all_eq_true, List.mem_range, decide_eq_true_eq]
theorem half_had {n : Nat} {f : Nat → Nat → Bool} (h : halfB n f = true) : Had n f := fun i hi j hj hne => by
  rw [halfB_iff] at h
  by_cases hlt : i < j
  · exact (ip_zero_iff _ _ _).mpr (h j hj i hlt)
  · rw [ip_comm]
    exact (ip_zero_iff _ _ _).mpr (h i hi j (by omega))
theorem had_half {n : Nat} {f : Nat → Nat → Bool} (h : Had n f) : halfB n f = true := by
  rw [halfB_iff]
  exact fun j hj i hi => (ip_zero_iff _ _ _).mp (h i (by omega) j hj (by omega))
theorem halfB_congr {n : Nat} {f g : Nat → Nat → Bool} (e : ∀ i, i < n → ∀ j, j < n → f i j = g i j) : halfB n f = halfB n g := by
  rw [Bool.eq_iff_iff, halfB_iff, halfB_iff]
  constructor
  · intro h j hj i hi
    rw [← h j hj i hi]
    exact congrArg (2 * ·) (by rw [h j hj i hi]; exact alk_congr (fun k hk => (e i (by omega) k hk).symm) (fun k hk => (e j hj k hk).symm))
  · intro h j hj i hi
    rw [← h j hj i hi]
    exact congrArg (2 * ·) (by rw [h j hj i hi]; exact alk_congr (fun k hk => e i (by omega) k hk) (fun k hk => e j hj k hk))
/-- the columns of a half alike table are half alike -/
theorem had_tr {n : Nat} {f : Nat → Nat → Bool} (h : Had n f) : Had n (fun i j => f j i) := by
  let s : Nat → Nat → Int := fun i k => sg (f i k)
  let C : Nat → Nat → Int := fun a b => S n (fun k => s k a * s k b)
  let R : Nat → Nat → Int := fun i j => S n (fun k => s i k * s j k)
  have hR : ∀ i, i < n → ∀ j, j < n → i ≠ j → R i j = 0 := fun i hi j hj hne => h i hi j hj hne
  have hRd : ∀ i, R i i = n := fun i => ip_self n (f i)
  have hCd : ∀ a, C a a = n := fun a => ip_self n (fun k => f k a)
  -- the sums of all squares are the same
  have e1 : S n (fun a => S n (fun b => C a b * C a b)) = S n (fun k => S n (fun l => R k l * R k l)) := by
    have x1 : ∀ a b, C a b * C a b = S n (fun k => S n (fun l => s k a * s k b * (s l a * s l b))) := fun a b => by
      show C a b * C a b = _
      rw [show (fun k => S n (fun l => s k a * s k b * (s l a * s l b))) = (fun k => s k a * s k b * C a b) from funext fun k => S_mulL n _ _, S_mulR]
    have x2 : ∀ k l, R k l * R k l = S n (fun a => S n (fun b => s k a * s l a * (s k b * s l b))) := fun k l => by
      show R k l * R k l = _
      rw [show (fun a => S n (fun b => s k a * s l a * (s k b * s l b))) = (fun a => s k a * s l a * R k l) from funext fun a => S_mulL n _ _, S_mulR]
    rw [S_congr (h := fun a => S n (fun b => S n (fun k => S n (fun l => s k a * s k b * (s l a * s l b))))) fun a _ => S_congr fun b _ => x1 a b]
    rw [S_congr (n := n) (g := fun k => S n (fun l => R k l * R k l)) (h := fun k => S n (fun l => S n (fun a => S n (fun b => s k a * s l a * (s k b * s l b))))) fun k _ => S_congr fun l _ => x2 k l]
    -- move a, b inside
    rw [S_congr (n := n) (h := fun a => S n (fun k => S n (fun l => S n (fun b => s k a * s k b * (s l a * s l b))))) fun a _ => by
      rw [S_swap]
      exact S_congr fun k _ => S_swap n n _]
    rw [S_swap]
    refine S_congr fun k _ => ?_
    rw [S_swap]
    refine S_congr fun l _ => S_congr fun a _ => S_congr fun b _ => ?_
    show s k a * s k b * (s l a * s l b) = s k a * s l a * (s k b * s l b)
    rw [Int.mul_assoc, Int.mul_assoc, Int.mul_left_comm (s k b)]
  have e2 : S n (fun k => S n (fun l => R k l * R k l)) = S n (fun _ => (n : Int) * n) := S_congr fun k hk => by
    rw [S_one (a := k) hk fun l hl hne => by rw [hR k hk l hl (Ne.symm hne)]; rfl, hRd]
  have e3 : S n (fun a => S n (fun b => C a b * C a b - (if a = b then (n : Int) * n else 0))) = 0 := by
    have y1 : S n (fun a => S n (fun b => C a b * C a b - (if a = b then (n : Int) * n else 0))) = S n (fun a => S n (fun b => C a b * C a b) + -S n (fun b => if a = b then (n : Int) * n else 0)) := S_congr fun a _ => by
      rw [← S_neg, ← S_add]
      exact S_congr fun b _ => by omega
    have y2 : S n (fun a => S n (fun b => if a = b then (n : Int) * n else 0)) = S n (fun _ => (n : Int) * n) := S_congr fun a ha => by
      rw [S_one (a := a) ha fun b hb hne => if_neg (Ne.symm hne), if_pos rfl]
    rw [y1, S_add, S_neg, y2, e1, e2]
    omega
  intro i hi j hj hne
  have z1 : ∀ a, a < n → ∀ b, b < n → 0 ≤ C a b * C a b - (if a = b then (n : Int) * n else 0) := fun a _ b _ => by
    by_cases e : a = b
    · subst e
      rw [if_pos rfl, hCd]
      omega
    · rw [if_neg e]
      have : 0 ≤ C a b * C a b := by
        rcases Int.le_total 0 (C a b) with q | q
        · exact Int.mul_nonneg q q
        · exact Int.mul_nonneg_of_nonpos_of_nonpos q q
      omega
  have z2 := S_zero_each (n := n) (fun a ha => S_nonneg fun b hb => z1 a ha b hb) e3 i hi
  have z3 := S_zero_each (n := n) (fun b hb => z1 i hi b hb) z2 j hj
  have z4 : C i j * C i j - (if i = j then (n : Int) * n else 0) = 0 := z3
  rw [if_neg hne] at z4
  have z5 : C i j * C i j = 0 := by omega
  rcases Int.mul_eq_zero.mp z5 with q | q <;> exact q
/-- rows in another turn, some turned -/
theorem had_perm {n : Nat} {f g : Nat → Nat → Bool} (π : Nat → Nat) (e : Nat → Bool) (hπ : ∀ i, i < n → π i < n) (inj : ∀ i, i < n → ∀ j, j < n → π i = π j → i = j) (hg : ∀ i, i < n → ∀ k, k < n → g i k = (f (π i) k ^^ e i)) (h : Had n f) : Had n g := fun i hi j hj hne => by
  have hz := h (π i) (hπ i hi) (π j) (hπ j hj) fun q => hne (inj i hi j hj q)
  have q : ip n (g i) (g j) = sg (e i) * sg (e j) * ip n (f (π i)) (f (π j)) := by
    show S n _ = _ * S n _
    rw [← S_mulL]
    refine S_congr fun k hk => ?_
    rw [hg i hi k hk, hg j hj k hk, sg_xor, sg_xor]
    cases f (π i) k <;> cases f (π j) k <;> cases e i <;> cases e j <;> rfl
  rw [q, hz, Int.mul_zero]
/-- each row twice, and once with its second half turned -/
def dbl (n : Nat) (f : Nat → Nat → Bool) (i j : Nat) : Bool := if i < n then f i (if j < n then j else j - n) else (if j < n then f (i - n) j else !f (i - n) (j - n))
theorem ip_split (n m : Nat) (g h : Nat → Bool) : ip (n + m) g h = ip n g h + ip m (fun k => g (n + k)) (fun k => h (n + k)) := S_split n m _
theorem had_dbl {n : Nat} {f : Nat → Nat → Bool} (h : Had n f) : Had (n + n) (dbl n f) := fun i hi j hj hne => by
  have lo : ∀ a, ip n (fun k => dbl n f a k) (fun k => dbl n f a k) = ip n (fun k => dbl n f a k) (fun k => dbl n f a k) := fun _ => rfl
  have lowA : ∀ a, a < n → ∀ k, k < n → dbl n f a k = f a k := fun a ha k hk => by unfold dbl; rw [if_pos ha, if_pos hk]
  have highA : ∀ a, a < n → ∀ k, k < n → dbl n f a (n + k) = f a k := fun a ha k hk => by
    unfold dbl
    rw [if_pos ha, if_neg (show ¬ n + k < n by omega), show n + k - n = k by omega]
  have lowB : ∀ a, ¬ a < n → ∀ k, k < n → dbl n f a k = f (a - n) k := fun a ha k hk => by unfold dbl; rw [if_neg ha, if_pos hk]
  have highB : ∀ a, ¬ a < n → ∀ k, k < n → dbl n f a (n + k) = !f (a - n) k := fun a ha k hk => by
    unfold dbl
    rw [if_neg ha, if_neg (show ¬ n + k < n by omega), show n + k - n = k by omega]
  have ngR : ∀ g k, ip n g (fun j => !k j) = -ip n g k := fun g k => by
    show S n _ = -S n _
    rw [← S_neg]
    exact S_congr fun j _ => by rw [sg_not, Int.mul_neg]
  have ngL : ∀ g k, ip n (fun j => !g j) k = -ip n g k := fun g k => by rw [ip_comm, ngR, ip_comm]
  rw [ip_split]
  by_cases hi' : i < n
  · by_cases hj' : j < n
    · rw [ip_congr (lowA i hi') (lowA j hj'), ip_congr (g := fun k => dbl n f i (n + k)) (highA i hi') (highA j hj'), h i hi' j hj' hne]
      rfl
    · rw [ip_congr (lowA i hi') (lowB j hj'), ip_congr (g := fun k => dbl n f i (n + k)) (h' := fun k => !f (j - n) k) (highA i hi') (highB j hj'), ngR]
      omega
  · by_cases hj' : j < n
    · rw [ip_congr (lowB i hi') (lowA j hj'), ip_congr (g := fun k => dbl n f i (n + k)) (g' := fun k => !f (i - n) k) (highB i hi') (highA j hj'), ngL]
      omega
    · rw [ip_congr (lowB i hi') (lowB j hj'), ip_congr (g := fun k => dbl n f i (n + k)) (g' := fun k => !f (i - n) k) (h' := fun k => !f (j - n) k) (highB i hi') (highB j hj'), ngL, ngR, h (i - n) (by omega) (j - n) (by omega) (by omega)]
      rfl
/-! ### the table of a prime and one -/
def isSq (p r : Nat) : Bool := (List.range (p - 1)).any fun k => (k + 1) * (k + 1) % p == r
def pri (p i j : Nat) : Bool := if i = 0 then true else if j = 0 then false else (decide (j = i) || isSq p ((j + p - i) % p))
end HA
namespace HA
theorem half_pri3 : halfB 4 (pri 3) = true := by decide +kernel
theorem half_pri7 : halfB 8 (pri 7) = true := by decide +kernel
theorem half_pri11 : halfB 12 (pri 11) = true := by decide +kernel
theorem half_pri19 : halfB 20 (pri 19) = true := by decide +kernel
/-- the squares as the bits of a number -/
def priM (m p i j : Nat) : Bool := if i = 0 then true else if j = 0 then false else (decide (j = i) || Nat.testBit m ((j + p - i) % p))
def sqMask (p : Nat) : Nat := (List.range p).foldl (fun a r => if isSq p r = true then a + 2 ^ r else a) 0
theorem half_priM {m p : Nat} (hp : 0 < p) (h : (List.range p).all (fun r => isSq p r == Nat.testBit m r) = true) (k : halfB (p + 1) (priM m p) = true) : halfB (p + 1) (pri p) = true := by
  rw [← k]
  refine halfB_congr fun i hi j hj => ?_
  have q : ∀ r, r < p → isSq p r = Nat.testBit m r := fun r hr => by
    have := List.all_eq_true.mp h r (List.mem_range.mpr hr)
    exact beq_iff_eq.mp this
  unfold pri priM
  rw [q _ (Nat.mod_lt _ hp)]
theorem half_pri31 : halfB 32 (pri 31) = true := half_priM (m := 303908790) (p := 31) (by decide) (by decide +kernel) (by decide +kernel)
theorem half_pri43 : halfB 44 (pri 43) = true := half_priM (m := 3678700564050) (p := 43) (by decide) (by decide +kernel) (by decide +kernel)
theorem half_pri67 : halfB 68 (pri 67) = true := half_priM (m := 61808106872519771730) (p := 67) (by decide) (by decide +kernel) (by decide +kernel)
end HA

end
section
set_option maxRecDepth 100000
set_option maxHeartbeats 4000000
namespace HA
open PySem PySem.Spec PyProof.Rows L2 Evl
/-! Promises that do not hang on the row. -/
/-- what isinstance asks of a class -/
structure IsC (K : PySem.W.Frag) (C : Addr) : Prop where
  ha : PySem.W.findIn K (.ref C) "__class__" = some (some (.builtin "object.__class__"))
  hn : PySem.W.specialIn K (.builtin "object.__class__") "__get__" = some (some (.builtin "getset_descriptor.__get__"))
  htk : PySem.W.takesIn K (.builtin "object.__class__") = some true
  hm : PySem.W.mroIn K C (.type "object") = some true
theorem IsC.ty {K : PySem.W.Frag} {C : Addr} (i : IsC K C) (c : Cls K C) {H : Hp} {a dx : Addr} {fs : List (Str × V)} (e : H a = some (.ins C dx fs)) : TyX K H (.ref a) (.ref C) := .base (.ins e c i.ha i.hn i.htk i.hm)
/-- a table that stands at a -/
def TabAt (K : PySem.W.Frag) (H : Hp) (a : Addr) (n : Nat) (f : Nat → Nat → Bool) : Prop := SqL K H a (tabV n f)
theorem TabAt.ex {K : PySem.W.Frag} {H H' : Hp} {a : Addr} {n : Nat} {f : Nat → Nat → Bool} (e : Ex H H') (h : TabAt K H a n f) : TabAt K H' a n f := ex_l e h

section
variable {K : PySem.W.Frag} {σ : L2.St} {H H' : Hp} {ta tb tc td te tx : TE} {t u : TT} {x y z v : V} {r r' r'' : R2}
theorem ev_lenT {p : Addr} {n : Nat} {f : Nat → Nat → Bool} (ha : Ev ta σ H (.ref p)) (h : TabAt K H p n f) : Ev (tCB (rLenS K) (tCons ta tNil)) σ H (.int (n : Int)) := by
  have q := ev_len (K := K) ha h
  rw [tabV_len] at q
  exact q
theorem ev_isi {ta : TA} {c : V} {tv u : Value} {b : Bool} (h : EvA ta σ H [x, c]) (hc : ClsV c u) (ht : ∀ H1, Ex H H1 → TyX K H1 x tv) (hk : PySem.W.kitOne K tv u = some b) : Ev (tCB (rIsi K) ta) σ H (.bl b) :=
  ev_cb h fun H1 e Q q => ⟨x, c, tv, u, b, rfl, hc, ht H1 e, hk, q H1 (Ex.refl H1)⟩
theorem ev_chain {k k' : Bool} {w : V} (h1 : Ev ta σ H x) (h2 : Ev tb σ H y) (hr : RV r x y H (.bl k)) (h3 : k = true → Ev tc σ H w) (hr' : k = true → RV r' y w H (.bl k')) : Ev (tChain r r' ta tb tc) σ H (.bl (k && k')) := fun H1 e Q q =>
  h1 H1 e _ fun H2 e2 => h2 H2 (e.trans e2) _ fun H3 e3 => hr H3 ((e.trans e2).trans e3) _ fun H4 e4 => ⟨k, rfl, by
    cases k with
    | true =>
      show tc σ H4 fun w' H5 => r' y w' H5 Q
      exact h3 rfl H4 (((e.trans e2).trans e3).trans e4) _ fun H5 e5 => hr' rfl H5 ((((e.trans e2).trans e3).trans e4).trans e5) Q fun H6 e6 => q H6 ((((e2.trans e3).trans e4).trans e5).trans e6)
    | false =>
      show Q (.bl false) H4
      exact q H4 ((e2.trans e3).trans e4)⟩
theorem ev_chain3 {k k' k'' : Bool} {w w2 : V} (h1 : Ev ta σ H x) (h2 : Ev tb σ H y) (hr : RV r x y H (.bl k)) (h3 : k = true → Ev tc σ H w) (hr' : k = true → RV r' y w H (.bl k')) (h4 : k = true → k' = true → Ev td σ H w2) (hr'' : k = true → k' = true → RV r'' w w2 H (.bl k'')) :
    Ev (tChain3 r r' r'' ta tb tc td) σ H (.bl (k && (k' && k''))) := fun H1 e Q q =>
  h1 H1 e _ fun H2 e2 => h2 H2 (e.trans e2) _ fun H3 e3 => hr H3 ((e.trans e2).trans e3) _ fun H4 e4 => ⟨k, rfl, by
    have E4 := ((e.trans e2).trans e3).trans e4
    have F4 := (e2.trans e3).trans e4
    cases k with
    | true =>
      show tc σ H4 fun y' H5 => r' y y' H5 fun z' H6 => ∃ k', z' = .bl k' ∧ (if k' = true then td σ H6 fun w' H7 => r'' y' w' H7 Q else Q (.bl false) H6)
      refine h3 rfl H4 E4 _ fun H5 e5 => hr' rfl H5 (E4.trans e5) _ fun H6 e6 => ⟨k', rfl, ?_⟩
      cases k' with
      | true =>
        show td σ H6 fun w' H7 => r'' w w' H7 Q
        exact h4 rfl rfl H6 ((E4.trans e5).trans e6) _ fun H7 e7 => hr'' rfl rfl H7 (((E4.trans e5).trans e6).trans e7) Q fun H8 e8 => q H8 ((((F4.trans e5).trans e6).trans e7).trans e8)
      | false =>
        show Q (.bl false) H6
        exact q H6 ((F4.trans e5).trans e6)
    | false =>
      show Q (.bl false) H4
      exact q H4 F4⟩
theorem ev_fld {p C dx : Addr} {fs : List (Str × V)} {f : Str} (ha : Ev ta σ H (.ref p)) (hp : H p = some (.ins C dx fs)) (c : Cls K C) (n : NoAttr K C f) (l : fs.lookup f = some v) : Ev (tFld K ta f) σ H v := fun H1 e Q q =>
  ha H1 e _ fun H2 e2 => ⟨p, C, dx, fs, v, rfl, (e.trans e2) p _ hp, c, n, l, q H2 e2⟩
theorem rv_isN : RV (fun x y H Q => y = V.non ∧ Q (V.bl (decide (x = V.non))) H) x .non H (.bl (decide (x = .non))) := fun H1 _ _ q => ⟨rfl, q H1 (Ex.refl H1)⟩
theorem rv_notB {a b : Bool} : RV rNotB (.bl a) (.bl b) H (.bl (!decide (a = b))) := fun H1 _ _ q => ⟨a, b, rfl, rfl, q H1 (Ex.refl H1)⟩
theorem rv_isB {a b : Bool} : RV rIsB (.bl a) (.bl b) H (.bl (decide (a = b))) := fun H1 _ _ q => ⟨a, b, rfl, rfl, q H1 (Ex.refl H1)⟩
theorem s_retIf {D : Ends} {b : Bool} (h : EvT t σ H b) (h1 : b = true → ∀ H1, Ex H H1 → tRet ta D σ H1) (h2 : b = false → ∀ H1, Ex H H1 → tRet tb D σ H1) : tRet (tIf t ta tb) D σ H := h H (Ex.refl H) _ fun H1 e => by
  cases b with
  | true => exact h1 rfl H1 e
  | false => exact h2 rfl H1 e
theorem s_retMk {D : Ends} {C : Addr} {sp : Sp} {dvs vs : List V} {E : XK} {t : TA} (h : EvA t σ H vs) (k : ∀ H1 x dx, Ex H H1 → H1 x = none → H1 dx = none → dx ≠ x → sp (.ref x :: (vs ++ dvs)) (upd (upd H1 dx (.own x)) x (.ins C dx [])) (fun v H2 => v = .non ∧ D.rt (.ref x) H2) E) : tRet (tMake C sp dvs E t) D σ H :=
  h H (Ex.refl H) _ fun H1 e x dx nx ndx ne => k H1 x dx e nx ndx ne
theorem bnot1 {b : Bool} (h : (!b) = true) : b = false := by
  cases b with
  | true => exact absurd h (by decide)
  | false => rfl
theorem bnot0 {b : Bool} (h : (!b) = false) : b = true := by
  cases b with
  | true => rfl
  | false => exact absurd h (by decide)
theorem dec_intB (a b : Int) : decide (V.int a = V.int b) = decide (a = b) := by
  rw [Bool.eq_iff_iff]
  simp
theorem dec_strB (a b : Str) : decide (V.str a = V.str b) = decide (a = b) := by
  rw [Bool.eq_iff_iff]
  simp
theorem dec_blB (a b : Bool) : decide (V.bl a = V.bl b) = decide (a = b) := by
  rw [Bool.eq_iff_iff]
  simp
end
def sp_is_row : Sp := fun vs H Q _ => ∃ (n : Nat) (g : Nat → Bool), vs = [.str (rowS n g), .int (n : Int)] ∧ n ≤ 1000 ∧ RetV (.bl true) H Q
def sp_asked_table (K : PySem.W.Frag) : Sp := fun vs H Q _ => ∃ (a : Addr) (n : Nat) (f : Nat → Nat → Bool), vs = [.ref a] ∧ TabAt K H a n f ∧ 1 ≤ n ∧ n ≤ 100 ∧ (∃ xs, H a = some (.lst xs)) ∧ RetV .non H Q
def sp_alike : Sp := fun vs H Q _ => ∃ (n : Nat) (g h : Nat → Bool), vs = [.str (rowS n g), .str (rowS n h)] ∧ n ≤ 1000 ∧ RetV (.int (alk n g h : Int)) H Q
def sp_first_unlike (K : PySem.W.Frag) : Sp := fun vs H Q _ => ∃ (a : Addr) (n : Nat) (f : Nat → Nat → Bool), vs = [.ref a] ∧ TabAt K H a n f ∧ n ≤ 1000 ∧ (halfB n f = true → RetV .non H Q) ∧
  (∀ i j : Nat, i < j → j < n → 2 * alk n (f i) (f j) ≠ n → ∀ p H2, H p = none → Ex H H2 → H2 p = some (.tup [.int (i : Int), .int (j : Int)]) → Q (.ref p) H2)
def sp_half (K : PySem.W.Frag) : Sp := fun vs H Q _ => ∃ (a : Addr) (n : Nat) (f : Nat → Nat → Bool), vs = [.ref a] ∧ TabAt K H a n f ∧ n ≤ 1000 ∧ RetV (.bl (halfB n f)) H Q
def sp_Half_shows (K : PySem.W.Frag) : Sp := fun vs H Q _ => ∃ (x : V) (a : Addr) (n : Nat) (f : Nat → Nat → Bool), vs = [x, .ref a] ∧ TabAt K H a n f ∧ n ≤ 1000 ∧ RetV (.bl (halfB n f)) H Q
/-- the fields of an Unlike -/
def uf (x y : V) : List (Str × V) := putF (Str.ofString "other") y (putF (Str.ofString "one") x [])
def nf (x y : V) : List (Str × V) := putF (Str.ofString "plain") y (putF (Str.ofString "row") x [])
theorem uf_one (x y : V) : (uf x y).lookup (Str.ofString "one") = some x := by
  unfold uf
  rw [lookup_putF, if_neg (by decide +kernel), lookup_putF, if_pos rfl]
theorem uf_other (x y : V) : (uf x y).lookup (Str.ofString "other") = some y := by
  unfold uf
  rw [lookup_putF, if_pos rfl]
theorem uf_no (x y : V) {m : Str} (h1 : ¬ m = Str.ofString "other") (h2 : ¬ m = Str.ofString "one") : (uf x y).lookup m = none := by
  unfold uf
  rw [lookup_putF, if_neg h1, lookup_putF, if_neg h2]
  all_goals rfl
theorem nf_row (x y : V) : (nf x y).lookup (Str.ofString "row") = some x := by
  unfold nf
  rw [lookup_putF, if_neg (by decide +kernel), lookup_putF, if_pos rfl]
theorem nf_plain (x y : V) : (nf x y).lookup (Str.ofString "plain") = some y := by
  unfold nf
  rw [lookup_putF, if_pos rfl]
theorem nf_no (x y : V) {m : Str} (h1 : ¬ m = Str.ofString "plain") (h2 : ¬ m = Str.ofString "row") : (nf x y).lookup m = none := by
  unfold nf
  rw [lookup_putF, if_neg h1, lookup_putF, if_neg h2]
  all_goals rfl
def sp_init2 (C : Addr) (mk : V → V → List (Str × V)) : Sp := fun vs H Q _ => ∃ (p dx : Addr) (x y : V), vs = [.ref p, x, y] ∧ H p = some (.ins C dx []) ∧ Q .non (upd H p (.ins C dx (mk x y)))
/-- whether two counts are those of rows that are not half alike -/
def unlB (n : Nat) (f : Nat → Nat → Bool) (i j : Int) : Bool := decide (0 ≤ i) && (decide (i < j) && (decide (j < n) && decide (2 * alk n (f i.toNat) (f j.toNat) ≠ n)))
def sp_Unlike_shows (K : PySem.W.Frag) (C : Addr) : Sp := fun vs H Q _ => ∃ (p dx a : Addr) (i j : Int) (n : Nat) (f : Nat → Nat → Bool), vs = [.ref p, .ref a] ∧ H p = some (.ins C dx (uf (.int i) (.int j))) ∧ TabAt K H a n f ∧ n ≤ 1000 ∧ RetV (.bl (unlB n f i j)) H Q
def sp_told (K : PySem.W.Frag) (CH CU : Addr) : Sp := fun vs H Q _ => ∃ (a : Addr) (n : Nat) (f : Nat → Nat → Bool), vs = [.ref a] ∧ TabAt K H a n f ∧ 1 ≤ n ∧ n ≤ 100 ∧ (∃ xs, H a = some (.lst xs)) ∧
  (halfB n f = true → ∀ p dx H2, H p = none → Ex H H2 → H2 p = some (.ins CH dx []) → Q (.ref p) H2) ∧
  (∀ i j : Nat, i < j → j < n → 2 * alk n (f i) (f j) ≠ n → ∀ p dx H2, H p = none → Ex H H2 → H2 p = some (.ins CU dx (uf (.int (i : Int)) (.int (j : Int)))) → Q (.ref p) H2)
/-! ### the law's own defs -/
/-- more bits than the script's numbers have -/
def BB : Nat := 1048700
def lawNum (c a w : Int) : Int := if (10 : Int) ^ 18 ≤ c then c / (1 + a % 7) else
  (((c + 977 * a) * 48271 + w) % 2147483647 * (c + 31 * a + 7)) * (((c + 977 * a) * 48271 + w) % 2147483647 + c + 5) * (((c + 977 * a) * 48271 + w) % 2147483647 * (((c + 977 * a) * 48271 + w) % 2147483647) + 11) / (1009 + a)
def sp_L_number : Sp := fun vs H Q _ => ∃ (c a w : Int), vs = [.int c, .int a, .int w] ∧ c.natAbs < 2 ^ BB ∧ 0 ≤ a ∧ a ≤ 10000 ∧ RetV (.int (lawNum c a w)) H Q
def sp_L_other : Sp := fun vs H Q _ => ∃ (n : Nat) (g : Nat → Bool), vs = [.str (rowS n g)] ∧ n ≤ 1000 ∧ RetV (.str (rowS n fun j => !g j)) H Q
def sp_L_doubled (K : PySem.W.Frag) : Sp := fun vs H Q _ => ∃ (a : Addr) (n : Nat) (f : Nat → Nat → Bool), vs = [.ref a] ∧ TabAt K H a n f ∧ n ≤ 1000 ∧ RetL (tabV (n + n) (dbl n f)) H Q
def sp_L_prime_table : Sp := fun vs H Q _ => ∃ (p : Nat), vs = [.int (p : Int)] ∧ 2 ≤ p ∧ p ≤ 100 ∧ RetL (tabV (p + 1) (pri p)) H Q
/-- the tables that the law makes: of 1 to 20 rows, half alike -/
def LT (n : Nat) (f : Nat → Nat → Bool) : Prop := 1 ≤ n ∧ n ≤ 20 ∧ Had n f
/-- the script's numbers -/
def Cells (ns : List Int) : Prop := ns.length ≤ 63 ∧ ∀ z ∈ ns, z.natAbs < 2 ^ BB
def sp_L_table (K : PySem.W.Frag) : Sp := fun vs H Q _ => ∃ (a : Addr) (ns : List Int), vs = [.ref a] ∧ SqL K H a (ns.map V.int) ∧ Cells ns ∧ ∀ n f, LT n f → RetL (tabV n f) H Q
def sp_law (K : PySem.W.Frag) : Sp := fun vs H Q _ => ∃ (a : Addr) (ns : List Int), vs = [.ref a] ∧ SqL K H a (ns.map V.int) ∧ ns.length ≤ 63 ∧ (∀ z ∈ ns, Builtin.Int.intBits z ≤ 1048576) ∧ ∀ H', Q (.bl true) H'
theorem bits_lt {z : Int} (h : Builtin.Int.intBits z ≤ 1048576) : z.natAbs < 2 ^ BB := by
  by_cases hz : z = 0
  · subst hz
    exact Nat.pow_pos (by decide)
  · have e : z.natAbs < 2 ^ (z.natAbs.log2 + 1) := Nat.lt_log2_self
    have k : z.natAbs.log2 + 1 ≤ 1048576 := by
      unfold Builtin.Int.intBits at h
      rw [if_neg (by simpa using hz)] at h
      exact h
    exact Nat.lt_of_lt_of_le e (Nat.pow_le_pow_right (by decide) (Nat.le_trans k (show (1048576 : Nat) ≤ 1048700 by decide)))
end HA

end
section
set_option maxRecDepth 100000
set_option maxHeartbeats 4000000
namespace HA
open PySem PySem.Spec PyProof.Rows L2 Evl
section
variable {K : PySem.W.Frag} {σ : L2.St} {H H' : Hp} {ta tb tc td te tx : TE} {t u : TT} {x y z v : V} {r r' r'' : R2}
theorem el_cat {xs ys : List V} (ha : EvL ta σ H xs) (hb : EvL tb σ H ys) (hz : xs.length + ys.length ≤ 100000) : EvL (tOp rCat ta tb) σ H (xs ++ ys) := fun H1 e Q q =>
  ha H1 e _ fun p H2 hp e2 h2 => hb H2 (e.trans e2) _ fun p' H3 hp' e3 h3 => ⟨p, p', xs, ys, rfl, rfl, e3 p _ h2, h3, sz_of hz, fun l hl => q l _ (fresh_back (e2.trans e3) hl) ((e2.trans e3).trans (Ex.new hl)) upd_same⟩
/-- a list that stands + a new one -/
theorem el_catV {a : Addr} {xs ys : List V} (ha : Ev ta σ H (.ref a)) (hx : H a = some (.lst xs)) (hb : EvL tb σ H ys) (hz : xs.length + ys.length ≤ 100000) : EvL (tOp rCat ta tb) σ H (xs ++ ys) := fun H1 e Q q =>
  ha H1 e _ fun H2 e2 => hb H2 (e.trans e2) _ fun p' H3 hp' e3 h3 => ⟨a, p', xs, ys, rfl, rfl, ((e.trans e2).trans e3) a _ hx, h3, sz_of hz, fun l hl => q l _ (fresh_back (e2.trans e3) hl) ((e2.trans e3).trans (Ex.new hl)) upd_same⟩
theorem el_if {b : Bool} {xs : List V} (h : EvT t σ H b) (h1 : b = true → EvL ta σ H xs) (h2 : b = false → EvL tb σ H xs) : EvL (tIf t ta tb) σ H xs := fun H1 e Q q => h H1 e _ fun H2 e2 => by
  cases b with
  | true =>
    show ta σ H2 Q
    exact h1 rfl H2 (e.trans e2) Q fun p H3 hp e3 h3 => q p H3 (fresh_back e2 hp) (e2.trans e3) h3
  | false =>
    show tb σ H2 Q
    exact h2 rfl H2 (e.trans e2) Q fun p H3 hp e3 h3 => q p H3 (fresh_back e2 hp) (e2.trans e3) h3
theorem el_rev {a : Addr} {xs : List V} (ha : Ev ta σ H (.ref a)) (hx : SqL K H a xs) : EvL (tRevL K ta) σ H xs.reverse := fun H1 e Q q =>
  ha H1 e _ fun H2 e2 => ⟨a, xs, rfl, ex_l (e.trans e2) hx, fun l hl => q l _ (fresh_back e2 hl) (e2.trans (Ex.new hl)) upd_same⟩
theorem el_listOf {a : Addr} {xs : List V} (ha : Ev ta σ H (.ref a)) (hx : SqL K H a xs) : EvL (tCB (rListS K) (tCons ta tNil)) σ H xs := el_list ha hx
end
/-! ### rows, more -/
theorem rowS_app (n m : Nat) (g h : Nat → Bool) : rowS n g ++ rowS m h = rowS (n + m) (fun j => if j < n then g j else h (j - n)) := by
  apply str_ext
  rw [app_cps, Array.toList_append]
  show ((List.range n).map fun j => cp (g j)) ++ ((List.range m).map fun j => cp (h j)) = (List.range (n + m)).map fun j => cp (if j < n then g j else h (j - n))
  rw [List.range_add, List.map_append, List.map_map]
  congr 1
  · exact List.map_congr_left fun j hj => by rw [if_pos (List.mem_range.mp hj)]
  · exact List.map_congr_left fun j hj => by
      show cp (h j) = cp (if n + j < n then g (n + j) else h (n + j - n))
      rw [if_neg (by omega), show n + j - n = j by omega]
theorem rowS_one (b : Bool) : rowS 1 (fun _ => b) = sgS b := rfl
theorem rowS_snoc (n : Nat) (g : Nat → Bool) : rowS n g ++ sgS (g n) = rowS (n + 1) g := by
  rw [← rowS_one, rowS_app]
  exact rowS_ext fun j hj => by
    by_cases h : j < n
    · rw [if_pos h]
    · rw [if_neg h, show j = n by omega]
theorem cutS_row (n : Nat) (g : Nat → Bool) (lo hi : Nat) : cutS (rowS n g) (some (lo : Int)) (some (hi : Int)) = rowS (min hi n - min lo n) (fun j => g (j + min lo n)) := by
  unfold cutS
  rw [rowS_len, HT.sIx_nat, HT.sIx_nat]
  apply str_ext
  show (((List.range n).map fun j => cp (g j)).drop (min lo n)).take (min hi n - min lo n) = (List.range (min hi n - min lo n)).map fun j => cp (g (j + min lo n))
  apply List.ext_getElem?
  intro i
  rw [List.getElem?_take]
  by_cases hi' : i < min hi n - min lo n
  · rw [if_pos hi', List.getElem?_drop, List.getElem?_map, List.getElem?_map, List.getElem?_range (by omega), List.getElem?_range hi']
    show some (cp (g (min lo n + i))) = some (cp (g (i + min lo n)))
    rw [Nat.add_comm]
  · rw [if_neg hi', List.getElem?_map, List.getElem?_eq_none (by rw [List.length_range]; omega)]
    rfl
theorem cutS_to (n : Nat) (g : Nat → Bool) (hi : Nat) : cutS (rowS n g) none (some (hi : Int)) = rowS (min hi n) g := by
  have e : cutS (rowS n g) none (some (hi : Int)) = cutS (rowS n g) (some ((0 : Nat) : Int)) (some (hi : Int)) := by
    unfold cutS
    rw [HT.sIx_none, show HT.sIx (rowS n g).length 0 (some ((0 : Nat) : Int)) = 0 from (HT.sIx_nat _ _ _).trans (Nat.zero_min _)]
  rw [e, cutS_row, Nat.zero_min]
  exact rowS_ext fun j hj => rfl
theorem cutS_from (n : Nat) (g : Nat → Bool) (lo : Nat) : cutS (rowS n g) (some (lo : Int)) none = rowS (n - min lo n) (fun j => g (j + min lo n)) := by
  have e : cutS (rowS n g) (some (lo : Int)) none = cutS (rowS n g) (some (lo : Int)) (some (n : Int)) := by
    unfold cutS
    rw [rowS_len, HT.sIx_none, HT.sIx_nat, HT.sIx_nat, Nat.min_self]
  rw [e, cutS_row, Nat.min_self]
/-- one sign of a row changed -/
def bend (g : Nat → Bool) (k : Nat) : Nat → Bool := fun j => if j = k then !g j else g j
theorem bend_row (n : Nat) (g : Nat → Bool) (k : Nat) (hk : k < n) : cutS (rowS n g) none (some (k : Int)) ++ sgS (!g k) ++ cutS (rowS n g) (some ((k + 1 : Nat) : Int)) none = rowS n (bend g k) := by
  rw [cutS_to, cutS_from, show min k n = k by omega, show min (k + 1) n = k + 1 by omega]
  have e : rowS k g ++ sgS (!g k) = rowS (k + 1) (bend g k) := by
    have q := rowS_snoc k (bend g k)
    have q1 : rowS k (bend g k) = rowS k g := rowS_ext fun j hj => by unfold bend; rw [if_neg (by omega)]
    have q2 : bend g k k = !g k := by unfold bend; rw [if_pos rfl]
    rw [q1, q2] at q
    exact q
  rw [e, rowS_app, show k + 1 + (n - (k + 1)) = n by omega]
  refine rowS_ext fun j hj => ?_
  by_cases h : j < k + 1
  · rw [if_pos h]
  · rw [if_neg h]
    show g (j - (k + 1) + (k + 1)) = bend g k j
    unfold bend
    rw [if_neg (by omega), show j - (k + 1) + (k + 1) = j by omega]
/-! ### comparisons of lists -/
def strG (z : Str) : Bool := PyData.canLay0 (.str z)
theorem rowS_ok (n : Nat) (g : Nat → Bool) : strG (rowS n g) = true := by
  unfold strG
  show ((rowS n g).cps.all (· < 0x110000)) = true
  have h : ∀ c ∈ (rowS n g).cps.toList, c = 43 ∨ c = 45 := fun c hc => by
    have hc' : c ∈ (List.range n).map fun j => cp (g j) := hc
    obtain ⟨j, _, rfl⟩ := List.mem_map.mp hc'
    unfold cp
    split
    · exact .inl rfl
    · exact .inr rfl
  first
    | (rw [Array.all_eq_true']; intro c hc; rcases h c (by simpa using hc) with rfl | rfl <;> decide)
    | (simp only [Array.all_eq_true, decide_eq_true_eq]; intro i hi; rcases h _ (Array.getElem_mem_toList hi) with q | q <;> rw [q] <;> decide)
theorem canLay_strs : ∀ zs : List Str, (∀ z ∈ zs, strG z = true) → PyData.canLayAll0 (zs.map .str) = true
  | [], _ => rfl
  | z :: r, h => by
    show (PyData.canLay0 (.str z) && PyData.canLayAll0 (r.map .str)) = true
    rw [show PyData.canLay0 (.str z) = true from h z (List.mem_cons_self ..), canLay_strs r fun y hy => h y (List.mem_cons_of_mem _ hy)]
    rfl
theorem depth_strs : ∀ zs : List Str, PyData.depthAll (zs.map .str) = 0
  | [] => rfl
  | z :: r => by
    show max (PyData.depth (.str z)) (PyData.depthAll (r.map .str)) = 0
    rw [depth_strs r]
    rfl
theorem canLay_ints : ∀ zs : List Int, PyData.canLayAll0 (zs.map .int) = true
  | [] => rfl
  | z :: r => canLay_ints r
theorem depth_ints : ∀ zs : List Int, PyData.depthAll (zs.map .int) = 0
  | [] => rfl
  | z :: r => by
    show max (PyData.depth (.int z)) (PyData.depthAll (r.map .int)) = 0
    rw [depth_ints r]
    rfl
theorem shaped_strs {zs : List Str} (h : ∀ z ∈ zs, strG z = true) : SeqAt.shaped (.list (zs.map .str)) = true := by
  unfold SeqAt.shaped
  have a : PyData.canLay0 (.list (zs.map .str)) = true := canLay_strs zs h
  have b : PyData.depth (.list (zs.map .str)) = 1 := by
    show PyData.depthAll (zs.map .str) + 1 = 1
    rw [depth_strs]
  rw [a, b]
  rfl
theorem shaped_ints (zs : List Int) : SeqAt.shaped (.list (zs.map .int)) = true := by
  unfold SeqAt.shaped
  have a : PyData.canLay0 (.list (zs.map .int)) = true := canLay_ints zs
  have b : PyData.depth (.list (zs.map .int)) = 1 := by
    show PyData.depthAll (zs.map .int) + 1 = 1
    rw [depth_ints]
  rw [a, b]
  rfl
theorem eqv_strs : ∀ xs ys : List Str, PyData.eqvAll (xs.map .str) (ys.map .str) = decide (xs = ys)
  | [], [] => rfl
  | [], _ :: _ => rfl
  | _ :: _, [] => rfl
  | x :: xs, y :: ys => by
    show ((x == y) && PyData.eqvAll (xs.map .str) (ys.map .str)) = decide (x :: xs = y :: ys)
    rw [eqv_strs xs ys, Bool.eq_iff_iff]
    simp
theorem eqv_ints : ∀ xs ys : List Int, PyData.eqvAll (xs.map .int) (ys.map .int) = decide (xs = ys)
  | [], [] => rfl
  | [], _ :: _ => rfl
  | _ :: _, [] => rfl
  | x :: xs, y :: ys => by
    show ((x == y) && PyData.eqvAll (xs.map .int) (ys.map .int)) = decide (x :: xs = y :: ys)
    rw [eqv_ints xs ys, Bool.eq_iff_iff]
    simp
section
variable {K : PySem.W.Frag} {H : Hp}
theorem dp_strs : ∀ zs : List Str, DpAll K H (zs.map V.str) (zs.map .str)
  | [] => .nil
  | z :: r => .cons (.str z) (dp_strs r)
theorem dp_ints : ∀ zs : List Int, DpAll K H (zs.map V.int) (zs.map .int)
  | [] => .nil
  | z :: r => .cons (.int z) (dp_ints r)
theorem tabV_strs (n : Nat) (f : Nat → Nat → Bool) : tabV n f = ((List.range n).map fun i => rowS n (f i)).map V.str := by
  unfold tabV
  rw [List.map_map]
  rfl
theorem tab_good (n : Nat) (f : Nat → Nat → Bool) : ∀ z ∈ ((List.range n).map fun i => rowS n (f i)), strG z = true := fun z hz => by
  obtain ⟨i, _, rfl⟩ := List.mem_map.mp hz
  exact rowS_ok n (f i)
theorem rv_neS {a b : Addr} {xs ys : List Str} (ha : SqL K H a (xs.map V.str)) (hb : SqL K H b (ys.map V.str)) (gx : ∀ z ∈ xs, strG z = true) (gy : ∀ z ∈ ys, strG z = true) : RV (rNeD K) (.ref a) (.ref b) H (.bl (!decide (xs = ys))) := fun H1 e Q q =>
  ⟨_, _, .lst (ex_l e ha) (dp_strs xs), .lst (ex_l e hb) (dp_strs ys), shaped_strs gx, shaped_strs gy, by
    rw [show PyData.eqv (.list (xs.map .str)) (.list (ys.map .str)) = decide (xs = ys) from eqv_strs xs ys]
    exact q H1 (Ex.refl H1)⟩
theorem rv_eqS {a b : Addr} {xs ys : List Str} (ha : SqL K H a (xs.map V.str)) (hb : SqL K H b (ys.map V.str)) (gx : ∀ z ∈ xs, strG z = true) (gy : ∀ z ∈ ys, strG z = true) : RV (rEqD K) (.ref a) (.ref b) H (.bl (decide (xs = ys))) := fun H1 e Q q =>
  ⟨_, _, .lst (ex_l e ha) (dp_strs xs), .lst (ex_l e hb) (dp_strs ys), shaped_strs gx, shaped_strs gy, by
    rw [show PyData.eqv (.list (xs.map .str)) (.list (ys.map .str)) = decide (xs = ys) from eqv_strs xs ys]
    exact q H1 (Ex.refl H1)⟩
theorem rv_neI {a b : Addr} {xs ys : List Int} (ha : SqL K H a (xs.map V.int)) (hb : SqL K H b (ys.map V.int)) : RV (rNeD K) (.ref a) (.ref b) H (.bl (!decide (xs = ys))) := fun H1 e Q q =>
  ⟨_, _, .lst (ex_l e ha) (dp_ints xs), .lst (ex_l e hb) (dp_ints ys), shaped_ints xs, shaped_ints ys, by
    rw [show PyData.eqv (.list (xs.map .int)) (.list (ys.map .int)) = decide (xs = ys) from eqv_ints xs ys]
    exact q H1 (Ex.refl H1)⟩
theorem rv_eqI {a b : Addr} {xs ys : List Int} (ha : SqL K H a (xs.map V.int)) (hb : SqL K H b (ys.map V.int)) : RV (rEqD K) (.ref a) (.ref b) H (.bl (decide (xs = ys))) := fun H1 e Q q =>
  ⟨_, _, .lst (ex_l e ha) (dp_ints xs), .lst (ex_l e hb) (dp_ints ys), shaped_ints xs, shaped_ints ys, by
    rw [show PyData.eqv (.list (xs.map .int)) (.list (ys.map .int)) = decide (xs = ys) from eqv_ints xs ys]
    exact q H1 (Ex.refl H1)⟩
/-- two lists of the same table -/
theorem rv_neTab {a b : Addr} {n : Nat} {f : Nat → Nat → Bool} (ha : TabAt K H a n f) (hb : TabAt K H b n f) : RV (rNeD K) (.ref a) (.ref b) H (.bl false) := by
  unfold TabAt at ha hb
  rw [tabV_strs] at ha hb
  have q := rv_neS ha hb (tab_good n f) (tab_good n f)
  rw [decide_eq_true rfl] at q
  exact q
theorem rv_eqTab {a b : Addr} {n : Nat} {f : Nat → Nat → Bool} (ha : TabAt K H a n f) (hb : TabAt K H b n f) : RV (rEqD K) (.ref a) (.ref b) H (.bl true) := by
  unfold TabAt at ha hb
  rw [tabV_strs] at ha hb
  have q := rv_eqS ha hb (tab_good n f) (tab_good n f)
  rw [decide_eq_true rfl] at q
  exact q
end
theorem strp : (Str.ofString "+") = sgS true := sg_plus
end HA
namespace HA
open PySem PySem.Spec PyProof.Rows L2 Evl
section
variable {K : PySem.W.Frag} {σ : L2.St} {H H' : Hp} {ta tb tc td te tx : TE} {t u : TT} {x y z v : V} {r r' r'' : R2} {D : Ends}
theorem s_asgIf {i : Nat} {b : Bool} (h : EvT t σ H b) (h1 : b = true → ∀ H1, Ex H H1 → tAsg ta (gName i) D σ H1) (h2 : b = false → ∀ H1, Ex H H1 → tAsg tb (gName i) D σ H1) : tAsg (tIf t ta tb) (gName i) D σ H := h H (Ex.refl H) _ fun H1 e => by
  cases b with
  | true => exact h1 rfl H1 e
  | false => exact h2 rfl H1 e
/-- xs.insert(i, e) -/
def rIns : V → List V → Hp → VK → Prop := fun x vs H Q => ∃ (l : Addr) (xs : List V) (i : Int) (y : V), x = .ref l ∧ vs = [.int i, y] ∧ H l = some (.lst xs) ∧ xs.length < sizeLine ∧ 0 ≤ i ∧ i < 2 ^ 63 ∧ Q .non (upd H l (.lst (xs.take i.toNat ++ [y] ++ xs.drop i.toNat)))
theorem s_ins {l : Addr} {xs : List V} {m : Nat} (hl : H l = some (.lst xs)) (ha : Ev ta σ H (.ref l)) (hi : Ev tb σ H (.int (m : Int))) (h : Ev te σ H v) (hz : xs.length < 100000) (hm : m ≤ xs.length) (k : ∀ H1, Ex H H1 → D.nx σ (upd H1 l (.lst (xs.take m ++ [v] ++ xs.drop m)))) :
    tDrop (tBM K "list" rIns ta (tCons tb (tCons te tNil))) D σ H := ha H (Ex.refl H) _ fun H1 e1 =>
  ⟨Or.inl ⟨rfl, xs, sq_of (e1 l _ hl)⟩, hi H1 e1 _ fun H2 e2 => h H2 (e1.trans e2) _ fun H3 e3 => ⟨l, xs, (m : Int), v, rfl, rfl, ((e1.trans e2).trans e3) l _ hl, sz_lt hz, by omega, by omega, k H3 ((e1.trans e2).trans e3)⟩⟩
/-- the columns of rows that stand -/
theorem tr_comp {a : Addr} {n j l : Nat} {g : Nat → Nat → Bool} {vs ws : List Nat} {ta tb tx ty : TE} (ha : ∀ x H1, Ex H H1 → Ev ta ((wipe σ vs).set j (some x)) H1 (.ref a)) (hl : EvA (tCons (tCB (rLenS K) (tCons tb tNil)) tNil) σ H [.int (n : Int)]) (hx : SqL K H a ((List.range n).map fun k => V.str (rowS n (g k)))) (hn : n ≤ 1000)
    (hw : ∀ x, wipe ((wipe σ vs).set j (some x)) vs = wipe σ vs) (hw2 : ∀ x y, wipe ((wipe ((wipe σ vs).set j (some x)) ws).set l (some y)) ws = wipe ((wipe σ vs).set j (some x)) ws)
    (hy : ∀ x y H1, Ex H H1 → Ev tx ((wipe ((wipe σ vs).set j (some x)) ws).set l (some y)) H1 y) (hz : ∀ x y H1, Ex H H1 → Ev ty ((wipe ((wipe σ vs).set j (some x)) ws).set l (some y)) H1 x) :
    EvL (tLc (iRng1 (tCons (tCB (rLenS K) (tCons tb tNil)) tNil)) (gName j) tYes (tM1 (rJoin K) (tC (.str (Str.ofString ""))) (tLc (iList K ta) (gName l) tYes (tOp rIxS tx ty) ws)) vs) σ H (tabV n fun i k => g k i) := by
  refine ev_list (el_lcR1 (n := (n : Int)) (fun _ => true) (fun i => V.str (rowS n fun k => g k i)) hl ⟨by omega, by omega⟩ hw (fun i H1 e hi => et_yes) (fun i H1 e hi _ => ?_)) ?_
  · refine ev_joinRow (K := K) (g := fun k => g k i) (ev_list (el_lcL (K := K) (xs := (List.range n).map fun k => V.str (rowS n (g k))) (fun _ => true) (fun k => V.str (sgS (g k i))) (ha _ H1 e) (ex_l e hx) (by rw [List.length_map, List.length_range]; omega) (hw2 _) (fun k x H2 e2 hk => et_yes) (fun k x H2 e2 hk _ => ?_)) ?_) (by omega)
    · have hk' : k < n := by
        have q := (List.getElem?_eq_some_iff.mp hk).1
        rwa [List.length_map, List.length_range] at q
      rw [List.getElem?_map, List.getElem?_range hk'] at hk
      cases hk
      exact ev_itS (hy _ _ H2 (e.trans e2)) (hz _ _ H2 (e.trans e2)) (by omega) (by omega)
    · rw [given_all, List.length_map, List.length_range]
  · rw [given_all, Int.toNat_natCast]
    rfl
end
theorem q_forW {σ : L2.St} {H : Hp} {D : Ends} {J : It} {n : Nat} {G : Hp → Prop} {Y : Nat → Hp → V → Hp → Prop} (w : Walk J n G Y) {wi : TI} {g : TG} {tu tz : TS} (hi : ∀ H1, Ex H H1 → ∀ R : It → Hp → Prop, (∀ H2, Ex H1 H2 → R J H2) → wi σ H1 R) (Pv : Nat → L2.St → Hp → Prop) (h0 : ∀ H1, Ex H H1 → Pv 0 σ H1)
    (hG : ∀ i σ' H', i ≤ n → Pv i σ' H' → G H') (hs : ∀ i x σ' H1 H', i < n → Pv i σ' H1 → Y i H1 x H' → g x σ' H' fun σ2 H2 => tu { D with nx := Pv (i + 1), ct := Pv (i + 1), bk := tz D } σ2 H2) (hd : ∀ σ' H', Pv n σ' H' → tz D σ' H') :
    tSeq (tFor wi g tu) tz D σ H := s_forW (D := { D with nx := tz D }) w hi Pv h0 hG hs hd
/-! ### rows laid in another turn -/
/-- i rows of f, in some turn, some of them turned -/
def Laid (n i : Nat) (f g : Nat → Nat → Bool) : Prop := ∃ (π : Nat → Nat) (e : Nat → Bool), (∀ k, k < i → π k < i) ∧ (∀ a, a < i → ∀ b, b < i → π a = π b → a = b) ∧ ∀ k, k < i → ∀ j, j < n → g k j = (f (π k) j ^^ e k)
theorem laid_zero (n : Nat) (f g : Nat → Nat → Bool) : Laid n 0 f g := ⟨id, fun _ => false, fun k hk => absurd hk (by omega), fun a ha => absurd ha (by omega), fun k hk => absurd hk (by omega)⟩
def insF (m : Nat) (g : Nat → Nat → Bool) (x : Nat → Bool) : Nat → Nat → Bool := fun k => if k < m then g k else if k = m then x else g (k - 1)
theorem laid_ins {n i m : Nat} {f g : Nat → Nat → Bool} {x : Nat → Bool} {b : Bool} (h : Laid n i f g) (hm : m ≤ i) (hx : ∀ j, j < n → x j = (f i j ^^ b)) : Laid n (i + 1) f (insF m g x) := by
  obtain ⟨π, e, h1, h2, h3⟩ := h
  refine ⟨fun k => if k < m then π k else if k = m then i else π (k - 1), fun k => if k < m then e k else if k = m then b else e (k - 1), fun k hk => ?_, fun a ha c hc hac => ?_, fun k hk j hj => ?_⟩
  · by_cases c1 : k < m
    · simp only [if_pos c1]
      have := h1 k (by omega)
      omega
    · by_cases c2 : k = m
      · simp only [if_neg c1, if_pos c2]
        omega
      · simp only [if_neg c1, if_neg c2]
        have := h1 (k - 1) (by omega)
        omega
  · by_cases a1 : a < m
    · by_cases c1 : c < m
      · simp only [if_pos a1, if_pos c1] at hac
        exact h2 a (by omega) c (by omega) hac
      · by_cases c2 : c = m
        · simp only [if_pos a1, if_neg c1, if_pos c2] at hac
          have := h1 a (by omega)
          omega
        · simp only [if_pos a1, if_neg c1, if_neg c2] at hac
          have := h2 a (by omega) (c - 1) (by omega) hac
          omega
    · by_cases a2 : a = m
      · by_cases c1 : c < m
        · simp only [if_neg a1, if_pos a2, if_pos c1] at hac
          have := h1 c (by omega)
          omega
        · by_cases c2 : c = m
          · omega
          · simp only [if_neg a1, if_pos a2, if_neg c1, if_neg c2] at hac
            have := h1 (c - 1) (by omega)
            omega
      · by_cases c1 : c < m
        · simp only [if_neg a1, if_neg a2, if_pos c1] at hac
          have := h2 (a - 1) (by omega) c (by omega) hac
          omega
        · by_cases c2 : c = m
          · simp only [if_neg a1, if_neg a2, if_neg c1, if_pos c2] at hac
            have := h1 (a - 1) (by omega)
            omega
          · simp only [if_neg a1, if_neg a2, if_neg c1, if_neg c2] at hac
            have := h2 (a - 1) (by omega) (c - 1) (by omega) hac
            omega
  · unfold insF
    by_cases c1 : k < m
    · simp only [if_pos c1]
      exact h3 k (by omega) j hj
    · by_cases c2 : k = m
      · simp only [if_neg c1, if_pos c2]
        exact hx j hj
      · simp only [if_neg c1, if_neg c2]
        exact h3 (k - 1) (by omega) j hj
theorem insF_list (n i m : Nat) (hm : m ≤ i) (g : Nat → Nat → Bool) (x : Nat → Bool) : ((List.range i).map fun k => V.str (rowS n (g k))).take m ++ [V.str (rowS n x)] ++ ((List.range i).map fun k => V.str (rowS n (g k))).drop m = (List.range (i + 1)).map fun k => V.str (rowS n (insF m g x k)) := by
  apply List.ext_getElem?
  intro k
  rw [List.append_assoc]
  by_cases c1 : k < m
  · rw [List.getElem?_append_left (by rw [List.length_take, List.length_map, List.length_range]; omega), List.getElem?_take, if_pos c1, List.getElem?_map, List.getElem?_map, List.getElem?_range (by omega), List.getElem?_range (by omega)]
    simp only [Option.map_some, insF, if_pos c1]
  · have lt : (((List.range i).map fun k => V.str (rowS n (g k))).take m).length = m := by rw [List.length_take, List.length_map, List.length_range]; omega
    rw [List.getElem?_append_right (by rw [lt]; omega), lt]
    by_cases c2 : k = m
    · subst c2
      rw [Nat.sub_self, List.getElem?_map, List.getElem?_range (by omega)]
      show some (V.str (rowS n x)) = _
      simp only [Option.map_some, insF, if_neg c1, if_true]
    · rw [show k - m = (k - m - 1) + 1 by omega]
      show (((List.range i).map fun k => V.str (rowS n (g k))).drop m)[k - m - 1]? = _
      rw [List.getElem?_drop, show m + (k - m - 1) = k - 1 by omega, List.getElem?_map, List.getElem?_map]
      by_cases c3 : k < i + 1
      · rw [List.getElem?_range (by omega), List.getElem?_range c3]
        simp only [Option.map_some, insF, if_neg c1, if_neg c2]
      · rw [List.getElem?_eq_none (by rw [List.length_range]; omega), List.getElem?_eq_none (by rw [List.length_range]; omega)]
        rfl
theorem laid_had {n : Nat} {f g : Nat → Nat → Bool} (h : Laid n n f g) (k : Had n f) : Had n g := by
  obtain ⟨π, e, h1, h2, h3⟩ := h
  exact had_perm π e h1 h2 h3 k
/-! ### the script's cells -/
def cellsOf (d : Int) (ns : List Int) : List Int := if ns = [] then [d] else ns
theorem cellsOf_ok {d : Int} {ns : List Int} (hd : d.natAbs < 2 ^ 40) (h : Cells ns) : Cells (cellsOf d ns) ∧ 1 ≤ (cellsOf d ns).length := by
  unfold cellsOf
  by_cases e : ns = []
  · rw [if_pos e]
    refine ⟨⟨by show 1 ≤ 63; decide, fun z hz => ?_⟩, Nat.le_refl 1⟩
    rw [List.mem_singleton.mp hz]
    exact Nat.lt_of_lt_of_le hd (Nat.pow_le_pow_right (by decide) (show 40 ≤ 1048700 by decide))
  · rw [if_neg e]
    refine ⟨h, ?_⟩
    cases ns with
    | nil => exact absurd rfl e
    | cons a r =>
      rw [List.length_cons]
      omega
theorem cut63 {xs : List V} (h : xs.length ≤ 63) : cutV xs none (some 63) = xs := by
  unfold cutV
  rw [HT.sIx_none, show HT.sIx xs.length xs.length (some (63 : Int)) = min 63 xs.length from HT.sIx_nat xs.length xs.length 63, List.drop_zero, Nat.sub_zero]
  exact List.take_of_length_le (by omega)
/-- script[:63] if script != [] else [d] -/
theorem el_cells {K : PySem.W.Frag} {σ : L2.St} {H : Hp} {ta tb : TE} {a : Addr} {ns : List Int} {d : Int} (ha : Ev ta σ H (.ref a)) (hb : Ev tb σ H (.ref a)) (h : SqL K H a (ns.map V.int)) (hl : ns.length ≤ 63) :
    EvL (tIf (tTest (tOp (rNeD K) ta (tLst tNil))) (tSl (rSlL K) tb tNoPart (tPart (tC (.int 63)))) (tLst (tCons (tC (.int d)) tNil))) σ H ((cellsOf d ns).map V.int) := by
  refine el_if (et_test (ev_opL ha (el_lst ea_nil (by show 0 ≤ 100000; decide)) fun p H1 hp e => rv_neI (xs := ns) (ys := []) (ex_l e h) (sq_of hp))) (fun hb' => ?_) (fun hb' => ?_)
  · have hne : ¬ ns = [] := by simpa using hb'
    refine ev_list (el_sl hb eo_none (eo_some ev_c) h) ?_
    rw [cut63 (by rw [List.length_map]; exact hl)]
    unfold cellsOf
    rw [if_neg hne]
  · have he : ns = [] := by simpa using hb'
    refine ev_list (el_lst (ea_cons ev_c ea_nil) (by show 1 ≤ 100000; decide)) ?_
    unfold cellsOf
    rw [if_pos he]
    rfl
theorem getI {xs : List Int} {i : Nat} (h : i < xs.length) : (xs.map V.int)[i]? = some (.int xs[i]) := by
  rw [List.getElem?_map, List.getElem?_eq_getElem h]
  rfl
end HA

end
section
set_option maxRecDepth 100000
set_option maxHeartbeats 4000000
namespace HA
open PySem PySem.Spec PyProof.Rows L2 Evl
section
variable {K : PySem.W.Frag} {σ : L2.St} {H H' : Hp} {ta tb tc td te tx : TE} {t u : TT} {x y z v : V} {r r' r'' : R2} {D : Ends} {tz : TS}
theorem ev_meth {C p dx : Addr} {m : Str} {sp : Sp} {dvs vs : List V} {E : XK} {fs : List (Str × V)} {ts : TA} (ha : Ev ta σ H (.ref p)) (hp : H p = some (.ins C dx fs)) (hm : fs.lookup m = none) (hs : EvA ts σ H vs) (h : SpV sp (.ref p :: (vs ++ dvs)) H z) : Ev (tMeth C m sp dvs E ta ts) σ H z := fun H1 e Q q =>
  ha H1 e _ fun H2 e2 => ⟨p, dx, fs, rfl, (e.trans e2) p _ hp, hm, hs H2 (e.trans e2) _ fun H3 e3 => h H3 ((e.trans e2).trans e3) Q (fun H4 e4 => q H4 ((e2.trans e3).trans e4)) E⟩
theorem ev_inl (h : Ev ta σ H v) : Ev (fun σ H Q => ta σ H Q ∨ tb σ H Q) σ H v := fun H1 e Q q => .inl (h H1 e Q q)
theorem ev_inr (h : Ev tb σ H v) : Ev (fun σ H Q => ta σ H Q ∨ tb σ H Q) σ H v := fun H1 e Q q => .inr (h H1 e Q q)
theorem q_asgC {i : Nat} {sp : Sp} {dvs vs : List V} {E : XK} {ts : TA} (h : EvA ts σ H vs) (k : ∀ H1, Ex H H1 → sp (vs ++ dvs) H1 (fun v H2 => tz D (σ.set i (some v)) H2) E) : tSeq (tAsg (tCall sp dvs E ts) (gName i)) tz D σ H := h H (Ex.refl H) _ fun H1 e => k H1 e
theorem s_asgC {i : Nat} {sp : Sp} {dvs vs : List V} {E : XK} {ts : TA} (h : EvA ts σ H vs) (k : ∀ H1, Ex H H1 → sp (vs ++ dvs) H1 (fun v H2 => D.nx (σ.set i (some v)) H2) E) : tAsg (tCall sp dvs E ts) (gName i) D σ H := h H (Ex.refl H) _ fun H1 e => k H1 e
theorem q_par {i j : Nat} {ts : TA} (h : EvA ts σ H [x, y]) (k : ∀ H1, Ex H H1 → tz D ((σ.set i (some x)).set j (some y)) H1) : tSeq (tPar i j ts) tz D σ H := h H (Ex.refl H) _ fun H1 e => ⟨x, y, rfl, k H1 e⟩
/-! what is known of a value -/
theorem er_call {sp : Sp} {dvs vs : List V} {E : XK} {ts : TA} {R : V → Hp → Prop} (h : EvA ts σ H vs) (hs : ∀ H1, Ex H H1 → ∀ Q : VK, (∀ v H2, Ex H1 H2 → R v H2 → Q v H2) → sp (vs ++ dvs) H1 Q E) : EvR (tCall sp dvs E ts) σ H R := fun H1 e Q q =>
  h H1 e _ fun H2 e2 => hs H2 (e.trans e2) Q fun v H3 e3 hv => q v H3 (e2.trans e3) hv
/-- the argument a new list -/
theorem er_callL {sp : Sp} {dvs xs : List V} {E : XK} {R : V → Hp → Prop} (h : EvL ta σ H xs) (hs : ∀ p H1, Ex H H1 → H1 p = some (.lst xs) → ∀ Q : VK, (∀ v H2, Ex H1 H2 → R v H2 → Q v H2) → sp ([.ref p] ++ dvs) H1 Q E) : EvR (tCall sp dvs E (tCons ta tNil)) σ H R := fun H1 e Q q =>
  h H1 e _ fun p H2 _ e2 h2 => hs p H2 (e.trans e2) h2 Q fun v H3 e3 hv => q v H3 (e2.trans e3) hv
theorem ev_isiR {c : V} {tv w : Value} {b : Bool} (h : EvR ta σ H (fun v H2 => TyX K H2 v tv)) (hc : ClsV c w) (hk : PySem.W.kitOne K tv w = some b) : Ev (tCB (rIsi K) (tCons ta (tCons (tC c) tNil))) σ H (.bl b) := fun H1 e Q q =>
  h H1 e _ fun v H2 e2 hv => ⟨v, c, tv, w, b, rfl, hc, hv, hk, q H2 e2⟩
theorem ev_fldR {f : Str} {R : V → Prop} (h : EvR ta σ H (fun v H2 => ∃ p C dx fs, v = .ref p ∧ H2 p = some (.ins C dx fs) ∧ Cls K C ∧ NoAttr K C f ∧ fs.lookup f = some z)) : Ev (tFld K ta f) σ H z := fun H1 e Q q =>
  h H1 e _ fun v H2 e2 ⟨p, C, dx, fs, hv, hp, c, n, l⟩ => ⟨p, C, dx, fs, z, hv, hp, c, n, l, q H2 e2⟩
theorem ev_callR {sp : Sp} {E : XK} {R : V → Hp → Prop} (hb : Ev tb σ H y) (h : EvR ta σ H R) (hs : ∀ v H1, Ex H H1 → R v H1 → SpV sp [y, v] H1 z) : Ev (tCall sp [] E (tCons tb (tCons ta tNil))) σ H z := fun H1 e Q q =>
  hb H1 e _ fun H2 e2 => h H2 (e.trans e2) _ fun v H3 e3 hv => hs v H3 ((e.trans e2).trans e3) hv H3 (Ex.refl H3) Q (fun H4 e4 => q H4 ((e2.trans e3).trans e4)) E
end
/-! ### tables changed -/
def bendT (f : Nat → Nat → Bool) (a k : Nat) : Nat → Nat → Bool := fun i => if i = a then bend (f i) k else f i
theorem tab_set {n : Nat} {f : Nat → Nat → Bool} {a : Nat} (x : Nat → Bool) (ha : a < n) : (tabV n f).set a (V.str (rowS n x)) = tabV n (fun i => if i = a then x else f i) := by
  apply List.ext_getElem?
  intro k
  by_cases hk : k < n
  · by_cases h : a = k
    · subst h
      rw [List.getElem?_set_self (by rw [tabV_len]; exact ha), tabV_get ha, if_pos rfl]
    · rw [List.getElem?_set_ne h, tabV_get hk, tabV_get hk, if_neg (Ne.symm h)]
  · rw [List.getElem?_eq_none (by rw [List.length_set, tabV_len]; omega), List.getElem?_eq_none (by rw [tabV_len]; omega)]
theorem tab_rev (n : Nat) (f : Nat → Nat → Bool) : (tabV n f).reverse = tabV n (fun i => f (n - 1 - i)) := by
  apply List.ext_getElem?
  intro k
  by_cases hk : k < n
  · rw [List.getElem?_reverse (by rw [tabV_len]; exact hk), tabV_len, tabV_get (by omega), tabV_get hk]
  · rw [List.getElem?_eq_none (by rw [List.length_reverse, tabV_len]; omega), List.getElem?_eq_none (by rw [tabV_len]; omega)]
theorem ip_bend {n : Nat} (g h : Nat → Bool) {k : Nat} (hk : k < n) : ip n g (bend h k) = ip n g h - 2 * (sg (g k) * sg (h k)) := by
  have e : ip n g (bend h k) = S n (fun j => sg (g j) * sg (h j) + (if j = k then -(2 * (sg (g j) * sg (h j))) else 0)) := S_congr fun j _ => by
    unfold bend
    by_cases c : j = k
    · rw [if_pos c, if_pos c, sg_not]
      cases g j <;> cases h j <;> rfl
    · rw [if_neg c, if_neg c]
      omega
  rw [e, S_add, S_one (a := k) hk fun j _ hne => if_neg hne, if_pos rfl]
  show ip n g h + _ = _
  omega
theorem bent_not_half {n : Nat} {f : Nat → Nat → Bool} (h : halfB n f = true) {a b k : Nat} (ha : a < n) (hb : b < n) (hab : b ≠ a) (hk : k < n) : halfB n (bendT f a k) = false := by
  cases hq : halfB n (bendT f a k) with
  | false => rfl
  | true =>
    have h1 := half_had hq b hb a ha hab
    have e1 : bendT f a k b = f b := by unfold bendT; rw [if_neg hab]
    have e2 : bendT f a k a = bend (f a) k := by unfold bendT; rw [if_pos rfl]
    rw [e1, e2, ip_bend _ _ hk, half_had h b hb a ha hab] at h1
    have q : ∀ x y : Bool, ¬ (0 - 2 * (sg x * sg y) = 0) := by decide
    exact absurd h1 (q _ _)
/-! ### any signs by digits -/
def bitsF (d : List Int) (w : Int) (r s : Nat) : Bool := decide (lawNum (d.getD (r % d.length) 0) (r : Int) w / 2 ^ s % 2 = 0)
theorem pm_at (z : Int) : ∃ c, atI (Str.ofString "+-").cps.toList (Builtin.bitAnd z 1) = some c ∧ (⟨#[c]⟩ : Str) = sgS (decide (z % 2 = 0)) := by
  rw [show Builtin.bitAnd z 1 = z % 2 from PySem.W.kbt_mask z 1]
  have c : z % 2 = 0 ∨ z % 2 = 1 := by omega
  rcases c with c | c
  · rw [c]
    exact ⟨43, by decide +kernel, rfl⟩
  · rw [c]
    exact ⟨45, by decide +kernel, rfl⟩
/-- "+-"[number >> sign & 1] for each sign below n -/
theorem el_bits {K : PySem.W.Frag} {σ : L2.St} {H : Hp} {ta : TA} {tb tc : TE} {j n : Nat} {vs : List Nat} {nh : Int} (h : EvA ta σ H [.int (n : Int)]) (hn : n ≤ 1000) (hw : ∀ x, wipe ((wipe σ vs).set j (some x)) vs = wipe σ vs) (hb : ∀ x H1, Ex H H1 → Ev tb ((wipe σ vs).set j (some x)) H1 (.int nh)) (hc : ∀ x H1, Ex H H1 → Ev tc ((wipe σ vs).set j (some x)) H1 x) :
    Ev (tM1 (rJoin K) (tC (.str (Str.ofString ""))) (tLc (iRng1 ta) (gName j) tYes (tOp rIxS (tC (.str (Str.ofString "+-"))) (tOp (rI0 fun i j => .int (Builtin.bitAnd i j)) (tOp (rI (fun _ j => 0 ≤ j) fun i j => .int (i / 2 ^ j.toNat)) tb tc) (tC (.int 1)))) vs)) σ H (.str (rowS n fun s => decide (nh / 2 ^ s % 2 = 0))) := by
  refine ev_joinRow (K := K) (g := fun s => decide (nh / 2 ^ s % 2 = 0)) (ev_list (el_lcR1 (n := (n : Int)) (fun _ => true) (fun s => V.str (sgS (decide (nh / 2 ^ s % 2 = 0)))) h ⟨by omega, by omega⟩ hw (fun i H1 e hi => et_yes) (fun i H1 e hi _ => ?_)) (by rw [given_all, Int.toNat_natCast])) (by omega)
  obtain ⟨c, h1, h2⟩ := pm_at (nh / 2 ^ i)
  rw [← h2]
  exact ev_op (y := .int (Builtin.bitAnd (nh / 2 ^ i) 1)) ev_c (ev_op (ev_is (ev_op (hb _ H1 e) (hc _ H1 e) (rv_I (show (0 : Int) ≤ (i : Int) by omega))) (by rw [Int.toNat_natCast])) ev_c rv_I0) (rv_ixS (by decide +kernel) h1)
theorem rows_one (n k : Nat) (g : Nat → Nat → Bool) : ((List.range k).map fun r => V.str (rowS n (g r))) ++ [V.str (rowS n (g k))] = (List.range (k + 1)).map fun r => V.str (rowS n (g r)) := by
  rw [List.range_succ, List.map_append]
  rfl
/-- rows given one by one -/
theorem tab_init (n : Nat) (f : Nat → Nat → Bool) : cutV (tabV n f) none (some (-1)) = (List.range (n - 1)).map fun i => V.str (rowS n (f i)) := by
  unfold cutV
  have e : HT.sIx n n (some (-1 : Int)) = n - 1 := by
    show (if (-1 : Int) < 0 then ((-1 : Int) + (n : Int)).toNat else min (-1 : Int).toNat n) = n - 1
    rw [if_pos (by decide)]
    omega
  rw [tabV_len, HT.sIx_none, List.drop_zero, Nat.sub_zero, e]
  unfold tabV
  rw [← List.map_take, List.take_range, Nat.min_eq_left (Nat.sub_le _ _)]
theorem tab_last {n : Nat} (hn : 1 ≤ n) (f : Nat → Nat → Bool) : atI (tabV n f) (-1) = some (V.str (rowS n (f (n - 1)))) := by
  unfold atI ixN
  rw [tabV_len]
  rw [if_neg (by decide)]
  first
    | (rw [if_pos (by omega)]; show (tabV n f)[((-1 : Int) + (n : Int)).toNat]? = _; rw [show ((-1 : Int) + (n : Int)).toNat = n - 1 by omega]; exact tabV_get (by omega))
    | (simp; rw [show n - 1 = n - 1 from rfl]; exact tabV_get (by omega))
/-! ### the answers of the first kind -/
def sp_L_due (K : PySem.W.Frag) (CH CU : Addr) : Sp := fun vs H Q _ => ∃ (a p : Addr) (n : Nat) (f : Nat → Nat → Bool), vs = [.ref a, .ref p] ∧ TabAt K H a n f ∧ n ≤ 1000 ∧
  ((∃ dx, H p = some (.ins CH dx []) ∧ RetV (.bl (halfB n f)) H Q) ∨ (∃ dx i j, H p = some (.ins CU dx (uf (.int i) (.int j))) ∧ RetV (.bl (unlB n f i j)) H Q))
/-- tables by their places -/
structure Tb where
  a : Addr
  n : Nat
  f : Nat → Nat → Bool
def TbAt (K : PySem.W.Frag) (H : Hp) (q : Tb) : Prop := TabAt K H q.a q.n q.f ∧ 1 ≤ q.n ∧ q.n ≤ 100
theorem TbAt.ex {K : PySem.W.Frag} {H H' : Hp} {q : Tb} (e : Ex H H') (h : TbAt K H q) : TbAt K H' q := ⟨TabAt.ex e h.1, h.2⟩
def sp_L_right1 (K : PySem.W.Frag) : Sp := fun vs H Q _ => ∃ (q : Tb) (b : Addr) (qs : List Tb), vs = [.ref q.a, .ref b] ∧ TbAt K H q ∧ SqL K H b (qs.map fun q => V.ref q.a) ∧ (∀ q ∈ qs, TbAt K H q) ∧ RetV (.bl true) H Q
theorem unlB_true {n : Nat} {f : Nat → Nat → Bool} {i j : Nat} (h1 : i < j) (h2 : j < n) (h3 : 2 * alk n (f i) (f j) ≠ n) : unlB n f (i : Int) (j : Int) = true := by
  unfold unlB
  rw [decide_eq_true (show (0 : Int) ≤ (i : Int) by omega), decide_eq_true (show (i : Int) < (j : Int) by omega), decide_eq_true (show (j : Int) < (n : Int) by omega)]
  simp [h3]
theorem half_no {n : Nat} {f : Nat → Nat → Bool} {i j : Nat} (h1 : i < j) (h2 : j < n) (h3 : 2 * alk n (f i) (f j) ≠ n) : halfB n f = false := by
  cases hb : halfB n f with
  | false => rfl
  | true => exact absurd ((halfB_iff n f).mp hb j h2 i h1) h3
end HA

end
section
set_option maxRecDepth 100000
set_option maxHeartbeats 4000000
namespace HA
open PySem PySem.Spec PyProof.Rows L2 Evl
section
variable {K : PySem.W.Frag} {σ : L2.St} {H H' : Hp} {ta tb tc td te tx : TE} {t u : TT} {x y z v : V} {r r' r'' : R2} {D : Ends} {tz : TS}
/-! ### made instances -/
theorem q_asgR {i : Nat} {R : V → Hp → Prop} (h : EvR te σ H R) (k : ∀ v H1, Ex H H1 → R v H1 → tz D (σ.set i (some v)) H1) : tSeq (tAsg te (gName i)) tz D σ H := h H (Ex.refl H) _ k
theorem er_mk2 {C : Addr} {mk : V → V → List (Str × V)} {E : XK} {ts : TA} (h : EvA ts σ H [x, y]) : EvR (tMake C (sp_init2 C mk) [] E ts) σ H (fun v H2 => ∃ p dx, v = .ref p ∧ H2 p = some (.ins C dx (mk x y))) := fun H1 e Q q =>
  h H1 e _ fun H2 e2 p dx np nd ne => ⟨p, dx, x, y, rfl, upd_same, rfl, by
    rw [upd_upd]
    have ex : Ex H2 (upd (upd H2 dx (.own p)) p (.ins C dx (mk x y))) := (Ex.new nd).trans (Ex.new (by rw [upd_ne (Ne.symm ne)]; exact np))
    exact q _ _ (e2.trans ex) ⟨p, dx, rfl, upd_same⟩⟩
theorem er_mk0 {C : Addr} : EvR (tMake0 C) σ H (fun v H2 => ∃ p dx, v = .ref p ∧ H2 p = some (.ins C dx [])) := fun H1 e Q q p dx np nd ne =>
  q _ _ ((Ex.new nd).trans (Ex.new (by rw [upd_ne (Ne.symm ne)]; exact np))) ⟨p, dx, rfl, upd_same⟩
theorem ev_methR {C : Addr} {m : Str} {sp : Sp} {dvs vs : List V} {E : XK} {fs : List (Str × V)} {ts : TA} (ha : EvR ta σ H (fun v H2 => ∃ p dx, v = .ref p ∧ H2 p = some (.ins C dx fs))) (hm : fs.lookup m = none) (hs : EvA ts σ H vs)
    (h : ∀ p dx H1, Ex H H1 → H1 p = some (.ins C dx fs) → SpV sp (.ref p :: (vs ++ dvs)) H1 z) : Ev (tMeth C m sp dvs E ta ts) σ H z := fun H1 e Q q =>
  ha H1 e _ fun v H2 e2 ⟨p, dx, hv, hp⟩ => ⟨p, dx, fs, hv, hp, hm, hs H2 (e.trans e2) _ fun H3 e3 => by
    subst hv
    exact h p dx H3 ((e.trans e2).trans e3) (e3 p _ hp) H3 (Ex.refl H3) Q (fun H4 e4 => q H4 ((e2.trans e3).trans e4)) E⟩
/-- the argument a new list -/
theorem ev_methL {C : Addr} {m : Str} {sp : Sp} {dvs xs : List V} {E : XK} {fs : List (Str × V)} (ha : EvR ta σ H (fun v H2 => ∃ p dx, v = .ref p ∧ H2 p = some (.ins C dx fs))) (hm : fs.lookup m = none) (hs : EvL tb σ H xs)
    (h : ∀ p dx q H1, Ex H H1 → H1 p = some (.ins C dx fs) → H1 q = some (.lst xs) → SpV sp (.ref p :: ([.ref q] ++ dvs)) H1 z) : Ev (tMeth C m sp dvs E ta (tCons tb tNil)) σ H z := fun H1 e Q q =>
  ha H1 e _ fun v H2 e2 ⟨p, dx, hv, hp⟩ => ⟨p, dx, fs, hv, hp, hm, hs H2 (e.trans e2) _ fun l H3 _ e3 hl => by
    subst hv
    exact h p dx l H3 ((e.trans e2).trans e3) (e3 p _ hp) hl H3 (Ex.refl H3) Q (fun H4 e4 => q H4 ((e2.trans e3).trans e4)) E⟩
theorem ev_methL2 {C : Addr} {m : Str} {sp : Sp} {dvs xs : List V} {E : XK} {fs : List (Str × V)} (ha : EvR ta σ H (fun v H2 => ∃ p dx, v = .ref p ∧ H2 p = some (.ins C dx fs))) (hm : fs.lookup m = none) (hs : EvL tb σ H xs) (hc : Ev tc σ H y)
    (h : ∀ p dx q H1, Ex H H1 → H1 p = some (.ins C dx fs) → H1 q = some (.lst xs) → SpV sp (.ref p :: ([.ref q, y] ++ dvs)) H1 z) : Ev (tMeth C m sp dvs E ta (tCons tb (tCons tc tNil))) σ H z := fun H1 e Q q =>
  ha H1 e _ fun v H2 e2 ⟨p, dx, hv, hp⟩ => ⟨p, dx, fs, hv, hp, hm, hs H2 (e.trans e2) _ fun l H3 _ e3 hl => hc H3 ((e.trans e2).trans e3) _ fun H4 e4 => by
    subst hv
    exact h p dx l H4 (((e.trans e2).trans e3).trans e4) ((e3.trans e4) p _ hp) (e4 l _ hl) H4 (Ex.refl H4) Q (fun H5 e5 => q H5 (((e2.trans e3).trans e4).trans e5)) E⟩
/-! ### pairs compared -/
theorem rv_eqII {a b : Addr} {i j k l : Int} (ha : H a = some (.tup [.int i, .int j])) (hb : H b = some (.tup [.int k, .int l])) : RV (rEqD K) (.ref a) (.ref b) H (.bl (decide (i = k) && decide (j = l))) := fun H1 e Q q =>
  ⟨.tuple [.int i, .int j], .tuple [.int k, .int l], .tup (st_of (e a _ ha)) (.cons (.int i) (.cons (.int j) .nil)), .tup (st_of (e b _ hb)) (.cons (.int k) (.cons (.int l) .nil)), rfl, rfl, by
    have w : PyData.eqv (.tuple [.int i, .int j]) (.tuple [.int k, .int l]) = (decide (i = k) && decide (j = l)) := by
      show ((i == k) && ((j == l) && true)) = _
      rw [Bool.eq_iff_iff]
      simp
    rw [w]
    exact q H1 (Ex.refl H1)⟩
theorem rv_eqIB {a b : Addr} {i : Int} {c : Bool} (ha : H a = some (.tup [.int i, .bl c])) (hb : H b = some (.tup [.int i, .bl c])) : RV (rEqD K) (.ref a) (.ref b) H (.bl true) := fun H1 e Q q =>
  ⟨.tuple [.int i, .bool c], .tuple [.int i, .bool c], .tup (st_of (e a _ ha)) (.cons (.int i) (.cons (.bl c) .nil)), .tup (st_of (e b _ hb)) (.cons (.int i) (.cons (.bl c) .nil)), rfl, rfl, by
    have w : PyData.eqv (.tuple [.int i, .bool c]) (.tuple [.int i, .bool c]) = true := by
      show ((i == i) && ((c == c) && true)) = true
      simp
    rw [w]
    exact q H1 (Ex.refl H1)⟩
/-! ### lists of pairs -/
def Pairs (H : Hp) : List V → List (Int × Int) → Prop
  | [], [] => True
  | x :: xs, q :: qs => (∃ a, x = .ref a ∧ H a = some (.tup [.int q.1, .int q.2])) ∧ Pairs H xs qs
  | _, _ => False
theorem Pairs.ex (e : Ex H H') : ∀ {xs : List V} {qs : List (Int × Int)}, Pairs H xs qs → Pairs H' xs qs
  | [], [], _ => trivial
  | _ :: _, _ :: _, h => ⟨h.1.imp fun a p => ⟨p.1, e a _ p.2⟩, Pairs.ex e h.2⟩
  | [], _ :: _, h => h
  | _ :: _, [], h => h
theorem Pairs.len : ∀ {xs : List V} {qs : List (Int × Int)}, Pairs H xs qs → xs.length = qs.length
  | [], [], _ => rfl
  | _ :: xs, _ :: qs, h => by
    rw [List.length_cons, List.length_cons, Pairs.len h.2]
  | [], _ :: _, h => h.elim
  | _ :: _, [], h => h.elim
theorem Pairs.app : ∀ {xs ys : List V} {qs rs : List (Int × Int)}, Pairs H xs qs → Pairs H ys rs → Pairs H (xs ++ ys) (qs ++ rs)
  | [], _, [], _, _, k => k
  | _ :: _, _, _ :: _, _, h, k => ⟨h.1, Pairs.app h.2 k⟩
  | [], _, _ :: _, _, h, _ => h.elim
  | _ :: _, _, [], _, h, _ => h.elim
theorem Pairs.get : ∀ {xs : List V} {qs : List (Int × Int)} {i : Nat} {x : V}, Pairs H xs qs → xs[i]? = some x → ∃ q a, q ∈ qs ∧ x = .ref a ∧ H a = some (.tup [.int q.1, .int q.2])
  | x :: xs, q :: qs, 0, y, h, e => by
    obtain ⟨a, rfl, ha⟩ := h.1
    have e' : some (V.ref a) = some y := e
    cases e'
    exact ⟨q, a, List.mem_cons_self .., rfl, ha⟩
  | _ :: xs, q :: qs, i + 1, y, h, e => by
    have e' : xs[i]? = some y := e
    obtain ⟨q', a, m, r⟩ := Pairs.get h.2 e'
    exact ⟨q', a, List.mem_cons_of_mem _ m, r⟩
  | [], [], _, _, _, e => nomatch e
  | [], _ :: _, _, _, h, _ => h.elim
  | _ :: _, [], _, _, h, _ => h.elim
def EvAP (ts : TA) (σ : L2.St) (H : Hp) (ps : List (Int × Int)) : Prop := ∀ H1, Ex H H1 → ∀ Q : List V → Hp → Prop, (∀ xs H2, Ex H1 H2 → Pairs H2 xs ps → Q xs H2) → ts σ H1 Q
def EvP (te : TE) (σ : L2.St) (H : Hp) (ps : List (Int × Int)) : Prop := ∀ H1, Ex H H1 → ∀ Q : VK, (∀ p xs H2, Ex H1 H2 → H2 p = some (.lst xs) → Pairs H2 xs ps → Q (.ref p) H2) → te σ H1 Q
theorem eap_nil : EvAP tNil σ H [] := fun H1 _ Q q => q [] H1 (Ex.refl H1) trivial
theorem eap_cons {ts : TA} {i j : Int} {ps : List (Int × Int)} (ha : Ev ta σ H (.int i)) (hb : Ev tb σ H (.int j)) (hs : EvAP ts σ H ps) : EvAP (tCons (tTup (tCons ta (tCons tb tNil))) ts) σ H ((i, j) :: ps) := fun H1 e Q q =>
  eu_tup (ea_cons ha (ea_cons hb ea_nil)) (by show 2 ≤ 100000; decide) H1 e _ fun p H2 _ e2 h2 => hs H2 (e.trans e2) _ fun xs H3 e3 h3 => q (.ref p :: xs) H3 (e2.trans e3) ⟨⟨p, rfl, e3 p _ h2⟩, h3⟩
theorem ep_lst {ts : TA} {ps : List (Int × Int)} (h : EvAP ts σ H ps) (hl : ps.length ≤ 1000) : EvP (tLst ts) σ H ps := fun H1 e Q q =>
  h H1 e _ fun xs H2 e2 h2 => ⟨sz_of (by rw [h2.len]; omega), fun p hp => q p xs _ (e2.trans (Ex.new hp)) upd_same (h2.ex (Ex.new hp))⟩
theorem ep_cat {a : Addr} {xs : List V} {ps qs : List (Int × Int)} (ha : Ev ta σ H (.ref a)) (hx : H a = some (.lst xs)) (hp : Pairs H xs ps) (hb : EvP tb σ H qs) (hl : ps.length + qs.length ≤ 1000) : EvP (tOp rCat ta tb) σ H (ps ++ qs) := fun H1 e Q q =>
  ha H1 e _ fun H2 e2 => hb H2 (e.trans e2) _ fun b ys H3 e3 h3 k3 => ⟨a, b, xs, ys, rfl, rfl, ((e.trans e2).trans e3) a _ hx, h3, sz_of (by rw [hp.len, k3.len]; omega), fun p hp' => q p (xs ++ ys) _ ((e2.trans e3).trans (Ex.new hp')) upd_same (((hp.ex ((e.trans e2).trans e3)).app k3).ex (Ex.new hp'))⟩
/-- a pair's two names -/
theorem g_pair {j l : Nat} {a : Addr} {k : L2.St → Hp → Prop} (ha : H a = some (.tup [x, y])) (h : k ((σ.set j (some x)).set l (some y)) H) : gTup K 2 (gCons (gName j) (gCons (gName l) gNil)) (.ref a) σ H k :=
  ⟨a, _, rfl, st_of ha, rfl, _, _, rfl, _, _, rfl, rfl, h⟩
theorem s_forP {ps : List (Int × Int)} {tl : TE} {j l : Nat} {tu : TS} (h : EvP tl σ H ps) (Pv : L2.St → Hp → Prop) (h0 : ∀ H1, Ex H H1 → Pv σ H1)
    (hs : ∀ H1, Ex H H1 → ∀ q σ' H', q ∈ ps → Pv σ' H' → Ex H1 H' → tu { D with nx := fun s h => Pv s h ∧ Ex H1 h, ct := fun s h => Pv s h ∧ Ex H1 h, bk := D.nx } ((σ'.set j (some (.int q.1))).set l (some (.int q.2))) H') (hd : ∀ σ' H', Pv σ' H' → D.nx σ' H') : tFor (iList K tl) (gTup K 2 (gCons (gName j) (gCons (gName l) gNil))) tu D σ H := by
  refine h H (Ex.refl H) _ fun p xs H1 e h1 hp => ⟨p, rfl, ⟨xs, sq_of h1⟩, for_list (K := K) (xs := xs) (fun i σ' H' => Pv σ' H' ∧ Ex H1 H') ⟨h0 H1 e, Ex.refl H1⟩ (fun i σ' H' _ q => sq_of (q.2 p _ h1)) (fun i x σ' H' hx q => ?_) (fun σ' H' q => hd σ' H' q.1)⟩
  obtain ⟨qq, a, m, rfl, ha⟩ := (hp.ex q.2).get hx
  exact g_pair ha (hs H1 e qq σ' H' m q.1 q.2)
end
/-! ### near rows -/
def nearB (n : Nat) (g h : Nat → Bool) (p : Bool) : Bool := decide (4 * (if p = true then n - alk n g h else alk n g h) < n)
theorem nearB_int (n : Nat) (g h : Nat → Bool) (p : Bool) : decide (4 * (if p = true then (n : Int) - (alk n g h : Int) else (alk n g h : Int)) < (n : Int)) = nearB n g h p := by
  have := alk_le n g h
  unfold nearB
  rw [Bool.eq_iff_iff, decide_eq_true_eq, decide_eq_true_eq]
  cases p
  · simp only [Bool.false_eq_true, if_false]
    omega
  · simp only [if_true]
    omega
def sp_is_near : Sp := fun vs H Q _ => ∃ (n : Nat) (g h : Nat → Bool) (p : Bool), vs = [.str (rowS n g), .str (rowS n h), .bl p] ∧ n ≤ 1000 ∧ RetV (.bl (nearB n g h p)) H Q
def nearR (n : Nat) (f : Nat → Nat → Bool) (h : Nat → Bool) (i : Int) (p : Bool) : Bool := (decide (0 ≤ i) && decide (i < n)) && nearB n (f i.toNat) h p
def sp_Near_shows (K : PySem.W.Frag) (C : Addr) : Sp := fun vs H Q _ => ∃ (p dx a : Addr) (i : Int) (b : Bool) (n : Nat) (f : Nat → Nat → Bool) (h : Nat → Bool), vs = [.ref p, .ref a, .str (rowS n h)] ∧ H p = some (.ins C dx (nf (.int i) (.bl b))) ∧ TabAt K H a n f ∧ n ≤ 1000 ∧ RetV (.bl (nearR n f h i b)) H Q
def farB (n : Nat) (f : Nat → Nat → Bool) (h : Nat → Bool) : Bool := !((List.range n).any fun i => nearB n (f i) h true || nearB n (f i) h false)
def sp_Far_shows (K : PySem.W.Frag) : Sp := fun vs H Q _ => ∃ (x : V) (a : Addr) (n : Nat) (f : Nat → Nat → Bool) (h : Nat → Bool), vs = [x, .ref a, .str (rowS n h)] ∧ TabAt K H a n f ∧ n ≤ 1000 ∧ RetV (.bl (farB n f h)) H Q
def sp_says : Sp := fun vs H Q _ => ∃ (a b : Bool), vs = [.bl a, .bl b] ∧ RetV (.bl (a == b)) H Q
def sp_rows_right (K : PySem.W.Frag) : Sp := fun vs H Q _ => ∃ (a : Addr) (i j : Int) (n : Nat) (f : Nat → Nat → Bool), vs = [.ref a, .int i, .int j] ∧ TabAt K H a n f ∧ n ≤ 1000 ∧ RetV (.bl true) H Q
def sp_near_right (K : PySem.W.Frag) : Sp := fun vs H Q _ => ∃ (a : Addr) (i : Int) (b : Bool) (n : Nat) (f : Nat → Nat → Bool) (h : Nat → Bool), vs = [.ref a, .str (rowS n h), .int i, .bl b] ∧ TabAt K H a n f ∧ n ≤ 1000 ∧ RetV (.bl true) H Q
def sp_right6 (K : PySem.W.Frag) : Sp := fun vs H Q _ => ∃ (a b : Addr) (c : Int) (n : Nat) (f g : Nat → Nat → Bool), vs = [.ref a, .ref b, .int c] ∧ TabAt K H a n f ∧ TabAt K H b n g ∧ 1 ≤ n ∧ n ≤ 100 ∧ RetV (.bl true) H Q
/-! ### a chain of three as a value -/
section
variable {X : Cx} {a b c d : Expr} {ta tb tc td : TE} {pos : Pos}
theorem pe_chain3 {op op' op'' : CmpOp} {r r' r'' : R2} (ho : OpR X (compareOp op) r) (ho' : OpR X (compareOp op') r') (ho'' : OpR X (compareOp op'') r'') (ha : PE X a ta) (hb : PE X b tb) (hc : PE X c tc) (hd : PE X d td)
    (hm : lastMarks [op, op', op''] [b, c, d] = false := by with_unfolding_all rfl) : PE X (.Compare a [op, op', op''] [b, c, d] pos) (tChain3 r r' r'' ta tb tc td) := by
  refine ⟨fun pins s σ H Q I h => ?_⟩
  refine Compare_chain (thn (ha.run pins s σ H _ I h) fun v s1 ⟨x, H1, I1, r1, q1⟩ => chain_link (thn (hb.run pins s1 σ H1 _ I1 q1) fun u s2 ⟨y, H2, I2, r2, q2⟩ =>
    thn (ho pins s2 σ H2 x y v u _ I2 r1 r2 q2) fun d' s3 ⟨z, H3, I3, r3, k, e, q3⟩ => ?_)) hm
  subst e
  cases r3
  refine wpAny_truthy_bool ?_
  cases k with
  | false => exact ite_ff ⟨.bl false, H3, I3, rfl, q3⟩
  | true =>
    refine ite_tt (chain_link (thn (hc.run pins s3 σ H3 _ I3 q3) fun u2 s4 ⟨y2, H4, I4, r4, q4⟩ => thn (ho' pins s4 σ H4 y y2 u u2 _ I4 r2 r4 q4) fun d2 s5 ⟨z2, H5, I5, r5, k2, e2, q5⟩ => ?_))
    subst e2
    cases r5
    refine wpAny_truthy_bool ?_
    cases k2 with
    | false => exact ite_ff ⟨.bl false, H5, I5, rfl, q5⟩
    | true => exact ite_tt (chain_last (thn (hd.run pins s5 σ H5 _ I5 q5) fun w' s6 ⟨z3, H6, I6, r6, q6⟩ => ho'' pins s6 σ H6 y2 z3 u2 w' Q I6 r4 r6 q6))
end
theorem mem_cutV {xs : List V} {lo hi : Option Int} {x : V} (h : x ∈ cutV xs lo hi) : x ∈ xs := by
  unfold cutV at h
  first
    | exact List.mem_of_mem_drop (List.mem_of_mem_take h)
    | exact List.mem_of_mem_take (List.mem_of_mem_drop h)
theorem len_cutV (xs : List V) (lo hi : Option Int) : (cutV xs lo hi).length ≤ xs.length := by
  unfold cutV
  rw [List.length_take, List.length_drop]
  omega
theorem q_asgP {σ : L2.St} {H : Hp} {te : TE} {tz : TS} {D : Ends} {i : Nat} {ps : List (Int × Int)} (h : EvP te σ H ps) (k : ∀ p xs H1, Ex H H1 → H1 p = some (.lst xs) → Pairs H1 xs ps → tz D (σ.set i (some (.ref p))) H1) : tSeq (tAsg te (gName i)) tz D σ H := h H (Ex.refl H) _ k
/-- the signs of g with the k-th turned, as the law writes it -/
theorem ev_bent {σ : L2.St} {H : Hp} {ta tb tc td tf tg : TE} {E1 : XK} {n k : Nat} {g : Nat → Bool} (hk : k < n) (hn : n ≤ 1000) (ha : Ev ta σ H (.str (rowS n g))) (hb : Ev tb σ H (.int (k : Int))) (hc : Ev tc σ H (.str (rowS n g))) (hd : Ev td σ H (.int (k : Int))) (hf : Ev tf σ H (.str (rowS n g))) (hg : Ev tg σ H (.int (k : Int))) :
    Ev (tOp (fun x y H Q => ∃ i j, x = V.str i ∧ y = V.str j ∧ i.length + j.length ≤ sizeLine ∧ Q (V.str (i ++ j)) H) (tOp (fun x y H Q => ∃ i j, x = V.str i ∧ y = V.str j ∧ i.length + j.length ≤ sizeLine ∧ Q (V.str (i ++ j)) H) (tSl rSlS ta tNoPart (tPart tb)) (tCall sp_L_other [] E1 (tCons (tOp rIxS tc td) tNil))) (tSl rSlS tf (tPart (tOp (rI0 fun i j => .int (i + j)) tg (tC (.int 1)))) tNoPart)) σ H (.str (rowS n (bend g k))) := by
  refine ev_is (ev_op (ev_op (ev_slS ha eo_none (eo_some hb) (by rw [rowS_len]; omega)) (ev_call (z := .str (sgS (!g k))) (ea_cons (ev_itS hc hd hk (by omega)) ea_nil) (fun H8 e8 Q8 q8 _ => ⟨1, fun _ => g k, rfl, by decide, q8⟩)) (rv_addS ?_)) (ev_slS hf (eo_some (ev_op hg ev_c rv_I0)) eo_none (by rw [rowS_len]; omega)) (rv_addS ?_)) ?_
  · rw [cutS_to, rowS_len]
    show min k n + 1 ≤ 100000
    omega
  · rw [show ((k : Int) + 1) = ((k + 1 : Nat) : Int) by omega, cutS_to, cutS_from, ← rowS_one, rowS_app, rowS_len, rowS_len]
    omega
  · rw [show ((k : Int) + 1) = ((k + 1 : Nat) : Int) by omega]
    exact congrArg V.str (bend_row n g k hk)
theorem nat_of {z : Int} (h : 0 ≤ z) : ∃ m : Nat, z = (m : Int) := ⟨z.toNat, by omega⟩
theorem modNat (z : Int) {n : Nat} (hn : 1 ≤ n) : ∃ m : Nat, z % (n : Int) = (m : Int) ∧ m < n := by
  have h1 := Int.emod_nonneg z (show (n : Int) ≠ 0 by omega)
  have h2 := Int.emod_lt_of_pos z (show (0 : Int) < (n : Int) by omega)
  exact ⟨(z % (n : Int)).toNat, by omega, by omega⟩
end HA

end
section
set_option maxRecDepth 100000
set_option maxHeartbeats 4000000
namespace HA
open PySem PySem.Spec PyProof.Rows L2 Evl
/-! ### at most one row is near -/
theorem tri : ∀ (n : Nat) (a b c : Nat → Bool), alk n a b + alk n b c ≤ n + alk n a c
  | 0, _, _, _ => Nat.le_refl 0
  | n + 1, a, b, c => by
    have ih := tri n a b c
    unfold alk at ih ⊢
    rw [cnt_succ, cnt_succ, cnt_succ]
    cases a n <;> cases b n <;> cases c n <;> simp <;> omega
theorem alk_not (n : Nat) (a b : Nat → Bool) : alk n (fun j => !a j) b + alk n a b = n := by
  have h := cnt_not n (fun k => a k == b k)
  have e : alk n (fun j => !a j) b = cnt n (fun k => !(a k == b k)) := cnt_congr fun k _ => by
    show ((!a k) == b k) = !(a k == b k)
    cases a k <;> cases b k <;> rfl
  rw [e]
  unfold alk
  omega
theorem alk_self (n : Nat) (a : Nat → Bool) : alk n a a = n := by
  have h := ip_alk n a a
  rw [ip_self] at h
  omega
def sgn (p : Bool) (g : Nat → Bool) : Nat → Bool := fun j => if p = true then g j else !g j
theorem near_alk (n : Nat) (g k : Nat → Bool) (p : Bool) : nearB n g k p = true ↔ 3 * n < 4 * alk n (sgn p g) k := by
  have h := alk_le n g k
  have h2 := alk_not n g k
  unfold nearB sgn
  rw [decide_eq_true_eq]
  cases p
  · simp only [Bool.false_eq_true, if_false]
    omega
  · simp only [if_true]
    have e : alk n (fun j => g j) k = alk n g k := rfl
    rw [e]
    omega
theorem alk_sgn (n : Nat) (a b : Nat → Bool) (p p' : Bool) : alk n (sgn p a) (sgn p' b) = if p = p' then alk n a b else n - alk n a b := by
  have h1 := alk_not n a b
  have h2 := alk_not n b a
  have h3 := alk_not n a (fun j => !b j)
  rw [alk_comm n a (fun j => !b j)] at h3
  rw [alk_comm n b a] at h2
  have h4 := alk_le n a b
  cases p <;> cases p'
  · show alk n (fun j => !a j) (fun j => !b j) = _
    rw [if_pos rfl]
    omega
  · show alk n (fun j => !a j) (fun j => b j) = _
    rw [if_neg (by decide)]
    have e : alk n (fun j => !a j) (fun j => b j) = alk n (fun j => !a j) b := rfl
    omega
  · show alk n (fun j => a j) (fun j => !b j) = _
    rw [if_neg (by decide), alk_comm]
    have e : alk n (fun j => !b j) (fun j => a j) = alk n (fun j => !b j) a := rfl
    omega
  · show alk n (fun j => a j) (fun j => b j) = _
    rw [if_pos rfl]
theorem near_unique {n : Nat} {f : Nat → Nat → Bool} {k : Nat → Bool} (had : Had n f) {i j : Nat} (hi : i < n) (hj : j < n) {p p' : Bool} (h1 : nearB n (f i) k p = true) (h2 : nearB n (f j) k p' = true) : i = j ∧ p = p' := by
  rw [near_alk] at h1 h2
  have t := tri n (sgn p (f i)) k (sgn p' (f j))
  rw [alk_comm n k] at t
  rw [alk_sgn] at t
  by_cases c : i = j
  · subst c
    refine ⟨rfl, ?_⟩
    by_cases d : p = p'
    · exact d
    · rw [if_neg d, alk_self] at t
      omega
  · have z := (ip_zero_iff n (f i) (f j)).mp (had i hi j hj c)
    by_cases d : p = p'
    · rw [if_pos d] at t
      omega
    · rw [if_neg d] at t
      omega
/-- the rows that are near, in turn -/
def nearUp (n : Nat) (f : Nat → Nat → Bool) (k : Nat → Bool) (m : Nat) : List (Nat × Bool) := (List.range m).flatMap fun i => (if nearB n (f i) k true = true then [(i, true)] else []) ++ (if nearB n (f i) k false = true then [(i, false)] else [])
theorem nearUp_succ (n : Nat) (f : Nat → Nat → Bool) (k : Nat → Bool) (m : Nat) : nearUp n f k (m + 1) = nearUp n f k m ++ (if nearB n (f m) k true = true then [(m, true)] else []) ++ (if nearB n (f m) k false = true then [(m, false)] else []) := by
  unfold nearUp
  rw [List.range_succ, List.flatMap_append]
  simp
theorem nearUp_none {n : Nat} {f : Nat → Nat → Bool} {k : Nat → Bool} : ∀ {m : Nat}, (∀ i, i < m → ∀ p, nearB n (f i) k p = false) → nearUp n f k m = []
  | 0, _ => rfl
  | m + 1, h => by
    rw [nearUp_succ, nearUp_none fun i hi => h i (by omega), h m (by omega), h m (by omega)]
    rfl
theorem nearUp_one {n : Nat} {f : Nat → Nat → Bool} {k : Nat → Bool} (had : Had n f) {i : Nat} (hi : i < n) {p : Bool} (h : nearB n (f i) k p = true) : ∀ m, m ≤ n → nearUp n f k m = if i < m then [(i, p)] else []
  | 0, _ => by
    rw [if_neg (by omega)]
    rfl
  | m + 1, hm => by
    rw [nearUp_succ, nearUp_one had hi h m (by omega)]
    by_cases c : i = m
    · subst c
      rw [if_neg (Nat.lt_irrefl i), if_pos (Nat.lt_succ_self i)]
      have no : nearB n (f i) k (!p) = false := by
        cases q : nearB n (f i) k (!p) with
        | false => rfl
        | true =>
          have z := (near_unique had hi hi h q).2
          cases p <;> exact absurd z (by decide)
      cases p
      · rw [show nearB n (f i) k true = false from no, h]
        rfl
      · rw [show nearB n (f i) k false = false from no, h]
        rfl
    · have no : ∀ q, nearB n (f m) k q = false := fun q => by
        cases w : nearB n (f m) k q with
        | false => rfl
        | true => exact absurd (near_unique had hi (by omega) h w).1 c
      rw [no, no]
      by_cases d : i < m
      · rw [if_pos d, if_pos (show i < m + 1 by omega)]
        rfl
      · rw [if_neg d, if_neg (show ¬ i < m + 1 by omega)]
        rfl
/-- which row is near -/
def NearO (n : Nat) (f : Nat → Nat → Bool) (k : Nat → Bool) (o : Option (Nat × Bool)) : Prop := nearUp n f k n = o.toList ∧ (∀ i b, o = some (i, b) → i < n ∧ nearB n (f i) k b = true) ∧ (o = none → ∀ i, i < n → ∀ b, nearB n (f i) k b = false)
theorem nearO_none {n : Nat} {f : Nat → Nat → Bool} {k : Nat → Bool} (h : ∀ i, i < n → ∀ p, nearB n (f i) k p = false) : NearO n f k none := ⟨nearUp_none h, fun _ _ e => (nomatch e), fun _ => h⟩
theorem nearO_some {n : Nat} {f : Nat → Nat → Bool} {k : Nat → Bool} (had : Had n f) {i : Nat} (hi : i < n) {p : Bool} (h : nearB n (f i) k p = true) : NearO n f k (some (i, p)) :=
  ⟨by rw [nearUp_one had hi h n (Nat.le_refl n), if_pos hi]; rfl, fun j b e => by cases e; exact ⟨hi, h⟩, fun e => (nomatch e)⟩
theorem nearO_ex {n : Nat} {f : Nat → Nat → Bool} (had : Had n f) (k : Nat → Bool) : ∃ o, NearO n f k o := by
  by_cases h : ∃ i p, i < n ∧ nearB n (f i) k p = true
  · obtain ⟨i, p, hi, hp⟩ := h
    exact ⟨_, nearO_some had hi hp⟩
  · refine ⟨none, nearO_none fun i hi p => ?_⟩
    cases q : nearB n (f i) k p with
    | false => rfl
    | true => exact absurd ⟨i, p, hi, q⟩ h
theorem far_isNone {n : Nat} {f : Nat → Nat → Bool} {k : Nat → Bool} {o : Option (Nat × Bool)} (h : NearO n f k o) : farB n f k = o.isNone := by
  unfold farB
  cases o with
  | none =>
    have e : ((List.range n).any fun i => nearB n (f i) k true || nearB n (f i) k false) = false := by
      rw [List.any_eq_false]
      intro i hi
      rw [h.2.2 rfl i (List.mem_range.mp hi), h.2.2 rfl i (List.mem_range.mp hi)]
      decide
    rw [e]
    rfl
  | some q =>
    obtain ⟨i, b⟩ := q
    obtain ⟨hi, hb⟩ := h.2.1 i b rfl
    have e : ((List.range n).any fun i => nearB n (f i) k true || nearB n (f i) k false) = true := by
      rw [List.any_eq_true]
      refine ⟨i, List.mem_range.mpr hi, ?_⟩
      cases b
      · rw [hb, Bool.or_true]
      · rw [hb, Bool.true_or]
    rw [e]
    rfl
theorem near_is {n : Nat} {f : Nat → Nat → Bool} {k : Nat → Bool} {o : Option (Nat × Bool)} (had : Had n f) (h : NearO n f k o) {i : Nat} (hi : i < n) (b : Bool) : nearR n f k (i : Int) b = decide (o = some (i, b)) := by
  unfold nearR
  rw [decide_eq_true (show (0 : Int) ≤ (i : Int) by omega), decide_eq_true (show (i : Int) < (n : Int) by omega), Int.toNat_natCast]
  show nearB n (f i) k b = _
  cases q : nearB n (f i) k b with
  | true =>
    cases o with
    | none => exact absurd (q.symm.trans (h.2.2 rfl i hi b)) (by decide)
    | some r =>
      obtain ⟨j, b'⟩ := r
      obtain ⟨hj, hb⟩ := h.2.1 j b' rfl
      obtain ⟨rfl, rfl⟩ := near_unique had hi hj q hb
      exact (decide_eq_true rfl).symm
  | false =>
    symm
    rw [decide_eq_false_iff_not]
    intro e
    exact absurd (q.symm.trans (h.2.1 i b e).2) (by decide)
/-! ### lists of new tuples -/
section
variable {K : PySem.W.Frag} {σ : L2.St} {H H' : Hp} {ta tb tc td te tx : TE} {t u : TT} {x y z v : V} {r r' r'' : R2} {D : Ends} {tz : TS}
def Tups (H : Hp) : List V → List (List V) → Prop
  | [], [] => True
  | x :: xs, q :: qs => (∃ a, x = .ref a ∧ H a = some (.tup q)) ∧ Tups H xs qs
  | _, _ => False
theorem Tups.ex (e : Ex H H') : ∀ {xs : List V} {qs : List (List V)}, Tups H xs qs → Tups H' xs qs
  | [], [], _ => trivial
  | _ :: _, _ :: _, h => ⟨h.1.imp fun a p => ⟨p.1, e a _ p.2⟩, Tups.ex e h.2⟩
  | [], _ :: _, h => h
  | _ :: _, [], h => h
theorem Tups.len : ∀ {xs : List V} {qs : List (List V)}, Tups H xs qs → xs.length = qs.length
  | [], [], _ => rfl
  | _ :: xs, _ :: qs, h => by
    rw [List.length_cons, List.length_cons, Tups.len h.2]
  | [], _ :: _, h => h.elim
  | _ :: _, [], h => h.elim
theorem Tups.snoc {a : Addr} {q : List V} (ha : H a = some (.tup q)) : ∀ {xs : List V} {qs : List (List V)}, Tups H xs qs → Tups H (xs ++ [.ref a]) (qs ++ [q])
  | [], [], _ => ⟨⟨a, rfl, ha⟩, trivial⟩
  | _ :: _, _ :: _, h => ⟨h.1, Tups.snoc ha h.2⟩
  | [], _ :: _, h => h.elim
  | _ :: _, [], h => h.elim
/-- a list is written anew: the tuples stay -/
theorem Tups.upd {l : Addr} {ys zs : List V} (hl : H l = some (.lst ys)) : ∀ {xs : List V} {qs : List (List V)}, Tups H xs qs → Tups (upd H l (.lst zs)) xs qs
  | [], [], _ => trivial
  | _ :: _, _ :: _, h => by
    obtain ⟨⟨a, e, ha⟩, k⟩ := h
    refine ⟨⟨a, e, ?_⟩, Tups.upd hl k⟩
    rw [upd_ne]
    · exact ha
    · rintro rfl
      rw [hl] at ha
      cases ha
  | [], _ :: _, h => h.elim
  | _ :: _, [], h => h.elim
def nvs (l : List (Nat × Bool)) : List (List V) := l.map fun q => [.int (q.1 : Int), .bl q.2]
theorem nvs_snoc (l : List (Nat × Bool)) (i : Nat) (b : Bool) : nvs (l ++ [(i, b)]) = nvs l ++ [[.int (i : Int), .bl b]] := by
  unfold nvs
  rw [List.map_append]
  rfl
/-- a list of at most one near row -/
def NearAt (H : Hp) (p : Addr) (o : Option (Nat × Bool)) : Prop := ∃ xs, H p = some (.lst xs) ∧ Tups H xs (nvs o.toList)
theorem NearAt.ex {p : Addr} {o : Option (Nat × Bool)} (e : Ex H H') (h : NearAt H p o) : NearAt H' p o := h.imp fun _ k => ⟨e p _ k.1, k.2.ex e⟩
def pdO (o : Option (Nat × Bool)) : List PyData := o.toList.map fun q => .tuple [.int (q.1 : Int), .bool q.2]
theorem NearAt.dp {p : Addr} {o : Option (Nat × Bool)} (h : NearAt H p o) : Dp K H (.ref p) (.list (pdO o)) := by
  obtain ⟨xs, hp, ht⟩ := h
  cases o with
  | none =>
    cases xs with
    | nil => exact .lst (sq_of hp) .nil
    | cons a b => exact ht.elim
  | some q =>
    match xs, ht with
    | [x], ht =>
      obtain ⟨⟨a, rfl, ha⟩, _⟩ := ht
      exact .lst (sq_of hp) (.cons (.tup (st_of ha) (.cons (.int _) (.cons (.bl _) .nil))) .nil)
theorem shO (o : Option (Nat × Bool)) : SeqAt.shaped (.list (pdO o)) = true := by
  cases o <;> rfl
theorem eqv_O (o o' : Option (Nat × Bool)) : PyData.eqv (.list (pdO o)) (.list (pdO o')) = decide (o = o') := by
  cases o with
  | none =>
    cases o' with
    | none => rfl
    | some q => rfl
  | some q =>
    cases o' with
    | none => rfl
    | some q' =>
      obtain ⟨i, b⟩ := q
      obtain ⟨j, c⟩ := q'
      show ((((i : Int) == (j : Int)) && ((b == c) && true)) && true) = _
      rw [Bool.eq_iff_iff]
      simp
      try omega
theorem rv_eqO {p q : Addr} {o o' : Option (Nat × Bool)} (hp : NearAt H p o) (hq : NearAt H q o') : RV (rEqD K) (.ref p) (.ref q) H (.bl (decide (o = o'))) := fun H1 e Q k =>
  ⟨_, _, (hp.ex e).dp, (hq.ex e).dp, shO o, shO o', by rw [eqv_O]; exact k H1 (Ex.refl H1)⟩
theorem rv_neO {p q : Addr} {o o' : Option (Nat × Bool)} (hp : NearAt H p o) (hq : NearAt H q o') : RV (rNeD K) (.ref p) (.ref q) H (.bl (!decide (o = o'))) := fun H1 e Q k =>
  ⟨_, _, (hp.ex e).dp, (hq.ex e).dp, shO o, shO o', by rw [eqv_O]; exact k H1 (Ex.refl H1)⟩
theorem rv_inO {p q : Addr} {o : Option (Nat × Bool)} {i : Nat} {b : Bool} (hp : H p = some (.tup [.int (i : Int), .bl b])) (hq : NearAt H q o) : RV (rInD K) (.ref p) (.ref q) H (.bl (decide (o = some (i, b)))) := fun H1 e Q k =>
  ⟨.tuple [.int (i : Int), .bool b], _, .tup (st_of (e p _ hp)) (.cons (.int _) (.cons (.bl _) .nil)), (hq.ex e).dp, rfl, shO o, by
    have w : ((pdO o).any fun z => PyData.eqv z (.tuple [.int (i : Int), .bool b])) = decide (o = some (i, b)) := by
      cases o with
      | none => rfl
      | some q' =>
        obtain ⟨j, c⟩ := q'
        show ((((j : Int) == (i : Int)) && ((c == b) && true)) || false) = _
        rw [Bool.eq_iff_iff]
        simp
        try omega
    rw [w]
    exact k H1 (Ex.refl H1)⟩
theorem near_nil {q : Addr} (h : H q = some (.lst [])) : NearAt H q none := ⟨[], h, trivial⟩
/-- [(a, b)] -/
theorem er_lst1 {i : Nat} {b : Bool} (ha : Ev ta σ H (.int (i : Int))) (hb : Ev tb σ H (.bl b)) : EvR (tLst (tCons (tTup (tCons ta (tCons tb tNil))) tNil)) σ H (fun v H2 => ∃ q, v = .ref q ∧ NearAt H2 q (some (i, b))) := fun H1 e Q k => by
  show (tTup (tCons ta (tCons tb tNil))) σ H1 (fun x H2 => [x].length ≤ sizeLine ∧ ∀ p, H2 p = none → Q (.ref p) (upd H2 p (.lst [x])))
  exact eu_tup (ea_cons ha (ea_cons hb ea_nil)) (by show 2 ≤ 100000; decide) H1 e _ fun p H2 _ e2 h2 => ⟨sz_of (show 1 ≤ 100000 by decide), fun l hl => k _ _ (e2.trans (Ex.new hl)) ⟨l, rfl, [.ref p], upd_same, ⟨⟨p, rfl, Ex.new hl p _ h2⟩, trivial⟩⟩⟩
theorem ev_opR {R : V → Hp → Prop} (ha : Ev ta σ H x) (hb : EvR tb σ H R) (hr : ∀ v H1, Ex H H1 → R v H1 → RV r x v H1 z) : Ev (tOp r ta tb) σ H z := fun H1 e Q q =>
  ha H1 e _ fun H2 e2 => hb H2 (e.trans e2) _ fun v H3 e3 hv => hr v H3 ((e.trans e2).trans e3) hv H3 (Ex.refl H3) Q fun H4 e4 => q H4 ((e2.trans e3).trans e4)
theorem ev_opUV {xs : List V} (ha : EvU ta σ H xs) (hb : Ev tb σ H y) (hr : ∀ p H1, H1 p = some (.tup xs) → Ex H H1 → RV r (.ref p) y H1 z) : Ev (tOp r ta tb) σ H z := fun H1 e Q q =>
  ha H1 e _ fun p H2 _ e2 h2 => hb H2 (e.trans e2) _ fun H3 e3 => hr p H3 (e3 p _ h2) ((e.trans e2).trans e3) H3 (Ex.refl H3) Q fun H4 e4 => q H4 ((e2.trans e3).trans e4)
theorem er_if {b : Bool} {R : V → Hp → Prop} (h : EvT t σ H b) (h1 : b = true → EvR ta σ H R) (h2 : b = false → EvR tb σ H R) : EvR (tIf t ta tb) σ H R := fun H1 e Q q => h H1 e _ fun H2 e2 => by
  cases b with
  | true => exact h1 rfl H2 (e.trans e2) Q fun v H3 e3 hv => q v H3 (e2.trans e3) hv
  | false => exact h2 rfl H2 (e.trans e2) Q fun v H3 e3 hv => q v H3 (e2.trans e3) hv
theorem er_callL2 {sp : Sp} {dvs xs : List V} {E : XK} {R : V → Hp → Prop} (h : EvL ta σ H xs) (hb : Ev tb σ H y) (hs : ∀ p H1, Ex H H1 → H1 p = some (.lst xs) → ∀ Q : VK, (∀ v H2, Ex H1 H2 → R v H2 → Q v H2) → sp ([.ref p, y] ++ dvs) H1 Q E) : EvR (tCall sp dvs E (tCons ta (tCons tb tNil))) σ H R := fun H1 e Q q =>
  h H1 e _ fun p H2 _ e2 h2 => hb H2 (e.trans e2) _ fun H3 e3 => hs p H3 ((e.trans e2).trans e3) (e3 p _ h2) Q fun v H4 e4 hv => q v H4 ((e2.trans e3).trans e4) hv
/-- over a new tuple -/
theorem s_forU {xs : List V} {tl : TE} {j : Nat} {tu : TS} (h : EvU tl σ H xs) (Pv : Nat → L2.St → Hp → Prop) (h0 : ∀ H1, Ex H H1 → Pv 0 σ H1)
    (hs : ∀ H1, Ex H H1 → ∀ i x σ' H', xs[i]? = some x → Pv i σ' H' → Ex H1 H' → tu { D with nx := fun s h => Pv (i + 1) s h ∧ Ex H1 h, ct := fun s h => Pv (i + 1) s h ∧ Ex H1 h, bk := D.nx } (σ'.set j (some x)) H') (hd : ∀ σ' H', Pv xs.length σ' H' → D.nx σ' H') : tFor (iTup K tl) (gName j) tu D σ H :=
  h H (Ex.refl H) _ fun p H1 _ e h1 => ⟨p, rfl, ⟨xs, st_of h1⟩, for_tup (K := K) (fun i σ' H' => Pv i σ' H' ∧ Ex H1 H') ⟨h0 H1 e, Ex.refl H1⟩ (fun i σ' H' _ q => st_of (q.2 p _ h1)) (fun i x σ' H' hx q => hs H1 e i x σ' H' hx q.1 q.2) (fun σ' H' q => hd σ' H' q.1)⟩
end
/-! ### promises -/
def sp_asked_half (K : PySem.W.Frag) : Sp := fun vs H Q _ => ∃ (a : Addr) (n : Nat) (f : Nat → Nat → Bool), vs = [.ref a] ∧ TabAt K H a n f ∧ 1 ≤ n ∧ n ≤ 100 ∧ (∃ xs, H a = some (.lst xs)) ∧ halfB n f = true ∧ RetV .non H Q
def sp_read (K : PySem.W.Frag) (CN CF : Addr) : Sp := fun vs H Q _ => ∃ (a : Addr) (n : Nat) (f : Nat → Nat → Bool) (k : Nat → Bool), vs = [.ref a, .str (rowS n k)] ∧ TabAt K H a n f ∧ 1 ≤ n ∧ n ≤ 100 ∧ (∃ xs, H a = some (.lst xs)) ∧ halfB n f = true ∧
  (∀ i b, i < n → nearB n (f i) k b = true → ∀ p dx H2, H p = none → Ex H H2 → H2 p = some (.ins CN dx (nf (.int (i : Int)) (.bl b))) → Q (.ref p) H2) ∧
  ((∀ i, i < n → ∀ b, nearB n (f i) k b = false) → ∀ p dx H2, H p = none → Ex H H2 → H2 p = some (.ins CF dx []) → Q (.ref p) H2)
def sp_L_near (K : PySem.W.Frag) : Sp := fun vs H Q _ => ∃ (a : Addr) (n : Nat) (f : Nat → Nat → Bool) (k : Nat → Bool), vs = [.ref a, .str (rowS n k)] ∧ TabAt K H a n f ∧ n ≤ 1000 ∧ ∀ p xs H2, H p = none → Ex H H2 → H2 p = some (.lst xs) → Tups H2 xs (nvs (nearUp n f k n)) → Q (.ref p) H2
def sp_right5 (K : PySem.W.Frag) : Sp := fun vs H Q _ => ∃ (a b : Addr) (n : Nat) (f : Nat → Nat → Bool) (k : Nat → Bool) (ks : List (Nat → Bool)), vs = [.ref a, .str (rowS n k), .ref b] ∧ TabAt K H a n f ∧ SqL K H b (ks.map fun g => V.str (rowS n g)) ∧ 1 ≤ n ∧ n ≤ 100 ∧ halfB n f = true ∧ RetV (.bl true) H Q
theorem near_t (n : Nat) (g k : Nat → Bool) : decide (4 * ((n : Int) - (alk n g k : Int)) < (n : Int)) = nearB n g k true := by
  have h := nearB_int n g k true
  rw [if_pos rfl] at h
  exact h
theorem near_f (n : Nat) (g k : Nat → Bool) : decide (4 * (alk n g k : Int) < (n : Int)) = nearB n g k false := by
  have h := nearB_int n g k false
  rw [if_neg (by decide)] at h
  exact h
theorem nearUp_len (n : Nat) (f : Nat → Nat → Bool) (k : Nat → Bool) : ∀ m, (nearUp n f k m).length ≤ 2 * m
  | 0 => Nat.le_refl 0
  | m + 1 => by
    have ih := nearUp_len n f k m
    rw [nearUp_succ, List.length_append, List.length_append]
    have a : (if nearB n (f m) k true = true then [(m, true)] else []).length ≤ 1 := by
      split <;> simp
    have b : (if nearB n (f m) k false = true then [(m, false)] else []).length ≤ 1 := by
      split <;> simp
    omega
/-- what read answered -/
def Fnd (CN CF : Addr) (H : Hp) (p : Addr) (o : Option (Nat × Bool)) : Prop := match o with
  | some (i, b) => ∃ dx, H p = some (.ins CN dx (nf (.int (i : Int)) (.bl b)))
  | none => ∃ dx, H p = some (.ins CF dx [])
theorem Fnd.ex {CN CF : Addr} {H H' : Hp} {p : Addr} (e : Ex H H') : ∀ {o : Option (Nat × Bool)}, Fnd CN CF H p o → Fnd CN CF H' p o
  | some (_, _), ⟨dx, h⟩ => ⟨dx, e p _ h⟩
  | none, ⟨dx, h⟩ => ⟨dx, e p _ h⟩
theorem er_read {K : PySem.W.Frag} {σ : L2.St} {H : Hp} {CN CF : Addr} {E : XK} {ts : TA} {a : Addr} {n : Nat} {f : Nat → Nat → Bool} {k : Nat → Bool} {xs : List V} (h : EvA ts σ H [.ref a, .str (rowS n k)]) (hT : TabAt K H a n f) (h1 : 1 ≤ n) (h2 : n ≤ 100) (hx : H a = some (.lst xs)) (hh : halfB n f = true) :
    EvR (tCall (sp_read K CN CF) [] E ts) σ H (fun v H2 => ∃ p o, v = .ref p ∧ Fnd CN CF H2 p o ∧ NearO n f k o) :=
  er_call h fun H1 e1 Q q => ⟨a, n, f, k, rfl, TabAt.ex e1 hT, h1, h2, ⟨xs, e1 a _ hx⟩, hh, fun i b hi hb p dx H2 _ e2 h2' => q _ H2 e2 ⟨p, some (i, b), rfl, ⟨dx, h2'⟩, nearO_some (half_had hh) hi hb⟩, fun hf p dx H2 _ e2 h2' => q _ H2 e2 ⟨p, none, rfl, ⟨dx, h2'⟩, nearO_none hf⟩⟩
theorem er_near {K : PySem.W.Frag} {σ : L2.St} {H : Hp} {E : XK} {ts : TA} {a : Addr} {n : Nat} {f : Nat → Nat → Bool} {k : Nat → Bool} {o : Option (Nat × Bool)} (h : EvA ts σ H [.ref a, .str (rowS n k)]) (hT : TabAt K H a n f) (h2 : n ≤ 1000) (hO : NearO n f k o) :
    EvR (tCall (sp_L_near K) [] E ts) σ H (fun v H2 => ∃ p, v = .ref p ∧ NearAt H2 p o) :=
  er_call h fun H1 e1 Q q => ⟨a, n, f, k, rfl, TabAt.ex e1 hT, h2, fun p xs H2 _ e2 h2' ht => q _ H2 e2 ⟨p, rfl, xs, h2', by rw [hO.1] at ht; exact ht⟩⟩
theorem atI_last {xs : List V} {v : V} (hl : 1 ≤ xs.length) (h : xs[xs.length - 1]? = some v) : atI xs (-1) = some v := by
  unfold atI ixN
  rw [if_neg (by decide)]
  first
    | (rw [if_pos (by omega)]; show xs[((-1 : Int) + (xs.length : Int)).toNat]? = _; rw [show ((-1 : Int) + (xs.length : Int)).toNat = xs.length - 1 by omega]; exact h)
    | (simp; exact h)
theorem units65 {k : Nat} {A : Around} (r : Room k A) : A.units + 65 < cLine := by
  have := r.un
  omega
def dueO (o o' : Option (Nat × Bool)) : Bool := match o with
  | some r => decide (o' = some r)
  | none => o'.isNone
end HA

end
section
set_option maxRecDepth 100000
set_option maxHeartbeats 4000000
namespace HA
open PySem PySem.Spec PyProof.Rows L2 Evl
/-! ### tables changed stay half alike -/
def trn (f : Nat → Nat → Bool) : Nat → Nat → Bool := fun i j => f j i
def trd (r : Nat) (f : Nat → Nat → Bool) : Nat → Nat → Bool := fun i j => if i = r then !f i j else f i j
def pfs (f : Nat → Nat → Bool) : Nat → Nat → Bool := fun i j => f i j == f i 0
def evn (f : Nat → Nat → Bool) : Nat → Nat → Bool := fun i j => (f i j == f 0 j) == (f i 0 == f 0 0)
def kron (m : Nat) (f g : Nat → Nat → Bool) : Nat → Nat → Bool := fun i j => f (i / m) (j / m) == g (i % m) (j % m)
theorem had_col {n : Nat} {f : Nat → Nat → Bool} (c : Nat → Bool) (h : Had n f) : Had n (fun i j => f i j == c j) := fun i hi j hj hne => by
  rw [← h i hi j hj hne]
  show S n _ = S n _
  refine S_congr fun k _ => ?_
  show sg (f i k == c k) * sg (f j k == c k) = sg (f i k) * sg (f j k)
  cases f i k <;> cases f j k <;> cases c k <;> rfl
theorem had_trd {n : Nat} {f : Nat → Nat → Bool} (r : Nat) (h : Had n f) : Had n (trd r f) :=
  had_perm id (fun i => decide (i = r)) (fun i hi => hi) (fun i _ j _ e => e) (fun i _ k _ => by
    show trd r f i k = (f i k ^^ decide (i = r))
    unfold trd
    by_cases e : i = r
    · rw [if_pos e, decide_eq_true e]
      cases f i k <;> rfl
    · rw [if_neg e, decide_eq_false e]
      cases f i k <;> rfl) h
theorem had_evn {n : Nat} {f : Nat → Nat → Bool} (h : Had n f) : Had n (evn f) :=
  had_perm id (fun i => !(f i 0 == f 0 0)) (fun i hi => hi) (fun i _ j _ e => e) (fun i _ k _ => by
    show ((f i k == f 0 k) == (f i 0 == f 0 0)) = ((f i k == f 0 k) ^^ !(f i 0 == f 0 0))
    cases (f i k == f 0 k) <;> cases (f i 0 == f 0 0) <;> rfl) (had_col (f 0) h)
theorem S_mul (m : Nat) : ∀ (n : Nat) (F : Nat → Int), S (n * m) F = S n fun a => S m fun b => F (a * m + b)
  | 0, F => by
    rw [Nat.zero_mul]
    rfl
  | n + 1, F => by
    rw [Nat.succ_mul, S_split, S_mul m n F]
    rfl
theorem had_kron {n m : Nat} {f g : Nat → Nat → Bool} (hf : Had n f) (hg : Had m g) : Had (n * m) (kron m f g) := fun i hi j hj hne => by
  have hm : 0 < m := by
    rcases Nat.eq_zero_or_pos m with q | q
    · rw [q, Nat.mul_zero] at hi
      exact absurd hi (by omega)
    · exact q
  have key : ip (n * m) (kron m f g i) (kron m f g j) = ip n (f (i / m)) (f (j / m)) * ip m (g (i % m)) (g (j % m)) := by
    show S (n * m) _ = S n _ * _
    rw [S_mul, ← S_mulR]
    refine S_congr fun a _ => ?_
    show S m _ = _ * S m _
    rw [← S_mulL]
    refine S_congr fun b hb => ?_
    have e1 : (a * m + b) / m = a := by
      rw [Nat.mul_comm, Nat.mul_add_div hm, Nat.div_eq_of_lt hb]
      rfl
    have e2 : (a * m + b) % m = b := by
      rw [Nat.mul_comm, Nat.mul_add_mod, Nat.mod_eq_of_lt hb]
    unfold kron
    rw [e1, e2]
    cases f (i / m) a <;> cases f (j / m) a <;> cases g (i % m) b <;> cases g (j % m) b <;> rfl
  rw [key]
  have hi1 : i / m < n := (Nat.div_lt_iff_lt_mul hm).mpr hi
  have hj1 : j / m < n := (Nat.div_lt_iff_lt_mul hm).mpr hj
  by_cases c : i / m = j / m
  · have d : i % m ≠ j % m := fun e => hne (by rw [← Nat.div_add_mod i m, ← Nat.div_add_mod j m, c, e])
    rw [hg _ (Nat.mod_lt _ hm) _ (Nat.mod_lt _ hm) d, Int.mul_zero]
  · rw [hf _ hi1 _ hj1 c, Int.zero_mul]
theorem half_trn {n : Nat} {f : Nat → Nat → Bool} (h : halfB n f = true) : halfB n (trn f) = true := had_half (had_tr (half_had h))
theorem half_trd {n : Nat} {f : Nat → Nat → Bool} (r : Nat) (h : halfB n f = true) : halfB n (trd r f) = true := had_half (had_trd r (half_had h))
theorem half_evn {n : Nat} {f : Nat → Nat → Bool} (h : halfB n f = true) : halfB n (evn f) = true := had_half (had_evn (half_had h))
theorem half_kron {n m : Nat} {f g : Nat → Nat → Bool} (hf : halfB n f = true) (hg : halfB m g = true) : halfB (n * m) (kron m f g) = true := had_half (had_kron (half_had hf) (half_had hg))
theorem evn_is (f : Nat → Nat → Bool) : pfs (trn (pfs (trn f))) = evn f := rfl
/-! ### joins of rows -/
theorem join_snoc (ys : List Str) (y : Str) : Txt.join ⟨#[]⟩ (ys ++ [y]) = Txt.join ⟨#[]⟩ ys ++ y := by
  apply str_ext
  rw [join_toList, app_cps, Array.toList_append, join_toList, List.map_append, List.flatten_append]
  simp
theorem join_rows (m : Nat) (h : Nat → Nat → Bool) : ∀ n, Txt.join ⟨#[]⟩ ((List.range n).map fun a => rowS m (h a)) = rowS (n * m) fun j => h (j / m) (j % m)
  | 0 => by
    rw [Nat.zero_mul]
    rfl
  | n + 1 => by
    rw [List.range_succ, List.map_append]
    show Txt.join ⟨#[]⟩ (((List.range n).map fun a => rowS m (h a)) ++ [rowS m (h n)]) = _
    rw [join_snoc, join_rows m h n, rowS_app, Nat.succ_mul]
    refine rowS_ext fun j hj => ?_
    by_cases c : j < n * m
    · rw [if_pos c]
    · have hm : 0 < m := by omega
      obtain ⟨b, rfl⟩ : ∃ b, j = n * m + b := ⟨j - n * m, by omega⟩
      have hb : b < m := by omega
      have e1 : (n * m + b) / m = n := by
        rw [Nat.mul_comm, Nat.mul_add_div hm, Nat.div_eq_of_lt hb]
        rfl
      have e2 : (n * m + b) % m = b := by
        rw [Nat.mul_comm, Nat.mul_add_mod, Nat.mod_eq_of_lt hb]
      rw [if_neg c, e1, e2, show n * m + b - n * m = b by omega]
theorem sum_lens (m : Nat) (h : Nat → Nat → Bool) : ∀ n, (((List.range n).map fun a => rowS m (h a)).map (·.length)).sum = n * m
  | 0 => by
    rw [Nat.zero_mul]
    rfl
  | n + 1 => by
    rw [List.range_succ, List.map_append, List.map_append, List.sum_append, sum_lens m h n, Nat.succ_mul]
    show n * m + ((rowS m (h n)).length + 0) = _
    rw [rowS_len]
    rfl
/-- a table's rows as far as k -/
def rowsTo (n : Nat) (f : Nat → Nat → Bool) (k : Nat) : List V := (List.range k).map fun i => V.str (rowS n (f i))
theorem rowsTo_len (n : Nat) (f : Nat → Nat → Bool) (k : Nat) : (rowsTo n f k).length = k := by
  unfold rowsTo
  rw [List.length_map, List.length_range]
/-! ### what is known of arguments -/
section
variable {K : PySem.W.Frag} {σ : L2.St} {H H' : Hp} {ta tb tc td te tx : TE} {t u : TT} {x y z v : V} {r r' r'' : R2} {D : Ends} {tz : TS}
def EvAR (ts : TA) (σ : L2.St) (H : Hp) (R : List V → Hp → Prop) : Prop := ∀ H1, Ex H H1 → ∀ Q : List V → Hp → Prop, (∀ vs H2, Ex H1 H2 → R vs H2 → Q vs H2) → ts σ H1 Q
def Kept {α : Type} (R : α → Hp → Prop) : Prop := ∀ v H H', Ex H H' → R v H → R v H'
theorem ear_nil : EvAR tNil σ H (fun vs _ => vs = []) := fun H1 _ Q q => q [] H1 (Ex.refl H1) rfl
theorem ear_cons {ts : TA} {R1 : V → Hp → Prop} {R2 : List V → Hp → Prop} (k : Kept R1) (ha : EvR ta σ H R1) (hs : EvAR ts σ H R2) : EvAR (tCons ta ts) σ H (fun vs H => ∃ v r, vs = v :: r ∧ R1 v H ∧ R2 r H) := fun H1 e Q q =>
  ha H1 e _ fun v H2 e2 hv => hs H2 (e.trans e2) _ fun vs H3 e3 hvs => q (v :: vs) H3 (e2.trans e3) ⟨v, vs, rfl, k v H2 H3 e3 hv, hvs⟩
theorem er_ev (h : Ev ta σ H x) : EvR ta σ H (fun v _ => v = x) := fun H1 e Q q => h H1 e Q fun H2 e2 => q x H2 e2 rfl
theorem er_tup {ts : TA} {R : List V → Hp → Prop} (k : Kept R) (hl : ∀ vs H, R vs H → vs.length ≤ 100000) (h : EvAR ts σ H R) : EvR (tTup ts) σ H (fun v H => ∃ p vs, v = .ref p ∧ H p = some (.tup vs) ∧ R vs H) := fun H1 e Q q =>
  h H1 e _ fun vs H2 e2 hv => ⟨sz_of (hl vs H2 hv), fun p hp => q _ _ (e2.trans (Ex.new hp)) ⟨p, vs, rfl, upd_same, k vs H2 _ (Ex.new hp) hv⟩⟩
theorem er_lst {ts : TA} {R : List V → Hp → Prop} (k : Kept R) (hl : ∀ vs H, R vs H → vs.length ≤ 100000) (h : EvAR ts σ H R) : EvR (tLst ts) σ H (fun v H => ∃ p vs, v = .ref p ∧ H p = some (.lst vs) ∧ R vs H) := fun H1 e Q q =>
  h H1 e _ fun vs H2 e2 hv => ⟨sz_of (hl vs H2 hv), fun p hp => q _ _ (e2.trans (Ex.new hp)) ⟨p, vs, rfl, upd_same, k vs H2 _ (Ex.new hp) hv⟩⟩
/-- a new list of the items xs -/
def IsL (xs : List V) : V → Hp → Prop := fun v H => ∃ p, v = .ref p ∧ H p = some (.lst xs)
theorem kept_isL (xs : List V) : Kept (IsL xs) := fun v H H' e ⟨p, h1, h2⟩ => ⟨p, h1, e p _ h2⟩
theorem kept_eq (x : V) : Kept (fun v (_ : Hp) => v = x) := fun _ _ _ _ h => h
theorem er_isL {xs : List V} (h : EvL ta σ H xs) : EvR ta σ H (IsL xs) := EvL.evR h
theorem ev_opLR {xs ys : List V} (ha : EvL ta σ H xs) (hb : EvL tb σ H ys) (hr : ∀ p q H1, H1 p = some (.lst xs) → H1 q = some (.lst ys) → Ex H H1 → RV r (.ref p) (.ref q) H1 z) : Ev (tOp r ta tb) σ H z := fun H1 e Q k =>
  ha H1 e _ fun p H2 _ e2 h2 => hb H2 (e.trans e2) _ fun q H3 _ e3 h3 => hr p q H3 (e3 p _ h2) h3 ((e.trans e2).trans e3) H3 (Ex.refl H3) Q fun H4 e4 => k H4 ((e2.trans e3).trans e4)
theorem ev_opLV {xs : List V} (ha : EvL ta σ H xs) (hb : Ev tb σ H y) (hr : ∀ p H1, H1 p = some (.lst xs) → Ex H H1 → RV r (.ref p) y H1 z) : Ev (tOp r ta tb) σ H z := fun H1 e Q k =>
  ha H1 e _ fun p H2 _ e2 h2 => hb H2 (e.trans e2) _ fun H3 e3 => hr p H3 (e3 p _ h2) ((e.trans e2).trans e3) H3 (Ex.refl H3) Q fun H4 e4 => k H4 ((e2.trans e3).trans e4)
/-- f(g(..)): the argument a new list -/
theorem el_callL {sp : Sp} {xs zs : List V} {E : XK} (h : EvL ta σ H xs) (hs : ∀ p H1, Ex H H1 → H1 p = some (.lst xs) → ∀ Q, RetL zs H1 Q → ∀ E', sp [.ref p] H1 Q E') : EvL (tCall sp [] E (tCons ta tNil)) σ H zs := fun H1 e Q q =>
  h H1 e _ fun p H2 hp e2 h2 => hs p H2 (e.trans e2) h2 Q (fun p' H3 hp' e3 h3 => q p' H3 (fresh_back e2 hp') (e2.trans e3) h3) E
theorem el_callLV {sp : Sp} {xs zs : List V} {E : XK} (h : EvL ta σ H xs) (hb : Ev tb σ H y) (hs : ∀ p H1, Ex H H1 → H1 p = some (.lst xs) → ∀ Q, RetL zs H1 Q → ∀ E', sp [.ref p, y] H1 Q E') : EvL (tCall sp [] E (tCons ta (tCons tb tNil))) σ H zs := fun H1 e Q q =>
  h H1 e _ fun p H2 hp e2 h2 => hb H2 (e.trans e2) _ fun H3 e3 => hs p H3 ((e.trans e2).trans e3) (e3 p _ h2) Q (fun p' H4 hp' e4 h4 => q p' H4 (fresh_back (e2.trans e3) hp') ((e2.trans e3).trans e4) h4) E
theorem el_callVL {sp : Sp} {ys zs : List V} {E : XK} (h : Ev ta σ H x) (hb : EvL tb σ H ys) (hs : ∀ p H1, Ex H H1 → H1 p = some (.lst ys) → ∀ Q, RetL zs H1 Q → ∀ E', sp [x, .ref p] H1 Q E') : EvL (tCall sp [] E (tCons ta (tCons tb tNil))) σ H zs := fun H1 e Q q =>
  h H1 e _ fun H2 e2 => hb H2 (e.trans e2) _ fun p H3 hp e3 h3 => hs p H3 ((e.trans e2).trans e3) h3 Q (fun p' H4 hp' e4 h4 => q p' H4 (fresh_back (e2.trans e3) hp') ((e2.trans e3).trans e4) h4) E
end
/-! ### promises -/
def sp_is_number : Sp := fun vs H Q _ => ∃ z : Int, vs = [.int z] ∧ RetV (.bl true) H Q
def sp_tab (K : PySem.W.Frag) (F : (Nat → Nat → Bool) → Nat → Nat → Bool) : Sp := fun vs H Q _ => ∃ (a : Addr) (n : Nat) (f : Nat → Nat → Bool), vs = [.ref a] ∧ TabAt K H a n f ∧ 1 ≤ n ∧ n ≤ 100 ∧ (∃ xs, H a = some (.lst xs)) ∧ RetL (tabV n (F f)) H Q
def sp_turned (K : PySem.W.Frag) : Sp := fun vs H Q _ => ∃ (a : Addr) (n r : Nat) (f : Nat → Nat → Bool), vs = [.ref a, .int (r : Int)] ∧ TabAt K H a n f ∧ r < n ∧ n ≤ 100 ∧ (∃ xs, H a = some (.lst xs)) ∧ RetL (tabV n (trd r f)) H Q
def sp_product (K : PySem.W.Frag) : Sp := fun vs H Q _ => ∃ (a b : Addr) (n m : Nat) (f g : Nat → Nat → Bool), vs = [.ref a, .ref b] ∧ TabAt K H a n f ∧ TabAt K H b m g ∧ 1 ≤ n ∧ 1 ≤ m ∧ n * m ≤ 100 ∧ (∃ xs, H a = some (.lst xs)) ∧ (∃ xs, H b = some (.lst xs)) ∧ RetL (tabV (n * m) (kron m f g)) H Q
def sp_is_table (K : PySem.W.Frag) : Sp := fun vs H Q _ => ∃ (a : Addr) (n : Nat) (f : Nat → Nat → Bool), vs = [.ref a, .int (n : Int)] ∧ H a = some (.lst (tabV n f)) ∧ n ≤ 1000 ∧ RetV (.bl true) H Q
def sp_right3 (K : PySem.W.Frag) : Sp := fun vs H Q _ => ∃ (a : Addr) (n r : Nat) (f : Nat → Nat → Bool), vs = [.ref a, .int (r : Int)] ∧ TabAt K H a n f ∧ r < n ∧ n ≤ 100 ∧ (∃ xs, H a = some (.lst xs)) ∧ RetV (.bl true) H Q
theorem strip_all3 {goes : Nat → Bool} {x : Str} (h : ∀ c ∈ x.cps.toList, goes c = true) : Txt.stripBy goes true true x = ⟨#[]⟩ := by
  have tw : x.cps.toList.takeWhile goes = x.cps.toList := by
    have : ∀ l : List Nat, (∀ c ∈ l, goes c = true) → l.takeWhile goes = l := fun l => by
      induction l with
      | nil => intro _; rfl
      | cons a r ih =>
        intro hl
        rw [List.takeWhile_cons, if_pos (hl a (List.mem_cons_self ..)), ih fun c hc => hl c (List.mem_cons_of_mem _ hc)]
    exact this _ h
  have lo : PySem.stripLo goes true x = x.length := by
    unfold PySem.stripLo
    rw [if_pos rfl, tw]
    rfl
  have hi : PySem.stripHi goes true x x.length = x.length := by
    unfold PySem.stripHi
    have hd : List.drop x.length x.cps.toList = [] := List.drop_of_length_le (Nat.le_of_eq (by simp [Str.length]))
    rw [if_pos rfl, hd]
    rfl
  unfold Txt.stripBy PySem.stripSame PySem.stripped
  rw [lo, hi]
  by_cases e : x.length = 0
  · rw [if_pos (by simp [e])]
    obtain ⟨a⟩ := x
    have : a = #[] := Array.eq_empty_of_size_eq_zero e
    rw [this]
  · rw [if_neg (by simp [e])]
    unfold Builtin.Str.strSub
    apply str_ext
    simp
theorem row_strip3 (n : Nat) (g : Nat → Bool) : Txt.stripChars (rowS n g) (Str.ofString "+-") = ⟨#[]⟩ := by
  unfold Txt.stripChars
  refine strip_all3 fun c hc => ?_
  have hc' : c ∈ (List.range n).map fun j => cp (g j) := hc
  obtain ⟨j, _, rfl⟩ := List.mem_map.mp hc'
  cases g j <;> decide +kernel
/-! ### lists of lists and of pairs -/
section
variable {K : PySem.W.Frag} {σ : L2.St} {H H' : Hp} {ta tb tc td te tx : TE} {t u : TT} {x y z v : V} {r r' r'' : R2} {D : Ends} {tz : TS}
def PL (w : Int) (xs : List V) : V → Hp → Prop := fun v H => ∃ t d, v = .ref t ∧ H t = some (.tup [.int w, .ref d]) ∧ H d = some (.lst xs)
theorem kept_PL (w : Int) (xs : List V) : Kept (PL w xs) := fun v H H' e ⟨t, d, h1, h2, h3⟩ => ⟨t, d, h1, e t _ h2, e d _ h3⟩
theorem er_PL {w : Int} {xs : List V} (ha : Ev ta σ H (.int w)) (hb : EvR tb σ H (IsL xs)) : EvR (tTup (tCons ta (tCons tb tNil))) σ H (PL w xs) := fun H1 e Q q =>
  ha H1 e _ fun H2 e2 => hb H2 (e.trans e2) _ fun v H3 e3 ⟨d, hv, hd⟩ => ⟨sz_of (show 2 ≤ 100000 by decide), fun p hp => by
    subst hv
    exact q _ _ ((e2.trans e3).trans (Ex.new hp)) ⟨p, d, rfl, upd_same, Ex.new hp d _ hd⟩⟩
theorem er_varL {p : Addr} {xs : List V} (ha : Ev ta σ H (.ref p)) (hp : H p = some (.lst xs)) : EvR ta σ H (IsL xs) := fun H1 e Q q => ha H1 e _ fun H2 e2 => q _ H2 e2 ⟨p, rfl, (e.trans e2) p _ hp⟩
theorem er_lst3 {R1 R2 R3 : V → Hp → Prop} (k1 : Kept R1) (k2 : Kept R2) (k3 : Kept R3) (h1 : EvR ta σ H R1) (h2 : EvR tb σ H R2) (h3 : EvR tc σ H R3) : EvR (tLst (tCons ta (tCons tb (tCons tc tNil)))) σ H (fun v H => ∃ l x y z, v = .ref l ∧ H l = some (.lst [x, y, z]) ∧ R1 x H ∧ R2 y H ∧ R3 z H) := fun H1 e Q q =>
  h1 H1 e _ fun x H2 e2 hx => h2 H2 (e.trans e2) _ fun y H3 e3 hy => h3 H3 ((e.trans e2).trans e3) _ fun z H4 e4 hz => ⟨sz_of (show 3 ≤ 100000 by decide), fun p hp =>
    q _ _ (((e2.trans e3).trans e4).trans (Ex.new hp)) ⟨p, x, y, z, rfl, upd_same, k1 x _ _ ((e3.trans e4).trans (Ex.new hp)) hx, k2 y _ _ (e4.trans (Ex.new hp)) hy, k3 z _ _ (Ex.new hp) hz⟩⟩
/-- one of four new lists -/
theorem er_pick4 {x1 x2 x3 x4 : List V} {m : Nat} (hm : m < 4) (h1 : EvL ta σ H x1) (h2 : EvL tb σ H x2) (h3 : EvL tc σ H x3) (h4 : EvL td σ H x4) (hi : Ev te σ H (.int (m : Int))) : EvR (tOp (rIxL K) (tLst (tCons ta (tCons tb (tCons tc (tCons td tNil))))) te) σ H (fun v H => ∃ xs, xs ∈ [x1, x2, x3, x4] ∧ IsL xs v H) := fun H1 e Q q =>
  h1 H1 e _ fun p1 H2 _ e2 q1 => h2 H2 (e.trans e2) _ fun p2 H3 _ e3 q2 => h3 H3 ((e.trans e2).trans e3) _ fun p3 H4 _ e4 q3 => h4 H4 (((e.trans e2).trans e3).trans e4) _ fun p4 H5 _ e5 q4 => ⟨sz_of (show 4 ≤ 100000 by decide), fun p hp =>
    hi _ (((((e.trans e2).trans e3).trans e4).trans e5).trans (Ex.new hp)) _ fun H6 e6 => by
      have E5 := (Ex.new hp (o := .lst [.ref p1, .ref p2, .ref p3, .ref p4])).trans e6
      have F : Ex H1 H6 := ((((e2.trans e3).trans e4).trans e5)).trans E5
      have hl : H6 p = some (.lst [.ref p1, .ref p2, .ref p3, .ref p4]) := e6 p _ upd_same
      match m, hm with
      | 0, _ => exact ⟨p, _, _, .ref p1, rfl, rfl, sq_of hl, rfl, q _ H6 F ⟨x1, by simp, p1, rfl, (((e3.trans e4).trans e5).trans E5) p1 _ q1⟩⟩
      | 1, _ => exact ⟨p, _, _, .ref p2, rfl, rfl, sq_of hl, rfl, q _ H6 F ⟨x2, by simp, p2, rfl, ((e4.trans e5).trans E5) p2 _ q2⟩⟩
      | 2, _ => exact ⟨p, _, _, .ref p3, rfl, rfl, sq_of hl, rfl, q _ H6 F ⟨x3, by simp, p3, rfl, (e5.trans E5) p3 _ q3⟩⟩
      | 3, _ => exact ⟨p, _, _, .ref p4, rfl, rfl, sq_of hl, rfl, q _ H6 F ⟨x4, by simp, p4, rfl, E5 p4 _ q4⟩⟩⟩
theorem Tups.get : ∀ {xs : List V} {qs : List (List V)} {i : Nat} {x : V}, Tups H xs qs → xs[i]? = some x → ∃ q a, q ∈ qs ∧ x = .ref a ∧ H a = some (.tup q)
  | x :: xs, q :: qs, 0, y, h, e => by
    obtain ⟨a, rfl, ha⟩ := h.1
    have e' : some (V.ref a) = some y := e
    cases e'
    exact ⟨q, a, List.mem_cons_self .., rfl, ha⟩
  | _ :: xs, q :: qs, i + 1, y, h, e => by
    have e' : xs[i]? = some y := e
    obtain ⟨q', a, m, r⟩ := Tups.get h.2 e'
    exact ⟨q', a, List.mem_cons_of_mem _ m, r⟩
  | [], [], _, _, _, e => nomatch e
  | [], _ :: _, _, _, h, _ => h.elim
  | _ :: _, [], _, _, h, _ => h.elim
def EvTs (ts : TA) (σ : L2.St) (H : Hp) (qs : List (List V)) : Prop := EvAR ts σ H (fun xs H => Tups H xs qs)
theorem ets_nil : EvTs tNil σ H [] := fun H1 _ Q q => q [] H1 (Ex.refl H1) trivial
theorem ets_cons {ta ts : TA} {vs : List V} {qs : List (List V)} (h : EvA ta σ H vs) (hl : vs.length ≤ 1000) (hs : EvTs ts σ H qs) : EvTs (tCons (tTup ta) ts) σ H (vs :: qs) := fun H1 e Q q =>
  eu_tup h (by omega) H1 e _ fun p H2 _ e2 h2 => hs H2 (e.trans e2) _ fun xs H3 e3 h3 => q (.ref p :: xs) H3 (e2.trans e3) ⟨⟨p, rfl, e3 p _ h2⟩, h3⟩
/-- for a, b in [(..), ..] -/
theorem q_forTs {ts : TA} {qs : List (List V)} {j l : Nat} {tu : TS} (h : EvTs ts σ H qs) (hl : qs.length ≤ 1000) (Pv : L2.St → Hp → Prop) (h0 : ∀ H1, Ex H H1 → Pv σ H1)
    (hs : ∀ H1, Ex H H1 → ∀ q σ' H', q ∈ qs → Pv σ' H' → Ex H1 H' → ∃ x y, q = [x, y] ∧ tu { D with nx := fun s h => Pv s h ∧ Ex H1 h, ct := fun s h => Pv s h ∧ Ex H1 h, bk := tz D } ((σ'.set j (some x)).set l (some y)) H') (hd : ∀ σ' H', Pv σ' H' → tz D σ' H') : tSeq (tFor (iList K (tLst ts)) (gTup K 2 (gCons (gName j) (gCons (gName l) gNil))) tu) tz D σ H := by
  refine h H (Ex.refl H) _ fun xs H1 e hx => ⟨sz_of (by rw [hx.len]; omega), fun p hp => ⟨p, rfl, ⟨xs, sq_of upd_same⟩, ?_⟩⟩
  have e2 : Ex H (upd H1 p (.lst xs)) := e.trans (Ex.new hp)
  have hx2 : Tups (upd H1 p (.lst xs)) xs qs := hx.ex (Ex.new hp)
  have hp2 : (upd H1 p (.lst xs)) p = some (.lst xs) := upd_same
  generalize upd H1 p (.lst xs) = H2 at e2 hx2 hp2 ⊢
  refine for_list (K := K) (xs := xs) (fun i σ' H' => Pv σ' H' ∧ Ex H2 H') ⟨h0 H2 e2, Ex.refl H2⟩ (fun i σ' H' _ q => sq_of (q.2 p _ hp2)) (fun i x σ' H' hx' q => ?_) (fun σ' H' q => hd σ' H' q.1)
  obtain ⟨qq, a, m, rfl, ha⟩ := (hx2.ex q.2).get hx'
  obtain ⟨x, y, rfl, k⟩ := hs H2 e2 qq σ' H' m q.1 q.2
  exact g_pair ha k
end
theorem cutV_to (xs : List V) (k : Nat) : cutV xs none (some (k : Int)) = xs.take k := by
  unfold cutV
  rw [HT.sIx_none, HT.sIx_nat, List.drop_zero, Nat.sub_zero, ← List.take_eq_take_min]
theorem cutV_from (xs : List V) (k : Nat) : cutV xs (some (k : Int)) none = xs.drop k := by
  unfold cutV
  rw [HT.sIx_none, HT.sIx_nat]
  by_cases h : k ≤ xs.length
  · rw [Nat.min_eq_left h]
    exact List.take_of_length_le (by rw [List.length_drop]; exact Nat.le_refl _)
  · rw [Nat.min_eq_right (by omega), Nat.sub_self, List.take_zero, List.drop_eq_nil_of_le (show xs.length ≤ k by omega)]
theorem tab_trd {n r : Nat} (f : Nat → Nat → Bool) (hr : r < n) : (tabV n f).take r ++ [V.str (rowS n fun j => !f r j)] ++ (tabV n f).drop (r + 1) = tabV n (trd r f) := by
  apply List.ext_getElem?
  intro k
  have lt : ((tabV n f).take r).length = r := by rw [List.length_take, tabV_len]; omega
  rw [List.append_assoc]
  by_cases c1 : k < r
  · rw [List.getElem?_append_left (by rw [lt]; exact c1), List.getElem?_take, if_pos c1, tabV_get (by omega), tabV_get (by omega)]
    refine congrArg (fun z => some (V.str z)) (rowS_ext fun j _ => ?_)
    unfold trd
    rw [if_neg (by omega)]
  · rw [List.getElem?_append_right (by rw [lt]; omega), lt]
    by_cases c2 : k = r
    · subst c2
      rw [Nat.sub_self, tabV_get hr]
      refine congrArg (fun z => some (V.str z)) (rowS_ext fun j _ => ?_)
      unfold trd
      rw [if_pos rfl]
    · rw [show k - r = (k - r - 1) + 1 by omega]
      show ((tabV n f).drop (r + 1))[k - r - 1]? = _
      rw [List.getElem?_drop, show r + 1 + (k - r - 1) = k by omega]
      by_cases c3 : k < n
      · rw [tabV_get c3, tabV_get c3]
        refine congrArg (fun z => some (V.str z)) (rowS_ext fun j _ => ?_)
        unfold trd
        rw [if_neg c2]
      · rw [List.getElem?_eq_none (by rw [tabV_len]; omega), List.getElem?_eq_none (by rw [tabV_len]; omega)]
theorem trd_trd (n r : Nat) (f : Nat → Nat → Bool) : tabV n (trd r (trd r f)) = tabV n f := tabV_ext fun i _ j _ => by
  unfold trd
  by_cases c : i = r
  · rw [if_pos c, if_pos c, Bool.not_not]
  · rw [if_neg c, if_neg c]
def chg (r : Nat) (f : Nat → Nat → Bool) (w : Nat) : Nat → Nat → Bool := if w = 0 then trn f else if w = 1 then trd r f else evn f
theorem half_chg {n : Nat} {f : Nat → Nat → Bool} (r w : Nat) (h : halfB n f = true) : halfB n (chg r f w) = true := by
  unfold chg
  split
  · exact half_trn h
  · split
    · exact half_trd r h
    · exact half_evn h
theorem q_for3 {K : PySem.W.Frag} {σ : L2.St} {H : Hp} {D : Ends} {tz tu : TS} {tl : TE} {g : TG} {R1 R2 R3 : V → Hp → Prop} (k1 : Kept R1) (k2 : Kept R2) (k3 : Kept R3) (h : EvR tl σ H (fun v H => ∃ l x y z, v = .ref l ∧ H l = some (.lst [x, y, z]) ∧ R1 x H ∧ R2 y H ∧ R3 z H)) (Pv : L2.St → Hp → Prop) (h0 : ∀ H1, Ex H H1 → Pv σ H1)
    (hs : ∀ H1, Ex H H1 → ∀ x σ' H', (R1 x H' ∨ R2 x H' ∨ R3 x H') → Pv σ' H' → Ex H1 H' → g x σ' H' fun σ2 H2 => tu { D with nx := fun s h => Pv s h ∧ Ex H1 h, ct := fun s h => Pv s h ∧ Ex H1 h, bk := tz D } σ2 H2) (hd : ∀ σ' H', Pv σ' H' → tz D σ' H') : tSeq (tFor (iList K tl) g tu) tz D σ H := by
  refine h H (Ex.refl H) _ fun v H1 e hv => ?_
  obtain ⟨l, x, y, z, rfl, hl, h1, h2, h3⟩ := hv
  refine ⟨l, rfl, ⟨_, sq_of hl⟩, for_list (K := K) (xs := [x, y, z]) (fun i σ' H' => Pv σ' H' ∧ Ex H1 H') ⟨h0 H1 e, Ex.refl H1⟩ (fun i σ' H' _ q => sq_of (q.2 l _ hl)) (fun i w σ' H' hx q => hs H1 e w σ' H' ?_ q.1 q.2) (fun σ' H' q => hd σ' H' q.1)⟩
  match i, hx with
  | 0, hx =>
    cases hx
    exact .inl (k1 _ _ _ q.2 h1)
  | 1, hx =>
    cases hx
    exact .inr (.inl (k2 _ _ _ q.2 h2))
  | 2, hx =>
    cases hx
    exact .inr (.inr (k3 _ _ _ q.2 h3))
  | _ + 3, hx => cases hx
end HA

end
section
set_option maxRecDepth 100000
set_option maxHeartbeats 4000000
namespace HA
open PySem PySem.Spec PyProof.Rows L2 Evl HotX L2H
/-! ### any(list) where an exception is handled -/
section
variable {prog : Program} {w : World} {A : Around} {E : Value → Shared → Prop} {s : Shared}
theorem next_end_hot {J L x1 : Addr} {k : Nat} {ys : Array Value} {Q : Option Value → Shared → Prop} (hot : HotAt A x1 s.heap) (nx : x1 ≠ J) (hJ : s.heap.IsListIter J L k) (hL : s.heap.IsList L ys) (hk : ys[k]? = none)
    (fin : ∀ h', (∀ b u, b ≠ J → s.heap.get? b = some u → h'.get? b = some u) → Q none { s with heap := h' }) : wpAny (model prog w) A (pyNext (.ref J)) Q E s := by
  obtain ⟨oJ, gJ, cJ, dJ⟩ := id hJ
  obtain ⟨oL, gL, _, mL, dL⟩ := hL
  obtain ⟨hh, o1, vs1, g1, d1, c1⟩ := hot
  unfold pyNext
  refine wpAny_bind (wpAny_attempt (wpAny_callSpecial?_slot (name := Str.ofString "__next__") hJ.typeIs slot_listiter_next (wpAny_call_entry slot_listiter_next hJ.typeIs entry_listiter_next ?_ (args_listiter_next _))))
  show wpAny _ _ (field (.ref J) 0 >>= _) _ _ s
  refine wpAny_bind (wpAny_field gJ dJ (x := .ref L) rfl ?_)
  show wpAny _ _ (if (Value.ref L == Value.none) = true then _ else _) _ _ s
  rw [if_neg (c := (Value.ref L == Value.none) = true) Bool.false_ne_true]
  show wpAny _ _ (field (.ref J) 1 >>= _) _ _ s
  refine wpAny_bind (wpAny_field gJ dJ (x := .int k 0) rfl ?_)
  show wpAny _ _ (seqItems? (.ref L) >>= _) _ _ s
  refine wpAny_bind (wpAny_seqItems gL dL ?_)
  simp only [Int.toNat_natCast, hk]
  refine wpAny_bind (wpAny_rule (wpAny_bind (wpAny_setField gJ dJ (by simp) ?_)))
  show wpAny _ _ (newExc (.type "StopIteration") [] >>= _) _ _ _
  refine wpAny_bind ?_
  simp only [newExc, newTuple]
  refine wpAny_bind (wpAny_newObj_type ?_ (by size_fits))
  refine wpAny_bind (m := firstArgMember _ _) (wpAny_of_eq (a := .none) (by first | rfl | (simp only [firstArgMember]; rfl)) ?_)
  refine wpAny_newObj_type ?_ (by size_fits)
  have old : ∀ b u, b ≠ J → s.heap.get? b = some u → ((s.heap.update J (Obj.mapFields (·.setIfInBounds 0 .none))).get? b) = some u := fun b u hb e => by
    rw [Heap.get?_update_other _ _ (Ne.symm hb)]
    exact e
  have g2 := Heap.get?_push_of_some { cls := Value.type "tuple", data := Data.seq #[] } (old x1 o1 nx g1)
  refine raiseNew_hot (x1 := x1) ⟨hh, o1, vs1, Heap.get?_push_of_some _ g2, d1, c1⟩ (Nat.ne_of_lt (Heap.lt_size g2)) (Heap.get?_push_size _ rfl) rfl (by first | (simp; done) | (simp; omega) | (simp only [Array.size_append]; simp; omega)) ?_
  refine wpAny_bind (wpAny_isInstance (b := true) (T := "StopIteration") ⟨_, Heap.get?_update_self _ (Heap.get?_push_size _ rfl) rfl, rfl⟩ isSubtype_stop ?_)
  refine wpAny_pure (fin _ fun b u hb e => ?_)
  have e2 := Heap.get?_push_of_some { cls := Value.type "tuple", data := Data.seq #[] } (old b u hb e)
  rw [Heap.get?_update_other _ _ (Nat.ne_of_gt (Heap.lt_size e2))]
  exact Heap.get?_push_of_some _ e2
/-- a list's walk there -/
theorem walks_hot (I ax x1 : Addr) (hne : ax ≠ I) (nx : x1 ≠ I) (hh : A.handled = some (.ref x1)) (items : Array Value) :
    Walks prog w A I [I, ax, x1] [I] items.size (fun i v => items[i]? = some v) (fun i h => h.IsListIter I ax i ∧ h.IsList ax items ∧ HotAt A x1 h) where
  sub := fun b hb => by
    have e : b = I := by simpa using hb
    simp [e]
  frame := fun i h h' st hk => ⟨st.1.at fun o e => hk I (by simp) o e, st.2.1.at fun o e => hk ax (by simp) o e, st.2.2.1, by
    obtain ⟨_, o, vs, g, d, c⟩ := st.2.2
    exact ⟨o, vs, hk x1 (by simp) o g, d, c⟩⟩
  item := fun i s Q E hi st hQ => by
    refine wpAny_pyNext_list_item st.1 st.2.1 (x := items[i]) (by simp [hi]) fun h' hit' hs' => ?_
    refine hQ _ h' s.toks (by simp [hi]) ⟨hit', st.2.1.extBut hs'.extBut hne, st.2.2.1, ?_⟩ fun b o hb e => hs'.extBut b o (fun h => hb (by simp [h])) e
    obtain ⟨_, o, vs, g, d, c⟩ := st.2.2
    exact ⟨o, vs, hs'.extBut x1 o nx g, d, c⟩
  done := fun s Q E st hQ => next_end_hot st.2.2 nx st.1 st.2.1 (by simp) fun h' he' => hQ h' s.toks fun b o hb e => he' b o (fun h => hb (by simp [h])) e
  self := fun _ _ _ _ st hQ => wpAny_pyIter_listiter st.1 hQ
end
theorem cr_anyH {X : Cx} (hc : HotC X) : CallR X (.builtin "any") (rAny X.K) := by
  intro pins s σ H vs us Q I r h
  obtain ⟨a, bs, rfl, hs, q⟩ := h
  obtain ⟨its, rv, hl, _⟩ := I.list hs
  obtain ⟨x1, hot⟩ := hc.at I
  rw [Vals.ref1 r]
  have hb := rv.bls
  refine call_any_walk (iter_any hl.isList fun s₂ e2 st hne => ?_)
  subst e2
  obtain ⟨hh, o1, vs1, g1, d1, c1⟩ := hot
  have nx : x1 ≠ s.heap.objs.size := Nat.ne_of_lt (Heap.lt_size g1)
  refine ⟨_, _, _, _, _, _, _, rfl, walks_hot (A := X.A.in1) _ a x1 hne nx hh its.toArray, ⟨st.1, st.2, hh, o1, vs1, Heap.get?_push_of_some _ g1, d1, c1⟩, truth_bools hb, fun h' tk hk => ?_⟩
  refine ⟨.bl _, H, I.kept fun b o eo => hk b o (fun hmem => ?_) (Heap.get?_push_of_some _ eo), ?_, q⟩
  · have e1 : b = s.heap.objs.size := by simpa using hmem
    exact absurd (e1 ▸ Heap.lt_size eo) (Nat.lt_irrefl _)
  · show Value.bool _ = Value.bool _
    rw [← L2.any_range, List.size_toArray, hb, List.length_map]
/-! ### defs that raise, their exceptions without a context -/
theorem passLN {X : Cx} : Passes (L2N.CX X.prog X.w) X E0 := fun _ _ _ _ _ _ _ h => by
  obtain ⟨_, _, _, _, _, _, _, _, _, _, _, _, z⟩ := h
  exact z.elim
theorem takesN {X : Cx} : L2N.Takes X (fun _ _ _ _ => False) := fun _ _ x => by
  obtain ⟨_, _, _, _, _, _, _, _, _, _, _, _, _, _, _, _, z⟩ := x
  exact z.elim
section
variable {P : Program} {w : World} {K : PySem.W.Frag} {mg : Str → Option Value} {base : Heap}
theorem okN {x qual : Str} {st : Stmt} {f : Addr} {fd : FuncData} {N ps : List Str} {k : Nat} {sp : Sp} (F : Fun K x qual st f fd) (S : FnScope N ps (defScope st)) (len : ∀ vs H Q E, sp vs H Q E → vs.length = ps.length)
    (hbody : ∀ (cdv : Value) (A : Around) (outer : List Env) (s : Shared) (H : Hp) (vs : List V) (Q : VK) (E : XK), Room k (A.deeper (envOfC qual (defScope st) s.heap.objs.size f cdv)) → sp vs H Q E →
      ∃ t, PSs (cxOf (L2N.CX P w) P w K mg base N qual (defScope st) f cdv A outer s H E) (defBody st) t ∧ t { nx := fun _ H' => Q .non H', rt := Q } (start N vs) H) : FnOk P w K mg base (L2N.CX P w) (k + 1) f fd ps sp := by
  obtain ⟨oc, od, kV, doc, pm, an, cdv, ct, osl, rfl, lk, hcd⟩ := F.ex
  exact fn_of lk hcd S len fun A' outer' s' H' vs' Q' E' hr' hsp' => hbody cdv A' outer' s' H' vs' Q' E' hr' hsp'
end
/-- isinstance(e, c) in the suite: what e's class says -/
def rIsG (K : PySem.W.Frag) (cls : Value) (d : Option Addr) (a : Addr) : List V → Hp → VK → Prop := fun xs H Q => ∃ D, cls = .ref D ∧ d = none ∧ ExcC K D ∧ rIsE K D a xs H Q
theorem call_isG {X : Cx} {a : Addr} {cls : Value} {d : Option Addr} {oe : Obj} {pn : List (Addr × Obj)} (hz : Zc cls d oe) (hf : ∃ vs, oe.data = .fields vs) : CallR (X.suite a ((a, oe) :: pn)) (.builtin "isinstance") (rIsG X.K cls d a) := by
  intro pins s σ H xs us Q I r h
  obtain ⟨D, rfl, rfl, C, h⟩ := h
  exact call_isE C hz hf pins s σ H xs us Q I r h
theorem hot_suite {X : Cx} {a : Addr} {cls : Value} {d : Option Addr} {oe : Obj} {pn : List (Addr × Obj)} (hz : L2N.Zn cls d oe) (hf : ∃ vs, oe.data = .fields vs) : HotC (X.suite a ((a, oe) :: pn)) := by
  obtain ⟨vs, hv⟩ := hf
  exact ⟨(a, oe), ⟨rfl, vs, hv, hz.2.2 vs hv⟩, List.mem_cons_self ..⟩
/-- two readings of a walk -/
theorem pi_either {X : Cx} {tg it : Expr} {u v : TI} (h : PI X tg it u) (k : PI X tg it v) : PI X tg it (fun σ H R => u σ H R ∨ v σ H R) :=
  ⟨fun pins s σ H R I q => q.elim (h.run pins s σ H R I) (k.run pins s σ H R I)⟩
theorem cr_anyS {X : Cx} {a : Addr} {cls : Value} {d : Option Addr} {oe : Obj} {pn : List (Addr × Obj)} (hz : L2N.Zn cls d oe) (hf : ∃ vs, oe.data = .fields vs) : CallR (X.suite a ((a, oe) :: pn)) (.builtin "any") (rAny X.K) := cr_anyH (X := X.suite a ((a, oe) :: pn)) (hot_suite hz hf)
end HA

end
section
set_option maxRecDepth 100000
set_option maxHeartbeats 4000000
namespace HA
open PySem PySem.Spec PyProof.Rows L2 Evl
/-! ### tables by parts: what the program reckons -/
/-- the trial of divisors from b on -/
def prF : Nat → Int → Int → Bool
  | 0, _, _ => false
  | k + 1, b, n => if b * b ≤ n then (if n % b = 0 then false else prF k (b + 1) n) else decide (n > 1)
def isPr (n : Int) : Bool := prF 100 2 n
/-- a power by squaring: found, base, left -/
def pwF : Nat → Int → Int → Nat → Int → Int
  | 0, f, _, _, _ => f
  | k + 1, f, b, l, p => if l = 0 then f else pwF k (if l % 2 = 1 then f * b % p else f) (b * b % p) (l / 2) p
def isSqr (n p : Int) : Bool := decide (pwF 14 1 (n % p) ((p - 1) / 2).toNat p = 1)
def isPart (z : Int) : Bool := (decide (2 ≤ z) && decide (z ≤ 10000)) && (decide (z = 2) || (decide (z % 4 = 0) && isPr (z - 1)))
def isM (p r c : Int) : Bool := if p = 2 then (decide (r = 1) && decide (c = 1)) else (if (decide (r = 0) || decide (r = c)) = true then false else (decide (c = 0) || !isSqr (c - r) (p - 1)))
def prodI : List Int → Int
  | [] => 1
  | p :: ps => p * prodI ps
/-- whether a minus stands there, the first part the highest -/
def mA : List Int → Int → Int → Bool
  | [], _, _ => false
  | p :: ps, r, c => isM p (r / prodI ps % p) (c / prodI ps % p) != mA ps r c
def tabM (ps : List Int) : Nat → Nat → Bool := fun i j => !mA ps (i : Int) (j : Int)
def GP (ps : List Int) : Prop := ps.length ≤ 600 ∧ ∀ p ∈ ps, 2 ≤ p ∧ p ≤ 10000
theorem isPart_gp {z : Int} (h : isPart z = true) : 2 ≤ z ∧ z ≤ 10000 := by
  unfold isPart at h
  rw [Bool.and_eq_true, Bool.and_eq_true, decide_eq_true_eq, decide_eq_true_eq] at h
  exact h.1
theorem gp_of {ps : List Int} (hl : ps.length ≤ 600) (h : ps.all isPart = true) : GP ps := ⟨hl, fun p hp => isPart_gp (List.all_eq_true.mp h p hp)⟩
theorem prod_pos : ∀ {ps : List Int}, (∀ p ∈ ps, 2 ≤ p ∧ p ≤ 10000) → 0 < prodI ps
  | [], _ => by decide
  | p :: ps, h => by
    have h1 := h p (List.mem_cons_self ..)
    have h2 := prod_pos (ps := ps) fun q hq => h q (List.mem_cons_of_mem _ hq)
    exact Int.mul_pos (by omega) h2
theorem prod_lt : ∀ {ps : List Int}, (∀ p ∈ ps, 2 ≤ p ∧ p ≤ 10000) → (prodI ps).natAbs < 2 ^ (14 * ps.length + 1)
  | [], _ => by decide
  | p :: ps, h => by
    have h1 := h p (List.mem_cons_self ..)
    have h2 := prod_lt (ps := ps) fun q hq => h q (List.mem_cons_of_mem _ hq)
    have h3 : p.natAbs < 2 ^ 14 := by
      have : (2 : Nat) ^ 14 = 16384 := by decide
      omega
    have h4 := wide_lt h3 h2
    rw [show 14 + (14 * ps.length + 1) = 14 * (p :: ps).length + 1 by rw [List.length_cons]; omega] at h4
    exact h4
theorem prod_log {ps : List Int} (h : ∀ p ∈ ps, 2 ≤ p ∧ p ≤ 10000) (hl : ps.length ≤ 600) : (prodI ps).natAbs.log2 < 9000 := by
  have := PySem.Flt.log2_lt_of (by omega) (prod_lt h)
  omega
theorem gp_drop {ps : List Int} (h : GP ps) (k : Nat) : ∀ p ∈ ps.drop k, 2 ≤ p ∧ p ≤ 10000 := fun p hp => h.2 p (List.mem_of_mem_drop hp)
theorem drop_at {ps : List Int} {i : Nat} (h : i < ps.length) : ps.drop i = ps[i] :: ps.drop (i + 1) := List.drop_eq_getElem_cons h
theorem prod_snoc : ∀ (ps : List Int) (p : Int), prodI (ps ++ [p]) = prodI ps * p
  | [], p => by
    show p * 1 = 1 * p
    rw [Int.mul_one, Int.one_mul]
  | q :: ps, p => by
    show q * prodI (ps ++ [p]) = q * prodI ps * p
    rw [prod_snoc ps p, Int.mul_assoc]
theorem prod_take {ps : List Int} {i : Nat} (h : i < ps.length) : prodI (ps.take (i + 1)) = prodI (ps.take i) * ps[i] := by
  rw [List.take_succ_eq_append_getElem h, prod_snoc]
theorem intG (ps : List Int) {i : Nat} {x : V} (h : (ps.map V.int)[i]? = some x) : ∃ hi : i < ps.length, x = .int ps[i] := by
  have hi : i < ps.length := by
    have q := (List.getElem?_eq_some_iff.mp h).1
    rwa [List.length_map] at q
  rw [getI hi] at h
  exact ⟨hi, (Option.some.inj h).symm⟩
theorem range_map (ps : List Int) (F : Int → V) : (List.range ps.length).map (fun i => F ps[i]!) = ps.map F := by
  apply List.ext_getElem?
  intro k
  by_cases hk : k < ps.length
  · rw [List.getElem?_map, List.getElem?_range hk, List.getElem?_map, List.getElem?_eq_getElem hk]
    show some (F ps[k]!) = some (F ps[k])
    rw [getElem!_pos ps k hk]
  · rw [List.getElem?_eq_none (by rw [List.length_map, List.length_range]; omega), List.getElem?_eq_none (by rw [List.length_map]; omega)]
theorem cut_last (xs : List V) (y : V) : cutV (xs ++ [y]) none (some (-1)) = xs := by
  unfold cutV
  have e : HT.sIx (xs ++ [y]).length (xs ++ [y]).length (some (-1 : Int)) = xs.length := by
    show (if (-1 : Int) < 0 then ((-1 : Int) + ((xs ++ [y]).length : Int)).toNat else min (-1 : Int).toNat (xs ++ [y]).length) = xs.length
    rw [if_pos (by decide), List.length_append]
    show ((-1 : Int) + ((xs.length + 1 : Nat) : Int)).toNat = xs.length
    omega
  rw [HT.sIx_none, List.drop_zero, Nat.sub_zero, e, List.take_left]
theorem range_self (ps : List Int) : (List.range ps.length).map (fun i => ps[i]!) = ps := by
  apply List.ext_getElem?
  intro k
  by_cases hk : k < ps.length
  · rw [List.getElem?_map, List.getElem?_range hk, List.getElem?_eq_getElem hk]
    show some ps[k]! = some ps[k]
    rw [getElem!_pos ps k hk]
  · rw [List.getElem?_eq_none (by rw [List.length_map, List.length_range]; omega), List.getElem?_eq_none (by omega)]
theorem given_filter (ps : List Int) (p : Int → Bool) : given ps.length (fun i => p ps[i]!) (fun i => .int ps[i]!) = (ps.filter p).map V.int := by
  unfold given
  have e : ps.filter p = ((List.range ps.length).filter (fun i => p ps[i]!)).map (fun i => ps[i]!) := by
    conv => lhs; rw [← range_self ps, List.filter_map]
    rfl
  rw [e, List.map_map]
  rfl
def menuL : List Int := [2, 4, 8, 12, 20, 24, 32, 44, 2, 4, 48, 60, 68, 72, 80, 84, 2, 1020, 9860, 104]
theorem menu_part : menuL.all isPart = true := by decide +kernel
theorem menu_few : ∀ x ∈ menuL, x < 9 → x = 2 ∨ x = 4 ∨ x = 8 := by decide
def someL : List (List Int) := [[44], [4, 24], [84], [2, 2, 2, 12], [48, 2], [80], [2, 32], [20, 4]]
theorem some_ok : ∀ ps ∈ someL, ps.all isPart = true ∧ 1 ≤ prodI ps ∧ prodI ps ≤ 100 ∧ ps.length ≤ 600 := by decide +kernel
/-! ### the sign of a table of parts: half alike -/
theorem half_2 : halfB 2 (tabM [2]) = true := by decide +kernel
theorem half_4 : halfB 4 (tabM [4]) = true := by decide +kernel
theorem half_8 : halfB 8 (tabM [8]) = true := by decide +kernel
theorem half_12 : halfB 12 (tabM [12]) = true := by decide +kernel
theorem half_20 : halfB 20 (tabM [20]) = true := by decide +kernel
theorem half_1 : halfB 1 (tabM []) = true := by decide +kernel
theorem tabM_two {p q : Nat} (hp : 1 ≤ p) (hq : 1 ≤ q) : ∀ i, i < p * q → ∀ j, j < p * q → kron q (tabM [(p : Int)]) (tabM [(q : Int)]) i j = tabM [(p : Int), (q : Int)] i j := fun i hi j hj => by
  have m1 : ∀ i : Nat, ((i / q : Nat) : Int) = (i : Int) / (q : Int) := fun i => Int.natCast_ediv i q
  have m2 : ∀ i : Nat, ((i % q : Nat) : Int) = (i : Int) % (q : Int) := fun i => Int.natCast_emod i q
  have e1 : ∀ z : Int, z / (1 : Int) = z := Int.ediv_one
  unfold kron tabM
  show ((!(isM p (((i / q : Nat) : Int) / 1 % p) (((j / q : Nat) : Int) / 1 % p) != false)) == (!(isM q (((i % q : Nat) : Int) / 1 % q) (((j % q : Nat) : Int) / 1 % q) != false))) = !(isM p ((i : Int) / ((q : Int) * 1) % p) ((j : Int) / ((q : Int) * 1) % p) != (isM q ((i : Int) / 1 % q) ((j : Int) / 1 % q) != false))
  rw [Int.mul_one, e1, e1, e1, e1, e1, e1, m1, m1, m2, m2, Int.emod_emod_of_dvd _ (Int.dvd_refl _), Int.emod_emod_of_dvd _ (Int.dvd_refl _)]
  cases isM p ((i : Int) / (q : Int) % p) ((j : Int) / (q : Int) % p) <;> cases isM q ((i : Int) % (q : Int)) ((j : Int) % (q : Int)) <;> rfl
theorem half_two {p q : Nat} (hp : 1 ≤ p) (hq : 1 ≤ q) (h1 : halfB p (tabM [(p : Int)]) = true) (h2 : halfB q (tabM [(q : Int)]) = true) : halfB (p * q) (tabM [(p : Int), (q : Int)]) = true := by
  rw [← halfB_congr (tabM_two hp hq)]
  exact half_kron h1 h2
/-- few parts: good, of at most 64 rows, half alike -/
def Few (ps : List Int) : Prop := ps.all isPart = true ∧ ∃ n : Nat, prodI ps = (n : Int) ∧ 1 ≤ n ∧ n ≤ 64 ∧ halfB n (tabM ps) = true ∧ ps.length ≤ 2
theorem few_one {x : Int} (h : x = 2 ∨ x = 4 ∨ x = 8) : ∃ p : Nat, x = (p : Int) ∧ 1 ≤ p ∧ p ≤ 8 ∧ halfB p (tabM [(p : Int)]) = true ∧ isPart x = true := by
  rcases h with rfl | rfl | rfl
  · exact ⟨2, rfl, by decide, by decide, half_2, by decide +kernel⟩
  · exact ⟨4, rfl, by decide, by decide, half_4, by decide +kernel⟩
  · exact ⟨8, rfl, by decide, by decide, half_8, by decide +kernel⟩
theorem few_ok {ps : List Int} (hl : ps.length ≤ 2) (h : ∀ x ∈ ps, x = 2 ∨ x = 4 ∨ x = 8) : Few ps := by
  match ps, hl, h with
  | [], _, _ => exact ⟨rfl, 1, rfl, by decide, by decide, half_1, by decide⟩
  | [x], _, h =>
    obtain ⟨p, rfl, h1, h2, h3, h4⟩ := few_one (h x (List.mem_cons_self ..))
    refine ⟨by rw [List.all_cons, h4]; rfl, p, ?_, h1, by omega, h3, by show 1 ≤ 2; decide⟩
    show (p : Int) * 1 = p
    rw [Int.mul_one]
  | [x, y], _, h =>
    obtain ⟨p, rfl, h1, h2, h3, h4⟩ := few_one (h x (List.mem_cons_self ..))
    obtain ⟨q, rfl, k1, k2, k3, k4⟩ := few_one (h y (List.mem_cons_of_mem _ (List.mem_cons_self ..)))
    refine ⟨by rw [List.all_cons, List.all_cons, h4, k4]; rfl, p * q, ?_, Nat.mul_pos h1 k1, Nat.mul_le_mul h2 k2, half_two h1 k1 h3 k3, Nat.le_refl 2⟩
    show (p : Int) * ((q : Int) * 1) = ((p * q : Nat) : Int)
    rw [Int.mul_one, Int.natCast_mul]
  | _ :: _ :: _ :: _, hl, _ => exact absurd hl (by simp)
theorem few_12 : Few [12] := ⟨by decide +kernel, 12, by decide, by decide, by decide, half_12, by decide⟩
/-! ### promises -/
def sp_is_prime : Sp := fun vs H Q _ => ∃ n : Int, vs = [.int n] ∧ n ≤ 9999 ∧ RetV (.bl (isPr n)) H Q
def sp_is_part : Sp := fun vs H Q _ => ∃ z : Int, vs = [.int z] ∧ RetV (.bl (isPart z)) H Q
def PartsAt (H : Hp) (a : Addr) (ps : List Int) : Prop := H a = some (.lst (ps.map V.int)) ∧ ps.length ≤ 600
theorem PartsAt.ex {H H' : Hp} {a : Addr} {ps : List Int} (e : Ex H H') (h : PartsAt H a ps) : PartsAt H' a ps := ⟨e a _ h.1, h.2⟩
def sp_asked_parts (C : Addr) : Sp := fun vs H Q E => ∃ (a : Addr) (ps : List Int), vs = [.ref a] ∧ PartsAt H a ps ∧ (ps.all isPart = true → RetV .non H Q) ∧ (ps.all isPart = false → ∀ H', Ex H H' → E (.ref C) none H')
def sp_multiplied : Sp := fun vs H Q _ => ∃ (a : Addr) (ps : List Int), vs = [.ref a] ∧ PartsAt H a ps ∧ GP ps ∧ RetV (.int (prodI ps)) H Q
def sp_order (C : Addr) : Sp := fun vs H Q E => ∃ (a : Addr) (ps : List Int), vs = [.ref a] ∧ PartsAt H a ps ∧ (ps.all isPart = true → RetV (.int (prodI ps)) H Q) ∧ (ps.all isPart = false → ∀ H', Ex H H' → E (.ref C) none H')
def sp_is_square : Sp := fun vs H Q _ => ∃ (n p : Int), vs = [.int n, .int p] ∧ 1 ≤ p ∧ p ≤ 10000 ∧ RetV (.bl (isSqr n p)) H Q
def sp_is_minus : Sp := fun vs H Q _ => ∃ (p r c : Int), vs = [.int p, .int r, .int c] ∧ 2 ≤ p ∧ p ≤ 10000 ∧ RetV (.bl (isM p r c)) H Q
def sp_minus_at : Sp := fun vs H Q _ => ∃ (a : Addr) (ps : List Int) (r c : Int), vs = [.ref a, .int r, .int c] ∧ PartsAt H a ps ∧ GP ps ∧ RetV (.bl (mA ps r c)) H Q
def sp_sign_at : Sp := fun vs H Q _ => ∃ (a : Addr) (ps : List Int) (r c : Int), vs = [.ref a, .int r, .int c] ∧ PartsAt H a ps ∧ ps.all isPart = true ∧ 0 ≤ r ∧ r < prodI ps ∧ 0 ≤ c ∧ c < prodI ps ∧ RetV (.str (sgS (!mA ps r c))) H Q
def sp_made (C : Addr) : Sp := fun vs H Q E => ∃ (a : Addr) (ps : List Int), vs = [.ref a] ∧ PartsAt H a ps ∧ ps.all isPart = true ∧ (∀ n : Nat, prodI ps = (n : Int) → n ≤ 100 → RetL (tabV n (tabM ps)) H Q) ∧ (prodI ps > 100 → ∀ H', Ex H H' → E (.ref C) none H')
def sp_L_power : Sp := fun vs H Q _ => ∃ (b l p : Int), vs = [.int b, .int l, .int p] ∧ 0 ≤ l ∧ l ≤ 9999 ∧ 1 ≤ p ∧ p ≤ 10000 ∧ 0 ≤ b ∧ b ≤ 10000 ∧ RetV (.int (pwF 14 1 b l.toNat p)) H Q
def sp_L_sign : Sp := fun vs H Q _ => ∃ (p r c : Int), vs = [.int p, .int r, .int c] ∧ 2 ≤ p ∧ p ≤ 10000 ∧ RetV (.int (sg (!isM p r c))) H Q
def sp_L_at : Sp := fun vs H Q _ => ∃ (a : Addr) (ps : List Int) (r c : Int), vs = [.ref a, .int r, .int c] ∧ PartsAt H a ps ∧ GP ps ∧ RetV (.str (sgS (!mA ps r c))) H Q
def sp_L_too_great : Sp := fun vs H Q _ => ∃ (a : Addr) (ps : List Int), vs = [.ref a] ∧ PartsAt H a ps ∧ ps.all isPart = true ∧ prodI ps > 100 ∧ RetV (.bl true) H Q
def sp_L_part_right : Sp := fun vs H Q _ => ∃ (k : Nat) (c : Int), vs = [.int (4 + 4 * (k : Int)), .int c] ∧ k < 2500 ∧ RetV (.bl true) H Q
def sp_L_wide2 : Sp := fun vs H Q _ => ∃ (a : Addr) (ps : List Int) (n : Nat) (w : Int), vs = [.ref a, .int w] ∧ PartsAt H a ps ∧ ps.all isPart = true ∧ prodI ps = (n : Int) ∧ 1 ≤ n ∧ n ≤ 100 ∧ RetV (.bl true) H Q
/-! ### what a raising def's callee lets out, is the def's own -/
theorem passEN {X : Cx} {E : XK} (hs : X.stack = X.env :: X.outer) (hf : X.env.frame = some X.env.locals) (hex : X.ex = []) {E₁ : Value → Shared → Prop}
    (hx : X.xe = fun e s' => wpAny (model X.prog X.w) X.A (leaving X.env e) (fun _ s'' => L2N.CX X.prog X.w X.outer X.H_0 X.s_0 E e s'') E₁ s') : Passes (L2N.CX X.prog X.w) X E :=
  L2N.passes_call (W := fun cls d _ H => E cls d H) (L2N.takes_of hs hf hex hx) fun _ _ _ _ h => h
section
variable {K : PySem.W.Frag} {σ : L2.St} {H H' : Hp} {ta tb tc td te tx : TE} {t u : TT} {x y z v : V} {r r' r'' : R2} {D : Ends} {tz : TS}
theorem ev_callLA {sp : Sp} {xs vs : List V} {E : XK} {ts : TA} (h : EvL ta σ H xs) (hs : EvA ts σ H vs) (k : ∀ p H1, Ex H H1 → H1 p = some (.lst xs) → SpV sp ((.ref p :: vs) ++ []) H1 z) : Ev (tCall sp [] E (tCons ta ts)) σ H z := fun H1 e Q q =>
  h H1 e _ fun p H2 _ e2 h2 => hs H2 (e.trans e2) _ fun H3 e3 => k p H3 ((e.trans e2).trans e3) (e3 p _ h2) H3 (Ex.refl H3) Q (fun H4 e4 => q H4 ((e2.trans e3).trans e4)) E
theorem el_slN {tl th : TO} {xs : List V} {lo hi : Option Int} (h : EvL te σ H xs) (h1 : EvO tl σ H lo) (h2 : EvO th σ H hi) : EvL (tSl (rSlL K) te tl th) σ H (cutV xs lo hi) := fun H1 e _ q =>
  h H1 e _ fun a H2 ha e2 hx => h1 H2 (e.trans e2) _ fun H3 e3 => h2 H3 ((e.trans e2).trans e3) _ fun H4 e4 =>
    ⟨a, xs, rfl, sq_of ((e3.trans e4) a _ hx), fun p hp => q p _ (fresh_back ((e2.trans e3).trans e4) hp) (((e2.trans e3).trans e4).trans (Ex.new hp)) upd_same⟩
/-- [.. for i, x in enumerate(new list)] -/
theorem el_lcEN {xs : List V} {n : Nat} {d : Nat → V} {j l : Nat} {vs : List Nat} (f : Nat → Bool) (v : Nat → V) (h : EvL ta σ H xs) (hsz : xs.length = n) (hd : ∀ i, i < n → xs[i]? = some (d i)) (hn : n ≤ 40000)
    (hw : ∀ x y, wipe (((wipe σ vs).set j (some x)).set l (some y)) vs = wipe σ vs) (ht : ∀ i H1, Ex H H1 → i < n → EvT t (((wipe σ vs).set j (some (.int (i : Nat)))).set l (some (d i))) H1 (f i))
    (he : ∀ i H1, Ex H H1 → i < n → f i = true → Ev te (((wipe σ vs).set j (some (.int (i : Nat)))).set l (some (d i))) H1 (v i)) :
    EvL (tLc (iEnum K (tCons ta tNil)) (gTup K 2 (gCons (gName j) (gCons (gName l) gNil))) t te vs) σ H (given n f v) := fun H0 e Q q => h H0 e _ fun a H1 ha e1 hx => ⟨a, xs, rfl, sq_of hx, by
  subst hsz
  exact lcW (walk_enum (K := K) (a := a) (xs := xs)) hn (fun H' e' => sq_of (e' a _ hx)) f v (fun i => ((wipe σ vs).set j (some (.int (i : Nat)))).set l (some (d i))) (fun i x H H' hi ex y =>
    hg_pair (fun i => .int (i : Nat)) d (n := xs.length) (fun i _ => rfl) hd i x H H' hi ex y)
    (fun i _ => hw _ _) (fun i hi => ht i H1 (e.trans e1) hi) (fun i hi => he i H1 (e.trans e1) hi) fun p H2 hp e2 h2 => q p H2 (fresh_back e1 hp) (e1.trans e2) h2⟩
/-- for i, x in enumerate(new list) -/
theorem q_forEN {xs : List V} {j l : Nat} {tu : TS} (h : EvL ta σ H xs) (Pv : Nat → L2.St → Hp → Prop) (h0 : ∀ H1, Ex H H1 → Pv 0 σ H1)
    (hs : ∀ H1, Ex H H1 → ∀ i x σ' H', xs[i]? = some x → Pv i σ' H' → Ex H1 H' → ∀ H2, Ex H' H2 → tu { D with nx := fun s h => Pv (i + 1) s h ∧ Ex H1 h, ct := fun s h => Pv (i + 1) s h ∧ Ex H1 h, bk := tz D } ((σ'.set j (some (.int (i : Nat)))).set l (some x)) H2)
    (hd : ∀ σ' H', Pv xs.length σ' H' → tz D σ' H') : tSeq (tFor (iEnum K (tCons ta tNil)) (gTup K 2 (gCons (gName j) (gCons (gName l) gNil))) tu) tz D σ H := by
  refine h H (Ex.refl H) _ fun a H1 ha e hx => ⟨a, xs, rfl, sq_of hx, ?_⟩
  refine for_it (walk_enum (K := K) (a := a) (xs := xs)) (fun i σ' H' => Pv i σ' H' ∧ Ex H1 H') ⟨h0 H1 e, Ex.refl H1⟩ (fun i σ' H' _ q => sq_of (q.2 a _ hx)) (fun i x σ' H' H2 hi q y => ?_) (fun σ' H' q => hd σ' H' q.1)
  obtain ⟨Tp, y1, y2, rfl, hTp, rfl, hy1, hy2⟩ := y
  cases hy1
  exact ⟨Tp, _, rfl, st_of upd_same, rfl, _, _, rfl, _, _, rfl, rfl, hs H1 e i y2 σ' H' hy2 q.1 q.2 _ (Ex.new hTp)⟩
theorem q_dropC {sp : Sp} {dvs vs : List V} {E : XK} {ts : TA} (h : EvA ts σ H vs) (k : ∀ H1, Ex H H1 → sp (vs ++ dvs) H1 (fun _ H2 => tz D σ H2) E) : tSeq (tDrop (tCall sp dvs E ts)) tz D σ H := h H (Ex.refl H) _ fun H1 e => k H1 e
theorem q_forU {xs : List V} {tl : TE} {j : Nat} {tu : TS} (h : EvU tl σ H xs) (Pv : Nat → L2.St → Hp → Prop) (h0 : ∀ H1, Ex H H1 → Pv 0 σ H1)
    (hs : ∀ H1, Ex H H1 → ∀ i x σ' H', xs[i]? = some x → Pv i σ' H' → Ex H1 H' → tu { D with nx := fun s h => Pv (i + 1) s h ∧ Ex H1 h, ct := fun s h => Pv (i + 1) s h ∧ Ex H1 h, bk := tz D } (σ'.set j (some x)) H') (hd : ∀ σ' H', Pv xs.length σ' H' → tz D σ' H') : tSeq (tFor (iTup K tl) (gName j) tu) tz D σ H :=
  s_forU (K := K) (D := { D with nx := tz D }) h Pv h0 hs hd
/-- for i, x in enumerate(list that stands) -/
theorem q_forEL {a : Addr} {xs : List V} {j l : Nat} {tu : TS} (h : Ev ta σ H (.ref a)) (hx : H a = some (.lst xs)) (Pv : Nat → L2.St → Hp → Prop) (h0 : ∀ H1, Ex H H1 → Pv 0 σ H1) (hk : ∀ i σ' H', Pv i σ' H' → Ex H H')
    (hs : ∀ i x σ' H', xs[i]? = some x → Pv i σ' H' → ∀ H2, Ex H' H2 → tu { D with nx := Pv (i + 1), ct := Pv (i + 1), bk := tz D } ((σ'.set j (some (.int (i : Nat)))).set l (some x)) H2)
    (hd : ∀ σ' H', Pv xs.length σ' H' → tz D σ' H') : tSeq (tFor (iEnum K (tCons ta tNil)) (gTup K 2 (gCons (gName j) (gCons (gName l) gNil))) tu) tz D σ H := by
  refine h H (Ex.refl H) _ fun H1 e => ⟨a, xs, rfl, sq_of (e a _ hx), ?_⟩
  refine for_it (walk_enum (K := K) (a := a) (xs := xs)) Pv (h0 H1 e) (fun i σ' H' _ q => sq_of (hk i σ' H' q a _ hx)) (fun i x σ' H' H2 hi q y => ?_) hd
  obtain ⟨Tp, y1, y2, rfl, hTp, rfl, hy1, hy2⟩ := y
  cases hy1
  exact ⟨Tp, _, rfl, st_of upd_same, rfl, _, _, rfl, _, _, rfl, rfl, hs i y2 σ' H' hy2 q _ (Ex.new hTp)⟩
/-- new lists, one behind the other -/
def Lsts (H : Hp) (vs : List V) (qs : List (List V)) : Prop := vs.length = qs.length ∧ ∀ (i : Nat) (x : V), vs[i]? = some x → ∃ xs, xs ∈ qs ∧ IsL xs x H
theorem kept_lsts (qs : List (List V)) : Kept (fun vs H => Lsts H vs qs) := fun vs H H' e h => ⟨h.1, fun i x hx => by
  obtain ⟨xs, hm, p, h1, h2⟩ := h.2 i x hx
  exact ⟨xs, hm, p, h1, e p _ h2⟩⟩
theorem els_nil : EvAR tNil σ H (fun vs H => Lsts H vs []) := fun H1 _ Q q => q [] H1 (Ex.refl H1) ⟨rfl, fun i x hx => nomatch hx⟩
theorem els_cons {ts : TA} {xs : List V} {qs : List (List V)} (h : EvL ta σ H xs) (hs : EvAR ts σ H (fun vs H => Lsts H vs qs)) : EvAR (tCons ta ts) σ H (fun vs H => Lsts H vs (xs :: qs)) := fun H1 e Q q =>
  h H1 e _ fun p H2 _ e2 h2 => hs H2 (e.trans e2) _ fun vs H3 e3 h3 => q (.ref p :: vs) H3 (e2.trans e3) ⟨by rw [List.length_cons, List.length_cons, h3.1], fun i x hx => by
    cases i with
    | zero =>
      have hx' : some (V.ref p) = some x := hx
      cases hx'
      exact ⟨xs, List.mem_cons_self .., p, rfl, e3 p _ h2⟩
    | succ i =>
      have hx' : vs[i]? = some x := hx
      obtain ⟨ys, hm, k⟩ := h3.2 i x hx'
      exact ⟨ys, List.mem_cons_of_mem _ hm, k⟩⟩
/-- one of some new lists in a new tuple -/
theorem er_pickU {ts : TA} {qs : List (List V)} {m : Nat} (h : EvAR ts σ H (fun vs H => Lsts H vs qs)) (hl : qs.length ≤ 1000) (hm : m < qs.length) (hi : Ev te σ H (.int (m : Int))) : EvR (tOp (rIxT K) (tTup ts) te) σ H (fun v H => ∃ xs, xs ∈ qs ∧ IsL xs v H) := fun H1 e Q q =>
  h H1 e _ fun vs H2 e2 hv => ⟨sz_of (by rw [hv.1]; omega), fun p hp => hi _ ((e.trans e2).trans (Ex.new hp)) _ fun H3 e3 => by
    have E3 := (Ex.new hp (o := .tup vs)).trans e3
    have hm' : m < vs.length := by rw [hv.1]; exact hm
    obtain ⟨xs, hx, k⟩ := (kept_lsts qs vs H2 H3 E3 hv).2 m vs[m] (List.getElem?_eq_getElem hm')
    exact ⟨p, vs, (m : Int), vs[m], rfl, rfl, st_of (e3 p _ upd_same), atI_nat (List.getElem?_eq_getElem hm'), q _ H3 (e2.trans E3) ⟨xs, hx, k⟩⟩⟩
end
end HA

end
section
set_option maxRecDepth 100000
set_option maxHeartbeats 4000000
namespace HA
open PySem PySem.Spec PyProof.Rows L2 Evl
def topS (i : Nat) : Stmt := PySem.Challenge.pw_halfalike_k02_whole_made.main.body.getD i (.Pass ⟨0, 0, 0, 0⟩)
abbrev s_is_number : Stmt := topS 11
theorem sc_is_number : FnScope ["thing"] ["thing"] (defScope s_is_number) := ⟨rfl, rfl, rfl, by decide +kernel, rfl, by decide +kernel, by decide +kernel⟩
abbrev s_is_prime : Stmt := topS 14
theorem sc_is_prime : FnScope ["number", "by"] ["number"] (defScope s_is_prime) := ⟨rfl, rfl, rfl, by decide +kernel, rfl, by decide +kernel, by decide +kernel⟩
abbrev s_is_part : Stmt := topS 15
theorem sc_is_part : FnScope ["thing"] ["thing"] (defScope s_is_part) := ⟨rfl, rfl, rfl, by decide +kernel, rfl, by decide +kernel, by decide +kernel⟩
abbrev s_asked_parts : Stmt := topS 16
theorem sc_asked_parts : FnScope ["parts", "part"] ["parts"] (defScope s_asked_parts) := ⟨rfl, rfl, rfl, by decide +kernel, rfl, by decide +kernel, by decide +kernel⟩
abbrev s_multiplied : Stmt := topS 17
theorem sc_multiplied : FnScope ["parts", "found", "part"] ["parts"] (defScope s_multiplied) := ⟨rfl, rfl, rfl, by decide +kernel, rfl, by decide +kernel, by decide +kernel⟩
abbrev s_order : Stmt := topS 18
theorem sc_order : FnScope ["parts"] ["parts"] (defScope s_order) := ⟨rfl, rfl, rfl, by decide +kernel, rfl, by decide +kernel, by decide +kernel⟩
abbrev s_is_square : Stmt := topS 19
theorem sc_is_square : FnScope ["number", "prime", "found", "left", "base"] ["number", "prime"] (defScope s_is_square) := ⟨rfl, rfl, rfl, by decide +kernel, rfl, by decide +kernel, by decide +kernel⟩
abbrev s_is_minus : Stmt := topS 20
theorem sc_is_minus : FnScope ["part", "row", "column"] ["part", "row", "column"] (defScope s_is_minus) := ⟨rfl, rfl, rfl, by decide +kernel, rfl, by decide +kernel, by decide +kernel⟩
abbrev s_minus_at : Stmt := topS 21
theorem sc_minus_at : FnScope ["parts", "row", "column", "found", "part"] ["parts", "row", "column"] (defScope s_minus_at) := ⟨rfl, rfl, rfl, by decide +kernel, rfl, by decide +kernel, by decide +kernel⟩
abbrev s_sign_at : Stmt := topS 22
theorem sc_sign_at : FnScope ["parts", "row", "column", "size", "place"] ["parts", "row", "column"] (defScope s_sign_at) := ⟨rfl, rfl, rfl, by decide +kernel, rfl, by decide +kernel, by decide +kernel⟩
abbrev s_made : Stmt := topS 23
theorem sc_made : FnScope ["parts", "size", "found", "row", "column"] ["parts"] (defScope s_made) := ⟨rfl, rfl, rfl, by decide +kernel, rfl, by decide +kernel, by decide +kernel⟩
abbrev s_L_number : Stmt := topS 25
theorem sc_L_number : FnScope ["_law_cell", "_law_at_here", "_law_whole", "_law_mixed", "_law_more"] ["_law_cell", "_law_at_here", "_law_whole"] (defScope s_L_number) := ⟨rfl, rfl, rfl, by decide +kernel, rfl, by decide +kernel, by decide +kernel⟩
abbrev s_L_alike : Stmt := topS 26
theorem sc_L_alike : FnScope ["_law_one", "_law_other_here", "_law_mine", "_law_theirs"] ["_law_one", "_law_other_here"] (defScope s_L_alike) := ⟨rfl, rfl, rfl, by decide +kernel, rfl, by decide +kernel, by decide +kernel⟩
abbrev s_L_half : Stmt := topS 27
theorem sc_L_half : FnScope ["_law_table", "_law_other_here", "_law_one"] ["_law_table"] (defScope s_L_half) := ⟨rfl, rfl, rfl, by decide +kernel, rfl, by decide +kernel, by decide +kernel⟩
abbrev s_L_power : Stmt := topS 29
theorem sc_L_power : FnScope ["_law_base", "_law_often", "_law_by", "_law_found"] ["_law_base", "_law_often", "_law_by"] (defScope s_L_power) := ⟨rfl, rfl, rfl, by decide +kernel, rfl, by decide +kernel, by decide +kernel⟩
abbrev s_L_sign : Stmt := topS 30
theorem sc_L_sign : FnScope ["_law_part", "_law_row", "_law_place"] ["_law_part", "_law_row", "_law_place"] (defScope s_L_sign) := ⟨rfl, rfl, rfl, by decide +kernel, rfl, by decide +kernel, by decide +kernel⟩
abbrev s_L_at : Stmt := topS 31
theorem sc_L_at : FnScope ["_law_parts", "_law_row", "_law_place", "_law_found", "_law_left", "_law_part"] ["_law_parts", "_law_row", "_law_place"] (defScope s_L_at) := ⟨rfl, rfl, rfl, by decide +kernel, rfl, by decide +kernel, by decide +kernel⟩
abbrev s_L_too_great : Stmt := topS 32
theorem sc_L_too_great : FnScope ["_law_parts", "error", "_law_others"] ["_law_parts"] (defScope s_L_too_great) := ⟨rfl, rfl, rfl, by decide +kernel, rfl, by decide +kernel, by decide +kernel⟩
abbrev s_L_prime : Stmt := topS 33
theorem sc_L_prime : FnScope ["_law_number_here", "_law_by"] ["_law_number_here"] (defScope s_L_prime) := ⟨rfl, rfl, rfl, by decide +kernel, rfl, by decide +kernel, by decide +kernel⟩
abbrev s_L_part_right : Stmt := topS 34
theorem sc_L_part_right : FnScope ["_law_thing", "_law_cell", "_law_row", "_law_place", "error", "_law_others"] ["_law_thing", "_law_cell"] (defScope s_L_part_right) := ⟨rfl, rfl, rfl, by decide +kernel, rfl, by decide +kernel, by decide +kernel⟩
abbrev s_L_wide_right : Stmt := topS 35
theorem sc_L_wide_right : FnScope ["_law_parts", "_law_whole", "_law_table", "_law_size", "_law_row", "_law_place"] ["_law_parts", "_law_whole"] (defScope s_L_wide_right) := ⟨rfl, rfl, rfl, by decide +kernel, rfl, by decide +kernel, by decide +kernel⟩
abbrev s_law : Stmt := topS 36
theorem sc_law : FnScope ["_law_script", "_law_cells", "_law_whole", "_law_menu", "_law_parts", "_law_size", "_law_part", "_law_handed", "_law_many", "_law_at_here", "_law_cell", "_law_row", "_law_place", "_law_high", "_law_wide", "_law_few", "_law_table", "_law_signs", "_law_some"] ["_law_script"] (defScope s_law) := ⟨rfl, rfl, rfl, by decide +kernel, rfl, by decide +kernel, by decide +kernel⟩
/-- what the top has written -/
structure Txt (K : PySem.W.Frag) (mg : Str → Option Value) where
  a_is_number : Addr
  d_is_number : FuncData
  F_is_number : Fun K "is_number" "is_number" s_is_number a_is_number d_is_number
  b_is_number : Binds K d_is_number ["thing"] []
  g_is_number : mg "is_number" = some (.ref a_is_number)
  a_is_prime : Addr
  d_is_prime : FuncData
  F_is_prime : Fun K "is_prime" "is_prime" s_is_prime a_is_prime d_is_prime
  b_is_prime : Binds K d_is_prime ["number"] []
  g_is_prime : mg "is_prime" = some (.ref a_is_prime)
  a_is_part : Addr
  d_is_part : FuncData
  F_is_part : Fun K "is_part" "is_part" s_is_part a_is_part d_is_part
  b_is_part : Binds K d_is_part ["thing"] []
  g_is_part : mg "is_part" = some (.ref a_is_part)
  a_asked_parts : Addr
  d_asked_parts : FuncData
  F_asked_parts : Fun K "asked_parts" "asked_parts" s_asked_parts a_asked_parts d_asked_parts
  b_asked_parts : Binds K d_asked_parts ["parts"] []
  g_asked_parts : mg "asked_parts" = some (.ref a_asked_parts)
  a_multiplied : Addr
  d_multiplied : FuncData
  F_multiplied : Fun K "multiplied" "multiplied" s_multiplied a_multiplied d_multiplied
  b_multiplied : Binds K d_multiplied ["parts"] []
  g_multiplied : mg "multiplied" = some (.ref a_multiplied)
  a_order : Addr
  d_order : FuncData
  F_order : Fun K "order" "order" s_order a_order d_order
  b_order : Binds K d_order ["parts"] []
  g_order : mg "order" = some (.ref a_order)
  a_is_square : Addr
  d_is_square : FuncData
  F_is_square : Fun K "is_square" "is_square" s_is_square a_is_square d_is_square
  b_is_square : Binds K d_is_square ["number", "prime"] []
  g_is_square : mg "is_square" = some (.ref a_is_square)
  a_is_minus : Addr
  d_is_minus : FuncData
  F_is_minus : Fun K "is_minus" "is_minus" s_is_minus a_is_minus d_is_minus
  b_is_minus : Binds K d_is_minus ["part", "row", "column"] []
  g_is_minus : mg "is_minus" = some (.ref a_is_minus)
  a_minus_at : Addr
  d_minus_at : FuncData
  F_minus_at : Fun K "minus_at" "minus_at" s_minus_at a_minus_at d_minus_at
  b_minus_at : Binds K d_minus_at ["parts", "row", "column"] []
  g_minus_at : mg "minus_at" = some (.ref a_minus_at)
  a_sign_at : Addr
  d_sign_at : FuncData
  F_sign_at : Fun K "sign_at" "sign_at" s_sign_at a_sign_at d_sign_at
  b_sign_at : Binds K d_sign_at ["parts", "row", "column"] []
  g_sign_at : mg "sign_at" = some (.ref a_sign_at)
  a_made : Addr
  d_made : FuncData
  F_made : Fun K "made" "made" s_made a_made d_made
  b_made : Binds K d_made ["parts"] []
  g_made : mg "made" = some (.ref a_made)
  a_L_number : Addr
  d_L_number : FuncData
  F_L_number : Fun K "_law_number" "_law_number" s_L_number a_L_number d_L_number
  b_L_number : Binds K d_L_number ["_law_cell", "_law_at_here", "_law_whole"] []
  g_L_number : mg "_law_number" = some (.ref a_L_number)
  a_L_alike : Addr
  d_L_alike : FuncData
  F_L_alike : Fun K "_law_alike" "_law_alike" s_L_alike a_L_alike d_L_alike
  b_L_alike : Binds K d_L_alike ["_law_one", "_law_other_here"] []
  g_L_alike : mg "_law_alike" = some (.ref a_L_alike)
  a_L_half : Addr
  d_L_half : FuncData
  F_L_half : Fun K "_law_half" "_law_half" s_L_half a_L_half d_L_half
  b_L_half : Binds K d_L_half ["_law_table"] []
  g_L_half : mg "_law_half" = some (.ref a_L_half)
  a_L_power : Addr
  d_L_power : FuncData
  F_L_power : Fun K "_law_power" "_law_power" s_L_power a_L_power d_L_power
  b_L_power : Binds K d_L_power ["_law_base", "_law_often", "_law_by"] []
  g_L_power : mg "_law_power" = some (.ref a_L_power)
  a_L_sign : Addr
  d_L_sign : FuncData
  F_L_sign : Fun K "_law_sign" "_law_sign" s_L_sign a_L_sign d_L_sign
  b_L_sign : Binds K d_L_sign ["_law_part", "_law_row", "_law_place"] []
  g_L_sign : mg "_law_sign" = some (.ref a_L_sign)
  a_L_at : Addr
  d_L_at : FuncData
  F_L_at : Fun K "_law_at" "_law_at" s_L_at a_L_at d_L_at
  b_L_at : Binds K d_L_at ["_law_parts", "_law_row", "_law_place"] []
  g_L_at : mg "_law_at" = some (.ref a_L_at)
  a_L_too_great : Addr
  d_L_too_great : FuncData
  F_L_too_great : Fun K "_law_too_great" "_law_too_great" s_L_too_great a_L_too_great d_L_too_great
  b_L_too_great : Binds K d_L_too_great ["_law_parts"] []
  g_L_too_great : mg "_law_too_great" = some (.ref a_L_too_great)
  a_L_prime : Addr
  d_L_prime : FuncData
  F_L_prime : Fun K "_law_prime" "_law_prime" s_L_prime a_L_prime d_L_prime
  b_L_prime : Binds K d_L_prime ["_law_number_here"] []
  g_L_prime : mg "_law_prime" = some (.ref a_L_prime)
  a_L_part_right : Addr
  d_L_part_right : FuncData
  F_L_part_right : Fun K "_law_part_right" "_law_part_right" s_L_part_right a_L_part_right d_L_part_right
  b_L_part_right : Binds K d_L_part_right ["_law_thing", "_law_cell"] []
  g_L_part_right : mg "_law_part_right" = some (.ref a_L_part_right)
  a_L_wide_right : Addr
  d_L_wide_right : FuncData
  F_L_wide_right : Fun K "_law_wide_right" "_law_wide_right" s_L_wide_right a_L_wide_right d_L_wide_right
  b_L_wide_right : Binds K d_L_wide_right ["_law_parts", "_law_whole"] []
  g_L_wide_right : mg "_law_wide_right" = some (.ref a_L_wide_right)
  a_law : Addr
  d_law : FuncData
  F_law : Fun K "law" "law" s_law a_law d_law
  b_law : Binds K d_law ["_law_script"] []
  g_law : mg "law" = some (.ref a_law)
  m_isinstance : mg "isinstance" = none
  m_int : mg "int" = none
  m_bool : mg "bool" = none
  m_list : mg "list" = none
  m_all : mg "all" = none
  m_range : mg "range" = none
  m_len : mg "len" = none
  m_zip : mg "zip" = none
  m_any : mg "any" = none
  m_sum : mg "sum" = none
  m_enumerate : mg "enumerate" = none
  k_MOST : Tok
  g_MOST : mg "MOST" = some (.int 100 k_MOST)
  k_GREATEST : Tok
  g_GREATEST : mg "GREATEST" = some (.int 10000 k_GREATEST)
  C_SignError : Addr
  g_SignError : mg "SignError" = some (.ref C_SignError)
  C_BadNumbers : Addr
  g_BadNumbers : mg "BadNumbers" = some (.ref C_BadNumbers)
  C_BadParts : Addr
  g_BadParts : mg "BadParts" = some (.ref C_BadParts)
  C_BadPlace : Addr
  g_BadPlace : mg "BadPlace" = some (.ref C_BadPlace)
  C_BadSigns : Addr
  g_BadSigns : mg "BadSigns" = some (.ref C_BadSigns)
  C_BadTable : Addr
  g_BadTable : mg "BadTable" = some (.ref C_BadTable)
  C_TooGreat : Addr
  g_TooGreat : mg "TooGreat" = some (.ref C_TooGreat)
  C_NoNumbers : Addr
  g_NoNumbers : mg "NoNumbers" = some (.ref C_NoNumbers)
  x_BadParts : PySem.W.excIn K C_BadParts [.type "ValueError", .type "Exception", .type "BaseException", .type "object"] "ValueError.__new__" = true
  k_BadParts : PySem.W.keepIn K (.ref C_BadParts) = true
  eb_BadParts : PySem.W.subIn K (.ref C_BadParts) (.type "BaseException") = some true
  et_BadParts : PySem.W.typeIn K (.ref C_BadParts) = some (.type "type")
  ec_BadParts : ExcC K C_BadParts
  x_TooGreat : PySem.W.excIn K C_TooGreat [.type "ValueError", .type "Exception", .type "BaseException", .type "object"] "ValueError.__new__" = true
  k_TooGreat : PySem.W.keepIn K (.ref C_TooGreat) = true
  eb_TooGreat : PySem.W.subIn K (.ref C_TooGreat) (.type "BaseException") = some true
  et_TooGreat : PySem.W.typeIn K (.ref C_TooGreat) = some (.type "type")
  ec_TooGreat : ExcC K C_TooGreat
  ek_BadParts_BadNumbers : PySem.W.kitOne K (.ref C_BadParts) (.ref C_BadNumbers) = some false
  ek_BadParts_BadParts : PySem.W.kitOne K (.ref C_BadParts) (.ref C_BadParts) = some true
  ek_BadParts_BadPlace : PySem.W.kitOne K (.ref C_BadParts) (.ref C_BadPlace) = some false
  ek_BadParts_BadSigns : PySem.W.kitOne K (.ref C_BadParts) (.ref C_BadSigns) = some false
  ek_BadParts_BadTable : PySem.W.kitOne K (.ref C_BadParts) (.ref C_BadTable) = some false
  ek_BadParts_TooGreat : PySem.W.kitOne K (.ref C_BadParts) (.ref C_TooGreat) = some false
  ek_BadParts_NoNumbers : PySem.W.kitOne K (.ref C_BadParts) (.ref C_NoNumbers) = some false
  ek_TooGreat_BadNumbers : PySem.W.kitOne K (.ref C_TooGreat) (.ref C_BadNumbers) = some false
  ek_TooGreat_BadParts : PySem.W.kitOne K (.ref C_TooGreat) (.ref C_BadParts) = some false
  ek_TooGreat_BadPlace : PySem.W.kitOne K (.ref C_TooGreat) (.ref C_BadPlace) = some false
  ek_TooGreat_BadSigns : PySem.W.kitOne K (.ref C_TooGreat) (.ref C_BadSigns) = some false
  ek_TooGreat_BadTable : PySem.W.kitOne K (.ref C_TooGreat) (.ref C_BadTable) = some false
  ek_TooGreat_TooGreat : PySem.W.kitOne K (.ref C_TooGreat) (.ref C_TooGreat) = some true
  ek_TooGreat_NoNumbers : PySem.W.kitOne K (.ref C_TooGreat) (.ref C_NoNumbers) = some false
  em_BadParts_SignError : PySem.W.exmOne K (.ref C_BadParts) (.ref C_SignError) = some true
  em_TooGreat_SignError : PySem.W.exmOne K (.ref C_TooGreat) (.ref C_SignError) = some true
end HA

end
section
set_option maxRecDepth 100000
set_option maxHeartbeats 4000000
namespace HA
open PySem PySem.Spec PyProof.Rows L2 Evl
section
variable {P : Program} {w : World} {K : PySem.W.Frag} {mg : Str → Option Value} {base : Heap}
theorem ok_is_number (T : Txt K mg) : FnOk P w K mg base CX0 1 T.a_is_number T.d_is_number ["thing"] sp_is_number := by
  refine T.F_is_number.ok sc_is_number (fun vs H Q E h => ?_) (fun cdv A outer s H vs Q E hr h => ?_)
  · obtain ⟨z, rfl, _⟩ := h
    rfl
  · obtain ⟨z, rfl, q⟩ := h
    skip
    refine ⟨_, pss_one (ps_ret (pe_and (pe_callB call_isi (by rfl) T.m_isinstance (by decide +kernel) (pa_cons (pv 0) (pa_cons (pe_bltn (v := .ty "int") (by rfl) T.m_int (by decide +kernel) rfl) pa_nil))) (pe_one (pe_not (pe_callB call_isi (by rfl) T.m_isinstance (by decide +kernel) (pa_cons (pv 0) (pa_cons (pe_bltn (v := .ty "bool") (by rfl) T.m_bool (by decide +kernel) rfl) pa_nil))))))), ?_⟩
    refine s_ret (v := .bl true) (ev_is (ev_andV (ev_isi (b := true) (ea_cons (ev_var rfl) (ea_cons ev_c ea_nil)) (.ty _) (fun H1 e1 => .base (.int _)) (kit_ty (by decide +kernel))) fun _ => ev_notV (ev_isi (b := false) (ea_cons (ev_var rfl) (ea_cons ev_c ea_nil)) (.ty _) (fun H1 e1 => .base (.int _)) (kit_ty (by decide +kernel)))) rfl) fun H1 e1 => q H1 e1

end
end HA

end
section
set_option maxRecDepth 100000
set_option maxHeartbeats 4000000
namespace HA
open PySem PySem.Spec PyProof.Rows L2 Evl
section
variable {P : Program} {w : World} {K : PySem.W.Frag} {mg : Str → Option Value} {base : Heap}
theorem ok_is_prime (T : Txt K mg) : FnOk P w K mg base CX0 1 T.a_is_prime T.d_is_prime ["number"] sp_is_prime := by
  refine T.F_is_prime.ok sc_is_prime (fun vs H Q E h => ?_) (fun cdv A outer s H vs Q E hr h => ?_)
  · obtain ⟨n, rfl, _⟩ := h
    rfl
  · obtain ⟨n, rfl, hn, q⟩ := h
    refine ⟨_, pss_cons (ps_set (i := 1) sc_is_prime.nd rfl (.inl rfl) pe_int)
      (pss_cons (ps_while PassesOwn.never (pt_cmpR op_le (pe_op op_mul (pv 1) (pv 1)) (pv 0) (nomark _))
        (pss_cons (ps_if (pt_cmpR op_eq (pe_op op_mod (pv 0) (pv 1)) pe_int (nomark _)) (pss_one (ps_ret (pe_bl))) (pss_nil))
        (pss_one (ps_set (i := 1) sc_is_prime.nd rfl (.inl rfl) (pe_op op_add (pv 1) pe_int)))))
      (pss_one (ps_ret (pe_cmpR op_gt (pv 0) pe_int (nomark _))))), ?_⟩
    refine q_asg ev_c fun H1 e1 => ?_
    refine q_while (fun k σ' H' => ∃ b : Int, σ' = [some (.int n), some (.int b)] ∧ Ex H H' ∧ prF k b n = isPr n ∧ b + (k : Int) = 102 ∧ 2 ≤ b ∧ 1 ≤ k) 100 ⟨2, rfl, e1, rfl, by decide, by decide, by decide⟩ (fun k σ' H2 hw => ?_)
    obtain ⟨b, rfl, e2, hp, hk, hb2, hk1⟩ := hw
    obtain ⟨j, rfl⟩ : ∃ j, k = j + 1 := ⟨k - 1, by omega⟩
    have hp' : (if b * b ≤ n then (if n % b = 0 then false else prF j (b + 1) n) else decide (n > 1)) = isPr n := hp
    refine ⟨decide (b * b ≤ n), et_test (ev_op (ev_op (ev_var rfl) (ev_var rfl) (rv_I (.inl ⟨by omega, by omega⟩))) (ev_var rfl) rv_I0), fun hb H3 e3 => ?_, fun hb H3 e3 => ?_⟩
    · have hb' := of_decide_eq_true hb
      have hb9 : b ≤ 99 := by
        apply Classical.byContradiction
        intro hc
        have := Int.mul_le_mul (show (100 : Int) ≤ b by omega) (show (100 : Int) ≤ b by omega) (by decide) (by omega)
        omega
      rw [if_pos hb'] at hp'
      refine ⟨fun σ' H' => σ' = [some (.int n), some (.int (b + 1))] ∧ Ex H H' ∧ n % b ≠ 0, fun σ2 H4 h4 => ?_, ?_⟩
      · obtain ⟨rfl, e4, hne⟩ := h4
        rw [if_neg hne] at hp'
        exact ⟨j, Nat.lt_succ_self j, b + 1, rfl, e4, hp', by omega, by omega, by omega⟩
      · refine q_when (b := decide (n % b = 0)) (et_is (et_test (ev_op (ev_op (ev_var rfl) (ev_var rfl) (rv_I (show (0 : Int) < b by omega))) ev_c (rv_eq rfl))) (dec_intB _ _)) (fun hz H4 e4 => ?_) fun hz H4 e4 => ?_
        · rw [if_pos (of_decide_eq_true hz)] at hp'
          refine s_ret ev_c fun H5 e5 => ?_
          have z := q H5 (((e2.trans e3).trans e4).trans e5)
          rw [← hp'] at z
          exact z
        · exact s_asg (ev_op (ev_var rfl) ev_c rv_I0) fun H5 e5 => ⟨rfl, ((e2.trans e3).trans e4).trans e5, of_decide_eq_false hz⟩
    · have hb' : ¬ b * b ≤ n := of_decide_eq_false hb
      rw [if_neg hb'] at hp'
      refine s_ret (v := .bl (decide (n > 1))) (ev_op (ev_var rfl) ev_c rv_I0) fun H4 e4 => ?_
      rw [hp']
      exact q H4 ((e2.trans e3).trans e4)

end
end HA

end
section
set_option maxRecDepth 100000
set_option maxHeartbeats 4000000
namespace HA
open PySem PySem.Spec PyProof.Rows L2 Evl
section
variable {P : Program} {w : World} {K : PySem.W.Frag} {mg : Str → Option Value} {base : Heap}
theorem ok_is_part (T : Txt K mg) : FnOk P w K mg base CX0 2 T.a_is_part T.d_is_part ["thing"] sp_is_part := by
  refine T.F_is_part.ok sc_is_part (fun vs H Q E h => ?_) (fun cdv A outer s H vs Q E hr h => ?_)
  · obtain ⟨n, rfl, _⟩ := h
    rfl
  · obtain ⟨z, rfl, q⟩ := h
    have G_is_number := ok_is_number (P := P) (w := w) (base := base) T
    have G_is_prime := ok_is_prime (P := P) (w := w) (base := base) T
    refine ⟨_, pss_cons (ps_if (PW.pt (pw_or (pt_not (pt_val (pe_call G_is_number (hr.mono (by decide)) (by rfl) T.g_is_number T.F_is_number.kp T.b_is_number .nil pass0 (pa_cons (pv 0) pa_nil)))) (pw_or1 (pt_not (pt_chain op_le op_le pe_int (pv 0) (pe_glob (v := .int 10000) (by rfl) T.g_GREATEST ⟨_, rfl⟩)))))) (pss_one (ps_ret (pe_bl))) (pss_nil))
      (pss_one (ps_ret (pe_or (pe_cmpR op_eq (pv 0) pe_int (nomark _)) (pe_one (pe_and (pe_cmpR op_eq (pe_op op_mod (pv 0) pe_int) pe_int (nomark _)) (pe_one (pe_call G_is_prime (hr.mono (by decide)) (by rfl) T.g_is_prime T.F_is_prime.kp T.b_is_prime .nil pass0 (pa_cons (pe_op op_sub (pv 0) pe_int) pa_nil)))))))), ?_⟩
    refine q_when (b := !(decide (2 ≤ z) && decide (z ≤ 10000))) ?_ (fun hb H1 e1 => ?_) fun hb H1 e1 => ?_
    · exact et_is (et_or (et_not (et_B (ev_call (z := .bl true) (ea_cons (ev_var rfl) ea_nil) fun H3 e3 Q3 q3 _ => ⟨z, rfl, q3⟩))) fun _ => et_not (et_test (ev_chain ev_c (ev_var rfl) rv_I0 (fun _ => ev_c) (fun _ => rv_I0)))) rfl
    · refine s_ret ev_c fun H2 e2 => ?_
      have hz : isPart z = false := by
        unfold isPart
        rw [bnot1 hb]
        rfl
      have k := q H2 (e1.trans e2)
      rw [hz] at k
      exact k
    · have hb' := bnot0 hb
      have hb2 := hb'
      rw [Bool.and_eq_true, decide_eq_true_eq, decide_eq_true_eq] at hb2
      refine s_ret (v := .bl (isPart z)) (ev_is (ev_orV (ev_op (ev_var rfl) ev_c (rv_eq rfl)) fun _ => ev_andV (ev_op (ev_op (ev_var rfl) ev_c (rv_I (by decide))) ev_c (rv_eq rfl)) fun _ => ev_call (z := .bl (isPr (z - 1))) (ea_cons (ev_op (ev_var rfl) ev_c rv_I0) ea_nil) fun H3 e3 Q3 q3 _ => ⟨z - 1, rfl, by omega, q3⟩) ?_) fun H2 e2 => q H2 (e1.trans e2)
      unfold isPart
      rw [hb', dec_intB, dec_intB]
      rfl

end
end HA

end
section
set_option maxRecDepth 100000
set_option maxHeartbeats 4000000
namespace HA
open PySem PySem.Spec PyProof.Rows L2 Evl
section
variable {P : Program} {w : World} {K : PySem.W.Frag} {mg : Str → Option Value} {base : Heap}
theorem ok_asked_parts (T : Txt K mg) : FnOk P w K mg base (L2N.CX P w) 3 T.a_asked_parts T.d_asked_parts ["parts"] (sp_asked_parts T.C_BadParts) := by
  refine okN T.F_asked_parts sc_asked_parts (fun vs H Q E h => ?_) (fun cdv A outer s H vs Q E hr h => ?_)
  · obtain ⟨a, ps, rfl, _⟩ := h
    rfl
  · obtain ⟨a, ps, rfl, hP, qy, qn⟩ := h
    have G_is_part := ok_is_part (P := P) (w := w) (base := base) T
    refine ⟨_, pss_one (ps_if (PW.pt (pw_or (pt_not (pt_val (pe_callB call_isi (by rfl) T.m_isinstance (by decide +kernel) (pa_cons (pv 0) (pa_cons (pe_bltn (v := .ty "list") (by rfl) T.m_list (by decide +kernel) rfl) pa_nil))))) (pw_or1 (pt_not (pt_val (pe_callB (cr_all rfl) (by rfl) T.m_all (by decide +kernel) (pa_cons (pe_lc (own := [("part", 1)]) (g := (gName 1)) (tt := tYes) (te := (tCall _ _ _ (tCons (tVar 1) tNil))) (by rfl) sc_asked_parts.nd (pi_list (pv 0)) (blkOk_by (by kernel_rfl)) (fun _ _ _ _ _ => pg_name (i := 1) sc_asked_parts.nd rfl (.inl rfl)) (fun _ _ _ _ _ => pts_nil) (fun _ _ _ _ _ => pe_call G_is_part (hr.mono (by decide)) (by rfl) T.g_is_part T.F_is_part.kp T.b_is_part .nil pass0 (pa_cons (pv 1) pa_nil))) pa_nil))))))) (pss_one (L2N.ps_raise rfl (L2N.takes_of rfl rfl rfl rfl) (L2N.pmk_own PySem.F.excBase_ValueError T.x_BadParts T.g_BadParts T.k_BadParts (raises_own T.eb_BadParts T.et_BadParts) rfl))) (pss_nil)), ?_⟩
    refine s_when (b := !(ps.all isPart)) ?_ (fun hb H1 e1 => qn (bnot1 hb) H1 e1) fun hb H1 e1 => qy (bnot0 hb) H1 e1
    refine et_is (et_or (et_not (et_B (ev_isi (b := true) (ea_cons (ev_var rfl) (ea_cons ev_c ea_nil)) (.ty _) (fun H1 e => .base (.lst (e a _ hP.1))) (kit_ty (by decide +kernel))))) fun _ => et_not (et_B (ev_allN (K := K) (bs := ps.map isPart) (ev_list (el_lcL (K := K) (xs := ps.map V.int) (fun _ => true) (fun i => .bl (isPart ps[i]!)) (ev_var rfl) (sq_of hP.1) (by rw [List.length_map]; have := hP.2; omega) (fun x => rfl) (fun i x H1 e hx => et_yes) (fun i x H1 e hx _ => ?_)) ?_)))) ?_
    · obtain ⟨hi, rfl⟩ := intG ps hx
      rw [getElem!_pos ps i hi]
      exact ev_call (ea_cons (ev_var rfl) ea_nil) fun H3 e3 Q3 q3 _ => ⟨_, rfl, q3⟩
    · rw [given_all, List.length_map, range_map ps (fun z => V.bl (isPart z)), List.map_map]
      rfl
    · rw [List.all_map]
      rfl

end
end HA

end
section
set_option maxRecDepth 100000
set_option maxHeartbeats 4000000
namespace HA
open PySem PySem.Spec PyProof.Rows L2 Evl
section
variable {P : Program} {w : World} {K : PySem.W.Frag} {mg : Str → Option Value} {base : Heap}
theorem ok_multiplied (T : Txt K mg) : FnOk P w K mg base CX0 1 T.a_multiplied T.d_multiplied ["parts"] sp_multiplied := by
  refine T.F_multiplied.ok sc_multiplied (fun vs H Q E h => ?_) (fun cdv A outer s H vs Q E hr h => ?_)
  · obtain ⟨a, ps, rfl, _⟩ := h
    rfl
  · obtain ⟨a, ps, rfl, hP, hg, q⟩ := h
    refine ⟨_, pss_cons (ps_set (i := 1) sc_multiplied.nd rfl (.inl rfl) pe_int)
      (pss_cons (ps_for PassesOwn.never (by rfl) (pi_list (pv 0)) (pg_name (i := 2) sc_multiplied.nd rfl (.inl rfl))
        (pss_one (ps_set (i := 1) sc_multiplied.nd rfl (.inl rfl) (pe_op op_mul (pv 1) (pv 2)))))
      (pss_one (ps_ret (pv 1)))), ?_⟩
    refine q_asg ev_c fun H1 e1 => ?_
    refine q_forLn (K := K) (ev_var rfl) (sq_of (e1 a _ hP.1)) (fun i σ' H' => ∃ v2, σ' = [some (.ref a), some (.int (prodI (ps.take i))), v2] ∧ Ex H1 H') (fun H2 e2 => ⟨_, rfl, e2⟩) (fun i σ' H2 _ hp => ?_) (fun i x σ' H2 hx hp => ?_) (fun σ' H2 hp => ?_)
    · obtain ⟨v2, rfl, e2⟩ := hp
      exact sq_of (e2 a _ (e1 a _ hP.1))
    · obtain ⟨v2, rfl, e2⟩ := hp
      obtain ⟨hi, rfl⟩ := intG ps hx
      have hb := hg.2 _ (List.getElem_mem hi)
      exact s_asg (ev_is (ev_op (ev_var rfl) (ev_var rfl) (rv_I (.inr ⟨by omega, by omega⟩))) (congrArg V.int (prod_take hi).symm)) fun H3 e3 => ⟨_, rfl, e2.trans e3⟩
    · obtain ⟨v2, rfl, e2⟩ := hp
      rw [List.length_map, List.take_length]
      exact s_ret (ev_var rfl) fun H3 e3 => q H3 ((e1.trans e2).trans e3)

end
end HA

end
section
set_option maxRecDepth 100000
set_option maxHeartbeats 4000000
namespace HA
open PySem PySem.Spec PyProof.Rows L2 Evl
section
variable {P : Program} {w : World} {K : PySem.W.Frag} {mg : Str → Option Value} {base : Heap}
theorem ok_order (T : Txt K mg) : FnOk P w K mg base (L2N.CX P w) 4 T.a_order T.d_order ["parts"] (sp_order T.C_BadParts) := by
  refine okN T.F_order sc_order (fun vs H Q E h => ?_) (fun cdv A outer s H vs Q E hr h => ?_)
  · obtain ⟨a, ps, rfl, _⟩ := h
    rfl
  · obtain ⟨a, ps, rfl, hP, qy, qn⟩ := h
    have G_asked_parts := ok_asked_parts (P := P) (w := w) (base := base) T
    have G_multiplied := ok_multiplied (P := P) (w := w) (base := base) T
    refine ⟨_, pss_cons (ps_expr (pe_call G_asked_parts (hr.mono (by decide)) (by rfl) T.g_asked_parts T.F_asked_parts.kp T.b_asked_parts .nil (passEN rfl rfl rfl rfl) (pa_cons (pv 0) pa_nil)))
      (pss_one (ps_ret (pe_call G_multiplied (hr.mono (by decide)) (by rfl) T.g_multiplied T.F_multiplied.kp T.b_multiplied .nil pass0 (pa_cons (pv 0) pa_nil)))), ?_⟩
    refine q_dropC (ea_cons (ev_var rfl) ea_nil) fun H1 e1 => ⟨a, ps, rfl, hP.ex e1, fun hy H2 e2 => ?_, fun hn H2 e2 => qn hn H2 (e1.trans e2)⟩
    exact s_ret (ev_call (z := .int (prodI ps)) (ea_cons (ev_var rfl) ea_nil) fun H3 e3 Q3 q3 _ => ⟨a, ps, rfl, (hP.ex (e1.trans e2)).ex e3, gp_of hP.2 hy, q3⟩) fun H3 e3 => qy hy H3 ((e1.trans e2).trans e3)

end
end HA

end
section
set_option maxRecDepth 100000
set_option maxHeartbeats 4000000
namespace HA
open PySem PySem.Spec PyProof.Rows L2 Evl
section
variable {P : Program} {w : World} {K : PySem.W.Frag} {mg : Str → Option Value} {base : Heap}
theorem ok_is_square (T : Txt K mg) : FnOk P w K mg base CX0 1 T.a_is_square T.d_is_square ["number", "prime"] sp_is_square := by
  refine T.F_is_square.ok sc_is_square (fun vs H Q E h => ?_) (fun cdv A outer s H vs Q E hr h => ?_)
  · obtain ⟨n, p, rfl, _⟩ := h
    rfl
  · obtain ⟨n, p, rfl, hp1, hp2, q⟩ := h
    refine ⟨_, pss_cons (ps_set (i := 2) sc_is_square.nd rfl (.inl rfl) pe_int)
      (pss_cons (ps_set (i := 3) sc_is_square.nd rfl (.inl rfl) (pe_op op_fdiv (pe_op op_sub (pv 1) pe_int) pe_int))
      (pss_cons (ps_set (i := 4) sc_is_square.nd rfl (.inl rfl) (pe_op op_mod (pv 0) (pv 1)))
      (pss_cons (ps_while PassesOwn.never (pt_cmpR op_gt (pv 3) pe_int (nomark _))
        (pss_cons (ps_if (pt_cmpR op_eq (pe_op op_mod (pv 3) pe_int) pe_int (nomark _)) (pss_one (ps_set (i := 2) sc_is_square.nd rfl (.inl rfl) (pe_op op_mod (pe_op op_mul (pv 2) (pv 4)) (pv 1)))) (pss_nil))
        (pss_cons (ps_set (i := 4) sc_is_square.nd rfl (.inl rfl) (pe_op op_mod (pe_op op_mul (pv 4) (pv 4)) (pv 1)))
        (pss_one (ps_set (i := 3) sc_is_square.nd rfl (.inl rfl) (pe_op op_fdiv (pv 3) pe_int))))))
      (pss_one (ps_ret (pe_cmpR op_eq (pv 2) pe_int (nomark _))))))), ?_⟩
    have hp0 : (0 : Int) < p := by omega
    refine q_asg ev_c fun H1 e1 => ?_
    refine q_asg (ev_op (ev_op (ev_var rfl) ev_c rv_I0) ev_c (rv_I ⟨by decide, by decide⟩)) fun H2 e2 => ?_
    refine q_asg (ev_op (ev_var rfl) (ev_var rfl) (rv_I hp0)) fun H3 e3 => ?_
    have hl : (p - 1) / 2 = ((((p - 1) / 2).toNat : Nat) : Int) := by omega
    have b0 := Int.emod_nonneg n (show p ≠ 0 by omega)
    have b1 := Int.emod_lt_of_pos n hp0
    have h14 : (2 : Nat) ^ 14 = 16384 := by decide
    have hlt : ((p - 1) / 2).toNat < 2 ^ 14 := by omega
    refine q_while (fun k σ' H' => ∃ (f b : Int) (l : Nat), σ' = [some (.int n), some (.int p), some (.int f), some (.int (l : Int)), some (.int b)] ∧ Ex H H' ∧ pwF k f b l p = pwF 14 1 (n % p) ((p - 1) / 2).toNat p ∧ l < 2 ^ k ∧ (0 ≤ f ∧ f ≤ 10000) ∧ (0 ≤ b ∧ b ≤ 10000)) 14
      ⟨1, n % p, ((p - 1) / 2).toNat, by rw [← hl]; rfl, (e1.trans e2).trans e3, rfl, hlt, ⟨by decide, by decide⟩, ⟨b0, by omega⟩⟩ (fun k σ' H4 hw => ?_)
    obtain ⟨f, b, l, rfl, e4, hpw, hlk, ⟨hf0, hf1⟩, ⟨hb0, hb1⟩⟩ := hw
    refine ⟨decide ((l : Int) > 0), et_test (ev_op (ev_var rfl) ev_c rv_I0), fun hb H5 e5 => ?_, fun hb H5 e5 => ?_⟩
    · have hl0 : 0 < l := by
        have := of_decide_eq_true hb
        omega
      obtain ⟨j, rfl⟩ : ∃ j, k = j + 1 := ⟨k - 1, by
        rcases Nat.eq_zero_or_pos k with z | z
        · rw [z] at hlk
          have : (2 : Nat) ^ 0 = 1 := rfl
          omega
        · omega⟩
      have hpw' : (if l = 0 then f else pwF j (if l % 2 = 1 then f * b % p else f) (b * b % p) (l / 2) p) = pwF 14 1 (n % p) ((p - 1) / 2).toNat p := hpw
      rw [if_neg (by omega)] at hpw'
      have c0 : ∀ z : Int, 0 ≤ z % p ∧ z % p ≤ 10000 := fun z => by
        have := Int.emod_nonneg z (show p ≠ 0 by omega)
        have := Int.emod_lt_of_pos z hp0
        omega
      refine ⟨fun σ' H' => σ' = [some (.int n), some (.int p), some (.int (if l % 2 = 1 then f * b % p else f)), some (.int ((l / 2 : Nat) : Int)), some (.int (b * b % p))] ∧ Ex H H', fun σ2 H6 h6 => ?_, ?_⟩
      · obtain ⟨rfl, e6⟩ := h6
        refine ⟨j, Nat.lt_succ_self j, _, _, _, rfl, e6, hpw', ?_, ?_, c0 _⟩
        · have : (2 : Nat) ^ (j + 1) = 2 ^ j + 2 ^ j := by rw [Nat.pow_succ]; omega
          omega
        · split
          · exact c0 _
          · exact ⟨hf0, hf1⟩
      · refine q_ifAsg (b := decide (l % 2 = 1)) (v := .int (if l % 2 = 1 then f * b % p else f)) ?_ (fun hz => ?_) (fun hz => ?_) fun H6 e6 => ?_
        · refine et_is (et_test (ev_op (ev_op (ev_var rfl) ev_c (rv_I (by decide))) ev_c (rv_eq rfl))) ?_
          rw [dec_intB, Bool.eq_iff_iff, decide_eq_true_eq, decide_eq_true_eq]
          omega
        · rw [if_pos (of_decide_eq_true hz)]
          exact ev_op (ev_op (ev_var rfl) (ev_var rfl) (rv_I (.inl ⟨by omega, by omega⟩))) (ev_var rfl) (rv_I hp0)
        · rw [if_neg (of_decide_eq_false hz)]
          rfl
        · refine q_asg (ev_op (ev_op (ev_var rfl) (ev_var rfl) (rv_I (.inl ⟨by omega, by omega⟩))) (ev_var rfl) (rv_I hp0)) fun H7 e7 => ?_
          refine s_asg (ev_is (ev_op (ev_var rfl) ev_c (rv_I ⟨by decide, by decide⟩)) (congrArg V.int (show (l : Int) / 2 = ((l / 2 : Nat) : Int) by omega))) fun H8 e8 => ⟨rfl, (((e4.trans e5).trans e6).trans e7).trans e8⟩
    · have hl0 : l = 0 := by
        have := of_decide_eq_false hb
        omega
      have hf : f = pwF 14 1 (n % p) ((p - 1) / 2).toNat p := by
        rw [← hpw, hl0]
        cases k with
        | zero => rfl
        | succ j => rfl
      refine s_ret (v := .bl (isSqr n p)) (ev_is (ev_op (ev_var rfl) ev_c (rv_eq rfl)) ?_) fun H6 e6 => q H6 ((e4.trans e5).trans e6)
      rw [dec_intB, hf]
      rfl

end
end HA

end
section
set_option maxRecDepth 100000
set_option maxHeartbeats 4000000
namespace HA
open PySem PySem.Spec PyProof.Rows L2 Evl
section
variable {P : Program} {w : World} {K : PySem.W.Frag} {mg : Str → Option Value} {base : Heap}
theorem ok_is_minus (T : Txt K mg) : FnOk P w K mg base CX0 2 T.a_is_minus T.d_is_minus ["part", "row", "column"] sp_is_minus := by
  refine T.F_is_minus.ok sc_is_minus (fun vs H Q E h => ?_) (fun cdv A outer s H vs Q E hr h => ?_)
  · obtain ⟨p, r, c, rfl, _⟩ := h
    rfl
  · obtain ⟨p, r, c, rfl, hp1, hp2, q⟩ := h
    have G_is_square := ok_is_square (P := P) (w := w) (base := base) T
    refine ⟨_, pss_cons (ps_if (pt_cmpR op_eq (pv 0) pe_int (nomark _)) (pss_one (ps_ret (pe_and (pe_cmpR op_eq (pv 1) pe_int (nomark _)) (pe_one (pe_cmpR op_eq (pv 2) pe_int (nomark _)))))) (pss_nil))
      (pss_cons (ps_if (PW.pt (pw_or (pt_cmpR op_eq (pv 1) pe_int (nomark _)) (pw_or1 (pt_cmpR op_eq (pv 1) (pv 2) (nomark _))))) (pss_one (ps_ret (pe_bl))) (pss_nil))
      (pss_one (ps_ret (pe_or (pe_cmpR op_eq (pv 2) pe_int (nomark _)) (pe_one (pe_not (pe_call G_is_square (hr.mono (by decide)) (by rfl) T.g_is_square T.F_is_square.kp T.b_is_square .nil pass0 (pa_cons (pe_op op_sub (pv 2) (pv 1)) (pa_cons (pe_op op_sub (pv 0) pe_int) pa_nil))))))))), ?_⟩
    refine q_when (b := decide (p = 2)) (et_is (et_test (ev_op (ev_var rfl) ev_c (rv_eq rfl))) (dec_intB _ _)) (fun hb H1 e1 => ?_) fun hb H1 e1 => ?_
    · refine s_ret (v := .bl (isM p r c)) (ev_is (ev_andV (ev_op (ev_var rfl) ev_c (rv_eq rfl)) fun _ => ev_op (ev_var rfl) ev_c (rv_eq rfl)) ?_) fun H2 e2 => q H2 (e1.trans e2)
      unfold isM
      rw [if_pos (of_decide_eq_true hb), dec_intB, dec_intB]
    · have hb' := of_decide_eq_false hb
      refine q_when (b := (decide (r = 0) || decide (r = c))) (et_is (et_or (et_test (ev_op (ev_var rfl) ev_c (rv_eq rfl))) fun _ => et_test (ev_op (ev_var rfl) (ev_var rfl) (rv_eq rfl))) (by rw [dec_intB, dec_intB])) (fun hz H2 e2 => ?_) fun hz H2 e2 => ?_
      · refine s_ret ev_c fun H3 e3 => ?_
        have k := q H3 ((e1.trans e2).trans e3)
        unfold isM at k
        rw [if_neg hb', if_pos hz] at k
        exact k
      · refine s_ret (v := .bl (isM p r c)) (ev_is (ev_orV (ev_op (ev_var rfl) ev_c (rv_eq rfl)) fun _ => ev_notV (ev_call (z := .bl (isSqr (c - r) (p - 1))) (ea_cons (ev_op (ev_var rfl) (ev_var rfl) rv_I0) (ea_cons (ev_op (ev_var rfl) ev_c rv_I0) ea_nil)) fun H4 e4 Q4 q4 _ => ⟨_, _, rfl, by omega, by omega, q4⟩)) ?_) fun H3 e3 => q H3 ((e1.trans e2).trans e3)
        unfold isM
        rw [if_neg hb', if_neg (by rw [hz]; decide), dec_intB]

end
end HA

end
section
set_option maxRecDepth 100000
set_option maxHeartbeats 4000000
namespace HA
open PySem PySem.Spec PyProof.Rows L2 Evl
section
variable {P : Program} {w : World} {K : PySem.W.Frag} {mg : Str → Option Value} {base : Heap}
theorem ok_minus_at (T : Txt K mg) : FnOk P w K mg base CX0 3 T.a_minus_at T.d_minus_at ["parts", "row", "column"] sp_minus_at := by
  refine T.F_minus_at.ok sc_minus_at (fun vs H Q E h => ?_) (fun cdv A outer s H vs Q E hr h => ?_)
  · obtain ⟨a, ps, r, c, rfl, _⟩ := h
    rfl
  · obtain ⟨a, ps, r, c, rfl, hP, hg, q⟩ := h
    have G_is_minus := ok_is_minus (P := P) (w := w) (base := base) T
    refine ⟨_, pss_cons (ps_set (i := 3) sc_minus_at.nd rfl (.inl rfl) pe_bl)
      (pss_cons (ps_for PassesOwn.never (by rfl) (pi_list (pe_revL (pv 0))) (pg_name (i := 4) sc_minus_at.nd rfl (.inl rfl))
        (pss_cons (ps_set (i := 3) sc_minus_at.nd rfl (.inl rfl) (pe_cmpR op_ne (pv 3) (pe_call G_is_minus (hr.mono (by decide)) (by rfl) T.g_is_minus T.F_is_minus.kp T.b_is_minus .nil pass0 (pa_cons (pv 4) (pa_cons (pe_op op_mod (pv 1) (pv 4)) (pa_cons (pe_op op_mod (pv 2) (pv 4)) pa_nil)))) (nomark _)))
        (pss_cons (ps_set (i := 1) sc_minus_at.nd rfl (.inl rfl) (pe_op op_fdiv (pv 1) (pv 4)))
        (pss_one (ps_set (i := 2) sc_minus_at.nd rfl (.inl rfl) (pe_op op_fdiv (pv 2) (pv 4)))))))
      (pss_one (ps_ret (pv 3)))), ?_⟩
    refine q_asg ev_c fun H1 e1 => ?_
    refine q_forNLn (K := K) (xs := (ps.map V.int).reverse) (el_rev (K := K) (ev_var rfl) (sq_of (e1 a _ hP.1))) (fun pl i σ' H' => ∃ v4, σ' = [some (.ref a), some (.int (r / prodI (ps.drop (ps.length - i)))), some (.int (c / prodI (ps.drop (ps.length - i)))), some (.bl (mA (ps.drop (ps.length - i)) r c)), v4] ∧ Ex H H' ∧ H' pl = some (.lst (ps.map V.int).reverse))
      (fun pl H2 hpl e2 h2 => ⟨none, ?_, e1.trans e2, h2⟩) (fun pl i σ' H2 _ hp => ?_) (fun pl i x σ' H2 hx hp => ?_) (fun pl σ' H2 hp => ?_)
    · rw [Nat.sub_zero, List.drop_length]
      show _ = [some (V.ref a), some (.int (r / 1)), some (.int (c / 1)), some (.bl false), none]
      rw [Int.ediv_one, Int.ediv_one]
      rfl
    · obtain ⟨v4, rfl, e2, h2⟩ := hp
      exact sq_of h2
    · obtain ⟨v4, rfl, e2, h2⟩ := hp
      have hi : i < ps.length := by
        have z := (List.getElem?_eq_some_iff.mp hx).1
        rwa [List.length_reverse, List.length_map] at z
      rw [List.getElem?_reverse (by rw [List.length_map]; exact hi), List.length_map] at hx
      obtain ⟨hj, rfl⟩ := intG ps hx
      have ed : ps.drop (ps.length - (i + 1)) = ps[ps.length - 1 - i] :: ps.drop (ps.length - i) := by
        rw [show ps.length - (i + 1) = ps.length - 1 - i by omega, drop_at hj, show ps.length - 1 - i + 1 = ps.length - i by omega]
      have hb := hg.2 _ (List.getElem_mem hj)
      have hpos := prod_pos (gp_drop hg (ps.length - i))
      rw [ed]
      generalize ps[ps.length - 1 - i] = p at hb
      generalize ps.drop (ps.length - i) = su at hpos
      have hp0 : (0 : Int) < p := by omega
      have ee : ∀ z : Int, z / prodI su / p = z / prodI (p :: su) := fun z => by
        show _ = z / (p * prodI su)
        rw [Int.mul_comm, ← Int.ediv_ediv_of_nonneg (Int.le_of_lt hpos)]
      refine q_asg (v := .bl (mA (p :: su) r c)) (ev_is (ev_op (ev_var rfl) (ev_call (z := .bl (isM p (r / prodI su % p) (c / prodI su % p))) (ea_cons (ev_var rfl) (ea_cons (ev_op (ev_var rfl) (ev_var rfl) (rv_I hp0)) (ea_cons (ev_op (ev_var rfl) (ev_var rfl) (rv_I hp0)) ea_nil))) fun H4 e4 Q4 q4 _ => ⟨_, _, _, rfl, hb.1, hb.2, q4⟩) (rv_ne rfl)) ?_) fun H3 e3 => ?_
      · rw [dec_blB]
        show _ = V.bl (isM p (r / prodI su % p) (c / prodI su % p) != mA su r c)
        cases isM p (r / prodI su % p) (c / prodI su % p) <;> cases mA su r c <;> rfl
      · refine q_asg (ev_is (ev_op (ev_var rfl) (ev_var rfl) (rv_I ⟨hp0, by omega⟩)) (congrArg V.int (ee r))) fun H4 e4 => ?_
        refine s_asg (ev_is (ev_op (ev_var rfl) (ev_var rfl) (rv_I ⟨hp0, by omega⟩)) (congrArg V.int (ee c))) fun H5 e5 => ?_
        exact ⟨_, rfl, ((e2.trans e3).trans e4).trans e5, (((e3.trans e4).trans e5)) pl _ h2⟩
    · obtain ⟨v4, rfl, e2, h2⟩ := hp
      rw [List.length_reverse, List.length_map, Nat.sub_self, List.drop_zero]
      exact s_ret (ev_var rfl) fun H3 e3 => q H3 (e2.trans e3)

end
end HA

end
section
set_option maxRecDepth 100000
set_option maxHeartbeats 4000000
namespace HA
open PySem PySem.Spec PyProof.Rows L2 Evl
section
variable {P : Program} {w : World} {K : PySem.W.Frag} {mg : Str → Option Value} {base : Heap}
theorem ok_sign_at (T : Txt K mg) : FnOk P w K mg base CX0 4 T.a_sign_at T.d_sign_at ["parts", "row", "column"] sp_sign_at := by
  refine T.F_sign_at.ok sc_sign_at (fun vs H Q E h => ?_) (fun cdv A outer s H vs Q E hr h => ?_)
  · obtain ⟨a, ps, r, c, rfl, _⟩ := h
    rfl
  · obtain ⟨a, ps, r, c, rfl, hP, hall, hr0, hr1, hc0, hc1, q⟩ := h
    have G_asked_parts := ok_asked_parts (P := P) (w := w) (base := base) T
    have G_multiplied := ok_multiplied (P := P) (w := w) (base := base) T
    have G_minus_at := ok_minus_at (P := P) (w := w) (base := base) T
    have G_is_number := ok_is_number (P := P) (w := w) (base := base) T
    refine ⟨_, pss_cons (ps_expr (pe_call G_asked_parts (hr.mono (by decide)) (by rfl) T.g_asked_parts T.F_asked_parts.kp T.b_asked_parts .nil passLN (pa_cons (pv 0) pa_nil)))
      (pss_cons (ps_set (i := 3) sc_sign_at.nd rfl (.inl rfl) (pe_call G_multiplied (hr.mono (by decide)) (by rfl) T.g_multiplied T.F_multiplied.kp T.b_multiplied .nil pass0 (pa_cons (pv 0) pa_nil)))
      (pss_cons (ps_for PassesOwn.never (by rfl) (pi_tup (pe_tup (pa_cons (pv 1) (pa_cons (pv 2) pa_nil)))) (pg_name (i := 4) sc_sign_at.nd rfl (.inl rfl))
        (pss_one (ps_if (PW.pt (pw_or (pt_not (pt_val (pe_call G_is_number (hr.mono (by decide)) (by rfl) T.g_is_number T.F_is_number.kp T.b_is_number .nil pass0 (pa_cons (pv 4) pa_nil)))) (pw_or1 (pt_not (pt_chain op_le op_lt pe_int (pv 4) (pv 3)))))) (pss_one (ps_never)) (pss_nil))))
      (pss_one (ps_ret (pe_ifExp (pt_val (pe_call G_minus_at (hr.mono (by decide)) (by rfl) T.g_minus_at T.F_minus_at.kp T.b_minus_at .nil pass0 (pa_cons (pv 0) (pa_cons (pv 1) (pa_cons (pv 2) pa_nil))))) pe_str pe_str))))), ?_⟩
    refine q_drop (v := .non) (ev_call (ea_cons (ev_var rfl) ea_nil) fun H3 e3 Q3 q3 _ => ⟨a, ps, rfl, hP.ex e3, fun _ => q3, fun hz => absurd (hz.symm.trans hall) (by decide)⟩) fun H1 e1 => ?_
    refine q_asg (v := .int (prodI ps)) (ev_call (ea_cons (ev_var rfl) ea_nil) fun H3 e3 Q3 q3 _ => ⟨a, ps, rfl, (hP.ex e1).ex e3, gp_of hP.2 hall, q3⟩) fun H2 e2 => ?_
    refine q_forU (K := K) (xs := [.int r, .int c]) (eu_tup (ea_cons (ev_var rfl) (ea_cons (ev_var rfl) ea_nil)) (by show 2 ≤ 100000; decide)) (fun i σ' H' => ∃ v4, σ' = [some (.ref a), some (.int r), some (.int c), some (.int (prodI ps)), v4] ∧ Ex H2 H') (fun H3 e3 => ⟨_, rfl, e3⟩) (fun H3 e3 i x σ' H4 hx hp e4 => ?_) (fun σ' H3 hp => ?_)
    · obtain ⟨v4, rfl, e5⟩ := hp
      obtain ⟨z, rfl, hz0, hz1⟩ : ∃ z : Int, x = .int z ∧ 0 ≤ z ∧ z < prodI ps := by
        match i, hx with
        | 0, h => cases h; exact ⟨r, rfl, hr0, hr1⟩
        | 1, h => cases h; exact ⟨c, rfl, hc0, hc1⟩
        | k + 2, h => exact absurd h (by simp)
      refine s_when (b := false) ?_ (fun hz => nomatch hz) fun _ H5 e6 => ⟨⟨_, rfl, e5.trans e6⟩, e4.trans e6⟩
      refine et_is (et_or (et_not (et_B (ev_call (z := .bl true) (ea_cons (ev_var rfl) ea_nil) fun H6 e6 Q6 q6 _ => ⟨z, rfl, q6⟩))) fun _ => et_not (et_test (ev_chain ev_c (ev_var rfl) rv_I0 (fun _ => ev_var rfl) (fun _ => rv_I0)))) ?_
      rw [decide_eq_true hz0, decide_eq_true hz1]
      rfl
    · obtain ⟨v4, rfl, e5⟩ := hp
      refine s_ret (v := .str (sgS (!mA ps r c))) (ev_if (b := mA ps r c) (et_B (ev_call (ea_cons (ev_var rfl) (ea_cons (ev_var rfl) (ea_cons (ev_var rfl) ea_nil))) fun H6 e6 Q6 q6 _ => ⟨a, ps, r, c, rfl, ((hP.ex (e1.trans e2)).ex e5).ex e6, gp_of hP.2 hall, q6⟩)) (fun hb => ?_) fun hb => ?_) fun H4 e4 => q H4 (((e1.trans e2).trans e5).trans e4)
      · rw [hb]
        exact ev_is ev_c (congrArg V.str sg_minus)
      · rw [hb]
        exact ev_is ev_c (congrArg V.str sg_plus)

end
end HA

end
section
set_option maxRecDepth 100000
set_option maxHeartbeats 4000000
namespace HA
open PySem PySem.Spec PyProof.Rows L2 Evl
section
variable {P : Program} {w : World} {K : PySem.W.Frag} {mg : Str → Option Value} {base : Heap}
theorem ok_made (T : Txt K mg) : FnOk P w K mg base (L2N.CX P w) 4 T.a_made T.d_made ["parts"] (sp_made T.C_TooGreat) := by
  refine okN T.F_made sc_made (fun vs H Q E h => ?_) (fun cdv A outer s H vs Q E hr h => ?_)
  · obtain ⟨a, ps, rfl, _⟩ := h
    rfl
  · obtain ⟨a, ps, rfl, hP, hall, qy, qn⟩ := h
    have G_asked_parts := ok_asked_parts (P := P) (w := w) (base := base) T
    have G_multiplied := ok_multiplied (P := P) (w := w) (base := base) T
    have G_minus_at := ok_minus_at (P := P) (w := w) (base := base) T
    refine ⟨_, pss_cons (ps_expr (pe_call G_asked_parts (hr.mono (by decide)) (by rfl) T.g_asked_parts T.F_asked_parts.kp T.b_asked_parts .nil (passEN rfl rfl rfl rfl) (pa_cons (pv 0) pa_nil)))
      (pss_cons (ps_set (i := 1) sc_made.nd rfl (.inl rfl) (pe_call G_multiplied (hr.mono (by decide)) (by rfl) T.g_multiplied T.F_multiplied.kp T.b_multiplied .nil pass0 (pa_cons (pv 0) pa_nil)))
      (pss_cons (ps_if (pt_cmpR op_gt (pv 1) (pe_glob (v := .int 100) (by rfl) T.g_MOST ⟨_, rfl⟩) (nomark _)) (pss_one (L2N.ps_raise rfl (L2N.takes_of rfl rfl rfl rfl) (L2N.pmk_own PySem.F.excBase_ValueError T.x_TooGreat T.g_TooGreat T.k_TooGreat (raises_own T.eb_TooGreat T.et_TooGreat) rfl))) (pss_nil))
      (pss_cons (ps_set (i := 2) sc_made.nd rfl (.inl rfl) (pe_lst pa_nil))
      (pss_cons (ps_for (passes_of rfl) (by rfl) (pi_range1 (by rfl) T.m_range (pa_cons (pv 1) pa_nil)) (pg_name (i := 3) sc_made.nd rfl (.inr rfl))
        (pss_one (ps_expr (pe_bm PySem.F.plainAttrs_list PySem.F.slot_list_append PySem.F.type_list_append mt_append (pv 2) (pa_cons (pe_join pe_str (pe_lc (own := [("column", 4)]) (g := (gName 4)) (tt := tYes) (te := (tIf (tB (tCall _ _ _ (tCons (tVar 0) (tCons (tVar 3) (tCons (tVar 4) tNil))))) (tC _) (tC _))) (by rfl) sc_made.nd (pi_range1 (by rfl) T.m_range (pa_cons (pv 1) pa_nil)) (blkOk_by (by kernel_rfl)) (fun _ _ _ _ _ => pg_name (i := 4) sc_made.nd rfl (.inl rfl)) (fun _ _ _ _ _ => pts_nil) (fun _ _ _ _ _ => pe_ifExp (pt_val (pe_call G_minus_at (hr.mono (by decide)) (by rfl) T.g_minus_at T.F_minus_at.kp T.b_minus_at .nil pass0 (pa_cons (pv 0) (pa_cons (pv 3) (pa_cons (pv 4) pa_nil))))) pe_str pe_str))) pa_nil)))))
      (pss_one (ps_ret (pv 2))))))), ?_⟩
    have hg := gp_of hP.2 hall
    refine q_dropC (ea_cons (ev_var rfl) ea_nil) fun H1 e1 => ⟨a, ps, rfl, hP.ex e1, fun hy H2 e2 => ?_, fun hn H2 e2 => absurd (hn.symm.trans hall) (by decide)⟩
    have E2 := e1.trans e2
    refine q_asg (v := .int (prodI ps)) (ev_call (ea_cons (ev_var rfl) ea_nil) fun H3 e3 Q3 q3 _ => ⟨a, ps, rfl, (hP.ex E2).ex e3, hg, q3⟩) fun H3 e3 => ?_
    have E3 := E2.trans e3
    refine q_when (b := decide (prodI ps > 100)) (et_test (ev_op (ev_var rfl) ev_c rv_I0)) (fun hb H4 e4 => qn (of_decide_eq_true hb) H4 (E3.trans e4)) fun hb H4 e4 => ?_
    have hb' := of_decide_eq_false hb
    have hpos := prod_pos hg.2
    obtain ⟨n, hn⟩ : ∃ n : Nat, prodI ps = (n : Int) := ⟨(prodI ps).toNat, by omega⟩
    have hn100 : n ≤ 100 := by omega
    rw [hn]
    have E4 := E3.trans e4
    refine q_asgL (el_lst ea_nil (by show 0 ≤ 100000; decide)) fun pf H5 hpf e5 h5 => ?_
    refine q_forR1 (n := (n : Int)) (ea_cons (ev_var rfl) ea_nil) ⟨by omega, by omega⟩ (fun i σ' H' => ∃ v3, σ' = [some (.ref a), some (.int (n : Int)), some (.ref pf), v3, none] ∧ Ex H4 H' ∧ H' pf = some (.lst (rowsTo n (tabM ps) i)))
      (fun H6 e6 => ⟨_, rfl, e5.trans e6, e6 pf _ h5⟩) (fun i σ' H6 hi hp => ?_) (fun σ' H6 hp => ?_)
    · obtain ⟨v3, rfl, e6, h6⟩ := hp
      refine s_app (v := .str (rowS n (tabM ps i))) h6 (ev_var rfl) (ev_joinRow (K := K) (g := tabM ps i) (ev_list (el_lcR1 (n := (n : Int)) (fun _ => true) (fun j => V.str (sgS (tabM ps i j))) (ea_cons (ev_var rfl) ea_nil) ⟨by omega, by omega⟩ (fun x => rfl) (fun j H7 e7 hj => et_yes) (fun j H7 e7 hj _ => ?_)) (by rw [given_all, Int.toNat_natCast])) (by omega)) (by rw [rowsTo_len]; omega) fun H7 e7 => ⟨_, rfl, Ex.mut (e6.trans e7) hpf, ?_⟩
      · refine ev_if (b := mA ps (i : Int) (j : Int)) (et_B (ev_call (ea_cons (ev_var rfl) (ea_cons (ev_var rfl) (ea_cons (ev_var rfl) ea_nil))) fun H8 e8 Q8 q8 _ => ⟨a, ps, _, _, rfl, (hP.ex ((E4.trans e6).trans e7)).ex e8, hg, q8⟩)) (fun hb => ?_) fun hb => ?_
        · unfold tabM
          rw [hb]
          exact ev_is ev_c (congrArg V.str sg_minus)
        · unfold tabM
          rw [hb]
          exact ev_is ev_c (congrArg V.str sg_plus)
      · rw [upd_same]
        exact congrArg (fun z => some (HO.lst z)) (rows_one n i (tabM ps))
    · obtain ⟨v3, rfl, e6, h6⟩ := hp
      rw [Int.toNat_natCast] at h6
      exact s_ret (ev_var rfl) fun H7 e7 => qy n hn hn100 pf H7 (fresh_back E4 hpf) (E4.trans (e6.trans e7)) (e7 pf _ h6)

end
end HA

end
section
set_option maxRecDepth 100000
set_option maxHeartbeats 4000000
namespace HA
open PySem PySem.Spec PyProof.Rows L2 Evl
section
variable {P : Program} {w : World} {K : PySem.W.Frag} {mg : Str → Option Value} {base : Heap}
theorem num_add {x y : Int} {a : Nat} (hx : x.natAbs < 2 ^ a) (hy : y.natAbs < 2 ^ a) : (x + y).natAbs < 2 ^ (a + 1) := by
  have e : (2 : Nat) ^ (a + 1) = 2 ^ a + 2 ^ a := by rw [Nat.pow_succ]; omega
  rw [e]
  generalize (2 : Nat) ^ a = G at hx hy
  omega
theorem num_small {x : Int} {a : Nat} (ha : 40 ≤ a) (h : x.natAbs < 2 ^ 40) : x.natAbs < 2 ^ a := Nat.lt_of_lt_of_le h (Nat.pow_le_pow_right (by decide) ha)
theorem num_bits {c a m : Int} (hc : c.natAbs < 2 ^ BB) (ha : 0 ≤ a) (ha2 : a ≤ 10000) (hm0 : 0 ≤ m) (hm1 : m < 2147483647) :
    CMulB (m * (c + 31 * a + 7)) (m + c + 5) ∧ CMulB (m * (c + 31 * a + 7) * (m + c + 5)) (m * m + 11) := by
  have hB : BB = 1048700 := rfl
  have h40 : 40 ≤ BB := by rw [hB]; decide
  have b0 : m.natAbs < 2 ^ 31 := by
    have : (2 : Nat) ^ 31 = 2147483648 := by decide
    rw [this]
    omega
  have s1 : (31 * a + 7).natAbs < 2 ^ BB := num_small h40 (by
    have : (2 : Nat) ^ 40 = 1099511627776 := by decide
    rw [this]
    omega)
  have s2 : (m + 5).natAbs < 2 ^ BB := num_small h40 (by
    have : (2 : Nat) ^ 40 = 1099511627776 := by decide
    rw [this]
    omega)
  have b1 : (c + 31 * a + 7).natAbs < 2 ^ (BB + 1) := by
    rw [Int.add_assoc]
    exact num_add hc s1
  have b3 : (m + c + 5).natAbs < 2 ^ (BB + 1) := by
    rw [show m + c + 5 = c + (m + 5) by omega]
    exact num_add hc s2
  have b2 := wide_lt b0 b1
  have b4 := wide_lt b2 b3
  have b5 : (m * m + 11).natAbs < 2 ^ 63 := by
    have q := wide_lt b0 b0
    have e62 : (2 : Nat) ^ (31 + 31) = 4611686018427387904 := by decide
    have e63 : (2 : Nat) ^ 63 = 9223372036854775808 := by decide
    rw [e62] at q
    rw [e63]
    have e : (m * m + 11).natAbs ≤ (m * m).natAbs + 11 := by
      generalize m * m = z
      omega
    omega
  have l2 := PySem.Flt.log2_lt_of (by omega) b2
  have l3 := PySem.Flt.log2_lt_of (by omega) b3
  have l4 := PySem.Flt.log2_lt_of (by omega) b4
  have l5 := PySem.Flt.log2_lt_of (by omega) b5
  unfold CMulB
  rw [hB] at l2 l3 l4
  exact ⟨by omega, by omega⟩
theorem ok_L_number (T : Txt K mg) : FnOk P w K mg base CX0 1 T.a_L_number T.d_L_number ["_law_cell", "_law_at_here", "_law_whole"] sp_L_number := by
  refine T.F_L_number.ok sc_L_number (fun vs H Q E h => ?_) (fun cdv A outer s H vs Q E hr h => ?_)
  · obtain ⟨c, a, z, rfl, _⟩ := h
    rfl
  · obtain ⟨c, a, z, rfl, hc, ha, ha2, q⟩ := h
    refine ⟨_, pss_cons (ps_if (pt_cmpR op_ge (pv 0) (pe_op op_pow pe_int pe_int) (nomark _)) (pss_one (ps_ret (pe_op op_fdiv (pv 0) (pe_op op_add pe_int (pe_op op_mod (pv 1) pe_int))))) (pss_nil))
      (pss_cons (ps_set (i := 3) sc_L_number.nd rfl (.inl rfl) (pe_op op_mod (pe_op op_add (pe_op op_mul (pe_op op_add (pv 0) (pe_op op_mul pe_int (pv 1))) pe_int) (pv 2)) pe_int))
      (pss_cons (ps_set (i := 4) sc_L_number.nd rfl (.inl rfl) (pe_op op_mul (pv 3) (pe_op op_add (pe_op op_add (pv 0) (pe_op op_mul pe_int (pv 1))) pe_int)))
      (pss_one (ps_ret (pe_op op_fdiv (pe_op op_mulB (pe_op op_mulB (pv 4) (pe_op op_add (pe_op op_add (pv 3) (pv 0)) pe_int)) (pe_op op_add (pe_op op_mul (pv 3) (pv 3)) pe_int)) (pe_op op_add pe_int (pv 1))))))), ?_⟩
    refine q_when (et_test (ev_op (ev_var rfl) (ev_op ev_c ev_c (rv_I ⟨by decide, by decide, by decide⟩)) rv_I0)) ?_ ?_
    · intro hb H1 e1
      have hb' : (10 : Int) ^ 18 ≤ c := of_decide_eq_true hb
      refine s_ret (ev_op (ev_var rfl) (ev_op ev_c (ev_op (ev_var rfl) ev_c (rv_I (by decide))) rv_I0) (rv_I ⟨?_, ?_⟩)) fun H2 e2 => ?_
      · omega
      · omega
      · have e := q H2 (e1.trans e2)
        unfold lawNum at e
        rw [if_pos hb'] at e
        exact e
    · intro hb H1 e1
      have hb' : ¬ (10 : Int) ^ 18 ≤ c := of_decide_eq_false hb
      refine q_asg (ev_op (ev_op (ev_op (ev_op (ev_var rfl) (ev_op ev_c (ev_var rfl) (rv_I (.inl ⟨by decide, by decide⟩))) rv_I0) ev_c (rv_I (.inr ⟨by decide, by decide⟩))) (ev_var rfl) rv_I0) ev_c (rv_I (by decide))) fun H2 e2 => ?_
      generalize hm : ((c + 977 * a) * 48271 + z) % 2147483647 = m
      have hm0 : 0 ≤ m := by rw [← hm]; exact Int.emod_nonneg _ (by decide)
      have hm1 : m < 2147483647 := by rw [← hm]; exact Int.emod_lt_of_pos _ (by decide)
      obtain ⟨k1, k2⟩ := num_bits hc ha ha2 hm0 hm1
      refine q_asg (ev_op (ev_var rfl) (ev_op (ev_op (ev_var rfl) (ev_op ev_c (ev_var rfl) (rv_I (.inl ⟨by decide, by decide⟩))) rv_I0) ev_c rv_I0) (rv_I (.inl ⟨by omega, by omega⟩))) fun H3 e3 => ?_
      refine s_ret (ev_op (ev_op (ev_op (ev_var rfl) (ev_op (ev_op (ev_var rfl) (ev_var rfl) rv_I0) ev_c rv_I0) (rv_I k1)) (ev_op (ev_op (ev_var rfl) (ev_var rfl) (rv_I (.inl ⟨by omega, by omega⟩))) ev_c rv_I0) (rv_I k2)) (ev_op ev_c (ev_var rfl) rv_I0) (rv_I ⟨by omega, by omega⟩)) fun H4 e4 => ?_
      have e := q H4 (((e1.trans e2).trans e3).trans e4)
      unfold lawNum at e
      rw [if_neg hb', hm] at e
      exact e

end
end HA

end
section
set_option maxRecDepth 100000
set_option maxHeartbeats 4000000
namespace HA
open PySem PySem.Spec PyProof.Rows L2 Evl
section
variable {P : Program} {w : World} {K : PySem.W.Frag} {mg : Str → Option Value} {base : Heap}
theorem ok_L_alike (T : Txt K mg) : FnOk P w K mg base CX0 1 T.a_L_alike T.d_L_alike ["_law_one", "_law_other_here"] sp_alike := by
  refine T.F_L_alike.ok sc_L_alike (fun vs H Q E h => ?_) (fun cdv A outer s H vs Q E hr h => ?_)
  · obtain ⟨n, g, k, rfl, _⟩ := h
    rfl
  · obtain ⟨n, g, k, rfl, hn, q⟩ := h
    refine ⟨_, pss_one (ps_ret (pe_callB call_len_seq (by rfl) T.m_len (by decide +kernel) (pa_cons (pe_lc (own := [("_law_mine", 2), ("_law_theirs", 3)]) (g := (gTup K 2 (gCons (gName 2) (gCons (gName 3) gNil)))) (tt := (tTest (tOp _ (tVar 2) (tVar 3)))) (te := (tC _)) (by rfl) sc_L_alike.nd (pi_zipSS (by rfl) T.m_zip (pa_cons (pv 0) (pa_cons (pv 1) pa_nil))) (blkOk_by (by kernel_rfl)) (fun _ _ _ _ _ => pg_tup rfl (pgs_cons (pg_name (i := 2) sc_L_alike.nd rfl (.inl rfl)) (pgs_cons (pg_name (i := 3) sc_L_alike.nd rfl (.inl rfl)) pgs_nil))) (fun _ _ _ _ _ => pts_one (pt_cmpR op_eq (pv 2) (pv 3) (nomark _))) (fun _ _ _ _ _ => pe_int)) pa_nil))), ?_⟩
    refine s_ret (ev_lenN (K := K) (el_lcZSS (K := K) (n := n) (c := fun i => cp (g i)) (c' := fun i => cp (k i)) (fun i => g i == k i) (fun i => .int 1) (ea_cons (ev_var rfl) (ea_cons (ev_var rfl) ea_nil)) (by rw [rowS_size, rowS_size, Nat.min_self]) (fun i hi => rowS_get hi) (fun i hi => rowS_get hi) (by omega) (fun x y => rfl) (fun i H1 e hi => ?_) (fun i H1 e hi _ => ev_c))) (fun H1 e => ?_)
    · exact et_is (et_test (ev_op (ev_var rfl) (ev_var rfl) (rv_eq rfl))) (sgS_dec _ _)
    · rw [given_count]
      exact q H1 e

end
end HA

end
section
set_option maxRecDepth 100000
set_option maxHeartbeats 4000000
namespace HA
open PySem PySem.Spec PyProof.Rows L2 Evl
section
variable {P : Program} {w : World} {K : PySem.W.Frag} {mg : Str → Option Value} {base : Heap}
theorem ok_L_half (T : Txt K mg) : FnOk P w K mg base CX0 2 T.a_L_half T.d_L_half ["_law_table"] (sp_half K) := by
  refine T.F_L_half.ok sc_L_half (fun vs H Q E h => ?_) (fun cdv A outer s H vs Q E hr h => ?_)
  · obtain ⟨a, n, f, rfl, _⟩ := h
    rfl
  · obtain ⟨a, n, f, rfl, hT, hn, q⟩ := h
    have G_L_alike := ok_L_alike (P := P) (w := w) (base := base) T
    refine ⟨_, pss_cons (ps_for PassesOwn.never (by rfl) (pi_range1 (by rfl) T.m_range (pa_cons (pe_callB call_len_seq (by rfl) T.m_len (by decide +kernel) (pa_cons (pv 0) pa_nil)) pa_nil)) (pg_name (i := 1) sc_L_half.nd rfl (.inl rfl))
        (pss_one (ps_for PassesOwn.never (by rfl) (pi_range1 (by rfl) T.m_range (pa_cons (pv 1) pa_nil)) (pg_name (i := 2) sc_L_half.nd rfl (.inl rfl))
          (pss_one (ps_if (pt_cmpR op_ne (pe_op op_mul pe_int (pe_call G_L_alike (hr.mono (by decide)) (by rfl) T.g_L_alike T.F_L_alike.kp T.b_L_alike .nil pass0 (pa_cons (pe_ix ix_list (pv 0) (pv 2) (fun _ _ => rfl)) (pa_cons (pe_ix ix_list (pv 0) (pv 1) (fun _ _ => rfl)) pa_nil)))) (pe_callB call_len_seq (by rfl) T.m_len (by decide +kernel) (pa_cons (pv 0) pa_nil)) (nomark _)) (pss_one (ps_ret (pe_bl))) (pss_nil))))))
      (pss_one (ps_ret (pe_bl))), ?_⟩
    refine q_forR1 (n := (n : Int)) (ea_cons (ev_lenT (ev_var rfl) hT) ea_nil) ⟨by omega, by omega⟩
      (fun j σ' H' => ∃ v1 v2, σ' = [some (.ref a), v1, v2] ∧ Ex H H' ∧ ∀ j', j' < j → ∀ i, i < j' → 2 * alk n (f i) (f j') = n) (fun H1 e1 => ⟨none, none, rfl, e1, fun j' hj' => absurd hj' (by omega)⟩) ?_ ?_
    · rintro j σ' H' hj ⟨v1, v2, rfl, e1, ih⟩
      refine s_forR1 (n := (j : Int)) (ea_cons (ev_var rfl) ea_nil) ⟨by omega, by omega⟩
        (fun i σ' H' => ∃ v2, σ' = [some (.ref a), some (.int (j : Int)), v2] ∧ Ex H H' ∧ ∀ i', i' < i → 2 * alk n (f i') (f j) = n) (fun H2 e2 => ⟨v2, rfl, e1.trans e2, fun i' hi' => absurd hi' (by omega)⟩) ?_ ?_
      · rintro i σ' H2 hi ⟨v2, rfl, e2, ih2⟩
        refine s_when (et_is (et_test (ev_op (ev_op ev_c (ev_call (z := .int (alk n (f i) (f j) : Int)) (ea_cons (ev_itT (K := K) (n := n) (f := f) (i := i) (ev_var rfl) (ev_var rfl) (TabAt.ex e2 hT) (by omega)) (ea_cons (ev_itT (K := K) (n := n) (f := f) (i := j) (ev_var rfl) (ev_var rfl) (TabAt.ex e2 hT) (by omega)) ea_nil)) fun H3 e3 Q3 q3 _ => ⟨n, f i, f j, rfl, hn, q3⟩) (rv_I (.inl ⟨by decide, by decide⟩))) (ev_lenT (ev_var rfl) (TabAt.ex e2 hT)) (rv_ne rfl))) (congrArg not (dec_intB _ _))) ?_ ?_
        · intro hb H3 e3
          refine s_ret ev_c fun H4 e4 => ?_
          have hb' : ¬ (2 * (alk n (f i) (f j) : Int) = (n : Int)) := by simpa using hb
          have hf : halfB n f = false := by
            cases hb : halfB n f with
            | false => rfl
            | true =>
              have := (halfB_iff n f).mp hb j (by omega) i (by omega)
              omega
          have e := q H4 ((e2.trans e3).trans e4)
          rw [hf] at e
          exact e
        · intro hb H3 e3
          refine ⟨_, rfl, e2.trans e3, fun i' hi' => ?_⟩
          by_cases hc : i' = i
          · subst hc
            have hb' : 2 * (alk n (f i') (f j) : Int) = (n : Int) := by simpa using hb
            omega
          · exact ih2 i' (by omega)
      · rintro σ' H2 ⟨v2, rfl, e2, ih2⟩
        refine ⟨_, _, rfl, e2, fun j' hj' i hi => ?_⟩
        by_cases hc : j' = j
        · subst hc
          exact ih2 i (by rw [Int.toNat_natCast]; exact hi)
        · exact ih j' (by omega) i hi
    · rintro σ' H' ⟨v1, v2, rfl, e1, ih⟩
      refine s_ret ev_c fun H2 e2 => ?_
      rw [Int.toNat_natCast] at ih
      have e := q H2 (e1.trans e2)
      rw [(halfB_iff n f).mpr fun j hj i hi => ih j hj i hi] at e
      exact e

end
end HA

end
section
set_option maxRecDepth 100000
set_option maxHeartbeats 4000000
namespace HA
open PySem PySem.Spec PyProof.Rows L2 Evl
section
variable {P : Program} {w : World} {K : PySem.W.Frag} {mg : Str → Option Value} {base : Heap}
theorem ok_L_power (T : Txt K mg) : FnOk P w K mg base CX0 1 T.a_L_power T.d_L_power ["_law_base", "_law_often", "_law_by"] sp_L_power := by
  refine T.F_L_power.ok sc_L_power (fun vs H Q E h => ?_) (fun cdv A outer s H vs Q E hr h => ?_)
  · obtain ⟨b, l, p, rfl, _⟩ := h
    rfl
  · obtain ⟨b', l', p, rfl, hl1, hl2, hp1, hp2, hB0, hB1, q⟩ := h
    refine ⟨_, pss_cons (ps_set (i := 3) sc_L_power.nd rfl (.inl rfl) pe_int)
      (pss_cons (ps_while PassesOwn.never (pt_cmpR op_gt (pv 1) pe_int (nomark _))
        (pss_cons (ps_if (pt_cmpR op_eq (pe_op op_mod (pv 1) pe_int) pe_int (nomark _)) (pss_one (ps_set (i := 3) sc_L_power.nd rfl (.inl rfl) (pe_op op_mod (pe_op op_mul (pv 3) (pv 0)) (pv 2)))) (pss_nil))
        (pss_cons (ps_set (i := 0) sc_L_power.nd rfl (.inl rfl) (pe_op op_mod (pe_op op_mul (pv 0) (pv 0)) (pv 2)))
        (pss_one (ps_set (i := 1) sc_L_power.nd rfl (.inl rfl) (pe_op op_fdiv (pv 1) pe_int))))))
      (pss_one (ps_ret (pv 3)))), ?_⟩
    have hp0 : (0 : Int) < p := by omega
    refine q_asg ev_c fun H1 e1 => ?_
    have hl : l' = ((l'.toNat : Nat) : Int) := by omega
    have h14 : (2 : Nat) ^ 14 = 16384 := by decide
    have hlt : l'.toNat < 2 ^ 14 := by omega
    refine q_while (fun k σ' H' => ∃ (f b : Int) (l : Nat), σ' = [some (.int b), some (.int (l : Int)), some (.int p), some (.int f)] ∧ Ex H H' ∧ pwF k f b l p = pwF 14 1 b' l'.toNat p ∧ l < 2 ^ k ∧ (0 ≤ f ∧ f ≤ 10000) ∧ (0 ≤ b ∧ b ≤ 10000)) 14
      ⟨1, b', l'.toNat, by rw [← hl]; rfl, e1, rfl, hlt, ⟨by decide, by decide⟩, ⟨hB0, hB1⟩⟩ (fun k σ' H4 hw => ?_)
    obtain ⟨f, b, l, rfl, e4, hpw, hlk, ⟨hf0, hf1⟩, ⟨hb0, hb1⟩⟩ := hw
    refine ⟨decide ((l : Int) > 0), et_test (ev_op (ev_var rfl) ev_c rv_I0), fun hb H5 e5 => ?_, fun hb H5 e5 => ?_⟩
    · have hl0 : 0 < l := by
        have := of_decide_eq_true hb
        omega
      obtain ⟨j, rfl⟩ : ∃ j, k = j + 1 := ⟨k - 1, by
        rcases Nat.eq_zero_or_pos k with z | z
        · rw [z] at hlk
          have : (2 : Nat) ^ 0 = 1 := rfl
          omega
        · omega⟩
      have hpw' : (if l = 0 then f else pwF j (if l % 2 = 1 then f * b % p else f) (b * b % p) (l / 2) p) = pwF 14 1 b' l'.toNat p := hpw
      rw [if_neg (by omega)] at hpw'
      have c0 : ∀ z : Int, 0 ≤ z % p ∧ z % p ≤ 10000 := fun z => by
        have := Int.emod_nonneg z (show p ≠ 0 by omega)
        have := Int.emod_lt_of_pos z hp0
        omega
      refine ⟨fun σ' H' => σ' = [some (.int (b * b % p)), some (.int ((l / 2 : Nat) : Int)), some (.int p), some (.int (if l % 2 = 1 then f * b % p else f))] ∧ Ex H H', fun σ2 H6 h6 => ?_, ?_⟩
      · obtain ⟨rfl, e6⟩ := h6
        refine ⟨j, Nat.lt_succ_self j, _, _, _, rfl, e6, hpw', ?_, ?_, c0 _⟩
        · have : (2 : Nat) ^ (j + 1) = 2 ^ j + 2 ^ j := by rw [Nat.pow_succ]; omega
          omega
        · split
          · exact c0 _
          · exact ⟨hf0, hf1⟩
      · refine q_ifAsg (b := decide (l % 2 = 1)) (v := .int (if l % 2 = 1 then f * b % p else f)) ?_ (fun hz => ?_) (fun hz => ?_) fun H6 e6 => ?_
        · refine et_is (et_test (ev_op (ev_op (ev_var rfl) ev_c (rv_I (by decide))) ev_c (rv_eq rfl))) ?_
          rw [dec_intB, Bool.eq_iff_iff, decide_eq_true_eq, decide_eq_true_eq]
          omega
        · rw [if_pos (of_decide_eq_true hz)]
          exact ev_op (ev_op (ev_var rfl) (ev_var rfl) (rv_I (.inl ⟨by omega, by omega⟩))) (ev_var rfl) (rv_I hp0)
        · rw [if_neg (of_decide_eq_false hz)]
          rfl
        · refine q_asg (ev_op (ev_op (ev_var rfl) (ev_var rfl) (rv_I (.inl ⟨by omega, by omega⟩))) (ev_var rfl) (rv_I hp0)) fun H7 e7 => ?_
          refine s_asg (ev_is (ev_op (ev_var rfl) ev_c (rv_I ⟨by decide, by decide⟩)) (congrArg V.int (show (l : Int) / 2 = ((l / 2 : Nat) : Int) by omega))) fun H8 e8 => ⟨rfl, (((e4.trans e5).trans e6).trans e7).trans e8⟩
    · have hl0 : l = 0 := by
        have := of_decide_eq_false hb
        omega
      have hf : f = pwF 14 1 b' l'.toNat p := by
        rw [← hpw, hl0]
        cases k with
        | zero => rfl
        | succ j => rfl
      exact s_ret (ev_is (ev_var rfl) (congrArg V.int hf)) fun H6 e6 => q H6 ((e4.trans e5).trans e6)

end
end HA

end
section
set_option maxRecDepth 100000
set_option maxHeartbeats 4000000
namespace HA
open PySem PySem.Spec PyProof.Rows L2 Evl
section
variable {P : Program} {w : World} {K : PySem.W.Frag} {mg : Str → Option Value} {base : Heap}
theorem ok_L_sign (T : Txt K mg) : FnOk P w K mg base CX0 2 T.a_L_sign T.d_L_sign ["_law_part", "_law_row", "_law_place"] sp_L_sign := by
  refine T.F_L_sign.ok sc_L_sign (fun vs H Q E h => ?_) (fun cdv A outer s H vs Q E hr h => ?_)
  · obtain ⟨p, r, c, rfl, _⟩ := h
    rfl
  · obtain ⟨p, r, c, rfl, hp1, hp2, q⟩ := h
    have G_L_power := ok_L_power (P := P) (w := w) (base := base) T
    refine ⟨_, pss_cons (ps_if (pt_cmpR op_eq (pv 0) pe_int (nomark _)) (pss_one (ps_ret (pe_ifExp (PW.pt (pw_and (pt_cmpR op_eq (pv 1) pe_int (nomark _)) (pw_and1 (pt_cmpR op_eq (pv 2) pe_int (nomark _))))) (pe_un un_neg pe_int) pe_int))) (pss_nil))
      (pss_cons (ps_if (PW.pt (pw_or (pt_cmpR op_eq (pv 1) pe_int (nomark _)) (pw_or1 (pt_cmpR op_eq (pv 1) (pv 2) (nomark _))))) (pss_one (ps_ret (pe_int))) (pss_nil))
      (pss_cons (ps_if (pt_cmpR op_eq (pv 2) pe_int (nomark _)) (pss_one (ps_ret (pe_un un_neg pe_int))) (pss_nil))
      (pss_one (ps_ret (pe_ifExp (pt_cmpR op_eq (pe_call G_L_power (hr.mono (by decide)) (by rfl) T.g_L_power T.F_L_power.kp T.b_L_power .nil pass0 (pa_cons (pe_op op_mod (pe_op op_sub (pv 2) (pv 1)) (pe_op op_sub (pv 0) pe_int)) (pa_cons (pe_op op_fdiv (pe_op op_sub (pv 0) pe_int) pe_int) (pa_cons (pe_op op_sub (pv 0) pe_int) pa_nil)))) pe_int (nomark _)) pe_int (pe_un un_neg pe_int)))))), ?_⟩
    have fin : ∀ {b : Bool} {v : V} {H' : Hp}, isM p r c = b → v = .int (sg (!b)) → Ex H H' → Q v H' := fun {b v H'} hb hv e => by
      rw [hv, ← hb]
      exact q H' e
    refine q_when (b := decide (p = 2)) (et_is (et_test (ev_op (ev_var rfl) ev_c (rv_eq rfl))) (dec_intB _ _)) (fun hb H1 e1 => ?_) fun hb H1 e1 => ?_
    · have hm : isM p r c = (decide (r = 1) && decide (c = 1)) := by
        unfold isM
        rw [if_pos (of_decide_eq_true hb)]
      refine s_retIf (b := decide (r = 1) && decide (c = 1)) (et_is (et_and (et_test (ev_op (ev_var rfl) ev_c (rv_eq rfl))) fun _ => et_test (ev_op (ev_var rfl) ev_c (rv_eq rfl))) (by rw [dec_intB, dec_intB])) (fun hz H2 e2 => ?_) fun hz H2 e2 => ?_
      · exact s_ret (ev_un ev_c ru_neg) fun H3 e3 => fin (hm.trans hz) rfl ((e1.trans e2).trans e3)
      · exact s_ret ev_c fun H3 e3 => fin (hm.trans hz) rfl ((e1.trans e2).trans e3)
    · have hb' := of_decide_eq_false hb
      refine q_when (b := (decide (r = 0) || decide (r = c))) (et_is (et_or (et_test (ev_op (ev_var rfl) ev_c (rv_eq rfl))) fun _ => et_test (ev_op (ev_var rfl) (ev_var rfl) (rv_eq rfl))) (by rw [dec_intB, dec_intB])) (fun hz H2 e2 => ?_) fun hz H2 e2 => ?_
      · have hm : isM p r c = false := by
          unfold isM
          rw [if_neg hb', if_pos hz]
        exact s_ret ev_c fun H3 e3 => fin hm rfl ((e1.trans e2).trans e3)
      · have hm : isM p r c = (decide (c = 0) || !isSqr (c - r) (p - 1)) := by
          unfold isM
          rw [if_neg hb', if_neg (by rw [hz]; decide)]
        have E2 := e1.trans e2
        refine q_when (b := decide (c = 0)) (et_is (et_test (ev_op (ev_var rfl) ev_c (rv_eq rfl))) (dec_intB _ _)) (fun hc H3 e3 => ?_) fun hc H3 e3 => ?_
        · rw [hc] at hm
          exact s_ret (ev_un ev_c ru_neg) fun H4 e4 => fin (hm.trans rfl) rfl ((E2.trans e3).trans e4)
        · rw [hc] at hm
          have hp0 : (0 : Int) < p - 1 := by omega
          have b0 := Int.emod_nonneg (c - r) (show p - 1 ≠ 0 by omega)
          have b1 := Int.emod_lt_of_pos (c - r) hp0
          have hq : isSqr (c - r) (p - 1) = decide (pwF 14 1 ((c - r) % (p - 1)) ((p - 2) / 2).toNat (p - 1) = 1) := by
            unfold isSqr
            rw [show p - 1 - 1 = p - 2 by omega]
          refine s_retIf (b := isSqr (c - r) (p - 1)) (et_is (et_test (ev_op (ev_call (z := .int (pwF 14 1 ((c - r) % (p - 1)) ((p - 2) / 2).toNat (p - 1))) (ea_cons (ev_op (ev_op (ev_var rfl) (ev_var rfl) rv_I0) (ev_op (ev_var rfl) ev_c rv_I0) (rv_I hp0)) (ea_cons (ev_op (ev_op (ev_var rfl) ev_c rv_I0) ev_c (rv_I ⟨by decide, by decide⟩)) (ea_cons (ev_op (ev_var rfl) ev_c rv_I0) ea_nil))) fun H5 e5 Q5 q5 _ => ⟨_, _, _, rfl, by omega, by omega, by omega, by omega, b0, by omega, q5⟩) ev_c (rv_eq rfl))) (by rw [dec_intB, hq])) (fun hz H4 e4 => ?_) fun hz H4 e4 => ?_
          · rw [hz] at hm
            exact s_ret ev_c fun H5 e5 => fin (hm.trans rfl) rfl (((E2.trans e3).trans e4).trans e5)
          · rw [hz] at hm
            exact s_ret (ev_un ev_c ru_neg) fun H5 e5 => fin (hm.trans rfl) rfl (((E2.trans e3).trans e4).trans e5)

end
end HA

end
section
set_option maxRecDepth 100000
set_option maxHeartbeats 4000000
namespace HA
open PySem PySem.Spec PyProof.Rows L2 Evl
section
variable {P : Program} {w : World} {K : PySem.W.Frag} {mg : Str → Option Value} {base : Heap}
theorem ok_L_at (T : Txt K mg) : FnOk P w K mg base CX0 3 T.a_L_at T.d_L_at ["_law_parts", "_law_row", "_law_place"] sp_L_at := by
  refine T.F_L_at.ok sc_L_at (fun vs H Q E h => ?_) (fun cdv A outer s H vs Q E hr h => ?_)
  · obtain ⟨a, ps, r, c, rfl, _⟩ := h
    rfl
  · obtain ⟨a, ps, r, c, rfl, hP, hg, q⟩ := h
    have G_L_sign := ok_L_sign (P := P) (w := w) (base := base) T
    refine ⟨_, pss_cons (ps_set (i := 3) sc_L_at.nd rfl (.inl rfl) pe_int)
      (pss_cons (ps_set (i := 4) sc_L_at.nd rfl (.inl rfl) pe_int)
      (pss_cons (ps_for PassesOwn.never (by rfl) (pi_list (pv 0)) (pg_name (i := 5) sc_L_at.nd rfl (.inl rfl))
        (pss_one (ps_set (i := 4) sc_L_at.nd rfl (.inl rfl) (pe_op op_mul (pv 4) (pv 5)))))
      (pss_cons (ps_for PassesOwn.never (by rfl) (pi_list (pv 0)) (pg_name (i := 5) sc_L_at.nd rfl (.inl rfl))
        (pss_cons (ps_set (i := 4) sc_L_at.nd rfl (.inl rfl) (pe_op op_fdiv (pv 4) (pv 5)))
        (pss_one (ps_set (i := 3) sc_L_at.nd rfl (.inl rfl) (pe_op op_mul (pv 3) (pe_call G_L_sign (hr.mono (by decide)) (by rfl) T.g_L_sign T.F_L_sign.kp T.b_L_sign .nil pass0 (pa_cons (pv 5) (pa_cons (pe_op op_mod (pe_op op_fdivW (pv 1) (pv 4)) (pv 5)) (pa_cons (pe_op op_mod (pe_op op_fdivW (pv 2) (pv 4)) (pv 5)) pa_nil)))))))))
      (pss_one (ps_ret (pe_ifExp (pt_cmpR op_eq (pv 3) pe_int (nomark _)) pe_str pe_str)))))), ?_⟩
    refine q_asg ev_c fun H1 e1 => ?_
    refine q_asg ev_c fun H2 e2 => ?_
    have hP2 := hP.ex (e1.trans e2)
    refine q_forLn (K := K) (ev_var rfl) (sq_of hP2.1) (fun i σ' H' => ∃ v5, σ' = [some (.ref a), some (.int r), some (.int c), some (.int 1), some (.int (prodI (ps.take i))), v5] ∧ Ex H2 H') (fun H3 e3 => ⟨_, rfl, e3⟩) (fun i σ' H3 _ hp => ?_) (fun i x σ' H3 hx hp => ?_) (fun σ' H3 hp => ?_)
    · obtain ⟨v5, rfl, e3⟩ := hp
      exact sq_of (hP2.ex e3).1
    · obtain ⟨v5, rfl, e3⟩ := hp
      obtain ⟨hi, rfl⟩ := intG ps hx
      have hb := hg.2 _ (List.getElem_mem hi)
      exact s_asg (ev_is (ev_op (ev_var rfl) (ev_var rfl) (rv_I (.inr ⟨by omega, by omega⟩))) (congrArg V.int (prod_take hi).symm)) fun H4 e4 => ⟨_, rfl, e3.trans e4⟩
    · obtain ⟨v5, rfl, e3⟩ := hp
      rw [List.length_map, List.take_length]
      refine q_forLn (K := K) (ev_var rfl) (sq_of (hP2.ex e3).1) (fun i σ' H' => ∃ v5 x, σ' = [some (.ref a), some (.int r), some (.int c), some (.int (sg (!x))), some (.int (prodI (ps.drop i))), v5] ∧ (x != mA (ps.drop i) r c) = mA ps r c ∧ Ex H2 H') (fun H4 e4 => ⟨_, false, rfl, ?_, e3.trans e4⟩) (fun i σ' H4 _ hp => ?_) (fun i x σ' H4 hx hp => ?_) (fun σ' H4 hp => ?_)
      · rw [List.drop_zero]
        cases mA ps r c <;> rfl
      · obtain ⟨v5, x, rfl, _, e4⟩ := hp
        exact sq_of (hP2.ex e4).1
      · obtain ⟨v5, y, rfl, hy, e4⟩ := hp
        obtain ⟨hi, rfl⟩ := intG ps hx
        have hb := hg.2 _ (List.getElem_mem hi)
        have hpos := prod_pos (gp_drop hg (i + 1))
        have hlog := prod_log (gp_drop hg (i + 1)) (Nat.le_trans (by rw [List.length_drop]; exact Nat.sub_le _ _) hg.1)
        rw [drop_at hi] at hy ⊢
        generalize ps[i] = p at hb hy
        generalize ps.drop (i + 1) = su at hpos hlog hy
        have hp0 : (0 : Int) < p := by omega
        have ed : prodI (p :: su) / p = prodI su := Int.mul_ediv_cancel_left _ (by omega)
        refine q_asg (ev_is (ev_op (ev_var rfl) (ev_var rfl) (rv_I ⟨hp0, by omega⟩)) (congrArg V.int ed)) fun H5 e5 => ?_
        refine s_asg (v := .int (sg (!(y != isM p (r / prodI su % p) (c / prodI su % p))))) (ev_is (ev_op (ev_var rfl) (ev_call (z := .int (sg (!isM p (r / prodI su % p) (c / prodI su % p)))) (ea_cons (ev_var rfl) (ea_cons (ev_op (ev_op (ev_var rfl) (ev_var rfl) (rv_I ⟨hpos, hlog⟩)) (ev_var rfl) (rv_I hp0)) (ea_cons (ev_op (ev_op (ev_var rfl) (ev_var rfl) (rv_I ⟨hpos, hlog⟩)) (ev_var rfl) (rv_I hp0)) ea_nil))) fun H7 e7 Q7 q7 _ => ⟨_, _, _, rfl, hb.1, hb.2, q7⟩) (rv_I (.inl ?_))) ?_) fun H6 e6 => ⟨_, (y != isM p (r / prodI su % p) (c / prodI su % p)), rfl, ?_, (e4.trans e5).trans e6⟩
        · cases y <;> exact ⟨by decide, by decide⟩
        · have z : sg (!y) * sg (!isM p (r / prodI su % p) (c / prodI su % p)) = sg (!(y != isM p (r / prodI su % p) (c / prodI su % p))) := by
            cases y <;> cases isM p (r / prodI su % p) (c / prodI su % p) <;> rfl
          rw [z]
        · rw [← hy]
          show _ = (y != (isM p (r / prodI su % p) (c / prodI su % p) != mA su r c))
          cases y <;> cases isM p (r / prodI su % p) (c / prodI su % p) <;> cases mA su r c <;> rfl
      · obtain ⟨v5, y, rfl, hy, e4⟩ := hp
        rw [List.length_map, List.drop_length] at hy
        have hy' : y = mA ps r c := by
          rw [← hy]
          cases y <;> rfl
        subst hy'
        refine s_ret (v := .str (sgS (!mA ps r c))) (ev_if (b := !mA ps r c) (et_is (et_test (ev_op (ev_var rfl) ev_c (rv_eq rfl))) ?_) (fun hb => ?_) fun hb => ?_) fun H5 e5 => q H5 (((e1.trans e2).trans e4).trans e5)
        · rw [dec_intB]
          cases mA ps r c <;> rfl
        · rw [hb]
          exact ev_is ev_c (congrArg V.str sg_plus)
        · rw [hb]
          exact ev_is ev_c (congrArg V.str sg_minus)

end
end HA

end
section
set_option maxRecDepth 100000
set_option maxHeartbeats 4000000
namespace HA
open PySem PySem.Spec PyProof.Rows L2 Evl
section
variable {P : Program} {w : World} {K : PySem.W.Frag} {mg : Str → Option Value} {base : Heap}
theorem ok_L_too_great (T : Txt K mg) : FnOk P w K mg base CX0 5 T.a_L_too_great T.d_L_too_great ["_law_parts"] sp_L_too_great := by
  refine T.F_L_too_great.ok sc_L_too_great (fun vs H Q E h => ?_) (fun cdv A outer s H vs Q E hr h => ?_)
  · obtain ⟨a, ps, rfl, _⟩ := h
    rfl
  · obtain ⟨a, ps, rfl, hP, hall, hgt, q⟩ := h
    have G_made := ok_made (P := P) (w := w) (base := base) T
    refine ⟨_, pss_cons (L2N.ps_try_as (i := 1) rfl rfl sc_L_too_great.nd rfl rfl ⟨rfl, rfl, .inl T.g_SignError⟩ takesN (fun W pn xe tk po => pss_one (ps_expr (pe_callS G_made (hr.mono (by decide)) (by rfl) T.g_made T.F_made.kp T.b_made (fun σ => L2N.passAt tk σ) (pa_cons (pv 0) pa_nil)))) (fun a oe cls d pn hz hf => pss_cons (ps_set (i := 2) sc_L_too_great.nd rfl (.inl rfl) (pe_lst (pa_cons (pe_callB (call_isG hz.zc hf) (by rfl) T.m_isinstance (by decide +kernel) (pa_cons (pv 1) (pa_cons (pe_glob (v := .ref T.C_BadNumbers) (by rfl) T.g_BadNumbers rfl) pa_nil))) (pa_cons (pe_callB (call_isG hz.zc hf) (by rfl) T.m_isinstance (by decide +kernel) (pa_cons (pv 1) (pa_cons (pe_glob (v := .ref T.C_BadParts) (by rfl) T.g_BadParts rfl) pa_nil))) (pa_cons (pe_callB (call_isG hz.zc hf) (by rfl) T.m_isinstance (by decide +kernel) (pa_cons (pv 1) (pa_cons (pe_glob (v := .ref T.C_BadPlace) (by rfl) T.g_BadPlace rfl) pa_nil))) pa_nil)))))
        (pss_cons (ps_set (i := 2) sc_L_too_great.nd rfl (.inl rfl) (pe_op op_cat (pv 2) (pe_lst (pa_cons (pe_callB (call_isG hz.zc hf) (by rfl) T.m_isinstance (by decide +kernel) (pa_cons (pv 1) (pa_cons (pe_glob (v := .ref T.C_BadSigns) (by rfl) T.g_BadSigns rfl) pa_nil))) (pa_cons (pe_callB (call_isG hz.zc hf) (by rfl) T.m_isinstance (by decide +kernel) (pa_cons (pv 1) (pa_cons (pe_glob (v := .ref T.C_BadTable) (by rfl) T.g_BadTable rfl) pa_nil))) (pa_cons (pe_callB (call_isG hz.zc hf) (by rfl) T.m_isinstance (by decide +kernel) (pa_cons (pv 1) (pa_cons (pe_glob (v := .ref T.C_NoNumbers) (by rfl) T.g_NoNumbers rfl) pa_nil))) pa_nil))))))
        (pss_one (ps_ret (pe_and (pe_callB (call_isG hz.zc hf) (by rfl) T.m_isinstance (by decide +kernel) (pa_cons (pv 1) (pa_cons (pe_glob (v := .ref T.C_TooGreat) (by rfl) T.g_TooGreat rfl) pa_nil))) (pe_one (pe_not (pe_callB (cr_anyS hz hf) (by rfl) T.m_any (by decide +kernel) (pa_cons (pv 2) pa_nil))))))))))
      (pss_one (ps_ret (pe_bl))), ?_⟩
    refine ⟨.ref a, rfl, a, ps, rfl, hP, hall, fun n hn hn2 => absurd hgt (by omega), fun _ H1 e1 => ?_⟩
    refine ⟨true, T.em_TooGreat_SignError, fun _ ae hae => ?_, fun hz => nomatch hz⟩
    have isi : ∀ {σ : L2.St} {H' : Hp} {ta : TE} {C : Addr} {bb : Bool}, Ev ta σ H' (.ref ae) → PySem.W.kitOne K (.ref T.C_TooGreat) (.ref C) = some bb → Ev (tCB (rIsG K (.ref T.C_TooGreat) none ae) (tCons ta (tCons (tC (.ref C)) tNil))) σ H' (.bl bb) := fun {σ H' ta C bb} h k =>
      ev_cb (ea_cons h (ea_cons ev_c ea_nil)) fun H2 e2 Q2 q2 => ⟨T.C_TooGreat, rfl, rfl, T.ec_TooGreat, .ref C, .ref C, bb, rfl, fun w hw => by cases hw; rfl, k, q2 H2 (Ex.refl H2)⟩
    refine q_asgL (el_lst (ea_cons (isi (ev_var rfl) T.ek_TooGreat_BadNumbers) (ea_cons (isi (ev_var rfl) T.ek_TooGreat_BadParts) (ea_cons (isi (ev_var rfl) T.ek_TooGreat_BadPlace) ea_nil))) (by show 3 ≤ 100000; decide)) fun po H2 hpo e2 h2 => ?_
    refine q_asgL (el_catV (ev_var rfl) h2 (el_lst (ea_cons (isi (ev_var rfl) T.ek_TooGreat_BadSigns) (ea_cons (isi (ev_var rfl) T.ek_TooGreat_BadTable) (ea_cons (isi (ev_var rfl) T.ek_TooGreat_NoNumbers) ea_nil))) (by show 3 ≤ 100000; decide)) (by show 3 + 3 ≤ 100000; decide)) fun p2 H3 hp2 e3 h3 => ?_
    refine s_ret (v := .bl true) (ev_is (ev_andV (isi (ev_var rfl) T.ek_TooGreat_TooGreat) fun _ => ev_notV (ev_cb (z := .bl false) (ea_cons (ev_var rfl) ea_nil) fun H4 e4 Q4 q4 => ⟨p2, [false, false, false, false, false, false], rfl, sq_of (e4 p2 _ h3), q4 H4 (Ex.refl H4)⟩)) rfl) fun H4 e4 => q H4 (((e1.trans e2).trans e3).trans e4)

end
end HA

end
section
set_option maxRecDepth 100000
set_option maxHeartbeats 4000000
namespace HA
open PySem PySem.Spec PyProof.Rows L2 Evl
section
variable {P : Program} {w : World} {K : PySem.W.Frag} {mg : Str → Option Value} {base : Heap}
theorem ok_L_prime (T : Txt K mg) : FnOk P w K mg base CX0 1 T.a_L_prime T.d_L_prime ["_law_number_here"] sp_is_prime := by
  refine T.F_L_prime.ok sc_L_prime (fun vs H Q E h => ?_) (fun cdv A outer s H vs Q E hr h => ?_)
  · obtain ⟨n, rfl, _⟩ := h
    rfl
  · obtain ⟨n, rfl, hn, q⟩ := h
    refine ⟨_, pss_cons (ps_set (i := 1) sc_L_prime.nd rfl (.inl rfl) pe_int)
      (pss_cons (ps_while PassesOwn.never (pt_cmpR op_le (pe_op op_mul (pv 1) (pv 1)) (pv 0) (nomark _))
        (pss_cons (ps_if (pt_cmpR op_eq (pe_op op_mod (pv 0) (pv 1)) pe_int (nomark _)) (pss_one (ps_ret (pe_bl))) (pss_nil))
        (pss_one (ps_set (i := 1) sc_L_prime.nd rfl (.inl rfl) (pe_op op_add (pv 1) pe_int)))))
      (pss_one (ps_ret (pe_cmpR op_gt (pv 0) pe_int (nomark _))))), ?_⟩
    refine q_asg ev_c fun H1 e1 => ?_
    refine q_while (fun k σ' H' => ∃ b : Int, σ' = [some (.int n), some (.int b)] ∧ Ex H H' ∧ prF k b n = isPr n ∧ b + (k : Int) = 102 ∧ 2 ≤ b ∧ 1 ≤ k) 100 ⟨2, rfl, e1, rfl, by decide, by decide, by decide⟩ (fun k σ' H2 hw => ?_)
    obtain ⟨b, rfl, e2, hp, hk, hb2, hk1⟩ := hw
    obtain ⟨j, rfl⟩ : ∃ j, k = j + 1 := ⟨k - 1, by omega⟩
    have hp' : (if b * b ≤ n then (if n % b = 0 then false else prF j (b + 1) n) else decide (n > 1)) = isPr n := hp
    refine ⟨decide (b * b ≤ n), et_test (ev_op (ev_op (ev_var rfl) (ev_var rfl) (rv_I (.inl ⟨by omega, by omega⟩))) (ev_var rfl) rv_I0), fun hb H3 e3 => ?_, fun hb H3 e3 => ?_⟩
    · have hb' := of_decide_eq_true hb
      have hb9 : b ≤ 99 := by
        apply Classical.byContradiction
        intro hc
        have := Int.mul_le_mul (show (100 : Int) ≤ b by omega) (show (100 : Int) ≤ b by omega) (by decide) (by omega)
        omega
      rw [if_pos hb'] at hp'
      refine ⟨fun σ' H' => σ' = [some (.int n), some (.int (b + 1))] ∧ Ex H H' ∧ n % b ≠ 0, fun σ2 H4 h4 => ?_, ?_⟩
      · obtain ⟨rfl, e4, hne⟩ := h4
        rw [if_neg hne] at hp'
        exact ⟨j, Nat.lt_succ_self j, b + 1, rfl, e4, hp', by omega, by omega, by omega⟩
      · refine q_when (b := decide (n % b = 0)) (et_is (et_test (ev_op (ev_op (ev_var rfl) (ev_var rfl) (rv_I (show (0 : Int) < b by omega))) ev_c (rv_eq rfl))) (dec_intB _ _)) (fun hz H4 e4 => ?_) fun hz H4 e4 => ?_
        · rw [if_pos (of_decide_eq_true hz)] at hp'
          refine s_ret ev_c fun H5 e5 => ?_
          have z := q H5 (((e2.trans e3).trans e4).trans e5)
          rw [← hp'] at z
          exact z
        · exact s_asg (ev_op (ev_var rfl) ev_c rv_I0) fun H5 e5 => ⟨rfl, ((e2.trans e3).trans e4).trans e5, of_decide_eq_false hz⟩
    · have hb' : ¬ b * b ≤ n := of_decide_eq_false hb
      rw [if_neg hb'] at hp'
      refine s_ret (v := .bl (decide (n > 1))) (ev_op (ev_var rfl) ev_c rv_I0) fun H4 e4 => ?_
      rw [hp']
      exact q H4 ((e2.trans e3).trans e4)

end
end HA

end
section
set_option maxRecDepth 100000
set_option maxHeartbeats 4000000
namespace HA
open PySem PySem.Spec PyProof.Rows L2 Evl
section
variable {P : Program} {w : World} {K : PySem.W.Frag} {mg : Str → Option Value} {base : Heap}
theorem ok_L_part_right (T : Txt K mg) : FnOk P w K mg base CX0 5 T.a_L_part_right T.d_L_part_right ["_law_thing", "_law_cell"] sp_L_part_right := by
  refine T.F_L_part_right.ok sc_L_part_right (fun vs H Q E h => ?_) (fun cdv A outer s H vs Q E hr h => ?_)
  · obtain ⟨k, c, rfl, _⟩ := h
    rfl
  · obtain ⟨k, c, rfl, hk, q⟩ := h
    have G_L_prime := ok_L_prime (P := P) (w := w) (base := base) T
    have G_order := ok_order (P := P) (w := w) (base := base) T
    have G_sign_at := ok_sign_at (P := P) (w := w) (base := base) T
    have G_L_at := ok_L_at (P := P) (w := w) (base := base) T
    refine ⟨_, pss_cons (ps_if (pt_val (pe_call G_L_prime (hr.mono (by decide)) (by rfl) T.g_L_prime T.F_L_prime.kp T.b_L_prime .nil pass0 (pa_cons (pe_op op_sub (pv 0) pe_int) pa_nil))) (pss_cons (ps_par (i := 2) (j := 3) (by rfl) sc_L_part_right.nd rfl rfl (by decide) rfl rfl (pa_cons (pe_op op_mod (pv 1) (pv 0)) (pa_cons (pe_op op_mod (pe_op op_fdiv (pv 1) pe_int) (pv 0)) pa_nil)) (by rfl))
        (pss_cons (ps_if (PW.pt (pw_or (pt_cmpR op_ne (pe_call G_order (hr.mono (by decide)) (by rfl) T.g_order T.F_order.kp T.b_order .nil passLN (pa_cons (pe_lst (pa_cons (pv 0) (pa_cons pe_int pa_nil))) pa_nil)) (pe_op op_mul pe_int (pv 0)) (nomark _)) (pw_or1 (pt_cmpR op_ne (pe_call G_sign_at (hr.mono (by decide)) (by rfl) T.g_sign_at T.F_sign_at.kp T.b_sign_at .nil pass0 (pa_cons (pe_lst (pa_cons (pv 0) pa_nil)) (pa_cons (pv 2) (pa_cons (pv 3) pa_nil)))) (pe_call G_L_at (hr.mono (by decide)) (by rfl) T.g_L_at T.F_L_at.kp T.b_L_at .nil pass0 (pa_cons (pe_lst (pa_cons (pv 0) pa_nil)) (pa_cons (pv 2) (pa_cons (pv 3) pa_nil)))) (nomark _))))) (pss_one (ps_ret (pe_bl))) (pss_nil))
        (pss_one (ps_ret (pe_cmpR op_eq (pe_call G_sign_at (hr.mono (by decide)) (by rfl) T.g_sign_at T.F_sign_at.kp T.b_sign_at .nil pass0 (pa_cons (pe_lst (pa_cons pe_int (pa_cons (pv 0) pa_nil))) (pa_cons (pe_op op_add (pv 0) (pv 3)) (pa_cons (pv 2) pa_nil)))) (pe_call G_L_at (hr.mono (by decide)) (by rfl) T.g_L_at T.F_L_at.kp T.b_L_at .nil pass0 (pa_cons (pe_lst (pa_cons pe_int (pa_cons (pv 0) pa_nil))) (pa_cons (pe_op op_add (pv 0) (pv 3)) (pa_cons (pv 2) pa_nil)))) (nomark _)))))) (pss_nil))
      (pss_cons (L2N.ps_try_as (i := 4) rfl rfl sc_L_part_right.nd rfl rfl ⟨rfl, rfl, .inl T.g_SignError⟩ takesN (fun W pn xe tk po => pss_one (ps_expr (pe_callS G_order (hr.mono (by decide)) (by rfl) T.g_order T.F_order.kp T.b_order (fun σ => L2N.passAt tk σ) (pa_cons (pe_lst (pa_cons pe_int (pa_cons (pv 0) pa_nil))) pa_nil)))) (fun a oe cls d pn hz hf => pss_cons (ps_set (i := 5) sc_L_part_right.nd rfl (.inl rfl) (pe_lst (pa_cons (pe_callB (call_isG hz.zc hf) (by rfl) T.m_isinstance (by decide +kernel) (pa_cons (pv 4) (pa_cons (pe_glob (v := .ref T.C_BadNumbers) (by rfl) T.g_BadNumbers rfl) pa_nil))) (pa_cons (pe_callB (call_isG hz.zc hf) (by rfl) T.m_isinstance (by decide +kernel) (pa_cons (pv 4) (pa_cons (pe_glob (v := .ref T.C_TooGreat) (by rfl) T.g_TooGreat rfl) pa_nil))) (pa_cons (pe_callB (call_isG hz.zc hf) (by rfl) T.m_isinstance (by decide +kernel) (pa_cons (pv 4) (pa_cons (pe_glob (v := .ref T.C_BadPlace) (by rfl) T.g_BadPlace rfl) pa_nil))) pa_nil)))))
        (pss_cons (ps_set (i := 5) sc_L_part_right.nd rfl (.inl rfl) (pe_op op_cat (pv 5) (pe_lst (pa_cons (pe_callB (call_isG hz.zc hf) (by rfl) T.m_isinstance (by decide +kernel) (pa_cons (pv 4) (pa_cons (pe_glob (v := .ref T.C_BadSigns) (by rfl) T.g_BadSigns rfl) pa_nil))) (pa_cons (pe_callB (call_isG hz.zc hf) (by rfl) T.m_isinstance (by decide +kernel) (pa_cons (pv 4) (pa_cons (pe_glob (v := .ref T.C_BadTable) (by rfl) T.g_BadTable rfl) pa_nil))) (pa_cons (pe_callB (call_isG hz.zc hf) (by rfl) T.m_isinstance (by decide +kernel) (pa_cons (pv 4) (pa_cons (pe_glob (v := .ref T.C_NoNumbers) (by rfl) T.g_NoNumbers rfl) pa_nil))) pa_nil))))))
        (pss_one (ps_ret (pe_and (pe_callB (call_isG hz.zc hf) (by rfl) T.m_isinstance (by decide +kernel) (pa_cons (pv 4) (pa_cons (pe_glob (v := .ref T.C_BadParts) (by rfl) T.g_BadParts rfl) pa_nil))) (pe_one (pe_not (pe_callB (cr_anyS hz hf) (by rfl) T.m_any (by decide +kernel) (pa_cons (pv 5) pa_nil))))))))))
      (pss_one (ps_ret (pe_bl)))), ?_⟩
    obtain ⟨z, hz⟩ : ∃ z : Int, z = 4 + 4 * (k : Int) := ⟨_, rfl⟩
    rw [← hz]
    have hz4 : 4 ≤ z := by omega
    have hzm : z ≤ 10000 := by omega
    have hz0 : (0 : Int) < z := by omega
    have hip : isPart z = isPr (z - 1) := by
      unfold isPart
      rw [decide_eq_true (show 2 ≤ z by omega), decide_eq_true hzm, decide_eq_false (show ¬ z = 2 by omega), decide_eq_true (show z % 4 = 0 by omega)]
      rfl
    have h2p : isPart 2 = true := by decide +kernel
    refine q_when (b := isPr (z - 1)) (et_B (ev_call (ea_cons (ev_op (ev_var rfl) ev_c rv_I0) ea_nil) fun H3 e3 Q3 q3 _ => ⟨_, rfl, by omega, q3⟩)) (fun hb H1 e1 => ?_) fun hb H1 e1 => ?_
    · have hp : isPart z = true := hip.trans hb
      refine q_par (ea_cons (ev_op (ev_var rfl) (ev_var rfl) (rv_I hz0)) (ea_cons (ev_op (ev_op (ev_var rfl) ev_c (rv_I ⟨by decide, by decide⟩)) (ev_var rfl) (rv_I hz0)) ea_nil)) fun H2 e2 => ?_
      have r0 := Int.emod_nonneg c (show z ≠ 0 by omega)
      have r1 := Int.emod_lt_of_pos c hz0
      have t0 := Int.emod_nonneg (c / 7) (show z ≠ 0 by omega)
      have t1 := Int.emod_lt_of_pos (c / 7) hz0
      generalize c % z = r at r0 r1
      generalize c / 7 % z = t at t0 t1
      have p1 : prodI [z] = z := Int.mul_one z
      have p2 : prodI [2, z] = 2 * z := by
        show 2 * (z * 1) = 2 * z
        rw [Int.mul_one]
      have p3 : prodI [z, 2] = 2 * z := by
        show z * (2 * 1) = 2 * z
        omega
      have a1 : [z].all isPart = true := by
        rw [List.all_cons, hp]
        rfl
      have a2 : [2, z].all isPart = true := by
        rw [List.all_cons, List.all_cons, hp, h2p]
        rfl
      have a3 : [z, 2].all isPart = true := by
        rw [List.all_cons, List.all_cons, hp, h2p]
        rfl
      refine q_when (b := false) ?_ (fun hz => nomatch hz) fun _ H3 e3 => ?_
      · refine et_is (et_or (et_test (ev_op (ev_callLA (xs := [.int z, .int 2]) (vs := []) (z := .int (prodI [z, 2])) (el_lst (ea_cons (ev_var rfl) (ea_cons ev_c ea_nil)) (by show 2 ≤ 100000; decide)) ea_nil fun p H3 e3 h3 H4 e4 Q4 q4 _ => ⟨p, [z, 2], rfl, ⟨e4 p _ h3, by show 2 ≤ 600; decide⟩, fun _ => q4, fun hn => absurd (hn.symm.trans a3) (by decide)⟩) (ev_op ev_c (ev_var rfl) (rv_I (.inl ⟨by decide, by decide⟩))) (rv_ne rfl))) fun _ =>
          et_test (ev_op (ev_callLA (xs := [.int z]) (vs := [.int r, .int t]) (z := .str (sgS (!mA [z] r t))) (el_lst (ea_cons (ev_var rfl) ea_nil) (by show 1 ≤ 100000; decide)) (ea_cons (ev_var rfl) (ea_cons (ev_var rfl) ea_nil)) fun p H3 e3 h3 H4 e4 Q4 q4 _ => ⟨p, [z], r, t, rfl, ⟨e4 p _ h3, by show 1 ≤ 600; decide⟩, a1, r0, by omega, t0, by omega, q4⟩)
            (ev_callLA (xs := [.int z]) (vs := [.int r, .int t]) (z := .str (sgS (!mA [z] r t))) (el_lst (ea_cons (ev_var rfl) ea_nil) (by show 1 ≤ 100000; decide)) (ea_cons (ev_var rfl) (ea_cons (ev_var rfl) ea_nil)) fun p H3 e3 h3 H4 e4 Q4 q4 _ => ⟨p, [z], r, t, rfl, ⟨e4 p _ h3, by show 1 ≤ 600; decide⟩, gp_of (by show 1 ≤ 600; decide) a1, q4⟩) (rv_ne rfl))) ?_
        rw [p3, decide_eq_true rfl, decide_eq_true rfl]
        rfl
      · refine s_ret (v := .bl true) (ev_is (ev_op (ev_callLA (xs := [.int 2, .int z]) (vs := [.int (z + t), .int r]) (z := .str (sgS (!mA [2, z] (z + t) r))) (el_lst (ea_cons ev_c (ea_cons (ev_var rfl) ea_nil)) (by show 2 ≤ 100000; decide)) (ea_cons (ev_op (ev_var rfl) (ev_var rfl) rv_I0) (ea_cons (ev_var rfl) ea_nil)) fun p H4 e4 h4 H5 e5 Q5 q5 _ => ⟨p, [2, z], z + t, r, rfl, ⟨e5 p _ h4, by show 2 ≤ 600; decide⟩, a2, by omega, by omega, r0, by omega, q5⟩)
            (ev_callLA (xs := [.int 2, .int z]) (vs := [.int (z + t), .int r]) (z := .str (sgS (!mA [2, z] (z + t) r))) (el_lst (ea_cons ev_c (ea_cons (ev_var rfl) ea_nil)) (by show 2 ≤ 100000; decide)) (ea_cons (ev_op (ev_var rfl) (ev_var rfl) rv_I0) (ea_cons (ev_var rfl) ea_nil)) fun p H4 e4 h4 H5 e5 Q5 q5 _ => ⟨p, [2, z], z + t, r, rfl, ⟨e5 p _ h4, by show 2 ≤ 600; decide⟩, gp_of (by show 2 ≤ 600; decide) a2, q5⟩) (rv_eq rfl)) ?_) fun H4 e4 => q H4 (((e1.trans e2).trans e3).trans e4)
        rw [decide_eq_true rfl]
    · have hno : [2, z].all isPart = false := by
        rw [List.all_cons, List.all_cons, hip, hb, h2p]
        rfl
      refine ⟨.int z, rfl, sz_of (show 2 ≤ 100000 by decide), fun pl hpl => ⟨pl, [2, z], rfl, ⟨upd_same, by show 2 ≤ 600; decide⟩, fun hy => absurd (hy.symm.trans hno) (by decide), fun _ H2 e2' => ?_⟩⟩
      have e2 : Ex H1 H2 := (Ex.new hpl).trans e2'
      refine ⟨true, T.em_BadParts_SignError, fun _ ae hae => ?_, fun hz => nomatch hz⟩
      have isi : ∀ {σ : L2.St} {H' : Hp} {ta : TE} {C : Addr} {bb : Bool}, Ev ta σ H' (.ref ae) → PySem.W.kitOne K (.ref T.C_BadParts) (.ref C) = some bb → Ev (tCB (rIsG K (.ref T.C_BadParts) none ae) (tCons ta (tCons (tC (.ref C)) tNil))) σ H' (.bl bb) := fun {σ H' ta C bb} h k =>
        ev_cb (ea_cons h (ea_cons ev_c ea_nil)) fun H2 e2 Q2 q2 => ⟨T.C_BadParts, rfl, rfl, T.ec_BadParts, .ref C, .ref C, bb, rfl, fun w hw => by cases hw; rfl, k, q2 H2 (Ex.refl H2)⟩
      refine q_asgL (el_lst (ea_cons (isi (ev_var rfl) T.ek_BadParts_BadNumbers) (ea_cons (isi (ev_var rfl) T.ek_BadParts_TooGreat) (ea_cons (isi (ev_var rfl) T.ek_BadParts_BadPlace) ea_nil))) (by show 3 ≤ 100000; decide)) fun po H3 hpo e3 h3 => ?_
      refine q_asgL (el_catV (ev_var rfl) h3 (el_lst (ea_cons (isi (ev_var rfl) T.ek_BadParts_BadSigns) (ea_cons (isi (ev_var rfl) T.ek_BadParts_BadTable) (ea_cons (isi (ev_var rfl) T.ek_BadParts_NoNumbers) ea_nil))) (by show 3 ≤ 100000; decide)) (by show 3 + 3 ≤ 100000; decide)) fun p2 H4 hp2 e4 h4 => ?_
      refine s_ret (v := .bl true) (ev_is (ev_andV (isi (ev_var rfl) T.ek_BadParts_BadParts) fun _ => ev_notV (ev_cb (z := .bl false) (ea_cons (ev_var rfl) ea_nil) fun H5 e5 Q5 q5 => ⟨p2, [false, false, false, false, false, false], rfl, sq_of (e5 p2 _ h4), q5 H5 (Ex.refl H5)⟩)) rfl) fun H5 e5 => q H5 ((((e1.trans e2).trans e3).trans e4).trans e5)

end
end HA

end
section
set_option maxRecDepth 100000
set_option maxHeartbeats 4000000
namespace HA
open PySem PySem.Spec PyProof.Rows L2 Evl
section
variable {P : Program} {w : World} {K : PySem.W.Frag} {mg : Str → Option Value} {base : Heap}
theorem ok_L_wide_right (T : Txt K mg) : FnOk P w K mg base CX0 5 T.a_L_wide_right T.d_L_wide_right ["_law_parts", "_law_whole"] sp_L_wide2 := by
  refine T.F_L_wide_right.ok sc_L_wide_right (fun vs H Q E h => ?_) (fun cdv A outer s H vs Q E hr h => ?_)
  · obtain ⟨a, ps, n, wh, rfl, _⟩ := h
    rfl
  · obtain ⟨a, ps, n, wh, rfl, hP, hall, hn, hn1, hn2, q⟩ := h
    have G_made := ok_made (P := P) (w := w) (base := base) T
    have G_order := ok_order (P := P) (w := w) (base := base) T
    have G_L_at := ok_L_at (P := P) (w := w) (base := base) T
    refine ⟨_, pss_cons (ps_set (i := 2) sc_L_wide_right.nd rfl (.inl rfl) (pe_call G_made (hr.mono (by decide)) (by rfl) T.g_made T.F_made.kp T.b_made .nil passLN (pa_cons (pv 0) pa_nil)))
      (pss_cons (ps_set (i := 3) sc_L_wide_right.nd rfl (.inl rfl) (pe_call G_order (hr.mono (by decide)) (by rfl) T.g_order T.F_order.kp T.b_order .nil passLN (pa_cons (pv 0) pa_nil)))
      (pss_cons (ps_if (PW.pt (pw_or (pt_not (pt_val (pe_callB call_isi (by rfl) T.m_isinstance (by decide +kernel) (pa_cons (pv 2) (pa_cons (pe_bltn (v := .ty "list") (by rfl) T.m_list (by decide +kernel) rfl) pa_nil))))) (pw_or1 (pt_cmpR op_ne (pe_callB call_len_seq (by rfl) T.m_len (by decide +kernel) (pa_cons (pv 2) pa_nil)) (pv 3) (nomark _))))) (pss_one (ps_ret (pe_bl))) (pss_nil))
      (pss_cons (ps_for PassesOwn.never (by rfl) (pi_list (pe_lst (pa_cons pe_int (pa_cons (pe_op op_sub (pv 3) pe_int) (pa_cons (pe_op op_mod (pv 1) (pv 3)) (pa_cons (pe_op op_mod (pe_op op_fdiv (pv 1) pe_int) (pv 3)) pa_nil)))))) (pg_name (i := 4) sc_L_wide_right.nd rfl (.inr rfl))
        (pss_one (ps_if (pt_cmpR op_ne (pe_ix ix_list (pv 2) (pv 4) (fun _ _ => rfl)) (pe_join pe_str (pe_lc (own := [("_law_place", 5)]) (g := (gName 5)) (tt := tYes) (te := (tCall _ _ _ (tCons (tVar 0) (tCons (tVar 4) (tCons (tVar 5) tNil))))) (by rfl) sc_L_wide_right.nd (pi_range1 (by rfl) T.m_range (pa_cons (pv 3) pa_nil)) (blkOk_by (by kernel_rfl)) (fun _ _ _ _ _ => pg_name (i := 5) sc_L_wide_right.nd rfl (.inl rfl)) (fun _ _ _ _ _ => pts_nil) (fun _ _ _ _ _ => pe_call G_L_at (hr.mono (by decide)) (by rfl) T.g_L_at T.F_L_at.kp T.b_L_at .nil pass0 (pa_cons (pv 0) (pa_cons (pv 4) (pa_cons (pv 5) pa_nil)))))) (nomark _)) (pss_one (ps_ret (pe_bl))) (pss_nil))))
      (pss_one (ps_ret (pe_bl)))))), ?_⟩
    refine q_asgL (xs := tabV n (tabM ps)) (el_call (ea_cons (ev_var rfl) ea_nil) fun H3 e3 Q3 q3 _ => ⟨a, ps, rfl, hP.ex e3, hall, fun m hm hm2 => by rw [hn] at hm; cases Int.ofNat.inj hm; exact q3, fun hgt => absurd hgt (by omega)⟩) fun pt H1 hpt e1 h1 => ?_
    refine q_asg (v := .int (n : Int)) (ev_is (ev_call (z := .int (prodI ps)) (ea_cons (ev_var rfl) ea_nil) fun H3 e3 Q3 q3 _ => ⟨a, ps, rfl, (hP.ex e1).ex e3, fun _ => q3, fun hz => absurd (hz.symm.trans hall) (by decide)⟩) (congrArg V.int hn)) fun H2 e2 => ?_
    have h2t := e2 pt _ h1
    have hn0 : (0 : Int) < (n : Int) := by omega
    refine q_when (b := false) ?_ (fun hz => nomatch hz) fun _ H3 e3 => ?_
    · refine et_is (et_or (et_not (et_B (ev_isi (b := true) (ea_cons (ev_var rfl) (ea_cons ev_c ea_nil)) (.ty _) (fun H3 e3 => .base (.lst (e3 pt _ h2t))) (kit_ty (by decide +kernel))))) fun _ => et_test (ev_op (ev_lenT (K := K) (n := n) (f := tabM ps) (ev_var rfl) (sq_of h2t)) (ev_var rfl) (rv_ne rfl))) ?_
      rw [decide_eq_true rfl]
      rfl
    have h3t := e3 pt _ h2t
    have E3 := (e1.trans e2).trans e3
    obtain ⟨m1, hm1, hm1n⟩ := modNat wh hn1
    obtain ⟨m2, hm2, hm2n⟩ := modNat (wh / 7) hn1
    refine q_forNLn (K := K) (xs := ([0, n - 1, m1, m2] : List Nat).map fun z => V.int ((z : Nat) : Int)) (ev_list (el_lst (ea_cons ev_c (ea_cons (ev_op (ev_var rfl) ev_c rv_I0) (ea_cons (ev_op (ev_var rfl) (ev_var rfl) (rv_I hn0)) (ea_cons (ev_op (ev_op (ev_var rfl) ev_c (rv_I ⟨by decide, by decide⟩)) (ev_var rfl) (rv_I hn0)) ea_nil)))) (by show 4 ≤ 100000; decide)) ?_) (fun pl i σ' H' => ∃ v4, σ' = [some (.ref a), some (.int wh), some (.ref pt), some (.int (n : Int)), v4, none] ∧ Ex H3 H' ∧ H' pl = some (.lst (([0, n - 1, m1, m2] : List Nat).map fun z => V.int ((z : Nat) : Int))))
      (fun pl H4 hpl e4 h4 => ⟨_, rfl, e4, h4⟩) (fun pl i σ' H4 _ hp => ?_) (fun pl i x σ' H4 hx hp => ?_) (fun pl σ' H4 hp => ?_)
    · rw [hm1, hm2, show (n : Int) - 1 = ((n - 1 : Nat) : Int) by omega]
      rfl
    · obtain ⟨v4, rfl, e4, h4⟩ := hp
      exact sq_of h4
    · obtain ⟨v4, rfl, e4, h4⟩ := hp
      obtain ⟨m, rfl, hmn⟩ : ∃ m : Nat, x = .int (m : Int) ∧ m < n := by
        match i, hx with
        | 0, h => cases h; exact ⟨0, rfl, by omega⟩
        | 1, h => cases h; exact ⟨n - 1, rfl, by omega⟩
        | 2, h => cases h; exact ⟨m1, rfl, hm1n⟩
        | 3, h => cases h; exact ⟨m2, rfl, hm2n⟩
        | k + 4, h => exact absurd h (by simp)
      refine s_when (b := false) ?_ (fun hz => nomatch hz) fun _ H5 e5 => ⟨_, rfl, e4.trans e5, e5 pl _ h4⟩
      refine et_is (et_test (ev_op (ev_itT (K := K) (n := n) (f := tabM ps) (i := m) (ev_var rfl) (ev_var rfl) (sq_of (e4 pt _ h3t)) hmn) (ev_joinRow (K := K) (n := n) (g := tabM ps m) (ev_list (el_lcR1 (n := (n : Int)) (fun _ => true) (fun j => V.str (sgS (tabM ps m j))) (ea_cons (ev_var rfl) ea_nil) ⟨by omega, by omega⟩ (fun x => rfl) (fun j H7 e7 hj => et_yes) (fun j H7 e7 hj _ => ?_)) (by rw [given_all, Int.toNat_natCast])) (by omega)) (rv_ne rfl))) ?_
      · exact ev_call (ea_cons (ev_var rfl) (ea_cons (ev_var rfl) (ea_cons (ev_var rfl) ea_nil))) fun H8 e8 Q8 q8 _ => ⟨a, ps, _, _, rfl, (hP.ex ((E3.trans e4).trans e7)).ex e8, gp_of hP.2 hall, q8⟩
      · rw [decide_eq_true rfl]
        rfl
    · obtain ⟨v4, rfl, e4, h4⟩ := hp
      exact s_ret ev_c fun H5 e5 => q H5 ((E3.trans e4).trans e5)

end
end HA

end
section
set_option maxRecDepth 100000
set_option maxHeartbeats 4000000
namespace HA
open PySem PySem.Spec PyProof.Rows L2 Evl
section
variable {P : Program} {w : World} {K : PySem.W.Frag} {mg : Str → Option Value} {base : Heap}
theorem ok_law (T : Txt K mg) : FnOk P w K mg base CX0 6 T.a_law T.d_law ["_law_script"] (sp_law K) := by
  refine T.F_law.ok sc_law (fun vs H Q E h => ?_) (fun cdv A outer s H vs Q E hr h => ?_)
  · obtain ⟨a, ns, rfl, _⟩ := h
    rfl
  · obtain ⟨a, ns, rfl, hS, hl, hbits, q⟩ := h
    have hC : Cells ns := ⟨hl, fun z hz => bits_lt (hbits z hz)⟩
    have G_order := ok_order (P := P) (w := w) (base := base) T
    have G_made := ok_made (P := P) (w := w) (base := base) T
    have G_L_number := ok_L_number (P := P) (w := w) (base := base) T
    have G_L_part_right := ok_L_part_right (P := P) (w := w) (base := base) T
    have G_L_half := ok_L_half (P := P) (w := w) (base := base) T
    have G_L_wide_right := ok_L_wide_right (P := P) (w := w) (base := base) T
    have G_sign_at := ok_sign_at (P := P) (w := w) (base := base) T
    have G_L_at := ok_L_at (P := P) (w := w) (base := base) T
    have G_L_too_great := ok_L_too_great (P := P) (w := w) (base := base) T
    refine ⟨_, pss_cons (ps_set (i := 1) sc_law.nd rfl (.inl rfl) (pe_ifExp (pt_cmpR (op_neD hr.units) (pv 0) (pe_lst pa_nil) (nomark _)) (pe_slice sl_list (pv 0) po_none (po_some pe_int)) (pe_lst (pa_cons pe_int pa_nil))))
      (pss_cons (ps_set (i := 2) sc_law.nd rfl (.inr rfl) (pe_callB (cr_sum rfl) (by rfl) T.m_sum (by decide +kernel) (pa_cons (pv 1) pa_nil)))
      (pss_cons (ps_set (i := 3) sc_law.nd rfl (.inr rfl) (pe_tup (pa_cons pe_int (pa_cons pe_int (pa_cons pe_int (pa_cons pe_int (pa_cons pe_int (pa_cons pe_int (pa_cons pe_int (pa_cons pe_int (pa_cons pe_int (pa_cons pe_int (pa_cons pe_int (pa_cons pe_int (pa_cons pe_int (pa_cons pe_int (pa_cons pe_int (pa_cons pe_int (pa_cons pe_int (pa_cons pe_int (pa_cons pe_int (pa_cons pe_int pa_nil))))))))))))))))))))))
      (pss_cons (ps_setLc (i := 4) (own := [("_law_at_here", 9), ("_law_cell", 10)]) (g := (gTup K 2 (gCons (gName 9) (gCons (gName 10) gNil)))) (tt := tYes) (te := (tOp (rIxT K) (tVar 3) (tOp _ (tCall _ _ _ (tCons (tVar 10) (tCons (tVar 9) (tCons (tVar 2) tNil)))) (tC _)))) (by rfl) sc_law.nd rfl rfl (sw_true rfl rfl rfl (by decide +kernel)) (pi_enum (by rfl) T.m_enumerate (pa_cons (pe_slice sl_list (pv 1) po_none (po_some (pe_ix ix_tup (pe_tup (pa_cons pe_int (pa_cons pe_int (pa_cons pe_int (pa_cons pe_int pa_nil))))) (pe_op op_mod (pv 2) pe_int) (fun _ _ => rfl)))) pa_nil)) (blkOk_by (by kernel_rfl)) (fun _ _ _ _ _ => pg_tup rfl (pgs_cons (pg_name (i := 9) sc_law.nd rfl (.inl rfl)) (pgs_cons (pg_name (i := 10) sc_law.nd rfl (.inl rfl)) pgs_nil))) (fun _ _ _ _ _ => pts_nil) (fun _ _ _ _ _ => pe_ix ix_tup (pv 3) (pe_op op_mod (pe_call G_L_number (hr.mono (by decide)) (by rfl) T.g_L_number T.F_L_number.kp T.b_L_number .nil pass0 (pa_cons (pv 10) (pa_cons (pv 9) (pa_cons (pv 2) pa_nil)))) pe_int) (fun _ _ => rfl)))
      (pss_cons (ps_set (i := 5) sc_law.nd rfl (.inl rfl) pe_int)
      (pss_cons (ps_for PassesOwn.never (by rfl) (pi_list (pv 4)) (pg_name (i := 6) sc_law.nd rfl (.inl rfl))
        (pss_one (ps_set (i := 5) sc_law.nd rfl (.inl rfl) (pe_op op_mul (pv 5) (pv 6)))))
      (pss_cons (ps_set (i := 7) sc_law.nd rfl (.inl rfl) (pe_callTy call_list_of (by rfl) T.m_list (by decide +kernel) (pa_cons (pv 4) pa_nil)))
      (pss_cons (ps_set (i := 8) sc_law.nd rfl (.inl rfl) (pe_call G_order (hr.mono (by decide)) (by rfl) T.g_order T.F_order.kp T.b_order .nil passLN (pa_cons (pv 7) pa_nil)))
      (pss_cons (ps_if (PW.pt (pw_or (pt_val (pe_callB call_isi (by rfl) T.m_isinstance (by decide +kernel) (pa_cons (pv 8) (pa_cons (pe_bltn (v := .ty "bool") (by rfl) T.m_bool (by decide +kernel) rfl) pa_nil)))) (pw_or (pt_cmpR op_ne (pv 8) (pv 5) (nomark _)) (pw_or1 (pt_cmpR (op_neD hr.units) (pv 7) (pv 4) (nomark _)))))) (pss_one (ps_ret (pe_bl))) (pss_nil))
      (pss_cons (ps_for PassesOwn.never (by rfl) (pi_enum (by rfl) T.m_enumerate (pa_cons (pe_slice sl_list (pv 1) po_none (po_some pe_int)) pa_nil)) (pg_tup rfl (pgs_cons (pg_name (i := 9) sc_law.nd rfl (.inl rfl)) (pgs_cons (pg_name (i := 10) sc_law.nd rfl (.inl rfl)) pgs_nil)))
        (pss_cons (ps_set (i := 11) sc_law.nd rfl (.inr rfl) (pe_op op_mod (pe_call G_L_number (hr.mono (by decide)) (by rfl) T.g_L_number T.F_L_number.kp T.b_L_number .nil pass0 (pa_cons (pv 10) (pa_cons (pe_op op_add (pv 9) pe_int) (pa_cons (pv 2) pa_nil)))) (pv 5)))
        (pss_cons (ps_set (i := 12) sc_law.nd rfl (.inl rfl) (pe_op op_mod (pe_op op_fdiv (pe_call G_L_number (hr.mono (by decide)) (by rfl) T.g_L_number T.F_L_number.kp T.b_L_number .nil pass0 (pa_cons (pv 10) (pa_cons (pe_op op_add (pv 9) pe_int) (pa_cons (pe_op op_add (pv 2) pe_int) pa_nil)))) pe_int) (pv 5)))
        (pss_one (ps_for PassesOwn.never (by rfl) (pi_list (pe_lst (pa_cons (pe_tup (pa_cons (pv 11) (pa_cons (pv 12) pa_nil))) (pa_cons (pe_tup (pa_cons (pv 11) (pa_cons (pv 11) pa_nil))) (pa_cons (pe_tup (pa_cons pe_int (pa_cons (pv 12) pa_nil))) (pa_cons (pe_tup (pa_cons (pv 11) (pa_cons pe_int pa_nil))) (pa_cons (pe_tup (pa_cons (pe_op op_sub (pv 5) pe_int) (pa_cons (pv 12) pa_nil))) (pa_cons (pe_tup (pa_cons (pv 11) (pa_cons (pe_op op_sub (pv 5) pe_int) pa_nil))) pa_nil)))))))) (pg_tup rfl (pgs_cons (pg_name (i := 13) sc_law.nd rfl (.inl rfl)) (pgs_cons (pg_name (i := 14) sc_law.nd rfl (.inl rfl)) pgs_nil)))
          (pss_one (ps_if (pt_cmpR op_ne (pe_call G_sign_at (hr.mono (by decide)) (by rfl) T.g_sign_at T.F_sign_at.kp T.b_sign_at .nil pass0 (pa_cons (pv 7) (pa_cons (pv 13) (pa_cons (pv 14) pa_nil)))) (pe_call G_L_at (hr.mono (by decide)) (by rfl) T.g_L_at T.F_L_at.kp T.b_L_at .nil pass0 (pa_cons (pv 4) (pa_cons (pv 13) (pa_cons (pv 14) pa_nil)))) (nomark _)) (pss_one (ps_ret (pe_bl))) (pss_nil))))))))
      (pss_cons (ps_for PassesOwn.never (by rfl) (pi_enum (by rfl) T.m_enumerate (pa_cons (pe_slice sl_list (pv 1) po_none (po_some pe_int)) pa_nil)) (pg_tup rfl (pgs_cons (pg_name (i := 9) sc_law.nd rfl (.inl rfl)) (pgs_cons (pg_name (i := 10) sc_law.nd rfl (.inl rfl)) pgs_nil)))
        (pss_one (ps_if (pt_not (pt_val (pe_call G_L_part_right (hr.mono (by decide)) (by rfl) T.g_L_part_right T.F_L_part_right.kp T.b_L_part_right .nil pass0 (pa_cons (pe_op op_add pe_int (pe_op op_mul pe_int (pe_op op_mod (pe_call G_L_number (hr.mono (by decide)) (by rfl) T.g_L_number T.F_L_number.kp T.b_L_number .nil pass0 (pa_cons (pv 10) (pa_cons (pe_op op_add (pv 9) pe_int) (pa_cons (pv 2) pa_nil)))) pe_int))) (pa_cons (pv 10) pa_nil))))) (pss_one (ps_ret (pe_bl))) (pss_nil))))
      (pss_cons (ps_set (i := 15) sc_law.nd rfl (.inr rfl) (pe_slice sl_list (pe_lc (own := [("_law_part", 6)]) (g := (gName 6)) (tt := (tTest (tOp _ (tVar 6) (tC _)))) (te := (tVar 6)) (by rfl) sc_law.nd (pi_list (pv 4)) (blkOk_by (by kernel_rfl)) (fun _ _ _ _ _ => pg_name (i := 6) sc_law.nd rfl (.inl rfl)) (fun _ _ _ _ _ => pts_one (pt_cmpR op_lt (pv 6) pe_int (nomark _))) (fun _ _ _ _ _ => pv 6)) po_none (po_some pe_int)))
      (Evl.pss_cut (ps_if (pt_cmpR (op_eqD hr.units) (pv 15) (pe_lst (pa_cons pe_int (pa_cons pe_int pa_nil))) (nomark _)) (pss_one (ps_set (i := 15) sc_law.nd rfl (.inr rfl) (pe_lst (pa_cons pe_int pa_nil)))) (pss_nil))
      (pss_cons (ps_set (i := 16) sc_law.nd rfl (.inl rfl) (pe_call G_made (hr.mono (by decide)) (by rfl) T.g_made T.F_made.kp T.b_made .nil passLN (pa_cons (pv 15) pa_nil)))
      (pss_cons (ps_if (PW.pt (pw_or (pt_not (pt_val (pe_callB call_isi (by rfl) T.m_isinstance (by decide +kernel) (pa_cons (pv 16) (pa_cons (pe_bltn (v := .ty "list") (by rfl) T.m_list (by decide +kernel) rfl) pa_nil))))) (pw_or (pt_not (pt_val (pe_call G_L_half (hr.mono (by decide)) (by rfl) T.g_L_half T.F_L_half.kp T.b_L_half .nil pass0 (pa_cons (pv 16) pa_nil)))) (pw_or1 (pt_cmpR op_ne (pe_callB call_len_seq (by rfl) T.m_len (by decide +kernel) (pa_cons (pv 16) pa_nil)) (pe_call G_order (hr.mono (by decide)) (by rfl) T.g_order T.F_order.kp T.b_order .nil passLN (pa_cons (pv 15) pa_nil)) (nomark _)))))) (pss_one (ps_ret (pe_bl))) (pss_nil))
      (pss_cons (ps_for PassesOwn.never (by rfl) (pi_enum (by rfl) T.m_enumerate (pa_cons (pv 16) pa_nil)) (pg_tup rfl (pgs_cons (pg_name (i := 11) sc_law.nd rfl (.inr rfl)) (pgs_cons (pg_name (i := 17) sc_law.nd rfl (.inl rfl)) pgs_nil)))
        (pss_one (ps_if (pt_cmpR op_ne (pv 17) (pe_join pe_str (pe_lc (own := [("_law_place", 12)]) (g := (gName 12)) (tt := tYes) (te := (tCall _ _ _ (tCons (tVar 15) (tCons (tVar 11) (tCons (tVar 12) tNil))))) (by rfl) sc_law.nd (pi_range1 (by rfl) T.m_range (pa_cons (pe_callB call_len_seq (by rfl) T.m_len (by decide +kernel) (pa_cons (pv 16) pa_nil)) pa_nil)) (blkOk_by (by kernel_rfl)) (fun _ _ _ _ _ => pg_name (i := 12) sc_law.nd rfl (.inl rfl)) (fun _ _ _ _ _ => pts_nil) (fun _ _ _ _ _ => pe_call G_L_at (hr.mono (by decide)) (by rfl) T.g_L_at T.F_L_at.kp T.b_L_at .nil pass0 (pa_cons (pv 15) (pa_cons (pv 11) (pa_cons (pv 12) pa_nil)))))) (nomark _)) (pss_one (ps_ret (pe_bl))) (pss_nil))))
      (pss_cons (ps_set (i := 18) sc_law.nd rfl (.inl rfl) (pe_ix ix_tup (pe_tup (pa_cons (pe_lst (pa_cons pe_int pa_nil)) (pa_cons (pe_lst (pa_cons pe_int (pa_cons pe_int pa_nil))) (pa_cons (pe_lst (pa_cons pe_int pa_nil)) (pa_cons (pe_lst (pa_cons pe_int (pa_cons pe_int (pa_cons pe_int (pa_cons pe_int pa_nil))))) (pa_cons (pe_lst (pa_cons pe_int (pa_cons pe_int pa_nil))) (pa_cons (pe_lst (pa_cons pe_int pa_nil)) (pa_cons (pe_lst (pa_cons pe_int (pa_cons pe_int pa_nil))) (pa_cons (pe_lst (pa_cons pe_int (pa_cons pe_int pa_nil))) pa_nil))))))))) (pe_op op_mod (pe_op op_fdiv (pv 2) pe_int) pe_int) (fun _ _ => rfl)))
      (pss_cons (ps_if (PW.pt (pw_and (pt_cmpR op_eq (pe_op op_mod (pv 2) pe_int) pe_int (nomark _)) (pw_and1 (pt_not (pt_val (pe_call G_L_wide_right (hr.mono (by decide)) (by rfl) T.g_L_wide_right T.F_L_wide_right.kp T.b_L_wide_right .nil pass0 (pa_cons (pv 18) (pa_cons (pv 2) pa_nil)))))))) (pss_one (ps_ret (pe_bl))) (pss_nil))
      (pss_cons (ps_expr (pe_bm PySem.F.plainAttrs_list PySem.F.slot_list_append PySem.F.type_list_append mt_append (pv 16) (pa_cons pe_str pa_nil)))
      (pss_cons (ps_if (PW.pt (pw_or (pt_cmpR (op_neD hr.units) (pe_call G_made (hr.mono (by decide)) (by rfl) T.g_made T.F_made.kp T.b_made .nil passLN (pa_cons (pv 15) pa_nil)) (pe_slice sl_list (pv 16) po_none (po_some (pe_un un_neg pe_int))) (nomark _)) (pw_or1 (PW.pt (pw_and (pt_cmpR op_gt (pv 5) pe_int (nomark _)) (pw_and1 (pt_not (pt_val (pe_call G_L_too_great (hr.mono (by decide)) (by rfl) T.g_L_too_great T.F_L_too_great.kp T.b_L_too_great .nil pass0 (pa_cons (pv 4) pa_nil)))))))))) (pss_one (ps_ret (pe_bl))) (pss_nil))
      (pss_one (ps_ret (pe_and (pe_cmpR (op_eqD hr.units) (pe_call G_made (hr.mono (by decide)) (by rfl) T.g_made T.F_made.kp T.b_made .nil passLN (pa_cons (pe_lst pa_nil) pa_nil)) (pe_lst (pa_cons pe_str pa_nil)) (nomark _)) (pe_and (pe_cmpR op_eq (pe_call G_order (hr.mono (by decide)) (by rfl) T.g_order T.F_order.kp T.b_order .nil passLN (pa_cons (pe_lst pa_nil) pa_nil)) pe_int (nomark _)) (pe_and (pe_cmpR (op_eqD hr.units) (pe_call G_made (hr.mono (by decide)) (by rfl) T.g_made T.F_made.kp T.b_made .nil passLN (pa_cons (pe_lst (pa_cons pe_int pa_nil)) pa_nil)) (pe_lst (pa_cons pe_str (pa_cons pe_str pa_nil))) (nomark _)) (pe_one (pe_cmpR (op_eqD hr.units) (pv 7) (pv 4) (nomark _))))))))))))))))))))))))))), ?_⟩
    obtain ⟨hD, hD1⟩ := cellsOf_ok (d := 4) (by decide) hC
    refine q_asgL (el_cells (d := 4) (ev_var rfl) (ev_var rfl) hS hl) fun pc H1 hpc e1 h1 => ?_
    generalize hcs : cellsOf 4 ns = cl at hD hD1 h1
    refine q_asg (v := .int cl.sum) (ev_sum (K := K) (ns := cl) (ev_var rfl) (sq_of h1)) fun H2 e2 => ?_
    generalize hwh : cl.sum = wh
    refine q_asgU (xs := menuL.map V.int) (eu_tup (ea_cons ev_c (ea_cons ev_c (ea_cons ev_c (ea_cons ev_c (ea_cons ev_c (ea_cons ev_c (ea_cons ev_c (ea_cons ev_c (ea_cons ev_c (ea_cons ev_c (ea_cons ev_c (ea_cons ev_c (ea_cons ev_c (ea_cons ev_c (ea_cons ev_c (ea_cons ev_c (ea_cons ev_c (ea_cons ev_c (ea_cons ev_c (ea_cons ev_c ea_nil)))))))))))))))))))) (by show 20 ≤ 100000; decide)) fun pm H3 hpm e3 h3 => ?_
    obtain ⟨m, hm, hm4⟩ := modNat wh (n := 4) (by decide)
    obtain ⟨kk, hkk, hkk2⟩ : ∃ kk : Nat, ([.int 3, .int 2, .int 9, .int 40] : List V)[m]? = some (.int (kk : Int)) ∧ kk ≤ 40 := by
      match m, hm4 with
      | 0, _ => exact ⟨3, rfl, by decide⟩
      | 1, _ => exact ⟨2, rfl, by decide⟩
      | 2, _ => exact ⟨9, rfl, by decide⟩
      | 3, _ => exact ⟨40, rfl, by decide⟩
    have h3c := (e2.trans e3) pc _ h1
    have hF : ∀ z : Int, (z % 20).toNat < menuL.length := fun z => by
      show (z % 20).toNat < 20
      omega
    refine q_asgL (xs := ((List.range (cl.take kk).length).map fun i : Nat => menuL[(lawNum (cl.take kk)[i]! (i : Int) wh % 20).toNat]!).map V.int) (ev_list (el_lcEN (K := K) (xs := (cl.take kk).map V.int) (n := (cl.take kk).length) (d := fun i => .int (cl.take kk)[i]!) (fun _ => true) (fun i => .int menuL[(lawNum (cl.take kk)[i]! (i : Int) wh % 20).toNat]!)
      (ev_list (el_sl (K := K) (xs := cl.map V.int) (hi := some (kk : Int)) (ev_var rfl) eo_none (eo_some (ev_itU (K := K) (i := m) (eu_tup (ea_cons ev_c (ea_cons ev_c (ea_cons ev_c (ea_cons ev_c ea_nil)))) (by show 4 ≤ 100000; decide)) (ev_is (ev_op (ev_var rfl) ev_c (rv_I (by decide))) (congrArg V.int hm)) hkk)) (sq_of h3c)) (by rw [cutV_to, List.map_take])) (by rw [List.length_map]) (fun i hi => by rw [getI hi, getElem!_pos _ i hi]) (by rw [List.length_take]; omega) (fun x y => rfl) (fun i H4 e4 hi => et_yes) (fun i H4 e4 hi _ => ?_)) (by rw [given_all, List.map_map]; rfl)) fun pp H4 hpp e4 h4 => ?_
    · have hci : i < (cl.take kk).length := hi
      rw [getElem!_pos _ i hci]
      have hmem : (cl.take kk)[i] ∈ cl := List.mem_of_mem_take (List.getElem_mem hci)
      have hi40 : i < 40 := by
        rw [List.length_take] at hci
        omega
      have ht : SqT K H4 pm (menuL.map V.int) := st_of (e4 pm _ h3)
      have hlt := hF (lawNum (cl.take kk)[i] (i : Int) wh)
      rw [getElem!_pos menuL _ hlt]
      refine ev_op (y := .int (((lawNum (cl.take kk)[i] (i : Int) wh % 20).toNat : Nat) : Int)) (ev_var rfl) (ev_is (ev_op (ev_call (z := .int (lawNum (cl.take kk)[i] (i : Int) wh)) (ea_cons (ev_var rfl) (ea_cons (ev_var rfl) (ea_cons (ev_var rfl) ea_nil))) fun H8 e8 Q8 q8 _ => ⟨_, _, _, rfl, hD.2 _ hmem, by omega, by omega, q8⟩) ev_c (rv_I (by decide))) ?_) (rv_ixT ht (atI_nat (getI hlt)))
      exact congrArg V.int (by omega)
    obtain ⟨ps, hpl, hpm', h4'⟩ : ∃ ps : List Int, ps.length ≤ 40 ∧ (∀ x ∈ ps, x ∈ menuL) ∧ H4 pp = some (.lst (ps.map V.int)) := ⟨_, by rw [List.length_map, List.length_range, List.length_take]; omega, fun x hx => by
      obtain ⟨i, _, rfl⟩ := List.mem_map.mp hx
      rw [getElem!_pos menuL _ (hF _)]
      exact List.getElem_mem _, h4⟩
    clear h4 hF
    have hall : ps.all isPart = true := List.all_eq_true.mpr fun x hx => List.all_eq_true.mp menu_part x (hpm' x hx)
    have hP4 : PartsAt H4 pp ps := ⟨h4', by omega⟩
    have hg : GP ps := gp_of hP4.2 hall
    refine q_asg ev_c fun H5 e5 => ?_
    have hP5 := hP4.ex e5
    refine q_forLn (K := K) (ev_var rfl) (sq_of hP5.1) (fun i σ' H' => ∃ v6, σ' = [some (.ref a), some (.ref pc), some (.int wh), some (.ref pm), some (.ref pp), some (.int (prodI (ps.take i))), v6, none, none, none, none, none, none, none, none, none, none, none, none] ∧ Ex H5 H') (fun H6 e6 => ⟨_, rfl, e6⟩) (fun i σ' H6 _ hp => ?_) (fun i x σ' H6 hx hp => ?_) (fun σ' H6 hp => ?_)
    · obtain ⟨v6, rfl, e6⟩ := hp
      exact sq_of (hP5.ex e6).1
    · obtain ⟨v6, rfl, e6⟩ := hp
      obtain ⟨hi, rfl⟩ := intG ps hx
      have hb := hg.2 _ (List.getElem_mem hi)
      exact s_asg (ev_is (ev_op (ev_var rfl) (ev_var rfl) (rv_I (.inr ⟨by omega, by omega⟩))) (congrArg V.int (prod_take hi).symm)) fun H7 e7 => ⟨_, rfl, e6.trans e7⟩
    obtain ⟨v6, rfl, e6⟩ := hp
    rw [List.length_map, List.take_length]
    have hpos := prod_pos hg.2
    have hP6 := hP5.ex e6
    refine q_asgL (el_listOf (K := K) (ev_var rfl) (sq_of hP6.1)) fun ph H7 hph e7 h7 => ?_
    have hH7 : PartsAt H7 ph ps := ⟨h7, hP4.2⟩
    have hP7 := hP6.ex e7
    refine q_asg (v := .int (prodI ps)) (ev_call (ea_cons (ev_var rfl) ea_nil) fun H9 e9 Q9 q9 _ => ⟨ph, ps, rfl, hH7.ex e9, fun _ => q9, fun hz => absurd (hz.symm.trans hall) (by decide)⟩) fun H8 e8 => ?_
    refine q_when (b := false) ?_ (fun hz => nomatch hz) fun _ H9 e9 => ?_
    · refine et_is (et_or (et_B (ev_isi (b := false) (ea_cons (ev_var rfl) (ea_cons ev_c ea_nil)) (.ty _) (fun H9 e9 => .base (.int _)) (kit_ty (by decide +kernel)))) fun _ => et_or (et_test (ev_op (ev_var rfl) (ev_var rfl) (rv_ne rfl))) fun _ => et_test (ev_op (ev_var rfl) (ev_var rfl) (rv_neI (sq_of (hH7.ex e8).1) (sq_of (hP7.ex e8).1)))) ?_
      rw [decide_eq_true rfl, decide_eq_true rfl]
      rfl
    have hH9 := hH7.ex (e8.trans e9)
    have hP9 := hP7.ex (e8.trans e9)
    have h9c : H9 pc = some (.lst (cl.map V.int)) := (((((e4.trans e5).trans e6).trans e7).trans e8).trans e9) pc _ h3c
    clear hP4 hP5 hP6 hP7 hH7 h4'
    have hsl : ∀ {σ : L2.St} {H' : Hp} {te : TE} (k : Nat), Ev te σ H' (.ref pc) → H' pc = some (.lst (cl.map V.int)) → EvL (tSl (rSlL K) te tNoPart (tPart (tC (.int (k : Int))))) σ H' ((cl.take k).map V.int) := fun {σ H' te} k h h' => ev_list (el_sl (K := K) (xs := cl.map V.int) (hi := some (k : Int)) h eo_none (eo_some ev_c) (sq_of h')) (by rw [cutV_to, List.map_take])
    have hget : ∀ {k i : Nat} {x : V}, ((cl.take k).map V.int)[i]? = some x → ∃ c : Int, x = .int c ∧ c.natAbs < 2 ^ BB ∧ i < 63 := fun {k i x} hx => by
      obtain ⟨hi, rfl⟩ := intG (cl.take k) hx
      refine ⟨_, rfl, hD.2 _ (List.mem_of_mem_take (List.getElem_mem hi)), ?_⟩
      have := hD.1
      rw [List.length_take] at hi
      omega
    refine q_forEN (K := K) (xs := (cl.take 3).map V.int) (hsl 3 (ev_var rfl) h9c) (fun i σ' H' => ∃ v9 v10 v11 v12 v13 v14, σ' = [some (.ref a), some (.ref pc), some (.int wh), some (.ref pm), some (.ref pp), some (.int (prodI ps)), v6, some (.ref ph), some (.int (prodI ps)), v9, v10, v11, v12, v13, v14, none, none, none, none] ∧ Ex H9 H') (fun H10 e10 => ⟨_, _, _, _, _, _, rfl, e10⟩) (fun H10 e10 i x σ' H11 hx hp e11 H12 e12 => ?_) (fun σ' H10 hp => ?_)
    · obtain ⟨v9, v10, v11, v12, v13, v14, rfl, e13⟩ := hp
      obtain ⟨c, rfl, hc, hi63⟩ := hget hx
      refine q_asg (ev_op (ev_call (z := .int (lawNum c ((i : Int) + 3) wh)) (ea_cons (ev_var rfl) (ea_cons (ev_op (ev_var rfl) ev_c rv_I0) (ea_cons (ev_var rfl) ea_nil))) fun H8 e8 Q8 q8 _ => ⟨_, _, _, rfl, hc, by omega, by omega, q8⟩) (ev_var rfl) (rv_I hpos)) fun H13 e14 => ?_
      refine q_asg (ev_op (ev_op (ev_call (z := .int (lawNum c ((i : Int) + 9) (wh + 1))) (ea_cons (ev_var rfl) (ea_cons (ev_op (ev_var rfl) ev_c rv_I0) (ea_cons (ev_op (ev_var rfl) ev_c rv_I0) ea_nil))) fun H8 e8 Q8 q8 _ => ⟨_, _, _, rfl, hc, by omega, by omega, q8⟩) ev_c (rv_I ⟨by decide, by decide⟩)) (ev_var rfl) (rv_I hpos)) fun H14 e15 => ?_
      have r0 := Int.emod_nonneg (lawNum c ((i : Int) + 3) wh) (show prodI ps ≠ 0 by omega)
      have r1 := Int.emod_lt_of_pos (lawNum c ((i : Int) + 3) wh) hpos
      have t0 := Int.emod_nonneg (lawNum c ((i : Int) + 9) (wh + 1) / 5) (show prodI ps ≠ 0 by omega)
      have t1 := Int.emod_lt_of_pos (lawNum c ((i : Int) + 9) (wh + 1) / 5) hpos
      generalize lawNum c ((i : Int) + 3) wh % prodI ps = r at r0 r1
      generalize lawNum c ((i : Int) + 9) (wh + 1) / 5 % prodI ps = t at t0 t1
      have E14 := ((e13.trans e12).trans e14).trans e15
      refine s_forP (K := K) (ps := [(r, t), (r, r), (0, t), (r, 0), (prodI ps - 1, t), (r, prodI ps - 1)]) (ep_lst (eap_cons (ev_var rfl) (ev_var rfl) (eap_cons (ev_var rfl) (ev_var rfl) (eap_cons ev_c (ev_var rfl) (eap_cons (ev_var rfl) ev_c (eap_cons (ev_op (ev_var rfl) ev_c rv_I0) (ev_var rfl) (eap_cons (ev_var rfl) (ev_op (ev_var rfl) ev_c rv_I0) eap_nil)))))) (by show 6 ≤ 1000; decide))
        (fun σ' H' => ∃ v13 v14, σ' = [some (.ref a), some (.ref pc), some (.int wh), some (.ref pm), some (.ref pp), some (.int (prodI ps)), v6, some (.ref ph), some (.int (prodI ps)), some (.int (i : Int)), some (.int c), some (.int r), some (.int t), v13, v14, none, none, none, none] ∧ Ex H14 H') (fun H15 e16 => ⟨_, _, rfl, e16⟩) (fun H15 e16 pr σ' H16 hm hv e17 => ?_) (fun σ' H15 hv => ?_)
      · obtain ⟨v13, v14, rfl, e18⟩ := hv
        have hpr : (0 ≤ pr.1 ∧ pr.1 < prodI ps) ∧ (0 ≤ pr.2 ∧ pr.2 < prodI ps) := by
          simp only [List.mem_cons, List.not_mem_nil, or_false] at hm
          rcases hm with rfl | rfl | rfl | rfl | rfl | rfl
          · exact ⟨⟨r0, r1⟩, ⟨t0, t1⟩⟩
          · exact ⟨⟨r0, r1⟩, ⟨r0, r1⟩⟩
          · exact ⟨⟨Int.le_refl 0, hpos⟩, ⟨t0, t1⟩⟩
          · exact ⟨⟨r0, r1⟩, ⟨Int.le_refl 0, hpos⟩⟩
          · exact ⟨⟨by show 0 ≤ prodI ps - 1; omega, by show prodI ps - 1 < prodI ps; omega⟩, ⟨t0, t1⟩⟩
          · exact ⟨⟨r0, r1⟩, ⟨by show 0 ≤ prodI ps - 1; omega, by show prodI ps - 1 < prodI ps; omega⟩⟩
        refine s_when (b := false) ?_ (fun hz => nomatch hz) fun _ H17 e19 => ⟨⟨_, _, rfl, e18.trans e19⟩, e17.trans e19⟩
        refine et_is (et_test (ev_op (ev_call (z := .str (sgS (!mA ps pr.1 pr.2))) (ea_cons (ev_var rfl) (ea_cons (ev_var rfl) (ea_cons (ev_var rfl) ea_nil))) fun H8 e8 Q8 q8 _ => ⟨ph, ps, _, _, rfl, hH9.ex ((E14.trans e18).trans e8), hall, hpr.1.1, hpr.1.2, hpr.2.1, hpr.2.2, q8⟩) (ev_call (z := .str (sgS (!mA ps pr.1 pr.2))) (ea_cons (ev_var rfl) (ea_cons (ev_var rfl) (ea_cons (ev_var rfl) ea_nil))) fun H8 e8 Q8 q8 _ => ⟨pp, ps, _, _, rfl, hP9.ex ((E14.trans e18).trans e8), hg, q8⟩) (rv_ne rfl))) ?_
        rw [decide_eq_true rfl]
        rfl
      · obtain ⟨v13, v14, rfl, e18⟩ := hv
        exact ⟨⟨_, _, _, _, _, _, rfl, E14.trans e18⟩, (((e11.trans e12).trans e14).trans e15).trans e18⟩
    obtain ⟨v9, v10, v11, v12, v13, v14, rfl, e10⟩ := hp
    have h10c := e10 pc _ h9c
    have hH10 := hH9.ex e10
    have hP10 := hP9.ex e10
    clear hH9 hP9 h9c
    refine q_forEN (K := K) (xs := (cl.take 4).map V.int) (hsl 4 (ev_var rfl) h10c) (fun i σ' H' => ∃ v9 v10, σ' = [some (.ref a), some (.ref pc), some (.int wh), some (.ref pm), some (.ref pp), some (.int (prodI ps)), v6, some (.ref ph), some (.int (prodI ps)), v9, v10, v11, v12, v13, v14, none, none, none, none] ∧ Ex H10 H') (fun H11 e11 => ⟨_, _, rfl, e11⟩) (fun H11 e11 i x σ' H12 hx hp e12 H13 e13 => ?_) (fun σ' H11 hp => ?_)
    · obtain ⟨v9, v10, rfl, e14⟩ := hp
      obtain ⟨c, rfl, hc, hi63⟩ := hget hx
      obtain ⟨k, hk, hk2⟩ := modNat (lawNum c ((i : Int) + 15) wh) (n := 2500) (by decide)
      refine s_when (b := false) ?_ (fun hz => nomatch hz) fun _ H14 e15 => ⟨⟨_, _, rfl, (e14.trans e13).trans e15⟩, (e12.trans e13).trans e15⟩
      refine et_is (et_not (et_B (ev_call (z := .bl true) (ea_cons (x := .int (4 + 4 * (k : Int))) (ev_op ev_c (ev_op ev_c (ev_is (ev_op (ev_call (z := .int (lawNum c ((i : Int) + 15) wh)) (ea_cons (ev_var rfl) (ea_cons (ev_op (ev_var rfl) ev_c rv_I0) (ea_cons (ev_var rfl) ea_nil))) fun H8 e8 Q8 q8 _ => ⟨_, _, _, rfl, hc, by omega, by omega, q8⟩) ev_c (rv_I (by decide))) (congrArg V.int hk)) (rv_I (.inl ⟨by decide, by decide⟩))) rv_I0) (ea_cons (ev_var rfl) ea_nil)) fun H8 e8 Q8 q8 _ => ⟨k, c, rfl, hk2, q8⟩))) rfl
    obtain ⟨v9, v10, rfl, e11⟩ := hp
    have hH11 := hH10.ex e11
    have hP11 := hP10.ex e11
    clear hH10 hP10 h10c hsl hget
    refine q_asgL (xs := ((ps.filter fun x => decide (x < 9)).take 2).map V.int) (ev_list (el_slN (K := K) (xs := (ps.filter fun x => decide (x < 9)).map V.int) (hi := some ((2 : Nat) : Int)) (ev_list (el_lcL (K := K) (xs := ps.map V.int) (fun i => decide (ps[i]! < 9)) (fun i => .int ps[i]!) (ev_var rfl) (sq_of hP11.1) (by rw [List.length_map]; omega) (fun x => rfl) (fun i x H12 e12 hx => ?_) (fun i x H12 e12 hx _ => ?_)) (by rw [List.length_map]; exact given_filter ps fun x => decide (x < 9))) eo_none (eo_some ev_c)) (by rw [cutV_to, List.map_take])) fun pw H12 hpw e12 h12 => ?_
    · obtain ⟨hi, rfl⟩ := intG ps hx
      rw [getElem!_pos ps i hi]
      exact et_test (ev_op (ev_var rfl) ev_c rv_I0)
    · obtain ⟨hi, rfl⟩ := intG ps hx
      rw [getElem!_pos ps i hi]
      exact ev_var rfl
    have hfew : Few ((ps.filter fun x => decide (x < 9)).take 2) := few_ok (by rw [List.length_take]; omega) fun x hx => by
      have hx2 := List.mem_filter.mp (List.mem_of_mem_take hx)
      exact menu_few x (hpm' x hx2.1) (of_decide_eq_true hx2.2)
    generalize (ps.filter fun x => decide (x < 9)).take 2 = fw at h12 hfew
    refine q_cut (M := fun σ' H' => ∃ pw fw, σ' = [some (.ref a), some (.ref pc), some (.int wh), some (.ref pm), some (.ref pp), some (.int (prodI ps)), v6, some (.ref ph), some (.int (prodI ps)), v9, v10, v11, v12, v13, v14, some (.ref pw), none, none, none] ∧ Ex H11 H' ∧ Few fw ∧ H' pw = some (.lst (fw.map V.int))) ?_ (fun σ' H13 hmid => ?_)
    · refine s_when (b := decide (fw = [8, 8])) (et_test (ev_opL (ev_var rfl) (el_lst (ea_cons ev_c (ea_cons ev_c ea_nil)) (by show 2 ≤ 100000; decide)) fun p H13 hp e13 => rv_eqI (xs := fw) (ys := [8, 8]) (sq_of (e13 pw _ h12)) (sq_of hp))) (fun _ H13 e13 => ?_) fun _ H13 e13 => ⟨pw, fw, rfl, e12.trans e13, hfew, e13 pw _ h12⟩
      exact s_asgL (xs := [V.int 12]) (el_lst (ea_cons ev_c ea_nil) (by show 1 ≤ 100000; decide)) fun pw2 H14 hpw2 e14 h14 => ⟨pw2, [12], rfl, (e12.trans e13).trans e14, few_12, h14⟩
    clear hfew h12 hpw e12
    obtain ⟨pw, fw, rfl, e13, hfew, h13⟩ := hmid
    obtain ⟨hfa, n, hn, hn1, hn2, hhalf, hfl⟩ := hfew
    have hW13 : PartsAt H13 pw fw := ⟨h13, by omega⟩
    have hH13 := hH11.ex e13
    have hP13 := hP11.ex e13
    have madeS : ∀ {H' : Hp} {Q' : VK} {E' : XK}, PartsAt H' pw fw → RetL (tabV n (tabM fw)) H' Q' → sp_made T.C_TooGreat ([.ref pw] ++ []) H' Q' E' := fun {H' Q' E'} hp q' => ⟨pw, fw, rfl, hp, hfa, fun m hm hm2 => by rw [hn] at hm; cases Int.ofNat.inj hm; exact q', fun hgt => absurd hgt (by omega)⟩
    refine q_asgL (xs := tabV n (tabM fw)) (el_call (ea_cons (ev_var rfl) ea_nil) fun H15 e15 Q15 q15 _ => madeS (hW13.ex e15) q15) fun pt H14 hpt e14 h14 => ?_
    have hW14 := hW13.ex e14
    refine q_when (b := false) ?_ (fun hz => nomatch hz) fun _ H15 e15 => ?_
    · refine et_is (et_or (et_not (et_B (ev_isi (b := true) (ea_cons (ev_var rfl) (ea_cons ev_c ea_nil)) (.ty _) (fun H15 e15 => .base (.lst (e15 pt _ h14))) (kit_ty (by decide +kernel))))) fun _ => et_or (et_not (et_B (ev_call (z := .bl true) (ea_cons (ev_var rfl) ea_nil) fun H15 e15 Q15 q15 _ => ⟨pt, n, tabM fw, rfl, sq_of (e15 pt _ h14), by omega, by rw [hhalf]; exact q15⟩))) fun _ => et_test (ev_op (ev_lenT (K := K) (n := n) (f := tabM fw) (ev_var rfl) (sq_of h14)) (ev_call (z := .int (prodI fw)) (ea_cons (ev_var rfl) ea_nil) fun H15 e15 Q15 q15 _ => ⟨pw, fw, rfl, hW14.ex e15, fun _ => q15, fun hz => absurd (hz.symm.trans hfa) (by decide)⟩) (rv_ne rfl))) ?_
      rw [hn, decide_eq_true rfl]
      rfl
    have h15t := e15 pt _ h14
    have hW15 := hW14.ex e15
    refine q_forEL (K := K) (xs := tabV n (tabM fw)) (ev_var rfl) h15t (fun i σ' H' => ∃ v11 v17, σ' = [some (.ref a), some (.ref pc), some (.int wh), some (.ref pm), some (.ref pp), some (.int (prodI ps)), v6, some (.ref ph), some (.int (prodI ps)), v9, v10, v11, v12, v13, v14, some (.ref pw), some (.ref pt), v17, none] ∧ Ex H15 H') (fun H16 e16 => ⟨_, _, rfl, e16⟩) (fun i σ' H16 hp => by obtain ⟨_, _, _, e⟩ := hp; exact e) (fun i x σ' H16 hx hp H17 e17 => ?_) (fun σ' H16 hp => ?_)
    · obtain ⟨v11, v17, rfl, e16⟩ := hp
      obtain ⟨hi, rfl⟩ := tabV_some hx
      have E17 := e16.trans e17
      refine s_when (b := false) ?_ (fun hz => nomatch hz) fun _ H18 e18 => ⟨_, _, rfl, E17.trans e18⟩
      refine et_is (et_test (ev_op (ev_var rfl) (ev_joinRow (K := K) (n := n) (g := tabM fw i) (ev_list (el_lcR1 (n := (n : Int)) (fun _ => true) (fun j => V.str (sgS (tabM fw i j))) (ea_cons (ev_lenT (K := K) (n := n) (f := tabM fw) (ev_var rfl) (sq_of (E17 pt _ h15t))) ea_nil) ⟨by omega, by omega⟩ (fun x => rfl) (fun j H18 e18 hj => et_yes) (fun j H18 e18 hj _ => ?_)) (by rw [given_all, Int.toNat_natCast])) (by omega)) (rv_ne rfl))) ?_
      · exact ev_call (ea_cons (ev_var rfl) (ea_cons (ev_var rfl) (ea_cons (ev_var rfl) ea_nil))) fun H8 e8 Q8 q8 _ => ⟨pw, fw, _, _, rfl, hW15.ex ((E17.trans e18).trans e8), gp_of hW13.2 hfa, q8⟩
      · rw [decide_eq_true rfl]
        rfl
    obtain ⟨v11', v17, rfl, e16⟩ := hp
    obtain ⟨m8, hm8, hm8n⟩ := modNat (wh / 32) (n := 8) (by decide)
    refine q_asgR (er_pickU (K := K) (qs := someL.map fun l => l.map V.int) (els_cons (el_lst (ea_cons ev_c ea_nil) (by show 1 ≤ 100000; decide)) (els_cons (el_lst (ea_cons ev_c (ea_cons ev_c ea_nil)) (by show 2 ≤ 100000; decide)) (els_cons (el_lst (ea_cons ev_c ea_nil) (by show 1 ≤ 100000; decide)) (els_cons (el_lst (ea_cons ev_c (ea_cons ev_c (ea_cons ev_c (ea_cons ev_c ea_nil)))) (by show 4 ≤ 100000; decide)) (els_cons (el_lst (ea_cons ev_c (ea_cons ev_c ea_nil)) (by show 2 ≤ 100000; decide)) (els_cons (el_lst (ea_cons ev_c ea_nil) (by show 1 ≤ 100000; decide)) (els_cons (el_lst (ea_cons ev_c (ea_cons ev_c ea_nil)) (by show 2 ≤ 100000; decide)) (els_cons (el_lst (ea_cons ev_c (ea_cons ev_c ea_nil)) (by show 2 ≤ 100000; decide)) els_nil)))))))) (by show 8 ≤ 1000; decide) (show m8 < 8 from hm8n) (ev_is (ev_op (ev_op (ev_var rfl) ev_c (rv_I ⟨by decide, by decide⟩)) ev_c (rv_I (by decide))) (congrArg V.int hm8))) fun v H17 e17 hv => ?_
    obtain ⟨xs, hxs, py, rfl, hpy⟩ := hv
    obtain ⟨sm, hsm, rfl⟩ := List.mem_map.mp hxs
    obtain ⟨sa, s1, s2, s3⟩ := some_ok sm hsm
    refine q_when (b := false) ?_ (fun hz => nomatch hz) fun _ H18 e18 => ?_
    · refine et_is (et_and (et_test (ev_op (ev_op (ev_var rfl) ev_c (rv_I (by decide))) ev_c (rv_eq rfl))) fun _ => et_not (et_B (ev_call (z := .bl true) (ea_cons (ev_var rfl) (ea_cons (ev_var rfl) ea_nil)) fun H8 e8 Q8 q8 _ => ⟨py, sm, (prodI sm).toNat, wh, rfl, ⟨e8 py _ hpy, s3⟩, sa, by omega, by omega, by omega, q8⟩))) (Bool.and_false _)
    have E18 := (e16.trans e17).trans e18
    have h18t := E18 pt _ h15t
    have hE13 : Ex H13 H18 := (e14.trans e15).trans E18
    refine q_app (v := .str (Str.ofString "")) h18t (ev_var rfl) ev_c (by rw [tabV_len]; omega) fun H19 e19 => ?_
    have e20 : Ex H13 (upd H19 pt (.lst (tabV n (tabM fw) ++ [.str (Str.ofString "")]))) := Ex.mut (hE13.trans e19) hpt
    have h20 : (upd H19 pt (.lst (tabV n (tabM fw) ++ [.str (Str.ofString "")]))) pt = some (.lst (tabV n (tabM fw) ++ [.str (Str.ofString "")])) := upd_same
    generalize upd H19 pt (.lst (tabV n (tabM fw) ++ [.str (Str.ofString "")])) = H20 at e20 h20 ⊢
    have hW20 := hW13.ex e20
    have hH20 := hH13.ex e20
    have hP20 := hP13.ex e20
    refine q_when (b := false) ?_ (fun hz => nomatch hz) fun _ H21 e21 => ?_
    · refine et_is (et_or (b := false) (et_test (ev_opLR (xs := tabV n (tabM fw)) (ys := tabV n (tabM fw)) (el_call (ea_cons (ev_var rfl) ea_nil) fun H15 e15 Q15 q15 _ => madeS (hW20.ex e15) q15) (ev_list (el_sl (K := K) (ev_var rfl) eo_none (eo_some (ev_un ev_c ru_neg)) (sq_of h20)) (cut_last _ _)) fun p1 p2 H21 k1 k2 e21 => rv_neTab (n := n) (f := tabM fw) (sq_of k1) (sq_of k2))) fun _ => et_is (et_and (et_test (ev_op (ev_var rfl) ev_c rv_I0)) fun hgt => et_not (et_B (ev_call (z := .bl true) (ea_cons (ev_var rfl) ea_nil) fun H8 e8 Q8 q8 _ => ⟨pp, ps, rfl, hP20.ex e8, hall, of_decide_eq_true hgt, q8⟩))) (Bool.and_false _)) rfl
    refine s_ret (v := .bl true) (ev_is (ev_andV (ev_opLR (xs := tabV 1 (tabM [])) (ys := tabV 1 (tabM [])) (el_callL (xs := ([] : List Int).map V.int) (el_lst ea_nil (by show 0 ≤ 100000; decide)) fun p H22 e22 h22 Q22 q22 E22 => ⟨p, [], rfl, ⟨h22, by show 0 ≤ 600; decide⟩, rfl, fun m hm hm2 => by cases Int.ofNat.inj (show ((1 : Nat) : Int) = (m : Int) from hm); exact q22, fun hgt => absurd hgt (by decide)⟩) (ev_list (el_lst (ea_cons ev_c ea_nil) (by show 1 ≤ 100000; decide)) (by decide +kernel)) fun p1 p2 H22 k1 k2 e22 => rv_eqTab (n := 1) (f := tabM []) (sq_of k1) (sq_of k2)) fun _ => ev_andV (ev_op (ev_callLA (xs := ([] : List Int).map V.int) (vs := []) (z := .int 1) (el_lst ea_nil (by show 0 ≤ 100000; decide)) ea_nil fun p H22 e22 h22 H23 e23 Q23 q23 _ => ⟨p, [], rfl, ⟨e23 p _ h22, by show 0 ≤ 600; decide⟩, fun _ => q23, fun hn => nomatch hn⟩) ev_c (rv_eq rfl)) fun _ =>
      ev_andV (ev_opLR (xs := tabV 2 (tabM [2])) (ys := tabV 2 (tabM [2])) (el_callL (xs := ([2] : List Int).map V.int) (el_lst (ea_cons ev_c ea_nil) (by show 1 ≤ 100000; decide)) fun p H22 e22 h22 Q22 q22 E22 => ⟨p, [2], rfl, ⟨h22, by show 1 ≤ 600; decide⟩, by decide +kernel, fun m hm hm2 => by cases Int.ofNat.inj (show ((2 : Nat) : Int) = (m : Int) from hm); exact q22, fun hgt => absurd hgt (by decide)⟩) (ev_list (el_lst (ea_cons ev_c (ea_cons ev_c ea_nil)) (by show 2 ≤ 100000; decide)) (by decide +kernel)) fun p1 p2 H22 k1 k2 e22 => rv_eqTab (n := 2) (f := tabM [2]) (sq_of k1) (sq_of k2)) fun _ => ev_op (ev_var rfl) (ev_var rfl) (rv_eqI (sq_of (hH20.ex e21).1) (sq_of (hP20.ex e21).1))) ?_) fun H22 e22 => q H22
    rw [decide_eq_true rfl, decide_eq_true rfl]
    rfl

end
end HA

end
section
set_option maxRecDepth 100000
set_option maxHeartbeats 4000000
namespace HA
open PySem PySem.Spec PyProof.Rows L2 Evl
section
variable {P : Program} {w : World} {K : PySem.W.Frag} {mg : Str → Option Value} {base : Heap}
theorem all_mk {l : PySem.W.OpenLaw} {w : World} {K : PySem.W.Frag} {h : Heap} {mg : Str → Option Value} {fa f0 f1 f2 f3 f4 f5 f6 f7 f8 f9 f10 f11 f12 f13 f14 f15 f16 f17 f18 f19 f20 f21 C_SignError C_BadNumbers C_BadParts C_BadPlace C_BadSigns C_BadTable C_TooGreat C_NoNumbers : Addr} (X : K.In h) (G : h.Ns mainGlobals mg) (hfa : mg "law" = some (.ref fa))
    {od0 an0 : Option Addr} {sl0 : Array (Option Value)} {oc0 kV0 dc0 pm0 cd0 ct0 : Value}
    {od1 an1 : Option Addr} {sl1 : Array (Option Value)} {oc1 kV1 dc1 pm1 cd1 ct1 : Value}
    {od2 an2 : Option Addr} {sl2 : Array (Option Value)} {oc2 kV2 dc2 pm2 cd2 ct2 : Value}
    {od3 an3 : Option Addr} {sl3 : Array (Option Value)} {oc3 kV3 dc3 pm3 cd3 ct3 : Value}
    {od4 an4 : Option Addr} {sl4 : Array (Option Value)} {oc4 kV4 dc4 pm4 cd4 ct4 : Value}
    {od5 an5 : Option Addr} {sl5 : Array (Option Value)} {oc5 kV5 dc5 pm5 cd5 ct5 : Value}
    {od6 an6 : Option Addr} {sl6 : Array (Option Value)} {oc6 kV6 dc6 pm6 cd6 ct6 : Value}
    {od7 an7 : Option Addr} {sl7 : Array (Option Value)} {oc7 kV7 dc7 pm7 cd7 ct7 : Value}
    {od8 an8 : Option Addr} {sl8 : Array (Option Value)} {oc8 kV8 dc8 pm8 cd8 ct8 : Value}
    {od9 an9 : Option Addr} {sl9 : Array (Option Value)} {oc9 kV9 dc9 pm9 cd9 ct9 : Value}
    {od10 an10 : Option Addr} {sl10 : Array (Option Value)} {oc10 kV10 dc10 pm10 cd10 ct10 : Value}
    {od11 an11 : Option Addr} {sl11 : Array (Option Value)} {oc11 kV11 dc11 pm11 cd11 ct11 : Value}
    {od12 an12 : Option Addr} {sl12 : Array (Option Value)} {oc12 kV12 dc12 pm12 cd12 ct12 : Value}
    {od13 an13 : Option Addr} {sl13 : Array (Option Value)} {oc13 kV13 dc13 pm13 cd13 ct13 : Value}
    {od14 an14 : Option Addr} {sl14 : Array (Option Value)} {oc14 kV14 dc14 pm14 cd14 ct14 : Value}
    {od15 an15 : Option Addr} {sl15 : Array (Option Value)} {oc15 kV15 dc15 pm15 cd15 ct15 : Value}
    {od16 an16 : Option Addr} {sl16 : Array (Option Value)} {oc16 kV16 dc16 pm16 cd16 ct16 : Value}
    {od17 an17 : Option Addr} {sl17 : Array (Option Value)} {oc17 kV17 dc17 pm17 cd17 ct17 : Value}
    {od18 an18 : Option Addr} {sl18 : Array (Option Value)} {oc18 kV18 dc18 pm18 cd18 ct18 : Value}
    {od19 an19 : Option Addr} {sl19 : Array (Option Value)} {oc19 kV19 dc19 pm19 cd19 ct19 : Value}
    {od20 an20 : Option Addr} {sl20 : Array (Option Value)} {oc20 kV20 dc20 pm20 cd20 ct20 : Value}
    {od21 an21 : Option Addr} {sl21 : Array (Option Value)} {oc21 kV21 dc21 pm21 cd21 ct21 : Value}
    {k_MOST : Tok}
    {k_GREATEST : Tok}
    (a0 : PySem.W.nsIn K mainGlobals "is_number" = some (some (.ref f0)))
    (l0 : K.lookup f0 = some ⟨oc0, od0, .func (PySem.W.fnOf "is_number" "is_number" (defArgs s_is_number) (defBody s_is_number) (defScope s_is_number) .none kV0 dc0 pm0 an0 cd0 ct0), sl0⟩)
    (c0 : PySem.W.codeIn K cd0 "is_number" = true)
    (k0 : PySem.W.keepIn K (.ref f0) = true)
    (a1 : PySem.W.nsIn K mainGlobals "is_prime" = some (some (.ref f1)))
    (l1 : K.lookup f1 = some ⟨oc1, od1, .func (PySem.W.fnOf "is_prime" "is_prime" (defArgs s_is_prime) (defBody s_is_prime) (defScope s_is_prime) .none kV1 dc1 pm1 an1 cd1 ct1), sl1⟩)
    (c1 : PySem.W.codeIn K cd1 "is_prime" = true)
    (k1 : PySem.W.keepIn K (.ref f1) = true)
    (a2 : PySem.W.nsIn K mainGlobals "is_part" = some (some (.ref f2)))
    (l2 : K.lookup f2 = some ⟨oc2, od2, .func (PySem.W.fnOf "is_part" "is_part" (defArgs s_is_part) (defBody s_is_part) (defScope s_is_part) .none kV2 dc2 pm2 an2 cd2 ct2), sl2⟩)
    (c2 : PySem.W.codeIn K cd2 "is_part" = true)
    (k2 : PySem.W.keepIn K (.ref f2) = true)
    (a3 : PySem.W.nsIn K mainGlobals "asked_parts" = some (some (.ref f3)))
    (l3 : K.lookup f3 = some ⟨oc3, od3, .func (PySem.W.fnOf "asked_parts" "asked_parts" (defArgs s_asked_parts) (defBody s_asked_parts) (defScope s_asked_parts) .none kV3 dc3 pm3 an3 cd3 ct3), sl3⟩)
    (c3 : PySem.W.codeIn K cd3 "asked_parts" = true)
    (k3 : PySem.W.keepIn K (.ref f3) = true)
    (a4 : PySem.W.nsIn K mainGlobals "multiplied" = some (some (.ref f4)))
    (l4 : K.lookup f4 = some ⟨oc4, od4, .func (PySem.W.fnOf "multiplied" "multiplied" (defArgs s_multiplied) (defBody s_multiplied) (defScope s_multiplied) .none kV4 dc4 pm4 an4 cd4 ct4), sl4⟩)
    (c4 : PySem.W.codeIn K cd4 "multiplied" = true)
    (k4 : PySem.W.keepIn K (.ref f4) = true)
    (a5 : PySem.W.nsIn K mainGlobals "order" = some (some (.ref f5)))
    (l5 : K.lookup f5 = some ⟨oc5, od5, .func (PySem.W.fnOf "order" "order" (defArgs s_order) (defBody s_order) (defScope s_order) .none kV5 dc5 pm5 an5 cd5 ct5), sl5⟩)
    (c5 : PySem.W.codeIn K cd5 "order" = true)
    (k5 : PySem.W.keepIn K (.ref f5) = true)
    (a6 : PySem.W.nsIn K mainGlobals "is_square" = some (some (.ref f6)))
    (l6 : K.lookup f6 = some ⟨oc6, od6, .func (PySem.W.fnOf "is_square" "is_square" (defArgs s_is_square) (defBody s_is_square) (defScope s_is_square) .none kV6 dc6 pm6 an6 cd6 ct6), sl6⟩)
    (c6 : PySem.W.codeIn K cd6 "is_square" = true)
    (k6 : PySem.W.keepIn K (.ref f6) = true)
    (a7 : PySem.W.nsIn K mainGlobals "is_minus" = some (some (.ref f7)))
    (l7 : K.lookup f7 = some ⟨oc7, od7, .func (PySem.W.fnOf "is_minus" "is_minus" (defArgs s_is_minus) (defBody s_is_minus) (defScope s_is_minus) .none kV7 dc7 pm7 an7 cd7 ct7), sl7⟩)
    (c7 : PySem.W.codeIn K cd7 "is_minus" = true)
    (k7 : PySem.W.keepIn K (.ref f7) = true)
    (a8 : PySem.W.nsIn K mainGlobals "minus_at" = some (some (.ref f8)))
    (l8 : K.lookup f8 = some ⟨oc8, od8, .func (PySem.W.fnOf "minus_at" "minus_at" (defArgs s_minus_at) (defBody s_minus_at) (defScope s_minus_at) .none kV8 dc8 pm8 an8 cd8 ct8), sl8⟩)
    (c8 : PySem.W.codeIn K cd8 "minus_at" = true)
    (k8 : PySem.W.keepIn K (.ref f8) = true)
    (a9 : PySem.W.nsIn K mainGlobals "sign_at" = some (some (.ref f9)))
    (l9 : K.lookup f9 = some ⟨oc9, od9, .func (PySem.W.fnOf "sign_at" "sign_at" (defArgs s_sign_at) (defBody s_sign_at) (defScope s_sign_at) .none kV9 dc9 pm9 an9 cd9 ct9), sl9⟩)
    (c9 : PySem.W.codeIn K cd9 "sign_at" = true)
    (k9 : PySem.W.keepIn K (.ref f9) = true)
    (a10 : PySem.W.nsIn K mainGlobals "made" = some (some (.ref f10)))
    (l10 : K.lookup f10 = some ⟨oc10, od10, .func (PySem.W.fnOf "made" "made" (defArgs s_made) (defBody s_made) (defScope s_made) .none kV10 dc10 pm10 an10 cd10 ct10), sl10⟩)
    (c10 : PySem.W.codeIn K cd10 "made" = true)
    (k10 : PySem.W.keepIn K (.ref f10) = true)
    (a11 : PySem.W.nsIn K mainGlobals "_law_number" = some (some (.ref f11)))
    (l11 : K.lookup f11 = some ⟨oc11, od11, .func (PySem.W.fnOf "_law_number" "_law_number" (defArgs s_L_number) (defBody s_L_number) (defScope s_L_number) .none kV11 dc11 pm11 an11 cd11 ct11), sl11⟩)
    (c11 : PySem.W.codeIn K cd11 "_law_number" = true)
    (k11 : PySem.W.keepIn K (.ref f11) = true)
    (a12 : PySem.W.nsIn K mainGlobals "_law_alike" = some (some (.ref f12)))
    (l12 : K.lookup f12 = some ⟨oc12, od12, .func (PySem.W.fnOf "_law_alike" "_law_alike" (defArgs s_L_alike) (defBody s_L_alike) (defScope s_L_alike) .none kV12 dc12 pm12 an12 cd12 ct12), sl12⟩)
    (c12 : PySem.W.codeIn K cd12 "_law_alike" = true)
    (k12 : PySem.W.keepIn K (.ref f12) = true)
    (a13 : PySem.W.nsIn K mainGlobals "_law_half" = some (some (.ref f13)))
    (l13 : K.lookup f13 = some ⟨oc13, od13, .func (PySem.W.fnOf "_law_half" "_law_half" (defArgs s_L_half) (defBody s_L_half) (defScope s_L_half) .none kV13 dc13 pm13 an13 cd13 ct13), sl13⟩)
    (c13 : PySem.W.codeIn K cd13 "_law_half" = true)
    (k13 : PySem.W.keepIn K (.ref f13) = true)
    (a14 : PySem.W.nsIn K mainGlobals "_law_power" = some (some (.ref f14)))
    (l14 : K.lookup f14 = some ⟨oc14, od14, .func (PySem.W.fnOf "_law_power" "_law_power" (defArgs s_L_power) (defBody s_L_power) (defScope s_L_power) .none kV14 dc14 pm14 an14 cd14 ct14), sl14⟩)
    (c14 : PySem.W.codeIn K cd14 "_law_power" = true)
    (k14 : PySem.W.keepIn K (.ref f14) = true)
    (a15 : PySem.W.nsIn K mainGlobals "_law_sign" = some (some (.ref f15)))
    (l15 : K.lookup f15 = some ⟨oc15, od15, .func (PySem.W.fnOf "_law_sign" "_law_sign" (defArgs s_L_sign) (defBody s_L_sign) (defScope s_L_sign) .none kV15 dc15 pm15 an15 cd15 ct15), sl15⟩)
    (c15 : PySem.W.codeIn K cd15 "_law_sign" = true)
    (k15 : PySem.W.keepIn K (.ref f15) = true)
    (a16 : PySem.W.nsIn K mainGlobals "_law_at" = some (some (.ref f16)))
    (l16 : K.lookup f16 = some ⟨oc16, od16, .func (PySem.W.fnOf "_law_at" "_law_at" (defArgs s_L_at) (defBody s_L_at) (defScope s_L_at) .none kV16 dc16 pm16 an16 cd16 ct16), sl16⟩)
    (c16 : PySem.W.codeIn K cd16 "_law_at" = true)
    (k16 : PySem.W.keepIn K (.ref f16) = true)
    (a17 : PySem.W.nsIn K mainGlobals "_law_too_great" = some (some (.ref f17)))
    (l17 : K.lookup f17 = some ⟨oc17, od17, .func (PySem.W.fnOf "_law_too_great" "_law_too_great" (defArgs s_L_too_great) (defBody s_L_too_great) (defScope s_L_too_great) .none kV17 dc17 pm17 an17 cd17 ct17), sl17⟩)
    (c17 : PySem.W.codeIn K cd17 "_law_too_great" = true)
    (k17 : PySem.W.keepIn K (.ref f17) = true)
    (a18 : PySem.W.nsIn K mainGlobals "_law_prime" = some (some (.ref f18)))
    (l18 : K.lookup f18 = some ⟨oc18, od18, .func (PySem.W.fnOf "_law_prime" "_law_prime" (defArgs s_L_prime) (defBody s_L_prime) (defScope s_L_prime) .none kV18 dc18 pm18 an18 cd18 ct18), sl18⟩)
    (c18 : PySem.W.codeIn K cd18 "_law_prime" = true)
    (k18 : PySem.W.keepIn K (.ref f18) = true)
    (a19 : PySem.W.nsIn K mainGlobals "_law_part_right" = some (some (.ref f19)))
    (l19 : K.lookup f19 = some ⟨oc19, od19, .func (PySem.W.fnOf "_law_part_right" "_law_part_right" (defArgs s_L_part_right) (defBody s_L_part_right) (defScope s_L_part_right) .none kV19 dc19 pm19 an19 cd19 ct19), sl19⟩)
    (c19 : PySem.W.codeIn K cd19 "_law_part_right" = true)
    (k19 : PySem.W.keepIn K (.ref f19) = true)
    (a20 : PySem.W.nsIn K mainGlobals "_law_wide_right" = some (some (.ref f20)))
    (l20 : K.lookup f20 = some ⟨oc20, od20, .func (PySem.W.fnOf "_law_wide_right" "_law_wide_right" (defArgs s_L_wide_right) (defBody s_L_wide_right) (defScope s_L_wide_right) .none kV20 dc20 pm20 an20 cd20 ct20), sl20⟩)
    (c20 : PySem.W.codeIn K cd20 "_law_wide_right" = true)
    (k20 : PySem.W.keepIn K (.ref f20) = true)
    (a21 : PySem.W.nsIn K mainGlobals "law" = some (some (.ref f21)))
    (l21 : K.lookup f21 = some ⟨oc21, od21, .func (PySem.W.fnOf "law" "law" (defArgs s_law) (defBody s_law) (defScope s_law) .none kV21 dc21 pm21 an21 cd21 ct21), sl21⟩)
    (c21 : PySem.W.codeIn K cd21 "law" = true)
    (k21 : PySem.W.keepIn K (.ref f21) = true)
    (z_isinstance : PySem.W.nsIn K mainGlobals "isinstance" = some none)
    (z_int : PySem.W.nsIn K mainGlobals "int" = some none)
    (z_bool : PySem.W.nsIn K mainGlobals "bool" = some none)
    (z_list : PySem.W.nsIn K mainGlobals "list" = some none)
    (z_all : PySem.W.nsIn K mainGlobals "all" = some none)
    (z_range : PySem.W.nsIn K mainGlobals "range" = some none)
    (z_len : PySem.W.nsIn K mainGlobals "len" = some none)
    (z_zip : PySem.W.nsIn K mainGlobals "zip" = some none)
    (z_any : PySem.W.nsIn K mainGlobals "any" = some none)
    (z_sum : PySem.W.nsIn K mainGlobals "sum" = some none)
    (z_enumerate : PySem.W.nsIn K mainGlobals "enumerate" = some none)
    (v_MOST : PySem.W.nsIn K mainGlobals "MOST" = some (some (.int 100 k_MOST)))
    (v_GREATEST : PySem.W.nsIn K mainGlobals "GREATEST" = some (some (.int 10000 k_GREATEST)))
    (hnn : PySem.W.specialIn K (.builtin "object.__class__") "__get__" = some (some (.builtin "getset_descriptor.__get__")))
    (htk : PySem.W.takesIn K (.builtin "object.__class__") = some true)
    (g_SignError : PySem.W.nsIn K mainGlobals "SignError" = some (some (.ref C_SignError)))
    (g_BadNumbers : PySem.W.nsIn K mainGlobals "BadNumbers" = some (some (.ref C_BadNumbers)))
    (g_BadParts : PySem.W.nsIn K mainGlobals "BadParts" = some (some (.ref C_BadParts)))
    (g_BadPlace : PySem.W.nsIn K mainGlobals "BadPlace" = some (some (.ref C_BadPlace)))
    (g_BadSigns : PySem.W.nsIn K mainGlobals "BadSigns" = some (some (.ref C_BadSigns)))
    (g_BadTable : PySem.W.nsIn K mainGlobals "BadTable" = some (some (.ref C_BadTable)))
    (g_TooGreat : PySem.W.nsIn K mainGlobals "TooGreat" = some (some (.ref C_TooGreat)))
    (g_NoNumbers : PySem.W.nsIn K mainGlobals "NoNumbers" = some (some (.ref C_NoNumbers)))
    (x_BadParts : PySem.W.excIn K C_BadParts [.type "ValueError", .type "Exception", .type "BaseException", .type "object"] "ValueError.__new__" = true)
    (k_BadParts : PySem.W.keepIn K (.ref C_BadParts) = true)
    (eb_BadParts : PySem.W.subIn K (.ref C_BadParts) (.type "BaseException") = some true)
    (et_BadParts : PySem.W.typeIn K (.ref C_BadParts) = some (.type "type"))
    (eg_BadParts : PySem.W.findIn K (.ref C_BadParts) "__getattribute__" = some (some (.builtin "BaseException.__getattribute__")))
    (eq_BadParts : PySem.W.findIn K (.ref C_BadParts) "__getattr__" = some none)
    (eh_BadParts : PySem.W.hasDictIn K C_BadParts = true)
    (ea_BadParts : PySem.W.findIn K (.ref C_BadParts) "__class__" = some (some (.builtin "object.__class__")))
    (eo_BadParts : PySem.W.mroIn K C_BadParts (.type "object") = some true)
    (x_TooGreat : PySem.W.excIn K C_TooGreat [.type "ValueError", .type "Exception", .type "BaseException", .type "object"] "ValueError.__new__" = true)
    (k_TooGreat : PySem.W.keepIn K (.ref C_TooGreat) = true)
    (eb_TooGreat : PySem.W.subIn K (.ref C_TooGreat) (.type "BaseException") = some true)
    (et_TooGreat : PySem.W.typeIn K (.ref C_TooGreat) = some (.type "type"))
    (eg_TooGreat : PySem.W.findIn K (.ref C_TooGreat) "__getattribute__" = some (some (.builtin "BaseException.__getattribute__")))
    (eq_TooGreat : PySem.W.findIn K (.ref C_TooGreat) "__getattr__" = some none)
    (eh_TooGreat : PySem.W.hasDictIn K C_TooGreat = true)
    (ea_TooGreat : PySem.W.findIn K (.ref C_TooGreat) "__class__" = some (some (.builtin "object.__class__")))
    (eo_TooGreat : PySem.W.mroIn K C_TooGreat (.type "object") = some true)
    (ek_BadParts_BadNumbers : PySem.W.kitOne K (.ref C_BadParts) (.ref C_BadNumbers) = some false)
    (ek_BadParts_BadParts : PySem.W.kitOne K (.ref C_BadParts) (.ref C_BadParts) = some true)
    (ek_BadParts_BadPlace : PySem.W.kitOne K (.ref C_BadParts) (.ref C_BadPlace) = some false)
    (ek_BadParts_BadSigns : PySem.W.kitOne K (.ref C_BadParts) (.ref C_BadSigns) = some false)
    (ek_BadParts_BadTable : PySem.W.kitOne K (.ref C_BadParts) (.ref C_BadTable) = some false)
    (ek_BadParts_TooGreat : PySem.W.kitOne K (.ref C_BadParts) (.ref C_TooGreat) = some false)
    (ek_BadParts_NoNumbers : PySem.W.kitOne K (.ref C_BadParts) (.ref C_NoNumbers) = some false)
    (ek_TooGreat_BadNumbers : PySem.W.kitOne K (.ref C_TooGreat) (.ref C_BadNumbers) = some false)
    (ek_TooGreat_BadParts : PySem.W.kitOne K (.ref C_TooGreat) (.ref C_BadParts) = some false)
    (ek_TooGreat_BadPlace : PySem.W.kitOne K (.ref C_TooGreat) (.ref C_BadPlace) = some false)
    (ek_TooGreat_BadSigns : PySem.W.kitOne K (.ref C_TooGreat) (.ref C_BadSigns) = some false)
    (ek_TooGreat_BadTable : PySem.W.kitOne K (.ref C_TooGreat) (.ref C_BadTable) = some false)
    (ek_TooGreat_TooGreat : PySem.W.kitOne K (.ref C_TooGreat) (.ref C_TooGreat) = some true)
    (ek_TooGreat_NoNumbers : PySem.W.kitOne K (.ref C_TooGreat) (.ref C_NoNumbers) = some false)
    (ms_BadParts_SignError : PySem.W.subIn K (.ref C_BadParts) (.ref C_SignError) = some true)
    (mb_BadParts_SignError : PySem.W.subIn K (.ref C_SignError) (.type "BaseException") = some true)
    (mh_BadParts_SignError : PySem.W.hasDictIn K C_SignError = true)
    (mt_BadParts_SignError : PySem.W.typeIn K (.ref C_SignError) = some (.type "type"))
    (ms_TooGreat_SignError : PySem.W.subIn K (.ref C_TooGreat) (.ref C_SignError) = some true)
    (mb_TooGreat_SignError : PySem.W.subIn K (.ref C_SignError) (.type "BaseException") = some true)
    (mh_TooGreat_SignError : PySem.W.hasDictIn K C_SignError = true)
    (mt_TooGreat_SignError : PySem.W.typeIn K (.ref C_SignError) = some (.type "type")) :
    ∃ fd : FuncData, (∀ (s : Shared) (v : Value), BindsTo s fd ⟨[v], []⟩ [("_law_script", v)]) ∧ ∀ base : Heap, K.In base → base.Ns mainGlobals mg → FnOk l.prog w K mg base CX0 6 fa fd ["_law_script"] (sp_law K) := by
  have e := hfa.symm.trans (PySem.W.mg_of X G a21)
  cases e
  have F0 := fun_mk (st := s_is_number) l0 c0 k0
  have b0 := F0.binds (ps := ["thing"]) fun _ _ _ _ _ _ us hl => match us, hl with | [_], _ => rfl
  have F1 := fun_mk (st := s_is_prime) l1 c1 k1
  have b1 := F1.binds (ps := ["number"]) fun _ _ _ _ _ _ us hl => match us, hl with | [_], _ => rfl
  have F2 := fun_mk (st := s_is_part) l2 c2 k2
  have b2 := F2.binds (ps := ["thing"]) fun _ _ _ _ _ _ us hl => match us, hl with | [_], _ => rfl
  have F3 := fun_mk (st := s_asked_parts) l3 c3 k3
  have b3 := F3.binds (ps := ["parts"]) fun _ _ _ _ _ _ us hl => match us, hl with | [_], _ => rfl
  have F4 := fun_mk (st := s_multiplied) l4 c4 k4
  have b4 := F4.binds (ps := ["parts"]) fun _ _ _ _ _ _ us hl => match us, hl with | [_], _ => rfl
  have F5 := fun_mk (st := s_order) l5 c5 k5
  have b5 := F5.binds (ps := ["parts"]) fun _ _ _ _ _ _ us hl => match us, hl with | [_], _ => rfl
  have F6 := fun_mk (st := s_is_square) l6 c6 k6
  have b6 := F6.binds (ps := ["number", "prime"]) fun _ _ _ _ _ _ us hl => match us, hl with | [_, _], _ => rfl
  have F7 := fun_mk (st := s_is_minus) l7 c7 k7
  have b7 := F7.binds (ps := ["part", "row", "column"]) fun _ _ _ _ _ _ us hl => match us, hl with | [_, _, _], _ => rfl
  have F8 := fun_mk (st := s_minus_at) l8 c8 k8
  have b8 := F8.binds (ps := ["parts", "row", "column"]) fun _ _ _ _ _ _ us hl => match us, hl with | [_, _, _], _ => rfl
  have F9 := fun_mk (st := s_sign_at) l9 c9 k9
  have b9 := F9.binds (ps := ["parts", "row", "column"]) fun _ _ _ _ _ _ us hl => match us, hl with | [_, _, _], _ => rfl
  have F10 := fun_mk (st := s_made) l10 c10 k10
  have b10 := F10.binds (ps := ["parts"]) fun _ _ _ _ _ _ us hl => match us, hl with | [_], _ => rfl
  have F11 := fun_mk (st := s_L_number) l11 c11 k11
  have b11 := F11.binds (ps := ["_law_cell", "_law_at_here", "_law_whole"]) fun _ _ _ _ _ _ us hl => match us, hl with | [_, _, _], _ => rfl
  have F12 := fun_mk (st := s_L_alike) l12 c12 k12
  have b12 := F12.binds (ps := ["_law_one", "_law_other_here"]) fun _ _ _ _ _ _ us hl => match us, hl with | [_, _], _ => rfl
  have F13 := fun_mk (st := s_L_half) l13 c13 k13
  have b13 := F13.binds (ps := ["_law_table"]) fun _ _ _ _ _ _ us hl => match us, hl with | [_], _ => rfl
  have F14 := fun_mk (st := s_L_power) l14 c14 k14
  have b14 := F14.binds (ps := ["_law_base", "_law_often", "_law_by"]) fun _ _ _ _ _ _ us hl => match us, hl with | [_, _, _], _ => rfl
  have F15 := fun_mk (st := s_L_sign) l15 c15 k15
  have b15 := F15.binds (ps := ["_law_part", "_law_row", "_law_place"]) fun _ _ _ _ _ _ us hl => match us, hl with | [_, _, _], _ => rfl
  have F16 := fun_mk (st := s_L_at) l16 c16 k16
  have b16 := F16.binds (ps := ["_law_parts", "_law_row", "_law_place"]) fun _ _ _ _ _ _ us hl => match us, hl with | [_, _, _], _ => rfl
  have F17 := fun_mk (st := s_L_too_great) l17 c17 k17
  have b17 := F17.binds (ps := ["_law_parts"]) fun _ _ _ _ _ _ us hl => match us, hl with | [_], _ => rfl
  have F18 := fun_mk (st := s_L_prime) l18 c18 k18
  have b18 := F18.binds (ps := ["_law_number_here"]) fun _ _ _ _ _ _ us hl => match us, hl with | [_], _ => rfl
  have F19 := fun_mk (st := s_L_part_right) l19 c19 k19
  have b19 := F19.binds (ps := ["_law_thing", "_law_cell"]) fun _ _ _ _ _ _ us hl => match us, hl with | [_, _], _ => rfl
  have F20 := fun_mk (st := s_L_wide_right) l20 c20 k20
  have b20 := F20.binds (ps := ["_law_parts", "_law_whole"]) fun _ _ _ _ _ _ us hl => match us, hl with | [_, _], _ => rfl
  have F21 := fun_mk (st := s_law) l21 c21 k21
  have b21 := F21.binds (ps := ["_law_script"]) fun _ _ _ _ _ _ us hl => match us, hl with | [_], _ => rfl
  let T : Txt K mg := { a_is_number := f0, d_is_number := _, F_is_number := F0, b_is_number := b0, g_is_number := PySem.W.mg_of X G a0, a_is_prime := f1, d_is_prime := _, F_is_prime := F1, b_is_prime := b1, g_is_prime := PySem.W.mg_of X G a1, a_is_part := f2, d_is_part := _, F_is_part := F2, b_is_part := b2, g_is_part := PySem.W.mg_of X G a2, a_asked_parts := f3, d_asked_parts := _, F_asked_parts := F3, b_asked_parts := b3, g_asked_parts := PySem.W.mg_of X G a3, a_multiplied := f4, d_multiplied := _, F_multiplied := F4, b_multiplied := b4, g_multiplied := PySem.W.mg_of X G a4, a_order := f5, d_order := _, F_order := F5, b_order := b5, g_order := PySem.W.mg_of X G a5, a_is_square := f6, d_is_square := _, F_is_square := F6, b_is_square := b6, g_is_square := PySem.W.mg_of X G a6, a_is_minus := f7, d_is_minus := _, F_is_minus := F7, b_is_minus := b7, g_is_minus := PySem.W.mg_of X G a7, a_minus_at := f8, d_minus_at := _, F_minus_at := F8, b_minus_at := b8, g_minus_at := PySem.W.mg_of X G a8, a_sign_at := f9, d_sign_at := _, F_sign_at := F9, b_sign_at := b9, g_sign_at := PySem.W.mg_of X G a9, a_made := f10, d_made := _, F_made := F10, b_made := b10, g_made := PySem.W.mg_of X G a10, a_L_number := f11, d_L_number := _, F_L_number := F11, b_L_number := b11, g_L_number := PySem.W.mg_of X G a11, a_L_alike := f12, d_L_alike := _, F_L_alike := F12, b_L_alike := b12, g_L_alike := PySem.W.mg_of X G a12, a_L_half := f13, d_L_half := _, F_L_half := F13, b_L_half := b13, g_L_half := PySem.W.mg_of X G a13, a_L_power := f14, d_L_power := _, F_L_power := F14, b_L_power := b14, g_L_power := PySem.W.mg_of X G a14, a_L_sign := f15, d_L_sign := _, F_L_sign := F15, b_L_sign := b15, g_L_sign := PySem.W.mg_of X G a15, a_L_at := f16, d_L_at := _, F_L_at := F16, b_L_at := b16, g_L_at := PySem.W.mg_of X G a16, a_L_too_great := f17, d_L_too_great := _, F_L_too_great := F17, b_L_too_great := b17, g_L_too_great := PySem.W.mg_of X G a17, a_L_prime := f18, d_L_prime := _, F_L_prime := F18, b_L_prime := b18, g_L_prime := PySem.W.mg_of X G a18, a_L_part_right := f19, d_L_part_right := _, F_L_part_right := F19, b_L_part_right := b19, g_L_part_right := PySem.W.mg_of X G a19, a_L_wide_right := f20, d_L_wide_right := _, F_L_wide_right := F20, b_L_wide_right := b20, g_L_wide_right := PySem.W.mg_of X G a20, a_law := fa, d_law := _, F_law := F21, b_law := b21, g_law := PySem.W.mg_of X G a21, m_isinstance := PySem.W.mg_none_of X G z_isinstance, m_int := PySem.W.mg_none_of X G z_int, m_bool := PySem.W.mg_none_of X G z_bool, m_list := PySem.W.mg_none_of X G z_list, m_all := PySem.W.mg_none_of X G z_all, m_range := PySem.W.mg_none_of X G z_range, m_len := PySem.W.mg_none_of X G z_len, m_zip := PySem.W.mg_none_of X G z_zip, m_any := PySem.W.mg_none_of X G z_any, m_sum := PySem.W.mg_none_of X G z_sum, m_enumerate := PySem.W.mg_none_of X G z_enumerate, k_MOST := k_MOST, g_MOST := PySem.W.mg_of X G v_MOST, k_GREATEST := k_GREATEST, g_GREATEST := PySem.W.mg_of X G v_GREATEST, C_SignError := C_SignError, g_SignError := PySem.W.mg_of X G g_SignError, C_BadNumbers := C_BadNumbers, g_BadNumbers := PySem.W.mg_of X G g_BadNumbers, C_BadParts := C_BadParts, g_BadParts := PySem.W.mg_of X G g_BadParts, C_BadPlace := C_BadPlace, g_BadPlace := PySem.W.mg_of X G g_BadPlace, C_BadSigns := C_BadSigns, g_BadSigns := PySem.W.mg_of X G g_BadSigns, C_BadTable := C_BadTable, g_BadTable := PySem.W.mg_of X G g_BadTable, C_TooGreat := C_TooGreat, g_TooGreat := PySem.W.mg_of X G g_TooGreat, C_NoNumbers := C_NoNumbers, g_NoNumbers := PySem.W.mg_of X G g_NoNumbers, x_BadParts := x_BadParts, k_BadParts := k_BadParts, eb_BadParts := eb_BadParts, et_BadParts := et_BadParts, ec_BadParts := ⟨eg_BadParts, eq_BadParts, eb_BadParts, eh_BadParts, ea_BadParts, hnn, htk, eo_BadParts⟩, x_TooGreat := x_TooGreat, k_TooGreat := k_TooGreat, eb_TooGreat := eb_TooGreat, et_TooGreat := et_TooGreat, ec_TooGreat := ⟨eg_TooGreat, eq_TooGreat, eb_TooGreat, eh_TooGreat, ea_TooGreat, hnn, htk, eo_TooGreat⟩, ek_BadParts_BadNumbers := ek_BadParts_BadNumbers, ek_BadParts_BadParts := ek_BadParts_BadParts, ek_BadParts_BadPlace := ek_BadParts_BadPlace, ek_BadParts_BadSigns := ek_BadParts_BadSigns, ek_BadParts_BadTable := ek_BadParts_BadTable, ek_BadParts_TooGreat := ek_BadParts_TooGreat, ek_BadParts_NoNumbers := ek_BadParts_NoNumbers, ek_TooGreat_BadNumbers := ek_TooGreat_BadNumbers, ek_TooGreat_BadParts := ek_TooGreat_BadParts, ek_TooGreat_BadPlace := ek_TooGreat_BadPlace, ek_TooGreat_BadSigns := ek_TooGreat_BadSigns, ek_TooGreat_BadTable := ek_TooGreat_BadTable, ek_TooGreat_TooGreat := ek_TooGreat_TooGreat, ek_TooGreat_NoNumbers := ek_TooGreat_NoNumbers, em_BadParts_SignError := PySem.W.exm_ref mb_BadParts_SignError mh_BadParts_SignError mt_BadParts_SignError ms_BadParts_SignError, em_TooGreat_SignError := PySem.W.exm_ref mb_TooGreat_SignError mh_TooGreat_SignError mt_TooGreat_SignError ms_TooGreat_SignError }
  exact ⟨_, fun s v => .of_eq rfl, fun base _ _ => ok_law (P := l.prog) (w := w) (base := base) T⟩
end
end HA

end
open PySem PySem.W PyProof.Rows
set_option maxRecDepth 100000 in
set_option maxHeartbeats 0 in
theorem PySem.Challenge.cw_halfalike_k02_whole_made_holds : PySem.Challenge.rw_halfalike_k02_whole_made.Holds := by
  w_on; o_law; k_head; (case hw => w_witness2)
  k_fill
  refine L2.walk_ofB (l := PySem.Challenge.rw_halfalike_k02_whole_made) (n := 63) (k := 6) (x := "_law_script") (CX := fun _ => L2.CX0) (sp := fun w => HA.sp_law _) rfl (by decide) rfl ⟨rfl, by decide, by decide⟩ (fun w h Y => PySem.W.kIn_of Y) ?F (fun _ _ a ns hl hb _ hS => ⟨a, ns, rfl, hS, hl, hb, fun _ => rfl⟩) (fun _ _ _ _ _ h => h)
  case F =>
    intro w mg fa h KX G hmg
    refine' HA.all_mk KX G hmg ?a0 ?l0 ?c0 ?k0 ?a1 ?l1 ?c1 ?k1 ?a2 ?l2 ?c2 ?k2 ?a3 ?l3 ?c3 ?k3 ?a4 ?l4 ?c4 ?k4 ?a5 ?l5 ?c5 ?k5 ?a6 ?l6 ?c6 ?k6 ?a7 ?l7 ?c7 ?k7 ?a8 ?l8 ?c8 ?k8 ?a9 ?l9 ?c9 ?k9 ?a10 ?l10 ?c10 ?k10 ?a11 ?l11 ?c11 ?k11 ?a12 ?l12 ?c12 ?k12 ?a13 ?l13 ?c13 ?k13 ?a14 ?l14 ?c14 ?k14 ?a15 ?l15 ?c15 ?k15 ?a16 ?l16 ?c16 ?k16 ?a17 ?l17 ?c17 ?k17 ?a18 ?l18 ?c18 ?k18 ?a19 ?l19 ?c19 ?k19 ?a20 ?l20 ?c20 ?k20 ?a21 ?l21 ?c21 ?k21 ?z_isinstance ?z_int ?z_bool ?z_list ?z_all ?z_range ?z_len ?z_zip ?z_any ?z_sum ?z_enumerate ?v_MOST ?v_GREATEST ?hnn ?htk ?g_SignError ?g_BadNumbers ?g_BadParts ?g_BadPlace ?g_BadSigns ?g_BadTable ?g_TooGreat ?g_NoNumbers ?x_BadParts ?k_BadParts ?eb_BadParts ?et_BadParts ?eg_BadParts ?eq_BadParts ?eh_BadParts ?ea_BadParts ?eo_BadParts ?x_TooGreat ?k_TooGreat ?eb_TooGreat ?et_TooGreat ?eg_TooGreat ?eq_TooGreat ?eh_TooGreat ?ea_TooGreat ?eo_TooGreat ?ek_BadParts_BadNumbers ?ek_BadParts_BadParts ?ek_BadParts_BadPlace ?ek_BadParts_BadSigns ?ek_BadParts_BadTable ?ek_BadParts_TooGreat ?ek_BadParts_NoNumbers ?ek_TooGreat_BadNumbers ?ek_TooGreat_BadParts ?ek_TooGreat_BadPlace ?ek_TooGreat_BadSigns ?ek_TooGreat_BadTable ?ek_TooGreat_TooGreat ?ek_TooGreat_NoNumbers ?ms_BadParts_SignError ?mb_BadParts_SignError ?mh_BadParts_SignError ?mt_BadParts_SignError ?ms_TooGreat_SignError ?mb_TooGreat_SignError ?mh_TooGreat_SignError ?mt_TooGreat_SignError
    (case a0 => k_is)
    (case l0 => k_is)
    (case c0 => k_is)
    (case k0 => k_is)
    (case a1 => k_is)
    (case l1 => k_is)
    (case c1 => k_is)
    (case k1 => k_is)
    (case a2 => k_is)
    (case l2 => k_is)
    (case c2 => k_is)
    (case k2 => k_is)
    (case a3 => k_is)
    (case l3 => k_is)
    (case c3 => k_is)
    (case k3 => k_is)
    (case a4 => k_is)
    (case l4 => k_is)
    (case c4 => k_is)
    (case k4 => k_is)
    (case a5 => k_is)
    (case l5 => k_is)
    (case c5 => k_is)
    (case k5 => k_is)
    (case a6 => k_is)
    (case l6 => k_is)
    (case c6 => k_is)
    (case k6 => k_is)
    (case a7 => k_is)
    (case l7 => k_is)
    (case c7 => k_is)
    (case k7 => k_is)
    (case a8 => k_is)
    (case l8 => k_is)
    (case c8 => k_is)
    (case k8 => k_is)
    (case a9 => k_is)
    (case l9 => k_is)
    (case c9 => k_is)
    (case k9 => k_is)
    (case a10 => k_is)
    (case l10 => k_is)
    (case c10 => k_is)
    (case k10 => k_is)
    (case a11 => k_is)
    (case l11 => k_is)
    (case c11 => k_is)
    (case k11 => k_is)
    (case a12 => k_is)
    (case l12 => k_is)
    (case c12 => k_is)
    (case k12 => k_is)
    (case a13 => k_is)
    (case l13 => k_is)
    (case c13 => k_is)
    (case k13 => k_is)
    (case a14 => k_is)
    (case l14 => k_is)
    (case c14 => k_is)
    (case k14 => k_is)
    (case a15 => k_is)
    (case l15 => k_is)
    (case c15 => k_is)
    (case k15 => k_is)
    (case a16 => k_is)
    (case l16 => k_is)
    (case c16 => k_is)
    (case k16 => k_is)
    (case a17 => k_is)
    (case l17 => k_is)
    (case c17 => k_is)
    (case k17 => k_is)
    (case a18 => k_is)
    (case l18 => k_is)
    (case c18 => k_is)
    (case k18 => k_is)
    (case a19 => k_is)
    (case l19 => k_is)
    (case c19 => k_is)
    (case k19 => k_is)
    (case a20 => k_is)
    (case l20 => k_is)
    (case c20 => k_is)
    (case k20 => k_is)
    (case a21 => k_is)
    (case l21 => k_is)
    (case c21 => k_is)
    (case k21 => k_is)
    (case z_isinstance => k_is)
    (case z_int => k_is)
    (case z_bool => k_is)
    (case z_list => k_is)
    (case z_all => k_is)
    (case z_range => k_is)
    (case z_len => k_is)
    (case z_zip => k_is)
    (case z_any => k_is)
    (case z_sum => k_is)
    (case z_enumerate => k_is)
    (case v_MOST => k_is)
    (case v_GREATEST => k_is)
    (case hnn => k_is)
    (case htk => k_is)
    (case g_SignError => k_is)
    (case g_BadNumbers => k_is)
    (case g_BadParts => k_is)
    (case g_BadPlace => k_is)
    (case g_BadSigns => k_is)
    (case g_BadTable => k_is)
    (case g_TooGreat => k_is)
    (case g_NoNumbers => k_is)
    (case x_BadParts => k_exc)
    (case k_BadParts => k_is)
    (case eb_BadParts => k_is)
    (case et_BadParts => k_is)
    (case eg_BadParts => k_is)
    (case eq_BadParts => k_is)
    (case eh_BadParts => k_is)
    (case ea_BadParts => k_is)
    (case eo_BadParts => k_is)
    (case x_TooGreat => k_exc)
    (case k_TooGreat => k_is)
    (case eb_TooGreat => k_is)
    (case et_TooGreat => k_is)
    (case eg_TooGreat => k_is)
    (case eq_TooGreat => k_is)
    (case eh_TooGreat => k_is)
    (case ea_TooGreat => k_is)
    (case eo_TooGreat => k_is)
    (case ek_BadParts_BadNumbers => kit_is)
    (case ek_BadParts_BadParts => kit_is)
    (case ek_BadParts_BadPlace => kit_is)
    (case ek_BadParts_BadSigns => kit_is)
    (case ek_BadParts_BadTable => kit_is)
    (case ek_BadParts_TooGreat => kit_is)
    (case ek_BadParts_NoNumbers => kit_is)
    (case ek_TooGreat_BadNumbers => kit_is)
    (case ek_TooGreat_BadParts => kit_is)
    (case ek_TooGreat_BadPlace => kit_is)
    (case ek_TooGreat_BadSigns => kit_is)
    (case ek_TooGreat_BadTable => kit_is)
    (case ek_TooGreat_TooGreat => kit_is)
    (case ek_TooGreat_NoNumbers => kit_is)
    (case ms_BadParts_SignError => k_is)
    (case mb_BadParts_SignError => k_is)
    (case mh_BadParts_SignError => k_is)
    (case mt_BadParts_SignError => k_is)
    (case ms_TooGreat_SignError => k_is)
    (case mb_TooGreat_SignError => k_is)
    (case mh_TooGreat_SignError => k_is)
    (case mt_TooGreat_SignError => k_is)
