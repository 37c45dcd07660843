import PyProof.Rows.All
import Wide.All
import OpenK.AllK
import Wide.FinOn
import KE.GoesEnum
import HandS.ForMost
import HandS.Walk
import HandS.Wide
import HandS.Codes
import HandS.Defaults
import HandS.Property
import HandS.IsInst
import HandS.SetKeys
import HandS.DictComp
import HandS.ListItems
import HandS.Conv
import HandS.Flow
import HandS.Style
import HandS.HeadHook4
import PySem.Challenge.RW_newesttells_k71_whole_first_tellers
import HandS.ExcInit
import HandS.ExcField
import HandS.HeadWalk
import HandS.Head2
import KE.KStateDown
import KE.KDictList
import KE.KDictSum
import HandS.Sort
import HandS.SetTxt0
import HandS.Set
import HandS.Strs
import HandS.SetFor
import KE.OsArith
import KE.SortUse
import HandS.SortKw
import HandS.Lambda
import HandS.ExcValue
import HandS.Exc
import HandS.ExcIs
import HandS.WordsExc
import KE.KExcIs
set_option Elab.async false
set_option linter.all false
set_option maxRecDepth 100000
/-! ## A0 -/
section
set_option maxHeartbeats 2000000
/-! zip of a text and a text, of a text and a list, as what a for (a comprehension) walks. -/
namespace L2
open PySem PySem.Spec PyProof.Rows
def ItzSS (x y : Str) : It :=
  ⟨fun i _ => i < min x.cps.size y.cps.size,
    fun i H v H' => ∃ T c d, v = .ref T ∧ H T = none ∧ H' = upd H T (.tup [.str ⟨#[c]⟩, .str ⟨#[d]⟩]) ∧ x.cps[i]? = some c ∧ y.cps[i]? = some d,
    fun i _ => i = min x.cps.size y.cps.size⟩
theorem turn_zipSS {P : Program} {w : World} {K : PySem.W.Frag} {elts : List Expr} {kk : Nat} {tpos : Pos} {x y : Str} {t u : Tok} {z TI TO i1 i2 : Addr} (S : ZipSep2 z TI TO i1 i2 [i1] [i2]) :
    Turn P w K (.Tuple elts kk tpos) (ItzSS x y) [z, TI, TO, i1, i2] z (fun i h => IsZip h z TI TO .none ∧ IsTupOf2 h TI (.ref i1) (.ref i2) ∧ (∃ a b, IsTupOf2 h TO a b) ∧ h.IsStrIter i1 (strIterType x) x t i ∧ h.IsStrIter i2 (strIterType y) y u i) where
  mem := by simp
  obj := fun i h st c hc => by
    obtain ⟨hz, hTI, ⟨a, b, hTO⟩, ⟨o1, e1, _, d1⟩, ⟨o2, e2, _, d2⟩⟩ := st
    have e' : c = z ∨ c = TI ∨ c = TO ∨ c = i1 ∨ c = i2 := by simpa using hc
    rcases e' with q | q | q | q | q
    · rw [q]; exact ⟨_, hz, fun v q => nomatch q⟩
    · rw [q]; exact ⟨_, hTI, fun v q => nomatch q⟩
    · rw [q]; exact ⟨_, hTO, fun v q => nomatch q⟩
    · rw [q]; exact ⟨o1, e1, fun v q => by rw [d1] at q; cases q⟩
    · rw [q]; exact ⟨o2, e2, fun v q => by rw [d2] at q; cases q⟩
  keep := fun i h h' st k => by
    obtain ⟨hz, hTI, ⟨a, b, hTO⟩, ⟨o1, e1, r1⟩, ⟨o2, e2, r2⟩⟩ := st
    exact ⟨k z (by simp) _ hz, k TI (by simp) _ hTI, ⟨a, b, k TO (by simp) _ hTO⟩, ⟨o1, k i1 (by simp) _ e1, r1⟩, ⟨o2, k i2 (by simp) _ e2, r2⟩⟩
  item := by
    intro X hP hw hK hc i pins s σ H E I hf st hg
    subst hP hw hK
    obtain ⟨hz, hTI, ⟨a, b, hTO⟩, st1, st2⟩ := st
    have hh : X.A.in1.handled = none := I.ok.hd hc
    have hlt : i < min x.cps.size y.cps.size := hg
    have hzl : z < s.heap.objs.size := Heap.lt_size hz
    refine wpAny_pyNext_zipD2_item (A := X.A) S (Draws.text hh i1 x t) (Draws.text hh i2 y u) hz hTI hTO st1 st2 (by omega) (by omega) fun x1 x2 h' tk y1 y2 b1 b2 d1 d2 b5 b6 hk => ?_
    obtain ⟨c, u1, hc1, rfl⟩ := y1
    obtain ⟨d, u2, hd1, rfl⟩ := y2
    refine ⟨_, rfl, wpAny_letOwnedTupleGo_zip (s := { s with heap := h', toks := tk }) b1 fun h'' z'' sb => ?_⟩
    have hT2 : h''.get? s.heap.objs.size = some { cls := .type "tuple", data := .seq #[.str ⟨#[c]⟩ u1, .str ⟨#[d]⟩ u2] } := (sb.2 _ (Nat.ne_of_gt hzl)).trans b5
    have new : ObjOk X.prog X.w (upd H s.heap.objs.size (.tup [.str ⟨#[c]⟩, .str ⟨#[d]⟩])) h'' s.heap.objs.size (.tup [.str ⟨#[c]⟩, .str ⟨#[d]⟩]) :=
      ⟨by show 2 ≤ sizeLine; decide, [.str ⟨#[c]⟩ u1, .str ⟨#[d]⟩ u2], .cons ⟨_, rfl⟩ (.cons ⟨_, rfl⟩ .nil), ⟨_, hT2, rfl, _, rfl⟩⟩
    have I1 : Inv X pins σ (upd H s.heap.objs.size (.tup [.str ⟨#[c]⟩, .str ⟨#[d]⟩])) { s with heap := h'', toks := tk } :=
      I.turnedNew (t' := tk) (ch := [z, TI, TO, i1, i2]) (fun c o hb q => (sb.2 c (fun q' => hb (by simp [q']))).trans (hk c o (fun q' => hb (by simp [q'])) (fun q' => hb (by simp [q'])) (fun q' => hb (by simp [q'])) (fun q' => hb (by simp [q'])) q)) hf (Nat.le_refl _) new
    refine ⟨.ref s.heap.objs.size, _, I1, rfl, ⟨_, c, d, rfl, I.hok.fresh (Nat.le_refl _), rfl, hc1, hd1⟩, ⟨z'', ?_, ⟨.str ⟨#[c]⟩ u1, .str ⟨#[d]⟩ u2, ?_⟩, ?_, ?_⟩, fun c hcm => ?_⟩
    · exact (sb.2 _ S.TIz).trans (hk _ _ S.TIz S.TITO S.TIi1 S.TIi2 hTI)
    · exact (sb.2 _ S.TOz).trans b2
    · obtain ⟨o, e, r⟩ := d1
      exact ⟨o, (sb.2 _ (Ne.symm S.zi1)).trans e, r⟩
    · obtain ⟨o, e, r⟩ := d2
      exact ⟨o, (sb.2 _ (Ne.symm S.zi2)).trans e, r⟩
    · have hlt : c < s.heap.objs.size := by
        have e' : c = z ∨ c = TI ∨ c = TO ∨ c = i1 ∨ c = i2 := by simpa using hcm
        rcases e' with q | q | q | q | q
        · rw [q]; exact hzl
        · rw [q]; exact Heap.lt_size hTI
        · rw [q]; exact Heap.lt_size hTO
        · rw [q]; obtain ⟨_, e1, _⟩ := st1; exact Heap.lt_size e1
        · rw [q]; obtain ⟨_, e2, _⟩ := st2; exact Heap.lt_size e2
      rw [upd_ne (Nat.ne_of_lt hlt)]
      exact (hf c hcm).1
  done := by
    intro X hP hw hK hc i pins s σ H E I hf st hg
    subst hP hw hK
    obtain ⟨hz, hTI, ⟨a, b, hTO⟩, st1, st2⟩ := st
    have hh : X.A.in1.handled = none := I.ok.hd hc
    have he : i = min x.cps.size y.cps.size := hg
    exact wpAny_pyNext_zipD2_end (A := X.A) S (Draws.text hh i1 x t) (Draws.text hh i2 y u) hz hTI hTO st1 st2 (by omega) (by omega) (by omega) fun h' tk hk => ⟨rfl, I.turnedL (t' := tk) (ch := [z, TI, TO, i1, i2]) (fun c o hb q =>
      hk c o (fun q' => hb (by simp [q'])) (fun q' => hb (by simp [q'])) (fun q' => hb (by simp [q'])) (fun q' => hb (by simp [q'])) q) hf⟩
  self := fun A i s Q E st h => wpAny_pyIter_zip st.1 h
def iZipSS (ta : TA) : TI := fun σ H R => ta σ H fun vs H1 => ∃ x y, vs = [.str x, .str y] ∧ R (ItzSS x y) H1
theorem new5 {X : Cx} {pins : List (Addr × Obj)} {σ : St} {H : Hp} {s s' : Shared} (I : Inv X pins σ H s) (I' : Inv X pins σ H s) :
    ∀ c ∈ [s.heap.objs.size + 4, s.heap.objs.size + 2, s.heap.objs.size + 3, s.heap.objs.size, s.heap.objs.size + 1], FpOk X pins H c := fun c hcm => by
  have e' : c = s.heap.objs.size + 4 ∨ c = s.heap.objs.size + 2 ∨ c = s.heap.objs.size + 3 ∨ c = s.heap.objs.size ∨ c = s.heap.objs.size + 1 := by simpa using hcm
  have hle : s.heap.objs.size ≤ c := by
    rcases e' with z | z | z | z | z
    · rw [z]; exact Nat.le_add_right _ _
    · rw [z]; exact Nat.le_add_right _ _
    · rw [z]; exact Nat.le_add_right _ _
    · rw [z]; exact Nat.le_refl _
    · rw [z]; exact Nat.le_add_right _ _
  exact I.fpOk hle (I.hok.fresh hle)
theorem pi_zipSS {X : Cx} {e e2 : Expr} {ta : TA} {p pos tpos : Pos} {elts : List Expr} {kk : Nat} (hg : Gl X "zip") (hm : X.mg "zip" = none) (ha : PA X [e, e2] ta)
    (hs : starEach [e, e2] X.env = (false, eval e X.env) :: starEach [e2] X.env := by rfl) (hpl : (backTo pos (starEach [e2] X.env)).any (·.1) = false := by rfl) :
    PI X (.Tuple elts kk tpos) (.Call (.Name "zip" p) [e, e2] [] pos) (iZipSS ta) := by
  refine ⟨fun pins s σ H R I h => ?_⟩
  refine Call_ (ld_blt I hg hm PyProof.Rows.boot_zip (PyProof.Rows.callWith_type1 (thn (ha.run pos pins s σ H _ I h) fun us s1 ⟨vs, H1, I1, r1, q1⟩ => ?_) hs hpl))
  obtain ⟨x, y, ex, q⟩ := q1
  subst ex
  cases r1 with
  | cons r rr =>
    cases rr with
    | cons r' rr =>
      cases rr
      obtain ⟨t, rfl⟩ := r
      obtain ⟨u, rfl⟩ := r'
      refine zip_begins2 (begins_text x t) (begins_text y u) trivial trivial fun h' hz hTI hTO h1 h2 hsz hk => wpAny_pyIter_zip hz ?_
      have I2 : Inv X pins σ H1 { s1 with heap := h' } := I1.kept (t' := s1.toks) hk
      exact ⟨s1.heap.objs.size + 4, [s1.heap.objs.size + 4, s1.heap.objs.size + 2, s1.heap.objs.size + 3, s1.heap.objs.size, s1.heap.objs.size + 1], _, _, H1, rfl, I2,
        turn_zipSS (t := t) (u := u) (zip_sep2 (N := s1.heap.objs.size) (fp1 := []) (fp2 := []) (fun _ z => nomatch z) (fun _ z => nomatch z)), ⟨hz, hTI, ⟨_, _, hTO⟩, ⟨_, h1, rfl, rfl⟩, ⟨_, h2, rfl, rfl⟩⟩, fun c hcm => new5 (s' := s1) I1 I1 c hcm, q⟩
/-! ### a text and a list -/
def ItzSL (K : PySem.W.Frag) (x : Str) (b : Addr) : It :=
  ⟨fun i H => ∃ (ys : List V) (c : Nat) (y : V), SqL K H b ys ∧ x.cps[i]? = some c ∧ ys[i]? = some y,
    fun i H v H' => ∃ T c y, v = .ref T ∧ H T = none ∧ H' = upd H T (.tup [.str ⟨#[c]⟩, y]) ∧ x.cps[i]? = some c ∧ ∀ ys, SqL K H b ys → ys[i]? = some y,
    fun i H => ∃ ys : List V, SqL K H b ys ∧ i = min x.cps.size ys.length⟩
theorem turn_zipSL {P : Program} {w : World} {K : PySem.W.Frag} {elts : List Expr} {kk : Nat} {tpos : Pos} {x : Str} {t : Tok} {b z TI TO i1 i2 : Addr} (S : ZipSep2 z TI TO i1 i2 [i1] [i2, b]) (hb2 : b ≠ i2) :
    Turn P w K (.Tuple elts kk tpos) (ItzSL K x b) [z, TI, TO, i1, i2] z (fun i h => IsZip h z TI TO .none ∧ IsTupOf2 h TI (.ref i1) (.ref i2) ∧ (∃ a b, IsTupOf2 h TO a b) ∧ h.IsStrIter i1 (strIterType x) x t i ∧ h.IsListIter i2 b i) where
  mem := by simp
  obj := fun i h st c hc => by
    obtain ⟨hz, hTI, ⟨a, b, hTO⟩, ⟨o1, e1, _, d1⟩, ⟨o2, e2, _, d2⟩⟩ := st
    have e' : c = z ∨ c = TI ∨ c = TO ∨ c = i1 ∨ c = i2 := by simpa using hc
    rcases e' with q | q | q | q | q
    · rw [q]; exact ⟨_, hz, fun v q => nomatch q⟩
    · rw [q]; exact ⟨_, hTI, fun v q => nomatch q⟩
    · rw [q]; exact ⟨_, hTO, fun v q => nomatch q⟩
    · rw [q]; exact ⟨o1, e1, fun v q => by rw [d1] at q; cases q⟩
    · rw [q]; exact ⟨o2, e2, fun v q => by rw [d2] at q; cases q⟩
  keep := fun i h h' st k => by
    obtain ⟨hz, hTI, ⟨a, b, hTO⟩, ⟨o1, e1, r1⟩, h2⟩ := st
    exact ⟨k z (by simp) _ hz, k TI (by simp) _ hTI, ⟨a, b, k TO (by simp) _ hTO⟩, ⟨o1, k i1 (by simp) _ e1, r1⟩, h2.at fun o q => k i2 (by simp) o q⟩
  item := by
    intro X hP hw hK hc i pins s σ H E I hf st hg
    subst hP hw hK
    obtain ⟨hz, hTI, ⟨a0, b0, hTO⟩, st1, st2⟩ := st
    have hh : X.A.in1.handled = none := I.ok.hd hc
    obtain ⟨ys, c0, y, hq, hc0, hy⟩ := hg
    obtain ⟨its, rv, p, _⟩ := I.list hq
    have hl := rv.length
    have hzl : z < s.heap.objs.size := Heap.lt_size hz
    have hi1 : i < x.cps.size := (Array.getElem?_eq_some_iff.mp hc0).1
    have hi2 : i < its.toArray.size := by
      have := (List.getElem?_eq_some_iff.mp hy).1
      simp only [List.size_toArray]
      omega
    refine wpAny_pyNext_zipD2_item (A := X.A) S (Draws.text hh i1 x t) (Draws.list hh i2 b hb2 its.toArray) hz hTI hTO st1 ⟨st2, p.isList⟩ hi1 hi2 fun x1 x2 h' tk y1 y2 b1 b2 d1 d2 b5 b6 hk => ?_
    obtain ⟨c, u1, hc1, rfl⟩ := y1
    obtain ⟨u, hu, ru⟩ := rv.get hy
    have e2 : x2 = u := by
      have hu' : its.toArray[i]? = some u := by simpa using hu
      rw [hu'] at y2
      exact (Option.some.inj y2).symm
    subst e2
    refine ⟨_, rfl, wpAny_letOwnedTupleGo_zip (s := { s with heap := h', toks := tk }) b1 fun h'' z'' sb => ?_⟩
    have hT2 : h''.get? s.heap.objs.size = some { cls := .type "tuple", data := .seq #[.str ⟨#[c]⟩ u1, x2] } := (sb.2 _ (Nat.ne_of_gt hzl)).trans b5
    have new : ObjOk X.prog X.w (upd H s.heap.objs.size (.tup [.str ⟨#[c]⟩, y])) h'' s.heap.objs.size (.tup [.str ⟨#[c]⟩, y]) :=
      ⟨by show 2 ≤ sizeLine; decide, [.str ⟨#[c]⟩ u1, x2], .cons ⟨_, rfl⟩ (.cons ru .nil), ⟨_, hT2, rfl, _, rfl⟩⟩
    have I1 : Inv X pins σ (upd H s.heap.objs.size (.tup [.str ⟨#[c]⟩, y])) { s with heap := h'', toks := tk } :=
      I.turnedNew (t' := tk) (ch := [z, TI, TO, i1, i2]) (fun c o hb q => (sb.2 c (fun q' => hb (by simp [q']))).trans (hk c o (fun q' => hb (by simp [q'])) (fun q' => hb (by simp [q'])) (fun q' => hb (by simp [q'])) (fun q' => hb (by simp [q'])) q)) hf (Nat.le_refl _) new
    refine ⟨.ref s.heap.objs.size, _, I1, rfl, ⟨_, c, y, rfl, I.hok.fresh (Nat.le_refl _), rfl, hc1, fun l hl => by rw [I.list_inj hl hq]; exact hy⟩, ⟨z'', ?_, ⟨.str ⟨#[c]⟩ u1, x2, ?_⟩, ?_, ?_⟩, fun c hcm => ?_⟩
    · exact (sb.2 _ S.TIz).trans (hk _ _ S.TIz S.TITO S.TIi1 S.TIi2 hTI)
    · exact (sb.2 _ S.TOz).trans b2
    · obtain ⟨o, e, r⟩ := d1
      exact ⟨o, (sb.2 _ (Ne.symm S.zi1)).trans e, r⟩
    · exact d2.1.at fun o q => (sb.2 _ (Ne.symm S.zi2)).trans q
    · have hlt : c < s.heap.objs.size := by
        have e' : c = z ∨ c = TI ∨ c = TO ∨ c = i1 ∨ c = i2 := by simpa using hcm
        rcases e' with q | q | q | q | q
        · rw [q]; exact hzl
        · rw [q]; exact Heap.lt_size hTI
        · rw [q]; exact Heap.lt_size hTO
        · rw [q]; obtain ⟨_, e1, _⟩ := st1; exact Heap.lt_size e1
        · rw [q]; obtain ⟨_, e2, _⟩ := st2; exact Heap.lt_size e2
      rw [upd_ne (Nat.ne_of_lt hlt)]
      exact (hf c hcm).1
  done := by
    intro X hP hw hK hc i pins s σ H E I hf st hg
    subst hP hw hK
    obtain ⟨hz, hTI, ⟨a0, b0, hTO⟩, st1, st2⟩ := st
    have hh : X.A.in1.handled = none := I.ok.hd hc
    obtain ⟨ys, hq, he⟩ := hg
    obtain ⟨its, rv, p, _⟩ := I.list hq
    have hl := rv.length
    have hs : its.toArray.size = ys.length := by simp only [List.size_toArray]; omega
    exact wpAny_pyNext_zipD2_end (A := X.A) S (Draws.text hh i1 x t) (Draws.list hh i2 b hb2 its.toArray) hz hTI hTO st1 ⟨st2, p.isList⟩ (by omega) (by omega) (by omega) fun h' tk hk => ⟨rfl, I.turnedL (t' := tk) (ch := [z, TI, TO, i1, i2]) (fun c o hb q =>
      hk c o (fun q' => hb (by simp [q'])) (fun q' => hb (by simp [q'])) (fun q' => hb (by simp [q'])) (fun q' => hb (by simp [q'])) q) hf⟩
  self := fun A i s Q E st h => wpAny_pyIter_zip st.1 h
def iZipSL (K : PySem.W.Frag) (ta : TA) : TI := fun σ H R => ta σ H fun vs H1 => ∃ x b ys, vs = [.str x, .ref b] ∧ SqL K H1 b ys ∧ R (ItzSL K x b) H1
theorem pi_zipSL {X : Cx} {e e2 : Expr} {ta : TA} {p pos tpos : Pos} {elts : List Expr} {kk : Nat} (hg : Gl X "zip") (hm : X.mg "zip" = none) (ha : PA X [e, e2] ta)
    (hs : starEach [e, e2] X.env = (false, eval e X.env) :: starEach [e2] X.env := by rfl) (hpl : (backTo pos (starEach [e2] X.env)).any (·.1) = false := by rfl) :
    PI X (.Tuple elts kk tpos) (.Call (.Name "zip" p) [e, e2] [] pos) (iZipSL X.K ta) := by
  refine ⟨fun pins s σ H R I h => ?_⟩
  refine Call_ (ld_blt I hg hm PyProof.Rows.boot_zip (PyProof.Rows.callWith_type1 (thn (ha.run pos pins s σ H _ I h) fun us s1 ⟨vs, H1, I1, r1, q1⟩ => ?_) hs hpl))
  obtain ⟨x, b, ys, ex, hq, q⟩ := q1
  subst ex
  cases r1 with
  | cons r rr =>
    cases rr with
    | cons r' rr =>
      cases rr
      obtain ⟨t, rfl⟩ := r
      cases r'
      obtain ⟨its, rv, p', hz'⟩ := I1.list hq
      have lb : b < s1.heap.objs.size := p'.lt
      refine zip_begins2 (begins_text x t) (begins_list b its.toArray) trivial p'.isList fun h' hz hTI hTO h1 h2 hsz hk => wpAny_pyIter_zip hz ?_
      have I2 : Inv X pins σ H1 { s1 with heap := h' } := I1.kept (t' := s1.toks) hk
      exact ⟨s1.heap.objs.size + 4, [s1.heap.objs.size + 4, s1.heap.objs.size + 2, s1.heap.objs.size + 3, s1.heap.objs.size, s1.heap.objs.size + 1], _, _, H1, rfl, I2,
        turn_zipSL (t := t) (zip_sep2 (N := s1.heap.objs.size) (fp1 := []) (fp2 := [b]) (fun _ z => nomatch z) (fun c z => by
          have e : c = b := by simpa using z
          rw [e]
          exact lb)) (Nat.ne_of_lt (Nat.lt_succ_of_lt lb)), ⟨hz, hTI, ⟨_, _, hTO⟩, ⟨_, h1, rfl, rfl⟩, ⟨_, h2, rfl, rfl⟩⟩, fun c hcm => new5 (s' := s1) I1 I1 c hcm, q⟩
section
variable {K : PySem.W.Frag} {b : Addr} {x y : Str} {ys : List V}
theorem walk_zipSS : Walk (ItzSS x y) (min x.cps.size y.cps.size) (fun _ => True) (YPair (fun i => x.cps[i]?.map fun c => .str ⟨#[c]⟩) (fun i => y.cps[i]?.map fun c => .str ⟨#[c]⟩)) := by
  refine ⟨fun _ _ hi _ => hi, fun _ _ => rfl, fun i H v H' _ _ y => ?_⟩
  obtain ⟨T, c, d, h1, h2, h3, h4, h5⟩ := y
  exact ⟨T, _, _, h1, h2, h3, by simp [h4], by simp [h5]⟩
theorem walk_zipSL : Walk (ItzSL K x b) (min x.cps.size ys.length) (fun H => SqL K H b ys) (YPair (fun i => x.cps[i]?.map fun c => .str ⟨#[c]⟩) (fun i => ys[i]?)) := by
  refine ⟨fun i _ hi q => ?_, fun _ q => ⟨ys, q, rfl⟩, fun i H v H' _ q y => ?_⟩
  · have h1 : i < x.cps.size := by omega
    have h2 : i < ys.length := by omega
    exact ⟨ys, x.cps[i], ys[i], q, by simp [h1], by simp [h2]⟩
  · obtain ⟨T, c, y, h1, h2, h3, h4, h5⟩ := y
    exact ⟨T, _, y, h1, h2, h3, by simp [h4], h5 ys q⟩
end
end L2
end
/-! ## A1 -/
section
set_option maxHeartbeats 2000000
/-! The text by places; readings from the goal (w_ ..). -/
namespace NT
open PySem PySem.Spec PyProof.Rows L2
def top (i : Nat) : Stmt := PySem.Challenge.pw_newesttells_k71_whole_first_tellers.main.body.getD i (.Pass ⟨0, 0, 0, 0⟩)
/-- a def of the module -/
abbrev DefG (K : PySem.W.Frag) (mg : Str → Option Value) (g x : Str) (st : Stmt) (dvs : List V) (kws : List (Str × V)) : Prop := mg g = some (.ref (He.ga K g)) ∧ ∃ fd, FunD K x x (defArgs st) (defBody st) (defScope st) dvs kws (He.ga K g) fd
/-- a method -/
abbrev DefM (K : PySem.W.Frag) (c m q : Str) (st : Stmt) (dvs : List V) (kws : List (Str × V)) : Prop := ∃ fd, FunD K m q (defArgs st) (defBody st) (defScope st) dvs kws (He.ma K (He.ga K c) m) fd
/-- a property's getter -/
abbrev DefP (K : PySem.W.Frag) (c m q : Str) (st : Stmt) : Prop := ∃ p g fd, PropOf K (He.ga K c) m p g ∧ FunD K m q (defArgs st) (defBody st) (defScope st) [] [] g fd
abbrev s_common_divisor_divisors : Stmt := top 2
abbrev s_ratio : Stmt := top 19
abbrev s_plus : Stmt := top 20
abbrev s_times : Stmt := top 21
abbrev s_is_name : Stmt := top 24
abbrev s_is_number : Stmt := top 25
abbrev s_check_cells : Stmt := top 31
abbrev s_is_row : Stmt := top 32
abbrev s_over : Stmt := top 33
abbrev s_lot_of : Stmt := top 34
abbrev s_blank : Stmt := top 35
abbrev s_cut : Stmt := top 37
abbrev s_lot_size : Stmt := top 38
abbrev s_ordered_lots : Stmt := top 39
abbrev s_common_divisor_sums : Stmt := top 41
abbrev s_mask : Stmt := top 44
abbrev s_told_cells : Stmt := top 45
abbrev s_masked : Stmt := top 46
abbrev s_within_weight : Stmt := top 47
abbrev s_older_moves : Stmt := top 48
abbrev s_reach_chances : Stmt := top 49
abbrev s_lowest_weights : Stmt := top 53
abbrev s_book_of_weights : Stmt := top 54
abbrev s_check_told : Stmt := top 55
abbrev s_steady_shares : Stmt := top 65
abbrev s_first_tellers : Stmt := top 66
abbrev s_check_seeds : Stmt := top 74
abbrev s_grown_rows : Stmt := top 75
abbrev s_cut_band : Stmt := top 77
abbrev s_law_bag : Stmt := top 79
abbrev s_law_draw : Stmt := top 80
abbrev s_law_of : Stmt := top 81
abbrev s_law_same : Stmt := top 82
abbrev s_law_gcd : Stmt := top 83
abbrev s_law_ratio : Stmt := top 84
abbrev s_law_add : Stmt := top 85
abbrev s_law_by : Stmt := top 86
abbrev s_law_word : Stmt := top 87
abbrev s_law_cells : Stmt := top 88
abbrev s_law_sign : Stmt := top 89
abbrev s_law_seeds : Stmt := top 90
abbrev s_law_over : Stmt := top 91
abbrev s_law_lot : Stmt := top 92
abbrev s_law_inside : Stmt := top 93
abbrev s_law_rows : Stmt := top 94
abbrev s_law_band : Stmt := top 95
abbrev s_law_load : Stmt := top 96
abbrev s_law_plain : Stmt := top 97
abbrev s_law_faces : Stmt := top 98
abbrev s_law_v : Stmt := top 99
abbrev s_law_full : Stmt := top 100
abbrev s_law_size : Stmt := top 101
abbrev s_law_by_size : Stmt := top 102
abbrev s_law_walk : Stmt := top 103
abbrev s_law_untold : Stmt := top 104
abbrev s_law_fields : Stmt := top 105
abbrev s_law_got : Stmt := top 106
abbrev s_law_rest : Stmt := top 107
abbrev s_law_other : Stmt := top 108
abbrev s_law : Stmt := top 109
abbrev s_Book_init : Stmt := inClass (top 52) 0
abbrev s_Book_weights : Stmt := inClass (top 52) 2
abbrev s_Book_untold : Stmt := inClass (top 52) 6
abbrev s_Book_onto : Stmt := inClass (top 52) 14
abbrev s_Band_init : Stmt := inClass (top 76) 0
abbrev s_Band_names : Stmt := inClass (top 76) 3
abbrev s_Band_blank_row : Stmt := inClass (top 76) 8
abbrev s_Band_onto : Stmt := inClass (top 76) 15
abbrev s_Band_contains : Stmt := inClass (top 76) 21
abbrev s_Untold_init : Stmt := inClass (top 11) 0
abbrev s_Book_faces : Stmt := inClass (top 52) 1
abbrev s_Band_size : Stmt := inClass (top 76) 7
/-- what the walk asks of the module as the top has made it -/
structure Tx (K : PySem.W.Frag) (mg : Str → Option Value) : Prop where
  b_abs : mg "abs" = none
  b_all : mg "all" = none
  b_int : mg "int" = none
  b_isinstance : mg "isinstance" = none
  b_len : mg "len" = none
  b_list : mg "list" = none
  b_range : mg "range" = none
  b_set : mg "set" = none
  b_sorted : mg "sorted" = none
  b_str : mg "str" = none
  b_sum : mg "sum" = none
  b_tuple : mg "tuple" = none
  b_zip : mg "zip" = none
  b_enumerate : mg "enumerate" = none
  b_dict : mg "dict" = none
  b_bool : mg "bool" = none
  c_MOST_ROWS : ∃ t, mg "MOST_ROWS" = some (.int 800 t)
  c_MOST_SEEDS : ∃ t, mg "MOST_SEEDS" = some (.int 30 t)
  c_MOST_CELLS : ∃ t, mg "MOST_CELLS" = some (.int 12 t)
  c_MOST_VALUES : ∃ t, mg "MOST_VALUES" = some (.int 4 t)
  c_MOST_WEIGHT : ∃ t, mg "MOST_WEIGHT" = some (.int 999 t)
  c_LETTERS : ∃ t, mg "LETTERS" = some (.str "abcdefghijklmnopqrstuvwxyz" t)
  f_common_divisor_divisors : DefG K mg "common_divisor_divisors" "common_divisor" s_common_divisor_divisors [] []
  f_ratio : DefG K mg "ratio" "ratio" s_ratio [.int 1] []
  f_plus : DefG K mg "plus" "plus" s_plus [] []
  f_times : DefG K mg "times" "times" s_times [] []
  f_is_name : DefG K mg "is_name" "is_name" s_is_name [] []
  f_is_number : DefG K mg "is_number" "is_number" s_is_number [] []
  f_check_cells : DefG K mg "check_cells" "check_cells" s_check_cells [] []
  f_is_row : DefG K mg "is_row" "is_row" s_is_row [] []
  f_over : DefG K mg "over" "over" s_over [] []
  f_lot_of : DefG K mg "lot_of" "lot_of" s_lot_of [] []
  f_blank : DefG K mg "blank" "blank" s_blank [] []
  f_cut : DefG K mg "cut" "cut" s_cut [] []
  f_lot_size : DefG K mg "lot_size" "lot_size" s_lot_size [] []
  f_ordered_lots : DefG K mg "ordered_lots" "ordered_lots" s_ordered_lots [] []
  f_common_divisor_sums : DefG K mg "common_divisor_sums" "common_divisor" s_common_divisor_sums [] []
  f_mask : DefG K mg "mask" "mask" s_mask [] []
  f_told_cells : DefG K mg "told_cells" "told_cells" s_told_cells [] []
  f_masked : DefG K mg "masked" "masked" s_masked [] []
  f_within_weight : DefG K mg "within_weight" "within_weight" s_within_weight [] []
  f_older_moves : DefG K mg "older_moves" "older_moves" s_older_moves [.non] []
  f_reach_chances : DefG K mg "reach_chances" "reach_chances" s_reach_chances [.non] []
  f_lowest_weights : DefG K mg "lowest_weights" "lowest_weights" s_lowest_weights [] []
  f_book_of_weights : DefG K mg "book_of_weights" "book_of_weights" s_book_of_weights [] []
  f_check_told : DefG K mg "check_told" "check_told" s_check_told [] []
  f_steady_shares : DefG K mg "steady_shares" "steady_shares" s_steady_shares [] []
  f_first_tellers : DefG K mg "first_tellers" "first_tellers" s_first_tellers [] []
  f_check_seeds : DefG K mg "check_seeds" "check_seeds" s_check_seeds [] []
  f_grown_rows : DefG K mg "grown_rows" "grown_rows" s_grown_rows [] []
  f_cut_band : DefG K mg "cut_band" "cut_band" s_cut_band [] []
  f_law_bag : DefG K mg "_law_bag" "_law_bag" s_law_bag [] []
  f_law_draw : DefG K mg "_law_draw" "_law_draw" s_law_draw [] []
  f_law_of : DefG K mg "_law_of" "_law_of" s_law_of [] []
  f_law_same : DefG K mg "_law_same" "_law_same" s_law_same [] []
  f_law_gcd : DefG K mg "_law_gcd" "_law_gcd" s_law_gcd [] []
  f_law_ratio : DefG K mg "_law_ratio" "_law_ratio" s_law_ratio [] []
  f_law_add : DefG K mg "_law_add" "_law_add" s_law_add [] []
  f_law_by : DefG K mg "_law_by" "_law_by" s_law_by [] []
  f_law_word : DefG K mg "_law_word" "_law_word" s_law_word [] []
  f_law_cells : DefG K mg "_law_cells" "_law_cells" s_law_cells [] []
  f_law_sign : DefG K mg "_law_sign" "_law_sign" s_law_sign [] []
  f_law_seeds : DefG K mg "_law_seeds" "_law_seeds" s_law_seeds [] []
  f_law_over : DefG K mg "_law_over" "_law_over" s_law_over [] []
  f_law_lot : DefG K mg "_law_lot" "_law_lot" s_law_lot [] []
  f_law_inside : DefG K mg "_law_inside" "_law_inside" s_law_inside [] []
  f_law_rows : DefG K mg "_law_rows" "_law_rows" s_law_rows [] []
  f_law_band : DefG K mg "_law_band" "_law_band" s_law_band [] []
  f_law_load : DefG K mg "_law_load" "_law_load" s_law_load [] []
  f_law_plain : DefG K mg "_law_plain" "_law_plain" s_law_plain [] []
  f_law_faces : DefG K mg "_law_faces" "_law_faces" s_law_faces [] []
  f_law_v : DefG K mg "_law_v" "_law_v" s_law_v [] []
  f_law_full : DefG K mg "_law_full" "_law_full" s_law_full [] []
  f_law_size : DefG K mg "_law_size" "_law_size" s_law_size [] []
  f_law_by_size : DefG K mg "_law_by_size" "_law_by_size" s_law_by_size [] []
  f_law_walk : DefG K mg "_law_walk" "_law_walk" s_law_walk [] []
  f_law_untold : DefG K mg "_law_untold" "_law_untold" s_law_untold [] []
  f_law_fields : DefG K mg "_law_fields" "_law_fields" s_law_fields [] []
  f_law_got : DefG K mg "_law_got" "_law_got" s_law_got [] []
  f_law_rest : DefG K mg "_law_rest" "_law_rest" s_law_rest [] []
  f_law_other : DefG K mg "_law_other" "_law_other" s_law_other [] []
  f_law : DefG K mg "law" "law" s_law [] []
  g_Band : mg "Band" = some (.ref (He.ga K "Band"))
  cl_Band : Cls K (He.ga K "Band")
  mk_Band : Mk K (He.ga K "Band") (He.ma K (He.ga K "Band") "__init__")
  na_Band_cell_list : NoAttr K (He.ga K "Band") "cell_list"
  na_Band_seed_list : NoAttr K (He.ga K "Band") "seed_list"
  na_Band_row_list : NoAttr K (He.ga K "Band") "row_list"
  na_Band_known_rows : NoAttr K (He.ga K "Band") "known_rows"
  na_Band_lot_list : NoAttr K (He.ga K "Band") "lot_list"
  g_Book : mg "Book" = some (.ref (He.ga K "Book"))
  cl_Book : Cls K (He.ga K "Book")
  mk_Book : Mk K (He.ga K "Book") (He.ma K (He.ga K "Book") "__init__")
  na_Book_band : NoAttr K (He.ga K "Book") "band"
  na_Book_weight_table : NoAttr K (He.ga K "Book") "weight_table"
  f_Book_init : DefM K "Book" "__init__" "Book.__init__" s_Book_init [] []
  f_Book_weights : DefM K "Book" "weights" "Book.weights" s_Book_weights [] []
  me_Book_weights : Meth K (He.ga K "Book") "weights" (He.ma K (He.ga K "Book") "weights")
  f_Book_untold : DefM K "Book" "untold" "Book.untold" s_Book_untold [] []
  me_Book_untold : Meth K (He.ga K "Book") "untold" (He.ma K (He.ga K "Book") "untold")
  f_Book_onto : DefM K "Book" "onto" "Book.onto" s_Book_onto [] []
  me_Book_onto : Meth K (He.ga K "Book") "onto" (He.ma K (He.ga K "Book") "onto")
  f_Band_init : DefM K "Band" "__init__" "Band.__init__" s_Band_init [] [("most", .int 800)]
  f_Band_names : DefM K "Band" "names" "Band.names" s_Band_names [] []
  me_Band_names : Meth K (He.ga K "Band") "names" (He.ma K (He.ga K "Band") "names")
  f_Band_blank_row : DefM K "Band" "blank_row" "Band.blank_row" s_Band_blank_row [] []
  me_Band_blank_row : Meth K (He.ga K "Band") "blank_row" (He.ma K (He.ga K "Band") "blank_row")
  f_Band_onto : DefM K "Band" "onto" "Band.onto" s_Band_onto [] []
  me_Band_onto : Meth K (He.ga K "Band") "onto" (He.ma K (He.ga K "Band") "onto")
  f_Band_contains : DefM K "Band" "__contains__" "Band.__contains__" s_Band_contains [] []
  me_Band_contains : Meth K (He.ga K "Band") "__contains__" (He.ma K (He.ga K "Band") "__contains__")
  f_Untold_init : DefM K "Untold" "__init__" "Untold.__init__" s_Untold_init [] []
  f_Book_faces : DefP K "Book" "faces" "Book.faces" s_Book_faces
  f_Band_size : DefP K "Band" "size" "Band.size" s_Band_size
abbrev Bnd (ps : List Str) (st : Stmt) (x q : Str) : Prop := ∀ (kV doc pm : Value) (an : Option Addr) (cdv ct : Value) (us : List Value), us.length = ps.length → bindArgs (PySem.W.fnOf x q (defArgs st) (defBody st) (defScope st) .none kV doc pm an cdv ct) ⟨us, []⟩ = pure (ps.zip us)
section
variable {P : Program} {w : World} {K : PySem.W.Frag} {mg : Str → Option Value} {base : Heap}
/-- a def of the module that lets nothing out -/
theorem calG {g x : Str} {st : Stmt} {N ps : List Str} {k : Nat} {sp : Sp} (D : DefG K mg g x st [] []) (b : Bnd ps st x x) (S : FnScope N ps (defScope st)) (len : ∀ vs H Q E, sp vs H Q E → vs.length = ps.length)
    (hbody : ∀ (f : Addr) (cdv : Value) (A : Around) (outer : List Env) (s : Shared) (H : Hp) (vs : List V) (Q : VK) (E : XK), Room k (A.deeper (envOfC x (defScope st) s.heap.objs.size f cdv)) → sp vs H Q E →
      ∃ t, PSs (cxOf C8.CX0 P w K mg base N x (defScope st) f cdv A outer s H E).nox (defBody st) t ∧ t { nx := fun _ H' => Q .non H', rt := Q } (start N vs) H) : C8.Cal P w K mg base (k + 1) g sp [] := by
  obtain ⟨gm, fd, F⟩ := D
  refine ⟨_, fd, ps, [], F.ok S len fun cdv A outer s H vs Q E hr h => ?_, gm, F.kp, F.bindsN b, .nil⟩
  obtain ⟨t, h1, h2⟩ := hbody _ cdv A outer s H vs Q E hr h
  exact ⟨t, h1.nox, h2⟩
/-- the same, of defaults; n values are written, those behind the first j defaults fill up -/
theorem calGd {g x : Str} {st : Stmt} {N ps : List Str} {dvs : List V} {k n j : Nat} {sp : Sp} (D : DefG K mg g x st dvs []) (hd : dvs ≠ []) (hn : n + (dvs.length - j) = ps.length)
    (b : ∀ (T : Addr) (kV doc pm : Value) (an : Option Addr) (cdv ct : Value) (us its : List Value), us.length = n → its.length = dvs.length →
      ∃ k, bindArgs (PySem.W.fnOf x x (defArgs st) (defBody st) (defScope st) (.ref T) kV doc pm an cdv ct) ⟨us, []⟩ = seqItems? (.ref T) >>= k ∧ k (some its.toArray) = pure (ps.zip (us ++ its.drop j)))
    (S : FnScope N ps (defScope st)) (len : ∀ vs H Q E, sp vs H Q E → vs.length = ps.length)
    (hbody : ∀ (f : Addr) (cdv : Value) (A : Around) (outer : List Env) (s : Shared) (H : Hp) (vs : List V) (Q : VK) (E : XK), Room k (A.deeper (envOfC x (defScope st) s.heap.objs.size f cdv)) → sp vs H Q E →
      ∃ t, PSs (cxOf C8.CX0 P w K mg base N x (defScope st) f cdv A outer s H E).nox (defBody st) t ∧ t { nx := fun _ H' => Q .non H', rt := Q } (start N vs) H) : C8.Cal P w K mg base (k + 1) g sp (dvs.drop j) := by
  obtain ⟨gm, fd, F⟩ := D
  obtain ⟨ds, h1, h2⟩ := F.binds1 n j hd hn b
  refine ⟨_, fd, ps, ds, F.ok S len fun cdv A outer s H vs Q E hr h => ?_, gm, F.kp, h2, h1⟩
  obtain ⟨t, h1, h2⟩ := hbody _ cdv A outer s H vs Q E hr h
  exact ⟨t, h1.nox, h2⟩
/-- a method that lets nothing out -/
theorem metG {c m q : Str} {st : Stmt} {N ps : List Str} {k : Nat} {sp : Sp} (cl : Cls K (He.ga K c)) (me : Meth K (He.ga K c) m (He.ma K (He.ga K c) m)) (D : DefM K c m q st [] []) (b : Bnd ps st m q) (S : FnScope N ps (defScope st)) (len : ∀ vs H Q E, sp vs H Q E → vs.length = ps.length)
    (hbody : ∀ (f : Addr) (cdv : Value) (A : Around) (outer : List Env) (s : Shared) (H : Hp) (vs : List V) (Q : VK) (E : XK), Room k (A.deeper (envOfC q (defScope st) s.heap.objs.size f cdv)) → sp vs H Q E →
      ∃ t, PSs (cxOf C8.CX0 P w K mg base N q (defScope st) f cdv A outer s H E).nox (defBody st) t ∧ t { nx := fun _ H' => Q .non H', rt := Q } (start N vs) H) : C8.Met P w K mg base (k + 1) (He.ga K c) m sp [] := by
  obtain ⟨fd, F⟩ := D
  refine ⟨_, fd, ps, [], cl, me, F.ok S len fun cdv A outer s H vs Q E hr h => ?_, F.bindsN b, .nil⟩
  obtain ⟨t, h1, h2⟩ := hbody _ cdv A outer s H vs Q E hr h
  exact ⟨t, h1.nox, h2⟩
end
/-! ### names of the module -/
section
variable {X : Cx} {x : Str} {pos : Pos}
theorem pe_gint {i : Int} (hg : Gl X x) (h : ∃ t, X.mg x = some (.int i t)) (hd : (x == ("__debug__" : Str)) = false := by decide) : PE X (.Name x pos) (tC (.int i)) := by
  obtain ⟨t, e⟩ := h
  exact pe_glob hg e ⟨t, rfl⟩ hd
theorem pe_gstr {z : Str} (hg : Gl X x) (h : ∃ t, X.mg x = some (.str z t)) (hd : (x == ("__debug__" : Str)) = false := by decide) : PE X (.Name x pos) (tC (.str z)) := by
  obtain ⟨t, e⟩ := h
  exact pe_glob hg e ⟨t, rfl⟩ hd
end
theorem bt_str : bootBuiltins "str" = some (.type "str") := by decide +kernel
theorem bt_int : bootBuiltins "int" = some (.type "int") := by decide +kernel
theorem bt_bool : bootBuiltins "bool" = some (.type "bool") := by decide +kernel
theorem bt_list : bootBuiltins "list" = some (.type "list") := by decide +kernel
theorem bt_tuple : bootBuiltins "tuple" = some (.type "tuple") := by decide +kernel
theorem bt_dict : bootBuiltins "dict" = some (.type "dict") := by decide +kernel
theorem bt_set : bootBuiltins "set" = some (.type "set") := by decide +kernel
theorem bt_abs : bootBuiltins "abs" = some (.builtin "abs") := by decide +kernel
theorem bt_all : bootBuiltins "all" = some (.builtin "all") := by decide +kernel
theorem bt_sum : bootBuiltins "sum" = some (.builtin "sum") := by decide +kernel
theorem bt_sorted : bootBuiltins "sorted" = some (.builtin "sorted") := by decide +kernel
theorem bt_len : bootBuiltins "len" = some (.builtin "len") := by decide +kernel
theorem bt_isinstance : bootBuiltins "isinstance" = some (.builtin "isinstance") := by decide +kernel
/-! ### readings by name -/
abbrev rAddI : R2 := rI0 fun i j => .int (i + j)
abbrev rSubI : R2 := rI0 fun i j => .int (i - j)
abbrev rMulW : R2 := rI CMulW fun i j => .int (i * j)
abbrev rDivW : R2 := rI CDivW fun i j => .int (i / j)
abbrev rModI : R2 := rI (fun _ j => 0 < j) fun i j => .int (i % j)
abbrev rPowI : R2 := rI CPow fun i j => .int (i ^ j.toNat)
abbrev rAndI : R2 := rI0 fun i j => .int (Builtin.bitAnd i j)
abbrev rNegI : V → Hp → VK → Prop := rU fun i => .int (-i)
abbrev rLtI : R2 := rI0 fun i j => .bl (decide (i < j))
abbrev rLeI : R2 := rI0 fun i j => .bl (decide (i ≤ j))
abbrev rGtI : R2 := rI0 fun i j => .bl (decide (j < i))
abbrev rGeI : R2 := rI0 fun i j => .bl (decide (j ≤ i))
def rIsN : R2 := fun x y H Q => y = .non ∧ Q (.bl (decide (x = .non))) H
def rNotN : R2 := fun x y H Q => y = .non ∧ Q (.bl (!decide (x = .non))) H
def rInS : R2 := fun x y H Q => ∃ (c : Nat) (z : Str), x = .str ⟨#[c]⟩ ∧ y = .str z ∧ Q (.bl (decide (c ∈ z.cps.toList))) H
def rNotInS : R2 := fun x y H Q => ∃ (c : Nat) (z : Str), x = .str ⟨#[c]⟩ ∧ y = .str z ∧ Q (.bl (!decide (c ∈ z.cps.toList))) H
def rCatS : R2 := fun x y H Q => ∃ i j, x = .str i ∧ y = .str j ∧ i.length + j.length ≤ sizeLine ∧ Q (.str (i ++ j)) H
def rAbs : List V → Hp → VK → Prop := fun xs H Q => ∃ i, xs = [.int i] ∧ Q (.int (if i < 0 then -i else i)) H
def rLenS : List V → Hp → VK → Prop := fun xs H Q => ∃ z, xs = [.str z] ∧ z.length ≤ sizeLine ∧ Q (.int z.length) H
def rLenD : List V → Hp → VK → Prop := fun xs H Q => ∃ a kvs, xs = [V.ref a] ∧ H a = some (.dK kvs) ∧ Q (.int kvs.length) H
def rLenQ (K : PySem.W.Frag) : List V → Hp → VK → Prop := fun xs H Q => ∃ p ys, xs = [.ref p] ∧ (SqL K H p ys ∨ SqT K H p ys) ∧ Q (.int ys.length) H
def rIntI : List V → Hp → VK → Prop := fun xs H Q => (∃ i, xs = [.int i] ∧ Q (.int i) H) ∨ ∃ k, xs = [.bl k] ∧ Q (.int (if k then 1 else 0)) H
def rStrI : List V → Hp → VK → Prop := fun xs H Q => ∃ i, xs = [.int i] ∧ i.natAbs.log2 < 1920 ∧ Q (.str (toString i)) H
def rDictD : List V → Hp → VK → Prop := fun xs H Q => ∃ (a : Addr) (kvs : List (Key × V)), xs = [.ref a] ∧ Rd H a (.dK kvs) ∧ ∀ p, H p = none → Q (.ref p) (upd H p (.dK kvs))
def rListD : List V → Hp → VK → Prop := fun xs H Q => ∃ (a : Addr) (kvs : List (Key × V)), xs = [.ref a] ∧ Rd H a (.dK kvs) ∧ ∀ p, H p = none → Q (.ref p) (upd H p (.lst (kvs.map fun kv => kV kv.1)))
def rListQ (K : PySem.W.Frag) : List V → Hp → VK → Prop := fun xs H Q => ∃ p ys, xs = [.ref p] ∧ (SqL K H p ys ∨ SqT K H p ys) ∧ ∀ l, H l = none → Q (.ref l) (upd H l (.lst ys))
def rJoin (K : PySem.W.Frag) : V → List V → Hp → VK → Prop := fun x xs H Q => ∃ a p, ∃ ys : List Str, x = .str a ∧ xs = [.ref p] ∧ (SqL K H p (ys.map V.str) ∨ SqT K H p (ys.map V.str)) ∧ (ys.map (·.length)).sum + ys.length * a.length ≤ 16777216 ∧ Q (.str (Txt.join a ys)) H
def rCount : V → List V → Hp → VK → Prop := fun x xs H Q => ∃ a b, x = .str a ∧ xs = [.str b] ∧ Q (.int (Txt.count a b)) H
def tTru (K : PySem.W.Frag) (ta : TE) : TT := fun σ H Q => ta σ H fun x H' => ∃ k, TruV K x H' k ∧ Q k H'
section
variable {X : Cx} {o e : Expr} {apos pos : Pos} {to te : TE}
/-- the items of a dict that nobody else will write: it is locked for good -/
def iItemsF (td : TE) : TI := fun σ H R => td σ H fun x H1 => ∃ d kvs, x = .ref d ∧ H1 d = some (.dK kvs) ∧ ∀ o, R (Iti d o kvs) (upd H1 d (.frz o (.dK kvs)))
end
end NT
end
/-! ## H1 -/
section
set_option maxHeartbeats 2000000
namespace NT
open PySem PySem.Spec PyProof.Rows L2
/-! ### what the top's end is asked -/
def d_common_divisor_divisors : He.DefD := ⟨("common_divisor_divisors", none), "common_divisor", "common_divisor", defArgs s_common_divisor_divisors, defBody s_common_divisor_divisors, defScope s_common_divisor_divisors, [], []⟩
def d_ratio : He.DefD := ⟨("ratio", none), "ratio", "ratio", defArgs s_ratio, defBody s_ratio, defScope s_ratio, [.int 1], []⟩
def d_plus : He.DefD := ⟨("plus", none), "plus", "plus", defArgs s_plus, defBody s_plus, defScope s_plus, [], []⟩
def d_times : He.DefD := ⟨("times", none), "times", "times", defArgs s_times, defBody s_times, defScope s_times, [], []⟩
def d_is_name : He.DefD := ⟨("is_name", none), "is_name", "is_name", defArgs s_is_name, defBody s_is_name, defScope s_is_name, [], []⟩
def d_is_number : He.DefD := ⟨("is_number", none), "is_number", "is_number", defArgs s_is_number, defBody s_is_number, defScope s_is_number, [], []⟩
def d_check_cells : He.DefD := ⟨("check_cells", none), "check_cells", "check_cells", defArgs s_check_cells, defBody s_check_cells, defScope s_check_cells, [], []⟩
def d_is_row : He.DefD := ⟨("is_row", none), "is_row", "is_row", defArgs s_is_row, defBody s_is_row, defScope s_is_row, [], []⟩
def d_over : He.DefD := ⟨("over", none), "over", "over", defArgs s_over, defBody s_over, defScope s_over, [], []⟩
def d_lot_of : He.DefD := ⟨("lot_of", none), "lot_of", "lot_of", defArgs s_lot_of, defBody s_lot_of, defScope s_lot_of, [], []⟩
def d_blank : He.DefD := ⟨("blank", none), "blank", "blank", defArgs s_blank, defBody s_blank, defScope s_blank, [], []⟩
def d_cut : He.DefD := ⟨("cut", none), "cut", "cut", defArgs s_cut, defBody s_cut, defScope s_cut, [], []⟩
def d_lot_size : He.DefD := ⟨("lot_size", none), "lot_size", "lot_size", defArgs s_lot_size, defBody s_lot_size, defScope s_lot_size, [], []⟩
def d_ordered_lots : He.DefD := ⟨("ordered_lots", none), "ordered_lots", "ordered_lots", defArgs s_ordered_lots, defBody s_ordered_lots, defScope s_ordered_lots, [], []⟩
def d_common_divisor_sums : He.DefD := ⟨("common_divisor_sums", none), "common_divisor", "common_divisor", defArgs s_common_divisor_sums, defBody s_common_divisor_sums, defScope s_common_divisor_sums, [], []⟩
def d_mask : He.DefD := ⟨("mask", none), "mask", "mask", defArgs s_mask, defBody s_mask, defScope s_mask, [], []⟩
def d_told_cells : He.DefD := ⟨("told_cells", none), "told_cells", "told_cells", defArgs s_told_cells, defBody s_told_cells, defScope s_told_cells, [], []⟩
def d_masked : He.DefD := ⟨("masked", none), "masked", "masked", defArgs s_masked, defBody s_masked, defScope s_masked, [], []⟩
def d_within_weight : He.DefD := ⟨("within_weight", none), "within_weight", "within_weight", defArgs s_within_weight, defBody s_within_weight, defScope s_within_weight, [], []⟩
def d_older_moves : He.DefD := ⟨("older_moves", none), "older_moves", "older_moves", defArgs s_older_moves, defBody s_older_moves, defScope s_older_moves, [.non], []⟩
def d_reach_chances : He.DefD := ⟨("reach_chances", none), "reach_chances", "reach_chances", defArgs s_reach_chances, defBody s_reach_chances, defScope s_reach_chances, [.non], []⟩
def d_lowest_weights : He.DefD := ⟨("lowest_weights", none), "lowest_weights", "lowest_weights", defArgs s_lowest_weights, defBody s_lowest_weights, defScope s_lowest_weights, [], []⟩
def d_book_of_weights : He.DefD := ⟨("book_of_weights", none), "book_of_weights", "book_of_weights", defArgs s_book_of_weights, defBody s_book_of_weights, defScope s_book_of_weights, [], []⟩
def d_check_told : He.DefD := ⟨("check_told", none), "check_told", "check_told", defArgs s_check_told, defBody s_check_told, defScope s_check_told, [], []⟩
def d_steady_shares : He.DefD := ⟨("steady_shares", none), "steady_shares", "steady_shares", defArgs s_steady_shares, defBody s_steady_shares, defScope s_steady_shares, [], []⟩
def d_first_tellers : He.DefD := ⟨("first_tellers", none), "first_tellers", "first_tellers", defArgs s_first_tellers, defBody s_first_tellers, defScope s_first_tellers, [], []⟩
def d_check_seeds : He.DefD := ⟨("check_seeds", none), "check_seeds", "check_seeds", defArgs s_check_seeds, defBody s_check_seeds, defScope s_check_seeds, [], []⟩
def d_grown_rows : He.DefD := ⟨("grown_rows", none), "grown_rows", "grown_rows", defArgs s_grown_rows, defBody s_grown_rows, defScope s_grown_rows, [], []⟩
def d_cut_band : He.DefD := ⟨("cut_band", none), "cut_band", "cut_band", defArgs s_cut_band, defBody s_cut_band, defScope s_cut_band, [], []⟩
def d_law_bag : He.DefD := ⟨("_law_bag", none), "_law_bag", "_law_bag", defArgs s_law_bag, defBody s_law_bag, defScope s_law_bag, [], []⟩
def d_law_draw : He.DefD := ⟨("_law_draw", none), "_law_draw", "_law_draw", defArgs s_law_draw, defBody s_law_draw, defScope s_law_draw, [], []⟩
def d_law_of : He.DefD := ⟨("_law_of", none), "_law_of", "_law_of", defArgs s_law_of, defBody s_law_of, defScope s_law_of, [], []⟩
def d_law_same : He.DefD := ⟨("_law_same", none), "_law_same", "_law_same", defArgs s_law_same, defBody s_law_same, defScope s_law_same, [], []⟩
def d_law_gcd : He.DefD := ⟨("_law_gcd", none), "_law_gcd", "_law_gcd", defArgs s_law_gcd, defBody s_law_gcd, defScope s_law_gcd, [], []⟩
def d_law_ratio : He.DefD := ⟨("_law_ratio", none), "_law_ratio", "_law_ratio", defArgs s_law_ratio, defBody s_law_ratio, defScope s_law_ratio, [], []⟩
def d_law_add : He.DefD := ⟨("_law_add", none), "_law_add", "_law_add", defArgs s_law_add, defBody s_law_add, defScope s_law_add, [], []⟩
def d_law_by : He.DefD := ⟨("_law_by", none), "_law_by", "_law_by", defArgs s_law_by, defBody s_law_by, defScope s_law_by, [], []⟩
def d_law_word : He.DefD := ⟨("_law_word", none), "_law_word", "_law_word", defArgs s_law_word, defBody s_law_word, defScope s_law_word, [], []⟩
def d_law_cells : He.DefD := ⟨("_law_cells", none), "_law_cells", "_law_cells", defArgs s_law_cells, defBody s_law_cells, defScope s_law_cells, [], []⟩
def d_law_sign : He.DefD := ⟨("_law_sign", none), "_law_sign", "_law_sign", defArgs s_law_sign, defBody s_law_sign, defScope s_law_sign, [], []⟩
def d_law_seeds : He.DefD := ⟨("_law_seeds", none), "_law_seeds", "_law_seeds", defArgs s_law_seeds, defBody s_law_seeds, defScope s_law_seeds, [], []⟩
def d_law_over : He.DefD := ⟨("_law_over", none), "_law_over", "_law_over", defArgs s_law_over, defBody s_law_over, defScope s_law_over, [], []⟩
def d_law_lot : He.DefD := ⟨("_law_lot", none), "_law_lot", "_law_lot", defArgs s_law_lot, defBody s_law_lot, defScope s_law_lot, [], []⟩
def d_law_inside : He.DefD := ⟨("_law_inside", none), "_law_inside", "_law_inside", defArgs s_law_inside, defBody s_law_inside, defScope s_law_inside, [], []⟩
def d_law_rows : He.DefD := ⟨("_law_rows", none), "_law_rows", "_law_rows", defArgs s_law_rows, defBody s_law_rows, defScope s_law_rows, [], []⟩
def d_law_band : He.DefD := ⟨("_law_band", none), "_law_band", "_law_band", defArgs s_law_band, defBody s_law_band, defScope s_law_band, [], []⟩
def d_law_load : He.DefD := ⟨("_law_load", none), "_law_load", "_law_load", defArgs s_law_load, defBody s_law_load, defScope s_law_load, [], []⟩
def d_law_plain : He.DefD := ⟨("_law_plain", none), "_law_plain", "_law_plain", defArgs s_law_plain, defBody s_law_plain, defScope s_law_plain, [], []⟩
def d_law_faces : He.DefD := ⟨("_law_faces", none), "_law_faces", "_law_faces", defArgs s_law_faces, defBody s_law_faces, defScope s_law_faces, [], []⟩
def d_law_v : He.DefD := ⟨("_law_v", none), "_law_v", "_law_v", defArgs s_law_v, defBody s_law_v, defScope s_law_v, [], []⟩
def d_law_full : He.DefD := ⟨("_law_full", none), "_law_full", "_law_full", defArgs s_law_full, defBody s_law_full, defScope s_law_full, [], []⟩
def d_law_size : He.DefD := ⟨("_law_size", none), "_law_size", "_law_size", defArgs s_law_size, defBody s_law_size, defScope s_law_size, [], []⟩
def d_law_by_size : He.DefD := ⟨("_law_by_size", none), "_law_by_size", "_law_by_size", defArgs s_law_by_size, defBody s_law_by_size, defScope s_law_by_size, [], []⟩
def d_law_walk : He.DefD := ⟨("_law_walk", none), "_law_walk", "_law_walk", defArgs s_law_walk, defBody s_law_walk, defScope s_law_walk, [], []⟩
def d_law_untold : He.DefD := ⟨("_law_untold", none), "_law_untold", "_law_untold", defArgs s_law_untold, defBody s_law_untold, defScope s_law_untold, [], []⟩
def d_law_fields : He.DefD := ⟨("_law_fields", none), "_law_fields", "_law_fields", defArgs s_law_fields, defBody s_law_fields, defScope s_law_fields, [], []⟩
def d_law_got : He.DefD := ⟨("_law_got", none), "_law_got", "_law_got", defArgs s_law_got, defBody s_law_got, defScope s_law_got, [], []⟩
def d_law_rest : He.DefD := ⟨("_law_rest", none), "_law_rest", "_law_rest", defArgs s_law_rest, defBody s_law_rest, defScope s_law_rest, [], []⟩
def d_law_other : He.DefD := ⟨("_law_other", none), "_law_other", "_law_other", defArgs s_law_other, defBody s_law_other, defScope s_law_other, [], []⟩
def d_law : He.DefD := ⟨("law", none), "law", "law", defArgs s_law, defBody s_law, defScope s_law, [], []⟩
def d_Book_init : He.DefD := ⟨("Book", some "__init__"), "__init__", "Book.__init__", defArgs s_Book_init, defBody s_Book_init, defScope s_Book_init, [], []⟩
def d_Book_weights : He.DefD := ⟨("Book", some "weights"), "weights", "Book.weights", defArgs s_Book_weights, defBody s_Book_weights, defScope s_Book_weights, [], []⟩
def d_Book_untold : He.DefD := ⟨("Book", some "untold"), "untold", "Book.untold", defArgs s_Book_untold, defBody s_Book_untold, defScope s_Book_untold, [], []⟩
def d_Book_onto : He.DefD := ⟨("Book", some "onto"), "onto", "Book.onto", defArgs s_Book_onto, defBody s_Book_onto, defScope s_Book_onto, [], []⟩
def d_Band_init : He.DefD := ⟨("Band", some "__init__"), "__init__", "Band.__init__", defArgs s_Band_init, defBody s_Band_init, defScope s_Band_init, [], [("most", .int 800)]⟩
def d_Band_names : He.DefD := ⟨("Band", some "names"), "names", "Band.names", defArgs s_Band_names, defBody s_Band_names, defScope s_Band_names, [], []⟩
def d_Band_blank_row : He.DefD := ⟨("Band", some "blank_row"), "blank_row", "Band.blank_row", defArgs s_Band_blank_row, defBody s_Band_blank_row, defScope s_Band_blank_row, [], []⟩
def d_Band_onto : He.DefD := ⟨("Band", some "onto"), "onto", "Band.onto", defArgs s_Band_onto, defBody s_Band_onto, defScope s_Band_onto, [], []⟩
def d_Band_contains : He.DefD := ⟨("Band", some "__contains__"), "__contains__", "Band.__contains__", defArgs s_Band_contains, defBody s_Band_contains, defScope s_Band_contains, [], []⟩
def d_Untold_init : He.DefD := ⟨("Untold", some "__init__"), "__init__", "Untold.__init__", defArgs s_Untold_init, defBody s_Untold_init, defScope s_Untold_init, [], []⟩
def hfa0 : List He.Fa := [.free "abs", .free "all", .free "int", .free "isinstance", .free "len", .free "list", .free "range", .free "set", .free "sorted", .free "str", .free "sum", .free "tuple"]
def hfa1 : List He.Fa := [.free "zip", .free "enumerate", .free "dict", .free "bool", .int "MOST_ROWS" 800, .int "MOST_SEEDS" 30, .int "MOST_CELLS" 12, .int "MOST_VALUES" 4, .int "MOST_WEIGHT" 999, .str "LETTERS" "abcdefghijklmnopqrstuvwxyz", .glo "common_divisor_divisors", .glo "ratio"]
def hfa2 : List He.Fa := [.glo "plus", .glo "times", .glo "is_name", .glo "is_number", .glo "check_cells", .glo "is_row", .glo "over", .glo "lot_of", .glo "blank", .glo "cut", .glo "lot_size", .glo "ordered_lots"]
def hfa3 : List He.Fa := [.glo "common_divisor_sums", .glo "mask", .glo "told_cells", .glo "masked", .glo "within_weight", .glo "older_moves", .glo "reach_chances", .glo "lowest_weights", .glo "book_of_weights", .glo "check_told", .glo "steady_shares", .glo "first_tellers"]
def hfa4 : List He.Fa := [.glo "check_seeds", .glo "grown_rows", .glo "cut_band", .glo "_law_bag", .glo "_law_draw", .glo "_law_of", .glo "_law_same", .glo "_law_gcd", .glo "_law_ratio", .glo "_law_add", .glo "_law_by", .glo "_law_word"]
def hfa5 : List He.Fa := [.glo "_law_cells", .glo "_law_sign", .glo "_law_seeds", .glo "_law_over", .glo "_law_lot", .glo "_law_inside", .glo "_law_rows", .glo "_law_band", .glo "_law_load", .glo "_law_plain", .glo "_law_faces", .glo "_law_v"]
def hfa6 : List He.Fa := [.glo "_law_full", .glo "_law_size", .glo "_law_by_size", .glo "_law_walk", .glo "_law_untold", .glo "_law_fields", .glo "_law_got", .glo "_law_rest", .glo "_law_other", .glo "law", .glo "Band", .cls "Band"]
def hfa7 : List He.Fa := [.mkr "Band", .noat "Band" "cell_list", .noat "Band" "seed_list", .noat "Band" "row_list", .noat "Band" "known_rows", .noat "Band" "lot_list", .glo "Book", .cls "Book", .mkr "Book", .noat "Book" "band", .noat "Book" "weight_table", .meth "Book" "weights"]
def hfa8 : List He.Fa := [.meth "Book" "untold", .meth "Book" "onto", .meth "Band" "names", .meth "Band" "blank_row", .meth "Band" "onto", .meth "Band" "__contains__", .glo "TellsError", .glo "Untold", .exm "Untold" "TellsError" true]
def hfa : List He.Fa := hfa0 ++ hfa1 ++ hfa2 ++ hfa3 ++ hfa4 ++ hfa5 ++ hfa6 ++ hfa7 ++ hfa8
def hfn0 : List He.DefD := [d_common_divisor_divisors, d_ratio, d_plus, d_times, d_is_name, d_is_number, d_check_cells, d_is_row, d_over, d_lot_of, d_blank, d_cut]
def hfn1 : List He.DefD := [d_lot_size, d_ordered_lots, d_common_divisor_sums, d_mask, d_told_cells, d_masked, d_within_weight, d_older_moves, d_reach_chances, d_lowest_weights, d_book_of_weights, d_check_told]
def hfn2 : List He.DefD := [d_steady_shares, d_first_tellers, d_check_seeds, d_grown_rows, d_cut_band, d_law_bag, d_law_draw, d_law_of, d_law_same, d_law_gcd, d_law_ratio, d_law_add]
def hfn3 : List He.DefD := [d_law_by, d_law_word, d_law_cells, d_law_sign, d_law_seeds, d_law_over, d_law_lot, d_law_inside, d_law_rows, d_law_band, d_law_load, d_law_plain]
def hfn4 : List He.DefD := [d_law_faces, d_law_v, d_law_full, d_law_size, d_law_by_size, d_law_walk, d_law_untold, d_law_fields, d_law_got, d_law_rest, d_law_other, d_law]
def hfn5 : List He.DefD := [d_Book_init, d_Book_weights, d_Book_untold, d_Book_onto, d_Band_init, d_Band_names, d_Band_blank_row, d_Band_onto, d_Band_contains, d_Untold_init]
def hfn : List He.DefD := hfn0 ++ hfn1 ++ hfn2 ++ hfn3 ++ hfn4 ++ hfn5
/-- the objects that those at as name, of those of a kind -/
def refsAt (g : Addr → Option Obj) (k : Data → Bool) (as : List Addr) : List Addr := as.flatMap fun a => match g a with
  | some o => (match k o.data with
    | true => He.refsD o
    | false => [])
  | none => []
def isFC : Data → Bool
  | .func _ => true
  | .cls _ => true
  | _ => false
def isDi : Data → Bool
  | .dict _ _ => true
  | _ => false
def isFF : Data → Bool
  | .func _ => true
  | .fields _ => true
  | _ => false
def isFu : Data → Bool
  | .func _ => true
  | _ => false
def lv1 (g : Addr → Option Obj) : List Addr := refsAt g isDi [mainGlobals]
def lv2 (g : Addr → Option Obj) : List Addr := refsAt g isFC (lv1 g)
def lv3 (g : Addr → Option Obj) : List Addr := refsAt g isDi (lv2 g)
def lv4 (g : Addr → Option Obj) : List Addr := refsAt g isFF (lv3 g)
def lv5 (g : Addr → Option Obj) : List Addr := refsAt g isFu (lv4 g)
def asL (g : Addr → Option Obj) : List Addr := [mainGlobals] ++ (lv1 g ++ (lv2 g ++ (lv3 g ++ (lv4 g ++ lv5 g))))
/-- a property's getter -/
def gAdr (K : PySem.W.Frag) (c m : Str) : Addr := match PySem.W.recIn K (He.ma K (He.ga K c) m) "property" with
  | some (.ref g :: _) => g
  | _ => 0
def fnA (K : PySem.W.Frag) (a : Addr) : He.FnW := match K.lookup a with
  | some ⟨_, _, .func fd, _⟩ => some (fd.name, fd.qualname, fd.params, fd.body, fd.scope, fd.globals, fd.closure, fd.builtins)
  | _ => none
def fnOkA (K : PySem.W.Frag) (a : Addr) (q : Str) : Bool := PySem.W.keepIn K (.ref a) && (match K.lookup a with
  | some ⟨_, _, .func fd, _⟩ => PySem.W.codeIn K fd.code q && He.dflB K fd.defaults []
  | _ => false)
def valP (c m : Str) (st : Stmt) : He.FnW := some (m, c ++ "." ++ m, defArgs st, .stmts (defBody st), defScope st, mainGlobals, [], builtinsNs)
def propB (K : PySem.W.Frag) (c m : Str) : Bool := He.eqO (PySem.W.findIn K (.ref (He.ga K c)) m) (some (some (.ref (He.ma K (He.ga K c) m)))) && (He.eqO (PySem.W.specialIn K (.ref (He.ma K (He.ga K c) m)) "__get__") (some (some (.builtin "property.__get__"))) &&
  (decide (PySem.W.takesIn K (.ref (He.ma K (He.ga K c) m)) = some true) && ((match PySem.W.recIn K (He.ma K (He.ga K c) m) "property" with
    | some (.ref _ :: _) => true
    | _ => false) && fnOkA K (gAdr K c m) (c ++ "." ++ m))))
theorem prop_ok {K : PySem.W.Frag} {c m : Str} {st : Stmt} (b : propB K c m = true) (e : fnA K (gAdr K c m) = valP c m st) : DefP K c m (c ++ "." ++ m) st := by
  obtain ⟨b1, b⟩ := He.ba b
  obtain ⟨b2, b⟩ := He.ba b
  obtain ⟨b3, b⟩ := He.ba b
  obtain ⟨b4, b5⟩ := He.ba b
  obtain ⟨b6, b7⟩ := He.ba b5
  refine ⟨He.ma K (He.ga K c) m, gAdr K c m, ?_⟩
  have hrec : ∃ rest, PySem.W.recIn K (He.ma K (He.ga K c) m) "property" = some (.ref (gAdr K c m) :: rest) := by
    unfold gAdr
    split at b4
    · rename_i g r q
      exact ⟨r, by rw [q]⟩
    · cases b4
  unfold fnA at e
  cases q : K.lookup (gAdr K c m) with
  | none => rw [q] at e; cases e
  | some o =>
    obtain ⟨oc, od, dt, osl⟩ := o
    rw [q] at e b7
    cases dt with
    | func fd =>
      obtain ⟨n1, n2, n3, n4, n5, n6, n7, n8, n9, n10, n11, n12, n13, n14, n15⟩ := fd
      have e2 : (some (n1, n2, n3, n4, n5, n6, n7, n15) : He.FnW) = some (m, c ++ "." ++ m, defArgs st, .stmts (defBody st), defScope st, mainGlobals, [], builtinsNs) := e
      simp only [Option.some.injEq, Prod.mk.injEq] at e2
      obtain ⟨h1, h2, h3, h4, h5, h6, h7, h8⟩ := e2
      subst h1 h2 h3 h4 h5 h6 h7 h8
      obtain ⟨k1, k2⟩ := He.ba (show (PySem.W.codeIn K n13 (c ++ "." ++ n1) && He.dflB K n8 []) = true from b7)
      exact ⟨_, ⟨He.eqO_ok b1, He.eqO_ok b2, of_decide_eq_true b3, hrec⟩, ⟨oc, od, n8, n9, n10, n11, n12, n13, n14, osl, rfl, q, k1, He.dflB_ok k2, .inl rfl⟩, b6⟩
    | _ => cases b7
def oexB (K : PySem.W.Frag) (C : Addr) : Bool := (match K.lookup C with
  | some ⟨.type t, _, .cls cd, sl⟩ => (match cd.mro, sl.toList with
    | .ref C' :: bm, [_, _, _, _, some (.builtin n), _] => C' == C && (n == "ValueError.__new__" && (cd.hasDict && (!cd.hasDel && (PySem.HandSPX.refsVE bm && t == "type"))))
    | _, _ => false)
  | _ => false) && (decide (PySem.W.findIn K (.ref C) "__setattr__" = some (some (.builtin "object.__setattr__"))) && (decide (PySem.W.subIn K (.ref C) (.type "BaseException") = some true) && (decide (PySem.W.typeIn K (.ref C) = some (.type "type")) && PySem.W.keepIn K (.ref C))))
theorem oexB_ok {K : PySem.W.Frag} {C : Addr} (h : oexB K C = true) : OexC K C := by
  obtain ⟨h1, h⟩ := He.ba h
  obtain ⟨h2, h⟩ := He.ba h
  obtain ⟨h3, h⟩ := He.ba h
  obtain ⟨h4, h5⟩ := He.ba h
  refine ⟨?_, of_decide_eq_true h2, of_decide_eq_true h3, of_decide_eq_true h4, h5⟩
  split at h1
  · rename_i t dd cd sl ho
    split at h1
    · rename_i C' bm k0 k1 k2 k3 n k5 hm hs
      simp only [Bool.and_eq_true, beq_iff_eq, Bool.not_eq_true'] at h1
      obtain ⟨rfl, rfl, hdc, hdel, hr, rfl⟩ := h1
      obtain ⟨nm, bs, mro, ns, qn, hd, sn, sub, ab, col, del⟩ := cd
      dsimp only at hm hdel hdc
      subst hm hdel hdc
      have hsl : sl = #[k0, k1, k2, k3, some (.builtin "ValueError.__new__"), k5] := by
        obtain ⟨l⟩ := sl
        simp only at hs
        rw [hs]
      subst hsl
      exact ⟨nm, qn, ns, bs, bm, sn, sub, ab, col, dd, k0, k1, k2, k3, k5, ho, hr⟩
    · cases h1
  · cases h1
abbrev cUn (K : PySem.W.Frag) : Addr := He.ga K "Untold"
def excB (K : PySem.W.Frag) : Bool := oexB K (cUn K) && (He.eqO (PySem.W.findIn K (.ref (cUn K)) "__init__") (some (some (.ref (He.ma K (cUn K) "__init__")))) && (decide (PySem.W.typeIn K (.ref (He.ma K (cUn K) "__init__")) = some (.type "function")) &&
  (He.eqO (PySem.W.findIn K (.ref (cUn K)) "cell") (some none) && (He.eqO (PySem.W.findIn K (.ref (cUn K)) "code") (some none) && (xfB K (cUn K) && ((PySem.W.clsIn K (cUn K)).isSome && (He.eqO (PySem.W.findIn K (.ref (cUn K)) "__class__") (some (some (.builtin "object.__class__"))) &&
  (He.eqO (PySem.W.specialIn K (.builtin "object.__class__") "__get__") (some (some (.builtin "getset_descriptor.__get__"))) && (decide (PySem.W.takesIn K (.builtin "object.__class__") = some true) && decide (PySem.W.mroIn K (cUn K) (.type "object") = some true))))))))))
def lawD : He.Defn := ("law", none)
def sizeD : He.Defn := ("_law_by_size", none)
def exB (K : PySem.W.Frag) : Bool := propB K "Book" "faces" && (propB K "Band" "size" && (excB K && !decide ((He.cT K lawD).2 = (He.cT K sizeD).2)))
theorem ex_parts {K : PySem.W.Frag} (h : exB K = true) : propB K "Book" "faces" = true ∧ propB K "Band" "size" = true ∧ excB K = true ∧ (He.cT K lawD).2 ≠ (He.cT K sizeD).2 := by
  obtain ⟨h1, h⟩ := He.ba h
  obtain ⟨h2, h⟩ := He.ba h
  obtain ⟨h3, h4⟩ := He.ba h
  refine ⟨h1, h2, h3, fun z => ?_⟩
  rw [decide_eq_true z] at h4
  cases h4
theorem tx_of {K : PySem.W.Frag} {mg : Str → Option Value} {h : Heap} (X : K.In h) (G : h.Ns mainGlobals mg) (c : He.SaysD hfa hfn K) (m : exB K = true) (pf : fnA K (gAdr K "Book" "faces") = valP "Book" "faces" s_Book_faces) (ps : fnA K (gAdr K "Band" "size") = valP "Band" "size" s_Band_size) : Tx K mg where
  b_abs := He.free_ok X G (c.fact 0 (f := .free "abs") rfl)
  b_all := He.free_ok X G (c.fact 1 (f := .free "all") rfl)
  b_int := He.free_ok X G (c.fact 2 (f := .free "int") rfl)
  b_isinstance := He.free_ok X G (c.fact 3 (f := .free "isinstance") rfl)
  b_len := He.free_ok X G (c.fact 4 (f := .free "len") rfl)
  b_list := He.free_ok X G (c.fact 5 (f := .free "list") rfl)
  b_range := He.free_ok X G (c.fact 6 (f := .free "range") rfl)
  b_set := He.free_ok X G (c.fact 7 (f := .free "set") rfl)
  b_sorted := He.free_ok X G (c.fact 8 (f := .free "sorted") rfl)
  b_str := He.free_ok X G (c.fact 9 (f := .free "str") rfl)
  b_sum := He.free_ok X G (c.fact 10 (f := .free "sum") rfl)
  b_tuple := He.free_ok X G (c.fact 11 (f := .free "tuple") rfl)
  b_zip := He.free_ok X G (c.fact 12 (f := .free "zip") rfl)
  b_enumerate := He.free_ok X G (c.fact 13 (f := .free "enumerate") rfl)
  b_dict := He.free_ok X G (c.fact 14 (f := .free "dict") rfl)
  b_bool := He.free_ok X G (c.fact 15 (f := .free "bool") rfl)
  c_MOST_ROWS := He.int_ok X G (c.fact 16 (f := .int "MOST_ROWS" 800) rfl)
  c_MOST_SEEDS := He.int_ok X G (c.fact 17 (f := .int "MOST_SEEDS" 30) rfl)
  c_MOST_CELLS := He.int_ok X G (c.fact 18 (f := .int "MOST_CELLS" 12) rfl)
  c_MOST_VALUES := He.int_ok X G (c.fact 19 (f := .int "MOST_VALUES" 4) rfl)
  c_MOST_WEIGHT := He.int_ok X G (c.fact 20 (f := .int "MOST_WEIGHT" 999) rfl)
  c_LETTERS := He.str_ok X G (c.fact 21 (f := .str "LETTERS" "abcdefghijklmnopqrstuvwxyz") rfl)
  f_common_divisor_divisors := ⟨He.glo_ok X G (c.fact 22 (f := .glo "common_divisor_divisors") rfl), c.def_ 0 (d := d_common_divisor_divisors) rfl⟩
  f_ratio := ⟨He.glo_ok X G (c.fact 23 (f := .glo "ratio") rfl), c.def_ 1 (d := d_ratio) rfl⟩
  f_plus := ⟨He.glo_ok X G (c.fact 24 (f := .glo "plus") rfl), c.def_ 2 (d := d_plus) rfl⟩
  f_times := ⟨He.glo_ok X G (c.fact 25 (f := .glo "times") rfl), c.def_ 3 (d := d_times) rfl⟩
  f_is_name := ⟨He.glo_ok X G (c.fact 26 (f := .glo "is_name") rfl), c.def_ 4 (d := d_is_name) rfl⟩
  f_is_number := ⟨He.glo_ok X G (c.fact 27 (f := .glo "is_number") rfl), c.def_ 5 (d := d_is_number) rfl⟩
  f_check_cells := ⟨He.glo_ok X G (c.fact 28 (f := .glo "check_cells") rfl), c.def_ 6 (d := d_check_cells) rfl⟩
  f_is_row := ⟨He.glo_ok X G (c.fact 29 (f := .glo "is_row") rfl), c.def_ 7 (d := d_is_row) rfl⟩
  f_over := ⟨He.glo_ok X G (c.fact 30 (f := .glo "over") rfl), c.def_ 8 (d := d_over) rfl⟩
  f_lot_of := ⟨He.glo_ok X G (c.fact 31 (f := .glo "lot_of") rfl), c.def_ 9 (d := d_lot_of) rfl⟩
  f_blank := ⟨He.glo_ok X G (c.fact 32 (f := .glo "blank") rfl), c.def_ 10 (d := d_blank) rfl⟩
  f_cut := ⟨He.glo_ok X G (c.fact 33 (f := .glo "cut") rfl), c.def_ 11 (d := d_cut) rfl⟩
  f_lot_size := ⟨He.glo_ok X G (c.fact 34 (f := .glo "lot_size") rfl), c.def_ 12 (d := d_lot_size) rfl⟩
  f_ordered_lots := ⟨He.glo_ok X G (c.fact 35 (f := .glo "ordered_lots") rfl), c.def_ 13 (d := d_ordered_lots) rfl⟩
  f_common_divisor_sums := ⟨He.glo_ok X G (c.fact 36 (f := .glo "common_divisor_sums") rfl), c.def_ 14 (d := d_common_divisor_sums) rfl⟩
  f_mask := ⟨He.glo_ok X G (c.fact 37 (f := .glo "mask") rfl), c.def_ 15 (d := d_mask) rfl⟩
  f_told_cells := ⟨He.glo_ok X G (c.fact 38 (f := .glo "told_cells") rfl), c.def_ 16 (d := d_told_cells) rfl⟩
  f_masked := ⟨He.glo_ok X G (c.fact 39 (f := .glo "masked") rfl), c.def_ 17 (d := d_masked) rfl⟩
  f_within_weight := ⟨He.glo_ok X G (c.fact 40 (f := .glo "within_weight") rfl), c.def_ 18 (d := d_within_weight) rfl⟩
  f_older_moves := ⟨He.glo_ok X G (c.fact 41 (f := .glo "older_moves") rfl), c.def_ 19 (d := d_older_moves) rfl⟩
  f_reach_chances := ⟨He.glo_ok X G (c.fact 42 (f := .glo "reach_chances") rfl), c.def_ 20 (d := d_reach_chances) rfl⟩
  f_lowest_weights := ⟨He.glo_ok X G (c.fact 43 (f := .glo "lowest_weights") rfl), c.def_ 21 (d := d_lowest_weights) rfl⟩
  f_book_of_weights := ⟨He.glo_ok X G (c.fact 44 (f := .glo "book_of_weights") rfl), c.def_ 22 (d := d_book_of_weights) rfl⟩
  f_check_told := ⟨He.glo_ok X G (c.fact 45 (f := .glo "check_told") rfl), c.def_ 23 (d := d_check_told) rfl⟩
  f_steady_shares := ⟨He.glo_ok X G (c.fact 46 (f := .glo "steady_shares") rfl), c.def_ 24 (d := d_steady_shares) rfl⟩
  f_first_tellers := ⟨He.glo_ok X G (c.fact 47 (f := .glo "first_tellers") rfl), c.def_ 25 (d := d_first_tellers) rfl⟩
  f_check_seeds := ⟨He.glo_ok X G (c.fact 48 (f := .glo "check_seeds") rfl), c.def_ 26 (d := d_check_seeds) rfl⟩
  f_grown_rows := ⟨He.glo_ok X G (c.fact 49 (f := .glo "grown_rows") rfl), c.def_ 27 (d := d_grown_rows) rfl⟩
  f_cut_band := ⟨He.glo_ok X G (c.fact 50 (f := .glo "cut_band") rfl), c.def_ 28 (d := d_cut_band) rfl⟩
  f_law_bag := ⟨He.glo_ok X G (c.fact 51 (f := .glo "_law_bag") rfl), c.def_ 29 (d := d_law_bag) rfl⟩
  f_law_draw := ⟨He.glo_ok X G (c.fact 52 (f := .glo "_law_draw") rfl), c.def_ 30 (d := d_law_draw) rfl⟩
  f_law_of := ⟨He.glo_ok X G (c.fact 53 (f := .glo "_law_of") rfl), c.def_ 31 (d := d_law_of) rfl⟩
  f_law_same := ⟨He.glo_ok X G (c.fact 54 (f := .glo "_law_same") rfl), c.def_ 32 (d := d_law_same) rfl⟩
  f_law_gcd := ⟨He.glo_ok X G (c.fact 55 (f := .glo "_law_gcd") rfl), c.def_ 33 (d := d_law_gcd) rfl⟩
  f_law_ratio := ⟨He.glo_ok X G (c.fact 56 (f := .glo "_law_ratio") rfl), c.def_ 34 (d := d_law_ratio) rfl⟩
  f_law_add := ⟨He.glo_ok X G (c.fact 57 (f := .glo "_law_add") rfl), c.def_ 35 (d := d_law_add) rfl⟩
  f_law_by := ⟨He.glo_ok X G (c.fact 58 (f := .glo "_law_by") rfl), c.def_ 36 (d := d_law_by) rfl⟩
  f_law_word := ⟨He.glo_ok X G (c.fact 59 (f := .glo "_law_word") rfl), c.def_ 37 (d := d_law_word) rfl⟩
  f_law_cells := ⟨He.glo_ok X G (c.fact 60 (f := .glo "_law_cells") rfl), c.def_ 38 (d := d_law_cells) rfl⟩
  f_law_sign := ⟨He.glo_ok X G (c.fact 61 (f := .glo "_law_sign") rfl), c.def_ 39 (d := d_law_sign) rfl⟩
  f_law_seeds := ⟨He.glo_ok X G (c.fact 62 (f := .glo "_law_seeds") rfl), c.def_ 40 (d := d_law_seeds) rfl⟩
  f_law_over := ⟨He.glo_ok X G (c.fact 63 (f := .glo "_law_over") rfl), c.def_ 41 (d := d_law_over) rfl⟩
  f_law_lot := ⟨He.glo_ok X G (c.fact 64 (f := .glo "_law_lot") rfl), c.def_ 42 (d := d_law_lot) rfl⟩
  f_law_inside := ⟨He.glo_ok X G (c.fact 65 (f := .glo "_law_inside") rfl), c.def_ 43 (d := d_law_inside) rfl⟩
  f_law_rows := ⟨He.glo_ok X G (c.fact 66 (f := .glo "_law_rows") rfl), c.def_ 44 (d := d_law_rows) rfl⟩
  f_law_band := ⟨He.glo_ok X G (c.fact 67 (f := .glo "_law_band") rfl), c.def_ 45 (d := d_law_band) rfl⟩
  f_law_load := ⟨He.glo_ok X G (c.fact 68 (f := .glo "_law_load") rfl), c.def_ 46 (d := d_law_load) rfl⟩
  f_law_plain := ⟨He.glo_ok X G (c.fact 69 (f := .glo "_law_plain") rfl), c.def_ 47 (d := d_law_plain) rfl⟩
  f_law_faces := ⟨He.glo_ok X G (c.fact 70 (f := .glo "_law_faces") rfl), c.def_ 48 (d := d_law_faces) rfl⟩
  f_law_v := ⟨He.glo_ok X G (c.fact 71 (f := .glo "_law_v") rfl), c.def_ 49 (d := d_law_v) rfl⟩
  f_law_full := ⟨He.glo_ok X G (c.fact 72 (f := .glo "_law_full") rfl), c.def_ 50 (d := d_law_full) rfl⟩
  f_law_size := ⟨He.glo_ok X G (c.fact 73 (f := .glo "_law_size") rfl), c.def_ 51 (d := d_law_size) rfl⟩
  f_law_by_size := ⟨He.glo_ok X G (c.fact 74 (f := .glo "_law_by_size") rfl), c.def_ 52 (d := d_law_by_size) rfl⟩
  f_law_walk := ⟨He.glo_ok X G (c.fact 75 (f := .glo "_law_walk") rfl), c.def_ 53 (d := d_law_walk) rfl⟩
  f_law_untold := ⟨He.glo_ok X G (c.fact 76 (f := .glo "_law_untold") rfl), c.def_ 54 (d := d_law_untold) rfl⟩
  f_law_fields := ⟨He.glo_ok X G (c.fact 77 (f := .glo "_law_fields") rfl), c.def_ 55 (d := d_law_fields) rfl⟩
  f_law_got := ⟨He.glo_ok X G (c.fact 78 (f := .glo "_law_got") rfl), c.def_ 56 (d := d_law_got) rfl⟩
  f_law_rest := ⟨He.glo_ok X G (c.fact 79 (f := .glo "_law_rest") rfl), c.def_ 57 (d := d_law_rest) rfl⟩
  f_law_other := ⟨He.glo_ok X G (c.fact 80 (f := .glo "_law_other") rfl), c.def_ 58 (d := d_law_other) rfl⟩
  f_law := ⟨He.glo_ok X G (c.fact 81 (f := .glo "law") rfl), c.def_ 59 (d := d_law) rfl⟩
  g_Band := He.glo_ok X G (c.fact 82 (f := .glo "Band") rfl)
  cl_Band := He.cls_ok (c.fact 83 (f := .cls "Band") rfl)
  mk_Band := He.mkr_ok (c.fact 84 (f := .mkr "Band") rfl)
  na_Band_cell_list := He.noat_ok (c.fact 85 (f := .noat "Band" "cell_list") rfl)
  na_Band_seed_list := He.noat_ok (c.fact 86 (f := .noat "Band" "seed_list") rfl)
  na_Band_row_list := He.noat_ok (c.fact 87 (f := .noat "Band" "row_list") rfl)
  na_Band_known_rows := He.noat_ok (c.fact 88 (f := .noat "Band" "known_rows") rfl)
  na_Band_lot_list := He.noat_ok (c.fact 89 (f := .noat "Band" "lot_list") rfl)
  g_Book := He.glo_ok X G (c.fact 90 (f := .glo "Book") rfl)
  cl_Book := He.cls_ok (c.fact 91 (f := .cls "Book") rfl)
  mk_Book := He.mkr_ok (c.fact 92 (f := .mkr "Book") rfl)
  na_Book_band := He.noat_ok (c.fact 93 (f := .noat "Book" "band") rfl)
  na_Book_weight_table := He.noat_ok (c.fact 94 (f := .noat "Book" "weight_table") rfl)
  f_Book_init := c.def_ 60 (d := d_Book_init) rfl
  f_Book_weights := c.def_ 61 (d := d_Book_weights) rfl
  me_Book_weights := He.meth_ok (c.fact 95 (f := .meth "Book" "weights") rfl)
  f_Book_untold := c.def_ 62 (d := d_Book_untold) rfl
  me_Book_untold := He.meth_ok (c.fact 96 (f := .meth "Book" "untold") rfl)
  f_Book_onto := c.def_ 63 (d := d_Book_onto) rfl
  me_Book_onto := He.meth_ok (c.fact 97 (f := .meth "Book" "onto") rfl)
  f_Band_init := c.def_ 64 (d := d_Band_init) rfl
  f_Band_names := c.def_ 65 (d := d_Band_names) rfl
  me_Band_names := He.meth_ok (c.fact 98 (f := .meth "Band" "names") rfl)
  f_Band_blank_row := c.def_ 66 (d := d_Band_blank_row) rfl
  me_Band_blank_row := He.meth_ok (c.fact 99 (f := .meth "Band" "blank_row") rfl)
  f_Band_onto := c.def_ 67 (d := d_Band_onto) rfl
  me_Band_onto := He.meth_ok (c.fact 100 (f := .meth "Band" "onto") rfl)
  f_Band_contains := c.def_ 68 (d := d_Band_contains) rfl
  me_Band_contains := He.meth_ok (c.fact 101 (f := .meth "Band" "__contains__") rfl)
  f_Untold_init := c.def_ 69 (d := d_Untold_init) rfl
  f_Book_faces := prop_ok (ex_parts m).1 pf
  f_Band_size := prop_ok (ex_parts m).2.1 ps

/-! ### the Hook -/
def lawT : List He.Defn := [lawD, sizeD]
abbrev AlL : Type := He.AlD × Bool × He.FnW × He.FnW
def obsK (g : Addr → Option Obj) (K : PySem.W.Frag) : AlL := (He.obsD hfa hfn K, exB K && He.tabsB g lawT K, fnA K (gAdr K "Book" "faces"), fnA K (gAdr K "Band" "size"))
def obsL (g : Addr → Option Obj) : AlL := obsK g (He.frT g (asL g))
def valL : AlL := (He.valD hfn, true, valP "Book" "faces" s_Book_faces, valP "Band" "size" s_Band_size)
structure SaysL (h : Heap) (K : PySem.W.Frag) : Prop where
  d : He.SaysD hfa hfn K
  ex : exB K = true
  pf : fnA K (gAdr K "Book" "faces") = valP "Book" "faces" s_Book_faces
  ps : fnA K (gAdr K "Band" "size") = valP "Band" "size" s_Band_size
  hd : ∀ p ∈ lawT, PySem.W.codeHdIn K (He.cT K p).1 (He.cT K p).2 = true
  out : ∀ p ∈ lawT, K.lookup (He.cT K p).2 = none
  emp : ∀ p ∈ lawT, h.get? (He.cT K p).2 = some { cls := .none, data := .fields #[] }
theorem saysL_of {h : Heap} (e : obsL h.get? = valL) : SaysL h (He.frT h.get? (asL h.get?)) := by
  unfold obsL at e
  have hn : ∀ {a : Addr} {o : Obj}, h.get? a = some o → He.emptyTab o = true → (He.frT h.get? (asL h.get?)).lookup a = none := fun {a o} => He.frT_none
  generalize He.frT h.get? (asL h.get?) = K at e hn
  have e2 := congrArg (fun z : AlL => z.2.1) e
  obtain ⟨h1, h2⟩ := He.ba (show (exB K && He.tabsB h.get? lawT K) = true from e2)
  have key := fun p (hp : p ∈ lawT) => He.ba (List.all_eq_true.mp h2 p hp)
  have at_ : ∀ p ∈ lawT, ∃ o, h.get? (He.cT K p).2 = some o ∧ He.emptyTab o = true := fun p hp => by
    have := (key p hp).2
    cases q : h.get? (He.cT K p).2 with
    | none => rw [q] at this; cases this
    | some o => rw [q] at this; exact ⟨o, rfl, this⟩
  exact ⟨congrArg (fun z : AlL => z.1) e, h1, congrArg (fun z : AlL => z.2.2.1) e, congrArg (fun z : AlL => z.2.2.2) e, fun p hp => (key p hp).1, fun p hp => let ⟨_, a, b⟩ := at_ p hp; hn a b,
    fun p hp => let ⟨_, a, b⟩ := at_ p hp; by rw [a, He.emptyTab_eq b]⟩
def hookL : PySem.W.Hook where
  α := AlL
  obs := fun s => obsL s.heap.get?
  val := fun _ => valL
  says := fun _ h => ∃ K : PySem.W.Frag, K.In h ∧ SaysL h K
  of := fun _ _ e => ⟨_, He.frT_in, saysL_of e⟩
  keeps := fun _ _ _ ⟨K, hK, c⟩ k => ⟨K, PySem.W.Frag.In.keeps hK k, ⟨c.d, c.ex, c.pf, c.ps, c.hd, c.out, fun p hp => k _ _ (c.emp p hp)⟩⟩
def obL (s : PySem.W.SharedT) : AlL := obsL (HandSHeadRun.getT s)
theorem obL_eq (s : PySem.W.SharedT) : obL s = hookL.obs s.abs := by
  have e : HandSHeadRun.getT s = s.abs.heap.get? := funext (HandSHeadRun.getT_eq s)
  unfold obL
  rw [e] <;> rfl
end NT
end
/-! ## H2 -/
section
set_option maxHeartbeats 0
namespace NT
open PySem PySem.Spec PyProof.Rows L2
abbrev RR : PySem.W.OpenRow := PySem.W.OpenLaw.row PySem.Challenge.rw_newesttells_k71_whole_first_tellers
abbrev qv : Program := PySem.W.view RR.prog [109]
def hnames0 : List Str := ["_wall", "common_divisor", "common_divisor_divisors", "TellsError", "BadCells", "BadSeed", "BadRow", "BadNumber", "TooMany", "Untold", "IsFull", "BadWeights"]
def hnames1 : List Str := ["InvalidText", "Missing", "UnknownCell", "NotInBand", "ratio", "plus", "times", "LETTERS", "is_name", "is_number", "MOST_ROWS", "MOST_SEEDS"]
def hnames2 : List Str := ["MOST_CELLS", "MOST_VALUES", "check_cells", "is_row", "over", "lot_of", "blank", "union", "cut", "lot_size", "ordered_lots", "common_divisor_sums"]
def hnames3 : List Str := ["mask", "told_cells", "masked", "within_weight", "older_moves", "reach_chances", "MOST_WEIGHT", "Book", "lowest_weights", "book_of_weights", "check_told", "new_places"]
def hnames4 : List Str := ["can_take", "first_to_take", "taking", "bar_lines", "come", "come_coming", "steady_shares", "first_tellers", "COUNTS", "cell_of", "seed_of", "leading_cells"]
def hnames5 : List Str := ["leading_seeds", "check_seeds", "grown_rows", "Band", "cut_band", "_law_bag", "_law_draw", "_law_of", "_law_same", "_law_gcd", "_law_ratio", "_law_add"]
def hnames6 : List Str := ["_law_by", "_law_word", "_law_cells", "_law_sign", "_law_seeds", "_law_over", "_law_lot", "_law_inside", "_law_rows", "_law_band", "_law_load", "_law_plain"]
def hnames7 : List Str := ["_law_faces", "_law_v", "_law_full", "_law_size", "_law_by_size", "_law_walk", "_law_untold", "_law_fields", "_law_got", "_law_rest", "_law_other"]
def hnames : List Str := hnames0 ++ hnames1 ++ hnames2 ++ hnames3 ++ hnames4 ++ hnames5 ++ hnames6 ++ hnames7
theorem runL (w : World) : HandSHeadRun.RunEq RR qv hookL obL 20000 hnames w := by
  intro os
  kernel_rfl
end NT
end
/-! ## H4 -/
section
set_option maxHeartbeats 2000000
open PySem PySem.W PySem.Calls PyProof.Rows
theorem NT.holds_of (call : WalkO (view (OpenLaw.row PySem.Challenge.rw_newesttells_k71_whole_first_tellers).prog [109]) NT.hnames (XL (view (OpenLaw.row PySem.Challenge.rw_newesttells_k71_whole_first_tellers).prog [109]) []) NT.hookL.says (OpenLaw.row PySem.Challenge.rw_newesttells_k71_whole_first_tellers).toRowW (HandSHeadRun.topDef (OpenLaw.row PySem.Challenge.rw_newesttells_k71_whole_first_tellers).prog 109) [] fun f vs => PySem.call f vs) : PySem.Challenge.rw_newesttells_k71_whole_first_tellers.Holds := by
  w_on; o_law
  refine HandSHeadRun.head_any (r := OpenLaw.row PySem.Challenge.rw_newesttells_k71_whole_first_tellers) (q := view (OpenLaw.row PySem.Challenge.rw_newesttells_k71_whole_first_tellers).prog [109]) (H := NT.hookL) (ob := NT.obL) (M := 20000) (loose := NT.hnames) (d := HandSHeadRun.topDef (OpenLaw.row PySem.Challenge.rw_newesttells_k71_whole_first_tellers).prog 109) (kwd := []) NT.obL_eq
    (by kernel_rfl) (fun s => by kernel_rfl) NT.runL (by kernel_rfl) (by kernel_rfl) (by kernel_rfl) (by rfl) (by first | assumption | decide +kernel) (by decide +kernel) ⟨rfl, rfl, rfl, rfl, rfl, by decide +kernel⟩ ?hw call
  case hw => w_witness2
end
/-! ## A2 -/
section
set_option maxHeartbeats 2000000
namespace NT
open PySem PySem.Spec PyProof.Rows L2
/-- what a comprehension asks of what is walked (the new list is given on) -/
def LcG (J : It) (g : TG) (t : TT) (te : TE) (vs : List Nat) (σ : L2.St) (H1 : Hp) (Q : VK) : Prop :=
  ∀ D, H1 D = none → ∃ W : Nat → Nat → Hp → Prop, (∃ m, W 0 m (upd H1 D (.lst []))) ∧ ∀ i m H, W i m H →
  (J.stop i H ∧ Q (.ref D) H) ∨ (J.go i H ∧ ∃ Nx : Hp → Prop, (∀ H', Nx H' → ∃ m', m' < m ∧ W (i + 1) m' H') ∧ ∀ x H', J.yld i H x H' → g x (wipe σ vs) H' fun σ2 H2 => wipe σ2 vs = wipe σ vs ∧ t σ2 H2 fun b H3 =>
    if b = true then te σ2 H3 fun y H4 => ∃ acc, H4 D = some (.lst acc) ∧ acc.length < sizeLine ∧ Nx (upd H4 D (.lst (acc ++ [y]))) else Nx H3)
/-- what a for asks of what is walked -/
def ForG (J : It) (g : TG) (tb : TS) (D : Ends) (σ : L2.St) (H1 : Hp) : Prop :=
  ∃ W : Nat → Nat → L2.St → Hp → Prop, (∃ m, W 0 m σ H1) ∧ ∀ i m σ H, W i m σ H →
  (J.stop i H ∧ D.nx σ H) ∨ (J.go i H ∧ ∃ N : L2.St → Hp → Prop, (∀ σ' H', N σ' H' → ∃ m', m' < m ∧ W (i + 1) m' σ' H') ∧ ∀ x H', J.yld i H x H' → g x σ H' fun σ2 H2 => tb { D with nx := N, ct := N, bk := D.nx } σ2 H2)
theorem for_G {J : It} {n : Nat} {G : Hp → Prop} {Y : Nat → Hp → V → Hp → Prop} (w : Walk J n G Y) {g : TG} {tb : TS} {D : Ends} {σ : L2.St} {H : Hp} (Pv : Nat → L2.St → Hp → Prop) (h0 : Pv 0 σ H) (hG : ∀ i σ H, i ≤ n → Pv i σ H → G H)
    (hs : ∀ i x σ H H', i < n → Pv i σ H → Y i H x H' → g x σ H' fun σ2 H2 => tb { D with nx := Pv (i + 1), ct := Pv (i + 1), bk := D.nx } σ2 H2) (hd : ∀ σ H, Pv n σ H → D.nx σ H) : ForG J g tb D σ H := for_it w Pv h0 hG hs hd
/-! ### readings, goal by goal -/
section
variable {σ : L2.St} {H H' : Hp} {Q : VK} {v x y z : V} {ta tb te : TE} {K : PySem.W.Frag} {D : Ends} {p : Addr} {o : HO} {xs : List V} {R : Bool → Hp → Prop} {t u : TT}
theorem w_var {i : Nat} (q : Q v H) (h : σ[i]? = some (some v)) : tVar i σ H Q := ⟨v, h, q⟩
theorem w_c (q : Q v H) : tC v σ H Q := q
theorem w_op {r : R2} (h : ta σ H fun x H1 => tb σ H1 fun y H2 => r x y H2 Q) : tOp r ta tb σ H Q := h
theorem w_un {r : V → Hp → VK → Prop} (h : ta σ H fun x H1 => r x H1 Q) : tUn r ta σ H Q := h
theorem w_I0 {g : Int → Int → V} {i j : Int} (q : Q (g i j) H) : rI0 g (.int i) (.int j) H Q := ⟨i, j, rfl, rfl, q⟩
theorem w_I {C : Int → Int → Prop} {g : Int → Int → V} {i j : Int} (hc : C i j) (q : Q (g i j) H) : rI C g (.int i) (.int j) H Q := ⟨i, j, rfl, rfl, hc, q⟩
theorem w_U {g : Int → V} {i : Int} (q : Q (g i) H) : rU g (.int i) H Q := ⟨i, rfl, q⟩
theorem w_eq (q : Q (.bl (decide (x = y))) H) (hs : scal x y = true) : rEq x y H Q := ⟨hs, q⟩
theorem w_ne (q : Q (.bl (!decide (x = y))) H) (hs : scal x y = true) : rNe x y H Q := ⟨hs, q⟩
theorem w_isN (q : Q (.bl (decide (x = .non))) H) : rIsN x .non H Q := ⟨rfl, q⟩
theorem w_notN (q : Q (.bl (!decide (x = .non))) H) : rNotN x .non H Q := ⟨rfl, q⟩
theorem w_inS {c : Nat} {z : Str} (q : Q (.bl (decide (c ∈ z.cps.toList))) H) : rInS (.str ⟨#[c]⟩) (.str z) H Q := ⟨c, z, rfl, rfl, q⟩
theorem w_notInS {c : Nat} {z : Str} (q : Q (.bl (!decide (c ∈ z.cps.toList))) H) : rNotInS (.str ⟨#[c]⟩) (.str z) H Q := ⟨c, z, rfl, rfl, q⟩
theorem w_test (h : te σ H fun x H' => ∃ k, x = .bl k ∧ R k H') : tTest te σ H R := h
theorem w_tB (h : te σ H fun x H' => ∃ k, x = .bl k ∧ R k H') : tB te σ H R := h
theorem w_bl {b : Bool} {R : Bool → Prop} (h : R b) : ∃ k, V.bl b = V.bl k ∧ R k := ⟨b, rfl, h⟩
theorem w_not (h : t σ H fun c H1 => R (!c) H1) : tNot t σ H R := h
theorem w_and (h : t σ H fun c H1 => if c = true then u σ H1 R else R false H1) : tAnd t u σ H R := h
theorem w_or (h : t σ H fun c H1 => if c = true then R true H1 else u σ H1 R) : tOr t u σ H R := h
theorem w_tru (h : te σ H fun x H' => ∃ k, TruV K x H' k ∧ R k H') : tTru K te σ H R := h
theorem w_andV (h : ta σ H fun x H1 => ∃ c, x = .bl c ∧ if c = true then tb σ H1 Q else Q (.bl false) H1) : tAndV ta tb σ H Q := h
theorem w_orV (h : ta σ H fun x H1 => ∃ c, x = .bl c ∧ if c = true then Q (.bl true) H1 else tb σ H1 Q) : tOrV ta tb σ H Q := h
theorem w_notV (h : ta σ H fun x H1 => ∃ c, x = .bl c ∧ Q (.bl (!c)) H1) : tNotV ta σ H Q := h
theorem w_if (h : t σ H fun c H1 => if c = true then ta σ H1 Q else tb σ H1 Q) : tIf t ta tb σ H Q := h
theorem w_nil {R : List V → Hp → Prop} (h : R [] H) : tNil σ H R := h
theorem w_cons {tr : TA} {R : List V → Hp → Prop} (h : ta σ H fun x H1 => tr σ H1 fun xs H2 => R (x :: xs) H2) : tCons ta tr σ H R := h
theorem w_CB {r : List V → Hp → VK → Prop} {t : TA} (h : t σ H fun vs H1 => r vs H1 Q) : tCB r t σ H Q := h
theorem w_call {sp : Sp} {dvs : List V} {E : XK} {t : TA} (h : t σ H fun vs H1 => sp (vs ++ dvs) H1 Q E) : tCall sp dvs E t σ H Q := h
theorem w_seq {t u : TS} (h : t { D with nx := u D } σ H) : tSeq t u D σ H := h
theorem w_asg {g : TG} (h : te σ H fun x H1 => g x σ H1 D.nx) : tAsg te g D σ H := h
theorem w_name {i : Nat} {R : L2.St → Hp → Prop} (h : R (σ.set i (some v)) H) : gName i v σ H R := h
theorem w_ret (h : te σ H D.rt) : tRet te D σ H := h
theorem w_ifs {c : TT} {t u : TS} (h : c σ H fun b H1 => if b = true then t D σ H1 else u D σ H1) : tIfS c t u D σ H := h
theorem w_nx (h : D.nx σ H) : tNext D σ H := h
theorem w_drop (h : te σ H fun _ H1 => D.nx σ H1) : tDrop te D σ H := h
theorem w_par {i j : Nat} {ta : TA} (h : ta σ H fun vs H1 => ∃ v w, vs = [v, w] ∧ D.nx ((σ.set i (some v)).set j (some w)) H1) : tPar i j ta D σ H := h
theorem w_par2 {R : V → V → Prop} (h : R x y) : ∃ v w, [x, y] = [v, w] ∧ R v w := ⟨x, y, rfl, h⟩
theorem w_par3 {i j l : Nat} {ta : TA} (h : ta σ H fun vs H1 => ∃ u v w, vs = [u, v, w] ∧ D.nx (((σ.set i (some u)).set j (some v)).set l (some w)) H1) : tPar3 i j l ta D σ H := h
theorem w_par33 {R : V → V → V → Prop} (h : R x y z) : ∃ u v w, [x, y, z] = [u, v, w] ∧ R u v w := ⟨x, y, z, rfl, h⟩
theorem w_for {wi : TI} {g : TG} {tb : TS} (h : wi σ H fun J H1 => ForG J g tb D σ H1) : tFor wi g tb D σ H := h
theorem w_aref {R : Addr → Prop} {a : Addr} (h : SqL K H a xs) (q : R a) : ∃ a', V.ref a = V.ref a' ∧ (∃ xs, SqL K H a' xs) ∧ R a' := ⟨a, rfl, ⟨xs, h⟩, q⟩
theorem w_enum {ta : TA} {R : It → Hp → Prop} (h : ta σ H fun vs H1 => ∃ a xs, vs = [.ref a] ∧ SqL K H1 a xs ∧ R (Ite K a) H1) : iEnum K ta σ H R := h
theorem w_aref2 {R : Addr → Prop} {a : Addr} (h : SqL K H a xs) (q : R a) : ∃ a' xs, [V.ref a] = [.ref a'] ∧ SqL K H a' xs ∧ R a' := ⟨a, xs, rfl, h, q⟩
theorem w_lc {wi : TI} {g : TG} {vs : List Nat} (h : wi σ H fun J H1 => LcG J g t te vs σ H1 Q) : tLc wi g t te vs σ H Q := h
theorem w_SS {ta : TA} {R : It → Hp → Prop} (h : ta σ H fun vs H1 => ∃ x y, vs = [.str x, .str y] ∧ R (ItzSS x y) H1) : iZipSS ta σ H R := h
theorem w_SS2 {R : Str → Str → Prop} {x y : Str} (h : R x y) : ∃ x' y', [V.str x, V.str y] = [.str x', .str y'] ∧ R x' y' := ⟨x, y, rfl, h⟩
theorem w_iStr {R : It → Hp → Prop} (h : te σ H fun v H1 => ∃ x, v = .str x ∧ R (Its x) H1) : iStr te σ H R := h
theorem w_str {R : Str → Prop} {x : Str} (h : R x) : ∃ x', V.str x = .str x' ∧ R x' := ⟨x, rfl, h⟩
theorem w_iList {R : It → Hp → Prop} (h : te σ H fun x H1 => ∃ a, x = .ref a ∧ (∃ xs, SqL K H1 a xs) ∧ R (Itl K a) H1) : iList K te σ H R := h
theorem w_rng {ta : TA} {R : It → Hp → Prop} (h : ta σ H fun vs H1 => ∃ j : Int, vs = [.int j] ∧ -(2 ^ 62) ≤ j ∧ j < 2 ^ 62 ∧ R (Itr 0 j.toNat) H1) : iRng1 ta σ H R := h
theorem w_rng2 {R : Int → Prop} {n : Nat} (h : R n) (hn : n < 1000000) : ∃ j : Int, [V.int (n : Int)] = [.int j] ∧ -(2 ^ 62) ≤ j ∧ j < 2 ^ 62 ∧ R j := ⟨n, rfl, by omega, by omega, h⟩
theorem w_M1 {r : V → List V → Hp → VK → Prop} (h : ta σ H fun x H1 => (∃ a, x = .str a) ∧ te σ H1 fun y H2 => r x [y] H2 Q) : tM1 r ta te σ H Q := h
theorem w_and2 {A : Prop} {x : Str} (h : A) : (∃ a, V.str x = .str a) ∧ A := ⟨⟨x, rfl⟩, h⟩
theorem w_fld {C dx : Addr} {fs : List (Str × V)} {f : Str} (e : H p = some (.ins C dx fs)) (c : Cls K C) (n : NoAttr K C f) (l : fs.lookup f = some v) (q : Q v H) : ∃ a C dx fs v, V.ref p = .ref a ∧ H a = some (.ins C dx fs) ∧ Cls K C ∧ NoAttr K C f ∧ fs.lookup f = some v ∧ Q v H :=
  ⟨p, C, dx, fs, v, rfl, e, c, n, l, q⟩
/-- a new object -/
theorem w_new {R : V → Hp → Prop} (k : ∀ p H', H p = none → Same H H' → H' p = some o → R (.ref p) H') : ∀ p, H p = none → R (.ref p) (upd H p o) := fun p n =>
  k p _ n (fun b u e => by rw [upd_ne (ne_of_none e n)]; exact e) upd_same
theorem w_tup {t : TA} (h : t σ H fun xs H1 => xs.length ≤ sizeLine ∧ ∀ p, H1 p = none → Q (.ref p) (upd H1 p (.tup xs))) : tTup t σ H Q := h
theorem w_lst {t : TA} (h : t σ H fun xs H1 => xs.length ≤ sizeLine ∧ ∀ p, H1 p = none → Q (.ref p) (upd H1 p (.lst xs))) : tLst t σ H Q := h
theorem w_ixT {i : Nat} (h : H p = some (.tup xs)) (hi : xs[i]? = some v) (q : Q v H) : rIxT K (.ref p) (.int i) H Q := ⟨p, xs, i, v, rfl, rfl, SqT.of h, atI_nat hi, q⟩
theorem w_ixL {i : Nat} (h : SqL K H p xs) (hi : xs[i]? = some v) (q : Q v H) : rIxL K (.ref p) (.int i) H Q := ⟨p, xs, i, v, rfl, rfl, h, atI_nat hi, q⟩
theorem same_mut {H H' : Hp} {p : Addr} {o : HO} (e : Same H H') (h : H p = none) : Same H (upd H' p o) := fun a u ha => by
  rw [upd_ne (ne_of_none ha h)]
  exact e a u ha
/-- all but p stays -/
def SBut (p : Addr) (H H' : Hp) : Prop := ∀ b o, b ≠ p → H b = some o → H' b = some o
theorem same_but {p : Addr} {H H' : Hp} (e : Same H H') : SBut p H H' := fun b o _ h => e b o h
theorem sbut_upd {p : Addr} {H : Hp} {o : HO} : SBut p H (upd H p o) := fun b u hb h => by rw [upd_ne hb]; exact h
theorem w_gt2 {i j : Nat} {T : Addr} {R : L2.St → Hp → Prop} (h : R ((σ.set i (some x)).set j (some y)) (upd H T (.tup [x, y]))) : gTup K 2 (gCons (gName i) (gCons (gName j) gNil)) (.ref T) σ (upd H T (.tup [x, y])) R :=
  ⟨T, [x, y], rfl, SqT.of upd_same, rfl, x, [y], rfl, y, [], rfl, rfl, h⟩
theorem w_wp {a b : L2.St} {vs : List Nat} {X : Prop} (h : X) (e : wipe a vs = b) : wipe a vs = b ∧ X := ⟨e, h⟩
theorem w_it {A B : Prop} (h : A) : if true = true then A else B := h
theorem w_if0 {A B : Prop} (h : B) : if false = true then A else B := h
theorem w_dec {p A B : Prop} {d : Decidable p} (h : p → A) (k : ¬p → B) : if decide p = true then A else B := by
  by_cases e : p
  · rw [if_pos (decide_eq_true e)]; exact h e
  · rw [if_neg (by simp [e])]; exact k e
theorem w_ndec {p A B : Prop} {d : Decidable p} (h : ¬p → A) (k : p → B) : if (!decide p) = true then A else B := by
  by_cases e : p
  · rw [if_neg (by simp [e])]; exact k e
  · rw [if_pos (by simp [e])]; exact h e
theorem w_dot {a : Nat} (q : Q (.bl (decide (a = 46))) H) : rEq (.str (SX.S [a])) (.str ".") H Q := by
  refine ⟨rfl, ?_⟩
  have e : decide (V.str (SX.S [a]) = V.str ".") = decide (a = 46) := by
    apply decide_eq_decide.mpr
    constructor
    · intro h
      injection h with h
      have h2 : (SX.S [a]).cps = (Str.ofString ".").cps := by rw [h]
      have h3 : (SX.S [a]).cps[0]? = (Str.ofString ".").cps[0]? := by rw [h2]
      have h4 : (Str.ofString ".").cps[0]? = some 46 := by decide +kernel
      rw [h4] at h3
      exact Option.some.inj h3
    · intro h
      subst h
      exact congrArg V.str (by decide +kernel)
  rw [e]; exact q
theorem w_ndot {a : Nat} (q : Q (.bl (!decide (a = 46))) H) : rNe (.str (SX.S [a])) (.str ".") H Q := by
  have h := w_dot (H := H) (Q := fun v _ => ∃ k, v = .bl k ∧ Q (.bl (!k)) H) (a := a) ⟨_, rfl, q⟩
  obtain ⟨h1, k, h2, h3⟩ := h
  refine ⟨h1, ?_⟩
  injection h2 with h2
  rw [h2]; exact h3
theorem w_yes {R : Bool → Hp → Prop} (h : R true H) : tYes σ H R := h
theorem w_idx {R : Prop} {a : Addr} {n : Nat} (h : R) : R := h
/-- a new tuple's heap is the old one, more -/
theorem same_new {H : Hp} {p : Addr} {o : HO} (n : H p = none) : Same H (upd H p o) := fun b u e => by rw [upd_ne (ne_of_none e n)]; exact e
end
/-! ### comprehensions -/
section
variable {J : It} {n : Nat} {G : Hp → Prop} {Y : Nat → Hp → V → Hp → Prop} {g : TG} {tt : TT} {te tk : TE} {vs : List Nat} {σ : L2.St} {H1 : Hp} {Q : VK}
theorem paired_app {α β : Type} {F : α → β → Prop} : ∀ {l₁ m₁ : List α} {l₂ m₂ : List β}, Paired F l₁ l₂ → Paired F m₁ m₂ → Paired F (l₁ ++ m₁) (l₂ ++ m₂)
  | _, _, _, _, .nil, q => q
  | _, _, _, _, .cons r t, q => .cons r (paired_app t q)
theorem range_filter_succ (i : Nat) (b : Nat → Bool) : (List.range (i + 1)).filter b = if b i = true then (List.range i).filter b ++ [i] else (List.range i).filter b := by
  rw [List.range_succ, List.filter_append]
  cases h : b i with
  | true => rw [if_pos rfl, List.filter_cons_of_pos h]; rfl
  | false => rw [if_neg Bool.false_ne_true, List.filter_cons_of_neg (by rw [h]; exact Bool.false_ne_true)]; exact List.append_nil _
/-- a new list by turns; E: what is known of an item -/
theorem lc_rel (w : Walk J n G Y) (hn : n ≤ 100000) (b : Nat → Bool) (E : Addr → Nat → V → Hp → Prop) (hE : ∀ D i v H H', SBut D H H' → E D i v H → E D i v H') (hG : ∀ H', Same H1 H' → G H')
    (turn : ∀ D i x H2 H3 (R : V → Hp → Prop) (R0 : Hp → Prop), i < n → H1 D = none → Same H1 H2 → (∃ zs, H2 D = some (.lst zs)) → Y i H2 x H3 → (∀ v H6, b i = true → Same H2 H6 → E D i v H6 → R v H6) → (∀ H6, b i = false → Same H2 H6 → R0 H6) →
      g x (wipe σ vs) H3 fun σ2 H4 => wipe σ2 vs = wipe σ vs ∧ tt σ2 H4 fun c H5 => if c = true then te σ2 H5 R else R0 H5)
    (done : ∀ D H2 zs, H1 D = none → Same H1 H2 → H2 D = some (.lst zs) → Paired (fun i v => E D i v H2) ((List.range n).filter b) zs → Q (.ref D) H2) :
    LcG J g tt te vs σ H1 Q := by
  intro D nD
  refine lc_it w (fun i H => Same H1 H ∧ ∃ zs, H D = some (.lst zs) ∧ Paired (fun i v => E D i v H) ((List.range i).filter b) zs)
    ⟨same_mut (Same.refl H1) nD, [], upd_same, .nil⟩ (fun i H _ p => hG H p.1) ?_ (fun H p => let ⟨s, zs, h1, h2⟩ := p; done D H zs nD s h1 h2)
  rintro i x H H' hi ⟨s, zs, hz, pz⟩ y
  have hl : zs.length < sizeLine := by
    have h1 : ((List.range i).filter b).length = zs.length := Paired.length pz
    have h2 := List.length_filter_le b (List.range i)
    rw [List.length_range] at h2
    have h3 : (100000 : Nat) < sizeLine := by decide
    omega
  refine turn D i x H H' _ _ hi nD s ⟨zs, hz⟩ y (fun v H6 hb s6 e6 => ?_) (fun H6 hb s6 => ?_)
  · refine ⟨zs, s6 D _ hz, hl, same_mut (s.trans s6) nD, zs ++ [v], upd_same, ?_⟩
    rw [range_filter_succ, if_pos hb]
    have p1 : Paired (fun j u => E D j u (upd H6 D (.lst (zs ++ [v])))) ((List.range i).filter b) zs := Paired.mapP pz fun j u e => hE D j u _ _ sbut_upd (hE D j u _ _ (same_but s6) e)
    have p2 : Paired (fun j u => E D j u (upd H6 D (.lst (zs ++ [v])))) [i] [v] := .cons (hE D i v _ _ sbut_upd e6) .nil
    exact paired_app p1 p2
  · refine ⟨s.trans s6, zs, s6 D _ hz, ?_⟩
    rw [range_filter_succ, if_neg (by rw [hb]; exact Bool.false_ne_true)]
    exact Paired.mapP pz fun j u e => hE D j u _ _ (same_but s6) e
theorem paired_map {f : Nat → V} : ∀ {l : List Nat} {zs : List V}, Paired (fun i v => v = f i) l zs → zs = l.map f
  | _, _, .nil => rfl
  | _, _, .cons r t => by rw [List.map_cons, ← paired_map t, r]
/-- the same, the items are values -/
theorem lc_val (w : Walk J n G Y) (hn : n ≤ 100000) (b : Nat → Bool) (f : Nat → V) (hG : ∀ H', Same H1 H' → G H')
    (turn : ∀ i x H2 H3 (R : V → Hp → Prop) (R0 : Hp → Prop), i < n → Same H1 H2 → Y i H2 x H3 → (∀ H6, b i = true → Same H2 H6 → R (f i) H6) → (∀ H6, b i = false → Same H2 H6 → R0 H6) →
      g x (wipe σ vs) H3 fun σ2 H4 => wipe σ2 vs = wipe σ vs ∧ tt σ2 H4 fun c H5 => if c = true then te σ2 H5 R else R0 H5)
    (done : ∀ D H2, H1 D = none → Same H1 H2 → H2 D = some (.lst (((List.range n).filter b).map f)) → Q (.ref D) H2) :
    LcG J g tt te vs σ H1 Q :=
  lc_rel w hn b (fun _ i v _ => v = f i) (fun _ _ _ _ _ _ e => e) hG
    (fun D i x H2 H3 R R0 hi nD s hz y k1 k2 => turn i x H2 H3 R R0 hi s y (fun H6 hb s6 => k1 _ H6 hb s6 rfl) k2)
    (fun D H2 zs nD s hz pz => done D H2 nD s (by rw [hz, paired_map pz]))
/-- a new list, from the items of xs that b lets through -/
theorem lc_relL {α : Type} (xs : List α) (w : Walk J xs.length G Y) (hn : xs.length ≤ 100000) (b : α → Bool) (E : Addr → α → V → Hp → Prop) (hE : ∀ D a v H H', SBut D H H' → E D a v H → E D a v H') (hG : ∀ H', Same H1 H' → G H')
    (turn : ∀ D i a x H2 H3 (R : V → Hp → Prop) (R0 : Hp → Prop), xs[i]? = some a → H1 D = none → Same H1 H2 → (∃ zs, H2 D = some (.lst zs)) → Y i H2 x H3 → (∀ v H6, b a = true → Same H2 H6 → E D a v H6 → R v H6) → (∀ H6, b a = false → Same H2 H6 → R0 H6) →
      g x (wipe σ vs) H3 fun σ2 H4 => wipe σ2 vs = wipe σ vs ∧ tt σ2 H4 fun c H5 => if c = true then te σ2 H5 R else R0 H5)
    (done : ∀ D H2 zs, H1 D = none → Same H1 H2 → H2 D = some (.lst zs) → Paired (fun a v => E D a v H2) (xs.filter b) zs → Q (.ref D) H2) :
    LcG J g tt te vs σ H1 Q := by
  intro D nD
  refine lc_it w (fun i H => Same H1 H ∧ ∃ zs, H D = some (.lst zs) ∧ Paired (fun a v => E D a v H) ((xs.take i).filter b) zs)
    ⟨same_mut (Same.refl H1) nD, [], upd_same, .nil⟩ (fun i H _ p => hG H p.1) ?_ (fun H p => let ⟨s, zs, h1, h2⟩ := p; done D H zs nD s h1 (by rw [List.take_length] at h2; exact h2))
  rintro i x H H' hi ⟨s, zs, hz, pz⟩ y
  have hxi : xs[i]? = some xs[i] := by simp [hi]
  have hl : zs.length < sizeLine := by
    have h1 : ((xs.take i).filter b).length = zs.length := Paired.length pz
    have h2 := List.length_filter_le b (xs.take i)
    rw [List.length_take] at h2
    have h3 : (100000 : Nat) < sizeLine := by decide
    omega
  have hft : (xs.take (i + 1)).filter b = (xs.take i).filter b ++ (if b xs[i] = true then [xs[i]] else []) := by
    rw [List.take_succ, hxi, List.filter_append]
    cases e : b xs[i] with
    | true => simp [e]
    | false => simp [e]
  refine turn D i xs[i] x H H' _ _ hxi nD s ⟨zs, hz⟩ y (fun v H6 hb s6 e6 => ?_) (fun H6 hb s6 => ?_)
  · refine ⟨zs, s6 D _ hz, hl, same_mut (s.trans s6) nD, zs ++ [v], upd_same, ?_⟩
    rw [hft, if_pos hb]
    have p1 : Paired (fun j u => E D j u (upd H6 D (.lst (zs ++ [v])))) ((xs.take i).filter b) zs := Paired.mapP pz fun j u e => hE D j u _ _ sbut_upd (hE D j u _ _ (same_but s6) e)
    have p2 : Paired (fun j u => E D j u (upd H6 D (.lst (zs ++ [v])))) [xs[i]] [v] := .cons (hE D _ v _ _ sbut_upd e6) .nil
    exact paired_app p1 p2
  · refine ⟨s.trans s6, zs, s6 D _ hz, ?_⟩
    rw [hft, if_neg (by rw [hb]; exact Bool.false_ne_true), List.append_nil]
    exact Paired.mapP pz fun j u e => hE D j u _ _ (same_but s6) e
theorem paired_mapA {α : Type} {f : α → V} : ∀ {l : List α} {zs : List V}, Paired (fun i v => v = f i) l zs → zs = l.map f
  | _, _, .nil => rfl
  | _, _, .cons r t => by rw [List.map_cons, ← paired_mapA t, r]
theorem lc_valL {α : Type} (xs : List α) (f : α → V) (b : α → Bool) (w : Walk J xs.length G Y) (hn : xs.length ≤ 100000) (hG : ∀ H', Same H1 H' → G H')
    (turn : ∀ i a x H2 H3 (R : V → Hp → Prop) (R0 : Hp → Prop), xs[i]? = some a → Same H1 H2 → Y i H2 x H3 → (∀ H6, b a = true → Same H2 H6 → R (f a) H6) → (∀ H6, b a = false → Same H2 H6 → R0 H6) →
      g x (wipe σ vs) H3 fun σ2 H4 => wipe σ2 vs = wipe σ vs ∧ tt σ2 H4 fun c H5 => if c = true then te σ2 H5 R else R0 H5)
    (done : ∀ D H2, H1 D = none → Same H1 H2 → H2 D = some (.lst ((xs.filter b).map f)) → Q (.ref D) H2) :
    LcG J g tt te vs σ H1 Q :=
  lc_relL xs w hn b (fun _ i v _ => v = f i) (fun _ _ _ _ _ _ e => e) hG
    (fun D i a x H2 H3 R R0 hi nD s _ y k1 k2 => turn i a x H2 H3 R R0 hi s y (fun H6 hb s6 => k1 _ H6 hb s6 rfl) k2)
    (fun D H2 zs nD s hz pz => done D H2 nD s (by rw [hz, paired_mapA pz]))
/-- without a test -/
theorem lc_val1 {α : Type} (xs : List α) (f : α → V) (w : Walk J xs.length G Y) (hn : xs.length ≤ 100000) (hG : ∀ H', Same H1 H' → G H')
    (turn : ∀ i a x H2 H3 (R : V → Hp → Prop), xs[i]? = some a → Same H1 H2 → Y i H2 x H3 → (∀ H6, Same H2 H6 → R (f a) H6) →
      g x (wipe σ vs) H3 fun σ2 H4 => wipe σ2 vs = wipe σ vs ∧ te σ2 H4 R)
    (done : ∀ D H2, H1 D = none → Same H1 H2 → H2 D = some (.lst (xs.map f)) → Q (.ref D) H2) :
    LcG J g tYes te vs σ H1 Q :=
  lc_valL xs f (fun _ => true) w hn hG
    (fun i a x H2 H3 R R0 hi s y k1 k2 => turn i a x H2 H3 R hi s y (fun H6 s6 => k1 H6 rfl s6))
    (fun D H2 nD s hz => done D H2 nD s (by rw [hz, List.filter_eq_self.mpr fun _ _ => rfl]))
end
abbrev bT : Nat → Bool := fun _ => true
theorem range_bT (n : Nat) : (List.range n).filter bT = List.range n := List.filter_eq_self.mpr fun _ _ => rfl
/-! ### rows as texts -/
abbrev S (l : List Nat) : Str := SX.S l
theorem S_get (l : List Nat) (i : Nat) : (S l).cps[i]? = l[i]? := by
  show (l.toArray)[i]? = l[i]?
  simp
theorem S_size (l : List Nat) : (S l).cps.size = l.length := by
  show (l.toArray).size = l.length
  simp
theorem S_list (l : List Nat) : (S l).cps.toList = l := by
  show (l.toArray).toList = l
  simp
theorem walk_listM {K : PySem.W.Frag} {a : Addr} {α : Type} {l : List α} {f : α → V} : Walk (Itl K a) l.length (fun H => SqL K H a (l.map f)) (fun i H v H' => H' = H ∧ ∃ x, l[i]? = some x ∧ v = f x) := by
  have h := walk_list (K := K) (a := a) (xs := l.map f)
  rw [List.length_map] at h
  refine h.mono (fun _ h => h) fun i H v H' _ _ y => ?_
  obtain ⟨h1, h2⟩ := y
  rw [List.getElem?_map] at h2
  obtain ⟨x, h3, h4⟩ := Option.map_eq_some_iff.mp h2
  exact ⟨h1, x, h3, h4.symm⟩
theorem walk_enumM {K : PySem.W.Frag} {a : Addr} {α : Type} {l : List α} {f : α → V} : Walk (Ite K a) l.length (fun H => SqL K H a (l.map f)) (fun i H v H' => ∃ T x, v = .ref T ∧ H T = none ∧ H' = upd H T (.tup [.int (i : Nat), f x]) ∧ l[i]? = some x) := by
  have h := walk_enum (K := K) (a := a) (xs := l.map f)
  rw [List.length_map] at h
  refine h.mono (fun _ h => h) fun i H v H' _ _ y => ?_
  obtain ⟨T, x, y, h1, h2, h3, h4, h5⟩ := y
  have h4 : some (V.int (i : Nat)) = some x := h4
  have h5 : (l.map f)[i]? = some y := h5
  rw [List.getElem?_map] at h5
  obtain ⟨z, h6, rfl⟩ := Option.map_eq_some_iff.mp h5
  obtain rfl := Option.some.inj h4
  exact ⟨T, z, h1, h2, h3, h6⟩
theorem walk_row {x : List Nat} : Walk (Its (S x)) x.length (fun _ => True) (fun i H v H' => H' = H ∧ ∃ c, x[i]? = some c ∧ v = .str (SX.S [c])) := by
  have h := walk_str (z := S x)
  rw [S_size] at h
  refine h.mono (fun _ h => h) fun i H v H' _ _ y => ?_
  obtain ⟨h1, c, h2, h3⟩ := y
  rw [S_get] at h2
  exact ⟨h1, c, h2, h3⟩
theorem walk_zipR {x y : List Nat} : Walk (ItzSS (S x) (S y)) (min x.length y.length) (fun _ => True) (fun i H v H' => ∃ T a b, v = .ref T ∧ H T = none ∧ H' = upd H T (.tup [.str (SX.S [a]), .str (SX.S [b])]) ∧ x[i]? = some a ∧ y[i]? = some b) := by
  have h := walk_zipSS (x := S x) (y := S y)
  rw [S_size, S_size] at h
  refine h.mono (fun _ h => h) fun i H v H' _ _ z => ?_
  obtain ⟨T, a, b, h1, h2, h3, h4, h5⟩ := z
  have h4 : (S x).cps[i]?.map (fun c => V.str { cps := #[c] }) = some a := h4
  have h5 : (S y).cps[i]?.map (fun c => V.str { cps := #[c] }) = some b := h5
  rw [S_get] at h4 h5
  obtain ⟨c, h6, rfl⟩ := Option.map_eq_some_iff.mp h4
  obtain ⟨d, h7, rfl⟩ := Option.map_eq_some_iff.mp h5
  exact ⟨T, c, d, h1, h2, h3, h6, h7⟩
/-- one row over another one -/
def ov : List Nat → List Nat → List Nat
  | a :: x, b :: y => (if a = 46 then b else a) :: ov x y
  | _, _ => []
theorem ov_get : ∀ (x y : List Nat) (i : Nat), (ov x y)[i]? = (x[i]?).bind fun a => (y[i]?).map fun b => if a = 46 then b else a
  | [], y, i => by simp [ov]
  | a :: x, [], i => by cases i <;> simp [ov]
  | a :: x, b :: y, 0 => by simp [ov]
  | a :: x, b :: y, i + 1 => by simp [ov, ov_get x y i]
theorem ov_len : ∀ (x y : List Nat), (ov x y).length = min x.length y.length
  | [], y => by simp [ov]
  | a :: x, [] => by simp [ov]
  | a :: x, b :: y => by simp only [ov, List.length_cons, ov_len x y]; omega
/-- texts of one sign, joined -/
theorem join_ones (l : List Nat) : Txt.join (S []) ((l.map fun c => [c]).map S) = S l := by
  rw [SX.join_S]
  congr 1
  induction l with
  | nil => rfl
  | cons c l ih =>
    cases l with
    | nil => rfl
    | cons d l =>
      show c :: ([] ++ _) = _
      rw [List.nil_append]
      exact congrArg (List.cons c) ih
theorem w_joinR {K : PySem.W.Frag} {l : List Nat} {D : Addr} {H : Hp} {Q : VK} (h : H D = some (.lst (l.map fun c => .str (SX.S [c])))) (hl : l.length ≤ 100000) (q : Q (.str (S l)) H) : rJoin K (.str "") [.ref D] H Q := by
  refine ⟨_, D, (l.map fun c => [c]).map S, rfl, rfl, ?_, ?_, ?_⟩
  · left; left; left; rw [h, List.map_map, List.map_map]; rfl
  · have e0 : (Str.ofString "").length = 0 := by decide +kernel
    rw [e0, List.map_map, List.map_map, Nat.mul_zero, Nat.add_zero]
    have e1 : ((fun x : Str => x.length) ∘ S) ∘ (fun c => [c]) = fun _ => 1 := by funext c; exact S_size [c]
    have e2 : ∀ l : List Nat, (l.map (fun _ => 1)).sum = l.length := fun l => by induction l with
      | nil => rfl
      | cons a l ih => rw [List.map_cons, List.sum_cons, ih, List.length_cons]; omega
    rw [e1, e2]
    omega
  · have e : Txt.join (Str.ofString "") ((l.map fun c => [c]).map S) = S l := join_ones l
    rw [e]; exact q
def sp_over (K : PySem.W.Frag) : Sp := fun vs H Q _ => ∃ x y : List Nat, vs = [.str (S x), .str (S y)] ∧ x.length ≤ 1000 ∧ ∀ H', Same H H' → Q (.str (S (ov x y))) H'
end NT
end
/-! ## B0 -/
section
set_option maxHeartbeats 2000000
namespace NT
open PySem PySem.Spec PyProof.Rows L2
/-! ### more rules -/
/-- dots -/
def rMulS : R2 := fun x y H Q => ∃ n : Nat, x = .str "." ∧ y = .int n ∧ n ≤ 1000 ∧ Q (.str (S (List.replicate n 46))) H
theorem fold_dots : ∀ (n : Nat) (a : Array Nat), (List.replicate n (#[46] : Array Nat)).foldl (· ++ ·) a = a ++ (List.replicate n 46).toArray
  | 0, a => by simp
  | n + 1, a => by
    rw [List.replicate_succ, List.foldl_cons, fold_dots n, List.replicate_succ]
    apply Array.ext'
    simp
theorem mul_dots (n : Nat) : Txt.mul (Str.ofString ".") (n : Int) = S (List.replicate n 46) := by
  have e0 : Str.ofString "." = ⟨#[46]⟩ := by decide +kernel
  unfold Txt.mul
  rw [e0]
  match n with
  | 0 => exact congrArg Str.mk (by decide)
  | 1 => exact congrArg Str.mk (by decide)
  | n + 2 =>
    rw [if_neg (by omega), if_neg (by
      intro h
      simp only [Bool.or_eq_true, beq_iff_eq] at h
      rcases h with h | h
      · omega
      · exact absurd h (by decide))]
    show Str.mk _ = Str.mk _
    rw [show ((n + 2 : Nat) : Int).toNat = n + 2 from Int.toNat_natCast _, fold_dots]
    simp
theorem op_mul_str {X : Cx} : OpR X (binaryOp .Mult) rMulS := by
  intro pins s σ H x y v u Q I rx ry h
  obtain ⟨n, rfl, rfl, hn, q⟩ := h
  obtain ⟨t, rfl⟩ := rx
  obtain ⟨t', rfl⟩ := ry
  have e1 : (Str.ofString ".").length = 1 := by decide +kernel
  refine PySem.SB.mul ⟨?_, ?_, ?_⟩ fun t' tk => ?_
  · rw [decide_eq_false (by omega), decide_eq_false (by omega)]; rfl
  · intro h1 _
    rw [e1]
    have h2 : (2 ^ 63 - 1 : Int) / n ≥ 1 := by
      have : (1 : Int) ≤ (2 ^ 63 - 1) / n := (Int.le_ediv_iff_mul_le (by omega)).mpr (by omega)
      exact this
    omega
  · intro _ _
    rw [e1]
    unfold Builtin.Str.tooLong
    have h3 : (1000 : Nat) < sizeLine := by decide
    simp
    omega
  · rw [mul_dots]
    exact ⟨.str (S (List.replicate n 46)), H, I.tok _, ⟨_, rfl⟩, q⟩
section
variable {K : PySem.W.Frag} {H H' : Hp} {Q : VK} {x y : List Nat} {i c : Nat} {a D p : Addr} {xs : List V} {v : V} {k : Int}
theorem walk_rng {n : Nat} : Walk (Itr 0 n) n (fun _ => True) (fun i H x H' => H' = H ∧ x = .int (i : Nat)) := by
  refine (walk_range (lo := 0) (n := n)).mono (fun _ h => h) fun i H x H' _ _ y => ?_
  obtain ⟨h1, h2⟩ := y
  have h2 : x = V.int (0 + (i : Nat)) := h2
  exact ⟨h1, by rw [h2, Int.zero_add]⟩
theorem sl1000 {n : Nat} (h : n ≤ 1000) : n ≤ sizeLine := by
  have h3 : (1000 : Nat) < sizeLine := by decide
  omega
theorem w_ixS (q : Q (.str (SX.S [c])) H) (h : x[i]? = some c) (hl : x.length ≤ 1000) : rIxS (.str (S x)) (.int (i : Nat)) H Q :=
  ⟨S x, i, c, rfl, rfl, by rw [show (S x).length = x.length from S_size x]; exact sl1000 hl, by rw [S_list]; exact atI_nat h, q⟩
theorem w_lenS (q : Q (.int x.length) H) (hl : x.length ≤ 1000) : rLenS [.str (S x)] H Q :=
  ⟨S x, rfl, by rw [show (S x).length = x.length from S_size x]; exact sl1000 hl, by rw [show (S x).length = x.length from S_size x]; exact q⟩
theorem w_lenL (q : Q (.int xs.length) H) (h : SqL K H a xs) : rLenQ K [.ref a] H Q := ⟨a, xs, rfl, .inl h, q⟩
theorem w_ixL' (q : Q v H) (h : SqL K H a xs) (hi : xs[i]? = some v) : rIxL K (.ref a) (.int (i : Nat)) H Q := w_ixL h hi q
theorem w_dots {n : Nat} (q : Q (.str (S (List.replicate n 46))) H) (hn : n ≤ 1000) : rMulS (.str ".") (.int (n : Nat)) H Q := ⟨n, rfl, rfl, hn, q⟩
theorem w_all {α : Type} {l : List α} {f : α → Bool} (h : H D = some (.lst (l.map fun a => V.bl (f a)))) (q : Q (.bl (l.all f)) H) : rAll K [.ref D] H Q :=
  ⟨D, l.map f, rfl, .inl (.inl (by rw [h, List.map_map]; rfl)), by rw [List.all_map]; exact q⟩
theorem w_sum {α : Type} {l : List α} {f : α → Int} (h : H D = some (.lst (l.map fun a => V.int (f a)))) (q : Q (.int (l.map f).sum) H) : rSum K [.ref D] H Q :=
  ⟨D, l.map f, rfl, .inl (.inl (by rw [h, List.map_map]; rfl)), q⟩
/-- the count of one sign -/
theorem cnt_count (d : Nat) : ∀ x : List Nat, PyProof.Rows.cnt d x = ((x.count d : Nat) : Int)
  | [] => by rw [PyProof.Rows.cnt_nil]; rfl
  | a :: x => by
    rw [PyProof.Rows.cnt_cons, List.count_cons, cnt_count d x]
    by_cases e : a = d
    · simp [e]; omega
    · simp [e]
theorem count_one (d : Nat) (x : List Nat) : (Txt.count (S x) (SX.S [d])) = ((x.count d : Nat) : Int) := by
  have h := PyProof.Rows.count_cnt (S x) d
  rw [S_list, cnt_count] at h
  exact h
theorem w_count {d : Nat} (q : Q (.int ((x.count d : Nat) : Int)) H) : rCount (.str (S x)) [.str (SX.S [d])] H Q := ⟨S x, SX.S [d], rfl, rfl, by rw [count_one]; exact q⟩
theorem w_orB {R : Bool → Prop} {tb : TE} {σ : L2.St} {c : Bool} (h : c = true → Q (.bl true) H) (k : c = false → tb σ H Q) : ∃ b, V.bl c = .bl b ∧ if b = true then Q (.bl true) H else tb σ H Q := by
  refine ⟨c, rfl, ?_⟩
  cases c with
  | true => rw [if_pos rfl]; exact h rfl
  | false => rw [if_neg Bool.false_ne_true]; exact k rfl
theorem w_andB {R : Bool → Prop} {tb : TE} {σ : L2.St} {c : Bool} (h : c = false → Q (.bl false) H) (k : c = true → tb σ H Q) : ∃ b, V.bl c = .bl b ∧ if b = true then tb σ H Q else Q (.bl false) H := by
  refine ⟨c, rfl, ?_⟩
  cases c with
  | true => rw [if_pos rfl]; exact k rfl
  | false => rw [if_neg Bool.false_ne_true]; exact h rfl
/-- a sign against a sign that is written -/
theorem w_sign {c d : Nat} (q : Q (.bl (decide (c = d))) H) : rEq (.str (SX.S [c])) (.str (SX.S [d])) H Q := by
  refine ⟨rfl, ?_⟩
  have e : decide (V.str (SX.S [c]) = V.str (SX.S [d])) = decide (c = d) := by
    apply decide_eq_decide.mpr
    constructor
    · intro h
      injection h with h
      have h3 : (SX.S [c]).cps[0]? = (SX.S [d]).cps[0]? := by rw [h]
      exact Option.some.inj h3
    · intro h; rw [h]
  rw [e]; exact q
theorem lit_dot : V.str (Str.ofString ".") = V.str (S [46]) := congrArg V.str (by decide +kernel)
theorem lit_plus : V.str (Str.ofString "+") = V.str (S [43]) := congrArg V.str (by decide +kernel)
theorem lit_nil : V.str (Str.ofString "") = V.str (S []) := congrArg V.str (by decide +kernel)
theorem w_countD (q : Q (.int ((x.count 46 : Nat) : Int)) H) : rCount (.str (S x)) [.str "."] H Q := by
  have h : V.str (Str.ofString ".") = V.str (SX.S [46]) := lit_dot
  rw [h]; exact w_count q
end
theorem w_plusS {H : Hp} {Q : VK} {c : Nat} (q : Q (.bl (decide (c = 43))) H) : rEq (.str (SX.S [c])) (.str "+") H Q := by
  have h : V.str (Str.ofString "+") = V.str (SX.S [43]) := lit_plus
  rw [h]; exact w_sign q
theorem ins_dec {a b : Nat} (e : ¬a = 46) : ((some a : Option Nat) == some 46 || (some b : Option Nat) == some 43) = decide (b = 43) := by
  have h1 : ((some a : Option Nat) == some 46) = false := by
    rw [beq_eq_false_iff_ne]
    intro h
    exact e (Option.some.inj h)
  rw [h1, Bool.false_or]
  by_cases h : b = 43
  · subst h; rfl
  · rw [decide_eq_false h, beq_eq_false_iff_ne]
    intro h2
    exact h (Option.some.inj h2)
theorem range_some {n i c : Nat} (h : (List.range n)[i]? = some c) : ∃ hi : i < n, c = i := by
  rw [List.getElem?_eq_some_iff] at h
  obtain ⟨h1, h2⟩ := h
  rw [List.length_range] at h1
  rw [List.getElem_range] at h2
  exact ⟨h1, h2.symm⟩
theorem w_while {cc : TT} {tb : TS} {D : Ends} {σ : L2.St} {H : Hp} (Pv : Nat → L2.St → Hp → Prop) (m0 : Nat) (h0 : Pv m0 σ H)
    (step : ∀ m σ H, Pv m σ H → cc σ H fun b H1 => if b = true then ∃ N : L2.St → Hp → Prop, (∀ σ' H', N σ' H' → ∃ m', m' < m ∧ Pv m' σ' H') ∧ tb { D with nx := N, ct := N, bk := D.nx } σ H1 else D.nx σ H1) : tWhile cc tb D σ H :=
  ⟨Pv, ⟨m0, h0⟩, step⟩
theorem w_N {Pv : Nat → L2.St → Hp → Prop} {m : Nat} {R : (L2.St → Hp → Prop) → Prop} (h : R fun σ' H' => ∃ m', m' < m ∧ Pv m' σ' H') : ∃ N : L2.St → Hp → Prop, (∀ σ' H', N σ' H' → ∃ m', m' < m ∧ Pv m' σ' H') ∧ R N := ⟨_, fun _ _ h => h, h⟩
theorem w_abs {i : Int} {H : Hp} {Q : VK} (q : Q (.int (i.natAbs : Nat)) H) : rAbs [.int i] H Q := ⟨i, rfl, by
  have e : (if i < 0 then -i else i) = (i.natAbs : Int) := by split <;> omega
  rw [e]; exact q⟩
theorem w_int {i : Int} {H : Hp} {Q : VK} (q : Q (.int i) H) : rIntI [.int i] H Q := .inl ⟨i, rfl, q⟩
theorem w_mod {i j : Int} {H : Hp} {Q : VK} (q : Q (.int (i % j)) H) (h : 0 < j) : rModI (.int i) (.int j) H Q := ⟨i, j, rfl, rfl, h, q⟩
theorem w_t0 {K : PySem.W.Frag} {p : Addr} {x : V} {xs : List V} {H : Hp} {Q : VK} (q : Q x H) (h : H p = some (.tup (x :: xs))) : rIxT K (.ref p) (.int 0) H Q := w_ixT (i := 0) h rfl q
theorem w_t1 {K : PySem.W.Frag} {p : Addr} {x y : V} {xs : List V} {H : Hp} {Q : VK} (q : Q y H) (h : H p = some (.tup (x :: y :: xs))) : rIxT K (.ref p) (.int 1) H Q := w_ixT (i := 1) h rfl q
theorem log2_mono {a b : Nat} (h : a ≤ b) : a.log2 ≤ b.log2 := by
  by_cases ha : a = 0
  · subst ha
    rw [show Nat.log2 0 = 0 from by decide]
    exact Nat.zero_le _
  · have hb : b ≠ 0 := by omega
    exact (Nat.le_log2 hb).mpr (Nat.le_trans (Nat.log2_self_le ha) h)
theorem w_truI {K : PySem.W.Frag} {i : Int} {H : Hp} : TruV K (.int i) H (decide (i ≠ 0)) := by
  show decide (i ≠ 0) = (i != 0)
  by_cases e : i = 0
  · subst e; rfl
  · rw [decide_eq_true e]; simp [e]
theorem nat_gt0 {n : Nat} : decide ((0 : Int) < (n : Nat)) = decide (0 < n) := decide_eq_decide.mpr (by omega)
/-- a result tuple -/
def Rt (H : Hp) (p : Addr) (q : Rat) : Prop := H p = some (.tup [.int q.num, .int (q.den : Nat)])
def sp_gcd (K : PySem.W.Frag) : Sp := fun vs H Q _ => ∃ a b : Int, vs = [.int a, .int b] ∧ ∀ H', Same H H' → Q (.int (a.natAbs.gcd b.natAbs : Nat)) H'
def sp_common_divisor_divisors := sp_gcd
def sp_law_gcd := sp_gcd
def sp_common_divisor_sums (K : PySem.W.Frag) : Sp := fun vs H Q _ => ∃ a b : Nat, vs = [.int a, .int b] ∧ ∀ H', Same H H' → Q (.int (a.gcd b : Nat)) H'
/-- the result of a fraction -/
def sp_rat (K : PySem.W.Frag) : Sp := fun vs H Q _ => ∃ (a : Int) (b : Nat), vs = [.int a, .int b] ∧ 0 < b ∧ b.log2 < 9000 ∧ ∀ p H', H p = none → Same H H' → Rt H' p (mkRat a b) → Q (.ref p) H'
def sp_ratio := sp_rat
def sp_law_ratio := sp_rat
theorem rat_num {a : Int} {b : Nat} (h : 0 < b) : a / ((a.natAbs.gcd b : Nat) : Int) = (mkRat a b).num := by
  rw [Rat.num_mkRat, if_neg (by omega), Nat.gcd_comm]
theorem rat_den {a : Int} {b : Nat} (h : 0 < b) : (b : Int) / ((a.natAbs.gcd b : Nat) : Int) = ((mkRat a b).den : Nat) := by
  rw [Rat.den_mkRat, if_neg (by omega), Nat.gcd_comm, Int.natCast_ediv]
theorem gcd_div {a : Int} {b : Nat} (h : 0 < b) (hl : b.log2 < 9000) : CDivW a ((a.natAbs.gcd b : Nat) : Int) := by
  have h1 : 0 < a.natAbs.gcd b := Nat.gcd_pos_of_pos_right _ h
  have h2 : a.natAbs.gcd b ≤ b := Nat.le_of_dvd h (Nat.gcd_dvd_right _ _)
  refine ⟨by omega, ?_⟩
  rw [Int.natAbs_natCast]
  exact Nat.lt_of_le_of_lt (log2_mono h2) hl
/-- two fractions -/
def sp_two (f : Int → Nat → Int → Nat → Rat) : Sp := fun vs H Q _ => ∃ (p q : Addr) (a : Int) (b : Nat) (c : Int) (d : Nat), vs = [.ref p, .ref q] ∧ H p = some (.tup [.int a, .int b]) ∧ H q = some (.tup [.int c, .int d]) ∧ 0 < b ∧ 0 < d ∧
  a.natAbs.log2 < 100000 ∧ c.natAbs.log2 < 100000 ∧ b.log2 + d.log2 < 8990 ∧ ∀ r H', H r = none → Same H H' → Rt H' r (f a b c d) → Q (.ref r) H'
abbrev qadd (a : Int) (b : Nat) (c : Int) (d : Nat) : Rat := mkRat (a * d + c * b) (b * d)
abbrev qmul (a : Int) (b : Nat) (c : Int) (d : Nat) : Rat := mkRat (a * c) (b * d)
def sp_times (K : PySem.W.Frag) : Sp := sp_two qmul
def sp_law_by (K : PySem.W.Frag) : Sp := sp_two qmul
def sp_plus (K : PySem.W.Frag) : Sp := sp_two qadd
def sp_law_add (K : PySem.W.Frag) : Sp := sp_two qadd
theorem log2_mulle (b d : Nat) (hb : 0 < b) (hd : 0 < d) : (b * d).log2 ≤ b.log2 + d.log2 + 1 := by
  have h1 : b < 2 ^ (b.log2 + 1) := Nat.lt_log2_self
  have h2 : d < 2 ^ (d.log2 + 1) := Nat.lt_log2_self
  have h3 : b * d < 2 ^ (b.log2 + 1 + (d.log2 + 1)) := by
    rw [Nat.pow_add]
    exact Nat.mul_lt_mul_of_lt_of_lt h1 h2
  have h4 : b * d ≠ 0 := Nat.ne_of_gt (Nat.mul_pos hb hd)
  have h5 := (Nat.log2_lt h4).mpr h3
  omega
/-- the told cells' number -/
def told (x : List Nat) : Nat := x.length - x.count 46
def lot (x : List Nat) : List Nat := x.map fun c => if c = 46 then 46 else 43
/-- x tells nothing that y does not -/
def ins (x y : List Nat) : Bool := (List.range x.length).all fun k => x[k]? == some 46 || y[k]? == some 43
def full (x : List Nat) : Bool := x.all fun c => c != 46
/-- the signs of r where x is dots -/
def rest : List Nat → List Nat → List Nat
  | a :: r, b :: x => if b = 46 then a :: rest r x else rest r x
  | _, _ => []
theorem rest_range : ∀ (x y : List Nat), x.length = y.length → ((List.range x.length).filter fun k => y[k]? == some 46).map (fun k => x.getD k 0) = rest x y
  | [], _, _ => rfl
  | _ :: _, [], h => by simp at h
  | a :: x, b :: y, h => by
    have ih := rest_range x y (by simpa using h)
    rw [List.length_cons, List.range_succ_eq_map, List.filter_cons, List.filter_map]
    by_cases e : b = 46
    · subst e
      rw [if_pos (by rfl), List.map_cons, List.map_map]
      simp only [rest, if_true]
      rw [← ih]
      rfl
    · rw [if_neg (by simp [e]), List.map_map]
      simp only [rest, if_neg e]
      rw [← ih]
      rfl
theorem rest_len : ∀ (x y : List Nat), (rest x y).length ≤ x.length
  | [], _ => by simp [rest]
  | _ :: _, [] => by simp [rest]
  | a :: x, b :: y => by
    have ih := rest_len x y
    by_cases e : b = 46
    · simp only [rest, if_pos e, List.length_cons]; omega
    · simp only [rest, if_neg e, List.length_cons]; omega
theorem full_mem (r : List Nat) : (!decide (46 ∈ r)) = full r := by
  unfold full
  induction r with
  | nil => rfl
  | cons a r ih =>
    rw [List.all_cons, ← ih]
    by_cases e : a = 46
    · subst e; simp
    · have e' : ¬ 46 = a := fun h => e h.symm
      simp [e, e']
def sp_law_over (K : PySem.W.Frag) : Sp := fun vs H Q _ => ∃ x y : List Nat, vs = [.str (S x), .str (S y)] ∧ x.length = y.length ∧ x.length ≤ 1000 ∧ ∀ H', Same H H' → Q (.str (S (ov x y))) H'
def sp_law_lot (K : PySem.W.Frag) : Sp := fun vs H Q _ => ∃ x : List Nat, vs = [.str (S x)] ∧ x.length ≤ 1000 ∧ ∀ H', Same H H' → Q (.str (S (lot x))) H'
def sp_lot_of (K : PySem.W.Frag) : Sp := sp_law_lot K
def sp_law_size (K : PySem.W.Frag) : Sp := fun vs H Q _ => ∃ x : List Nat, vs = [.str (S x)] ∧ x.length ≤ 1000 ∧ ∀ H', Same H H' → Q (.int (told x)) H'
def sp_told_cells (K : PySem.W.Frag) : Sp := sp_law_size K
def sp_law_inside (K : PySem.W.Frag) : Sp := fun vs H Q _ => ∃ x y : List Nat, vs = [.str (S x), .str (S y)] ∧ x.length = y.length ∧ x.length ≤ 1000 ∧ ∀ H', Same H H' → Q (.bl (ins x y)) H'
def sp_law_other (K : PySem.W.Frag) : Sp := fun vs H Q _ => ∃ x y : List Nat, vs = [.str (S x), .str (S y)] ∧ x.length = y.length ∧ x.length ≤ 1000 ∧ ∀ H', Same H H' → Q (.str (S (rest x y))) H'
def sp_blank (K : PySem.W.Frag) : Sp := fun vs H Q _ => ∃ n : Nat, vs = [.int n] ∧ n ≤ 1000 ∧ ∀ H', Same H H' → Q (.str (S (List.replicate n 46))) H'
/-- the rows at a -/
abbrev Rows (K : PySem.W.Frag) (H : Hp) (a : Addr) (rs : List (List Nat)) : Prop := SqL K H a (rs.map fun r => .str (S r))
def sp_law_full (K : PySem.W.Frag) : Sp := fun vs H Q _ => ∃ a rs, vs = [.ref a] ∧ Rows K H a rs ∧ rs.length ≤ 1000 ∧ ∀ p H', H p = none → Same H H' → H' p = some (.lst ((rs.filter full).map fun r => .str (S r))) → Q (.ref p) H'
/-- signs at places -/
def cutR (x : List Nat) (ps : List Nat) : List Nat := ps.map fun i => x.getD i 0
def sp_cut (K : PySem.W.Frag) : Sp := fun vs H Q _ => ∃ x a ps, vs = [.str (S x), .ref a] ∧ SqL K H a (ps.map fun i : Nat => V.int i) ∧ (∀ i ∈ ps, i < x.length) ∧ x.length ≤ 1000 ∧ ps.length ≤ 1000 ∧ ∀ H', Same H H' → Q (.str (S (cutR x ps))) H'
def sp_lot_size (K : PySem.W.Frag) : Sp := fun vs H Q _ => ∃ x, vs = [.str (S x)] ∧ ∀ H', Same H H' → Q (.int (x.count 43 : Nat)) H'
def maskF (b : Nat) (x : List Nat) : Nat := x.foldl (fun b c => b * 2 + (if c = 46 then 0 else 1)) b
def mask (x : List Nat) : Nat := maskF 0 x
theorem maskF_lt : ∀ (x : List Nat) (b m : Nat), b < 2 ^ m → maskF b x < 2 ^ (m + x.length)
  | [], b, m, h => h
  | c :: x, b, m, h => by
    have h1 : b * 2 + (if c = 46 then 0 else 1) < 2 ^ (m + 1) := by
      rw [Nat.pow_succ]
      split <;> omega
    have h2 := maskF_lt x _ _ h1
    unfold maskF
    rw [List.foldl_cons, List.length_cons, show m + (x.length + 1) = m + 1 + x.length by omega]
    exact h2
theorem mask_lt (x : List Nat) : mask x < 2 ^ x.length := by
  have h := maskF_lt x 0 0 (by decide)
  rw [Nat.zero_add] at h
  exact h
def sp_mask (K : PySem.W.Frag) : Sp := fun vs H Q _ => ∃ x, vs = [.str (S x)] ∧ x.length ≤ 1000 ∧ ∀ H', Same H H' → Q (.int (mask x)) H'
end NT
end
namespace NT
open PySem PySem.Spec PyProof.Rows L2
local macro_rules | `(tactic| walk_at "g1") => `(tactic| first
  | ((with_reducible refine w_var (v := ?vv) ?_ ?hh); (case hh => exact rfl))
  | (with_reducible refine w_c ?_)
  | (with_reducible refine w_op ?_)
  | (with_reducible refine w_un ?_)
  | (with_reducible refine w_I0 ?_)
  | (with_reducible refine w_U ?_)
  | (with_reducible refine w_dot ?_)
  | (with_reducible refine w_ndot ?_)
  | (with_reducible refine w_plusS ?_)
  | (with_reducible refine w_it ?_)
  | (with_reducible refine w_if0 ?_)
  | ((with_reducible refine w_wp ?_ ?hh); (case hh => exact rfl))
  | (with_reducible refine w_eqI ?_)
  | (with_reducible refine w_neI ?_)
  | (with_reducible refine w_eqS ?_)
  | (with_reducible refine w_neS ?_)
  | ((with_reducible refine w_eq ?_ ?hh); (case hh => exact rfl))
  | ((with_reducible refine w_ne ?_ ?hh); (case hh => exact rfl))
  | (with_reducible refine w_isN ?_)
  | (with_reducible refine w_notN ?_)
  | (with_reducible refine w_inS ?_)
  | (with_reducible refine w_notInS ?_)
  | (with_reducible refine w_test ?_)
  | (with_reducible refine w_tB ?_)
  | (with_reducible refine w_bl ?_)
  | (with_reducible refine w_not ?_)
  | (with_reducible refine w_and ?_)
  | (with_reducible refine w_or ?_)
  | (with_reducible refine w_tru ?_)
  | (with_reducible refine w_andV ?_)
  | (with_reducible refine w_orV ?_)
  | (with_reducible refine w_notV ?_)
  | (with_reducible refine w_if ?_)
  | (with_reducible refine w_nil ?_)
  | (with_reducible refine w_cons ?_)
  | (with_reducible refine w_CB ?_)
  | (with_reducible refine w_call ?_)
  | (with_reducible refine w_seq ?_)
  | (with_reducible refine w_asg ?_)
  | (with_reducible refine w_name ?_)
  | (with_reducible refine w_ret ?_)
  | (with_reducible refine w_ifs ?_)
  | (with_reducible refine w_nx ?_)
  | (with_reducible refine w_drop ?_)
  | (with_reducible refine w_par ?_)
  | (with_reducible refine w_par2 ?_)
  | (with_reducible refine w_par3 ?_)
  | (with_reducible refine w_par33 ?_)
  | (with_reducible refine w_lc ?_)
  | (with_reducible refine w_SS ?_)
  | (with_reducible refine w_SS2 ?_)
  | (with_reducible refine w_iStr ?_)
  | (with_reducible refine w_str ?_)
  | (with_reducible refine w_iList ?_)
  | (with_reducible refine w_rng ?_)
  | (with_reducible refine w_for ?_)
  | (with_reducible refine w_enum ?_)
  | ((with_reducible refine w_aref (xs := ?xx) ?hh ?_); (case hh => walk_at "sq"))
  | ((with_reducible refine w_aref2 (xs := ?xx) ?hh ?_); (case hh => walk_at "sq"))
  | (with_reducible refine w_gt2 ?_)
  | (with_reducible refine w_yes ?_)
  | (with_reducible refine w_M1 ?_)
  | (with_reducible refine w_and2 ?_)
  | (with_reducible refine w_abs ?_)
  | (with_reducible refine w_int ?_)
  | ((with_reducible refine w_t0 (x := ?vv) (xs := ?ww) ?_ ?hh); (case hh => walk_at "at"))
  | ((with_reducible refine w_t1 (x := ?vv) (y := ?uu) (xs := ?ww) ?_ ?hh); (case hh => walk_at "at"))
  | ((with_reducible refine w_ixS (c := ?cc) ?_ ?hh ?hl); (case hh => assumption); (case hl => walk_at "om"))
  | ((with_reducible refine w_lenS ?_ ?hl); (case hl => walk_at "om"))
  | ((with_reducible refine w_lenM (α := ?aa) (l := ?ll) (f := ?ff) ?_ ?hh); (case hh => walk_at "sq"))
  | ((with_reducible refine w_lenT (xs := ?xx) ?_ ?hh); (case hh => walk_at "at"))
  | ((with_reducible refine w_lenL (xs := ?xx) ?_ ?hh); (case hh => walk_at "sq"))
  | ((with_reducible refine w_dots ?_ ?hh); (case hh => walk_at "om"))
  | (with_reducible refine w_countD ?_)
  | (with_reducible refine w_count ?_)
  | ((with_reducible refine w_rng2 ?_ ?hh); (case hh => walk_at "om"))
  | (with_reducible refine w_str ?_)
  | (with_reducible refine w_chain ?_)
  | (with_reducible refine w_ifnT ?_)
  | (with_reducible refine w_ifnF ?_)
  | (with_reducible refine w_isi_ss ?_)
  | (with_reducible refine w_isi_ii ?_)
  | (with_reducible refine w_isi_ib ?_)
  | ((with_reducible refine w_isi_tt (xs := ?xx) ?hh ?_); (case hh => walk_at "at"))
  | ((with_reducible refine w_isT_l (xs := ?xx) ?h1 ?h2 ?_); (case h1 => walk_at "at"); (case h2 => walk_at "at"))
  | ((with_reducible refine w_decT ?hh ?_); (case hh => walk_at "ar"))
  | ((with_reducible refine w_decF ?hh ?_); (case hh => walk_at "ar"))
  | ((with_reducible refine w_ndecT ?hh ?_); (case hh => walk_at "ar"))
  | ((with_reducible refine w_ndecF ?hh ?_); (case hh => walk_at "ar"))
  | ((with_reducible refine w_inL (l := ?ll) ?hh ?_); (case hh => walk_at "sq"))
  | ((with_reducible refine w_ninL (l := ?ll) ?hh ?_); (case hh => walk_at "sq"))
  | ((with_reducible refine w_pnew ?_ ?hh); (case hh => exact rfl); (intro p hp))
  | (with_reducible refine w_SL ?_)
  | ((with_reducible refine w_SL2 (xs := ?xx) ?hh ?_); (case hh => walk_at "sq"))
  | (with_reducible refine w_sl ?_)
  | (with_reducible refine w_nopart ?_)
  | (with_reducible refine w_part ?_)
  | (with_reducible refine w_part2 ?_)
  | ((with_reducible refine w_gt2T (x := ?xx) (y := ?yy) ?hh ?_); (case hh => walk_at "at"))
  | ((with_reducible refine w_gt3T (x := ?xx) (y := ?yy) (z := ?zz) ?hh ?_); (case hh => walk_at "at"))
  | (with_reducible refine w_bm ?_)
  | (with_reducible refine w_bm0 ?_)
  | ((with_reducible refine w_tyL (xs := ?xx) ?hh ?_); (case hh => walk_at "at"))
  | ((with_reducible refine w_dnew ?_); intro p hp)
  | (with_reducible refine w_lkeys ?_)
  | (with_reducible refine w_lvals ?_)
  | (with_reducible refine w_svals ?_)
  | ((with_reducible refine w_disp ?_); intro p hp)
  | ((with_reducible refine w_dend ?hh ?_); (case hh => walk_at "at"))
  | ((with_reducible refine w_l0 (x0 := ?x0) (x1 := ?x1) (x2 := ?x2) (x3 := ?x3) (x4 := ?x4) ?_ ?hh); (case hh => walk_at "at"))
  | ((with_reducible refine w_l1 (x0 := ?x0) (x1 := ?x1) (x2 := ?x2) (x3 := ?x3) (x4 := ?x4) ?_ ?hh); (case hh => walk_at "at"))
  | ((with_reducible refine w_l2 (x0 := ?x0) (x1 := ?x1) (x2 := ?x2) (x3 := ?x3) (x4 := ?x4) ?_ ?hh); (case hh => walk_at "at"))
  | ((with_reducible refine w_l3 (x0 := ?x0) (x1 := ?x1) (x2 := ?x2) (x3 := ?x3) (x4 := ?x4) ?_ ?hh); (case hh => walk_at "at"))
  | ((with_reducible refine w_l4 (x0 := ?x0) (x1 := ?x1) (x2 := ?x2) (x3 := ?x3) (x4 := ?x4) ?_ ?hh); (case hh => walk_at "at"))
  | ((with_reducible refine w_s1 (x0 := ?x0) (x1 := ?x1) (x2 := ?x2) (x3 := ?x3) (x4 := ?x4) ?_ ?hh); (case hh => walk_at "at"))
  | ((with_reducible refine w_s2 (x0 := ?x0) (x1 := ?x1) (x2 := ?x2) (x3 := ?x3) (x4 := ?x4) ?_ ?hh); (case hh => walk_at "at"))
  | ((with_reducible refine w_s3 (x0 := ?x0) (x1 := ?x1) (x2 := ?x2) (x3 := ?x3) (x4 := ?x4) ?_ ?hh); (case hh => walk_at "at"))
  | ((with_reducible refine w_s4 (x0 := ?x0) (x1 := ?x1) (x2 := ?x2) (x3 := ?x3) (x4 := ?x4) ?_ ?hh); (case hh => walk_at "at"))
  | (with_reducible refine w_gsub ?_)
  | (with_reducible refine w_fld1 ?_)
  | ((with_reducible refine w_fld2 (C := ?CC) (dx := ?dx) (fs := ?fs) (v := ?vv) ?h1 ?h2 ?h3 ?h4 ?_); (case h1 => walk_at "at"); (case h2 => assumption); (case h3 => assumption); (case h4 => assumption))
  | (with_reducible refine w_meth ?_)
  | ((with_reducible refine w_meth2 (dx := ?dx) (fs := ?fs) ?h1 ?h2 ?_); (case h1 => walk_at "at"); (case h2 => assumption))
  | (with_reducible refine w_prop ?_)
  | ((with_reducible refine w_prop2 (dx := ?dx) (fs := ?fs) ?h1 ?_); (case h1 => walk_at "at"))
  | (with_reducible refine w_sfld ?_)
  | (with_reducible refine w_make ?_)
  | (with_reducible refine w_dc ?_)
  | (with_reducible refine w_dget ?_)
  | (with_reducible refine w_dget2 ?_)
  | (with_reducible refine w_din ?_)
  | (with_reducible refine w_dnin ?_)
  | (with_reducible refine w_dput ?_)
  | (with_reducible refine w_items ?_)
  | (with_reducible refine w_vals ?_)
  | (with_reducible refine w_keysM ?_)
  | (with_reducible refine w_keys ?_)
  | ((with_reducible refine w_frz (od := ?oo) (kvs := ?kk) ?hh ?_); (case hh => walk_at "at"))
  | ((with_reducible refine w_frzK (od := ?oo) (kvs := ?kk) ?hh ?_); (case hh => walk_at "at"))
  | ((with_reducible refine w_sortLots ?_); intro fkey)
  | (with_reducible refine w_tup ?_)
  | (with_reducible refine w_lst ?_))
local macro_rules | `(tactic| walk_at "ar") => `(tactic| first | omega | exact rfl)
local macro_rules | `(tactic| walk_at "om") => `(tactic| first | assumption | omega)
local macro_rules | `(tactic| walk_at "go") => `(tactic| repeat (walk_at "g1"))
local macro_rules | `(tactic| walk_at "sm") => `(tactic| first
  | exact Same.refl _
  | assumption
  | exact same_new (by assumption)
  | (refine Same.trans ?_ (same_new (by assumption)); walk_at "sm")
  | (refine same_mut ?_ (by assumption); walk_at "sm")
  | (refine Same.trans ?_ (by assumption); walk_at "sm"))
local macro_rules | `(tactic| walk_at "sq") => `(tactic| first
  | assumption
  | ((refine Same.seq ?_ (by assumption)); walk_at "sm"))
local macro_rules | `(tactic| walk_at "at") => `(tactic| first
  | assumption
  | exact upd_same
  | exact (by assumption : Same _ _) _ _ (by assumption)
  | ((refine (?ss : Same _ _) _ _ (by assumption)); (case ss => walk_at "sm")))
local macro_rules | `(tactic| walk_at "lg") => `(tactic| first | assumption | (rw [Int.natAbs_natCast]; omega))
local macro_rules | `(tactic| walk_at "sb") => `(tactic| first
  | exact SBut.refl
  | assumption
  | exact same_but (by assumption)
  | exact sbut_new (by assumption)
  | (refine SBut.trans ?_ (sbut_new (by assumption)); walk_at "sb")
  | (refine sbut_mut ?_ (by assumption); walk_at "sb")
  | (refine SBut.trans ?_ (by assumption); walk_at "sb")
  | (refine SBut.trans ?_ (same_but (by assumption)); walk_at "sb"))
/-! ## F2 -/
section
set_option maxHeartbeats 2000000
open PySem PySem.Spec PyProof.Rows L2


variable {P : Program} {w : World} {K : PySem.W.Frag} {mg : Str → Option Value} {base : Heap}
abbrev nm_law_over : List Str := ["_law_x", "_law_y", "_law_k"]
theorem sc_law_over : FnScope nm_law_over ["_law_x", "_law_y"] (defScope s_law_over) := ⟨rfl, rfl, rfl, by decide +kernel, rfl, by decide +kernel, by decide +kernel⟩
abbrev t_law_over (K : PySem.W.Frag) : TS := (tRet (tM1 (rJoin K) (tC (.str "")) (tLc (iRng1 (tCons (tCB rLenS (tCons (tVar 0) tNil)) tNil)) (gName 2) tYes (tIf (tTest (tOp rNe (tOp rIxS (tVar 0) (tVar 2)) (tC (.str ".")))) (tOp rIxS (tVar 0) (tVar 2)) (tOp rIxS (tVar 1) (tVar 2))) [2])))
theorem c_law_over (T : Tx K mg) : C8.Cal P w K mg base 1 "_law_over" (sp_law_over K) [] := by
  refine calG T.f_law_over (fun _ _ _ _ _ _ us hl => match us, hl with | [_, _], _ => rfl) sc_law_over (fun vs H Q E h => ?_) (fun f cdv A outer s H vs Q E hr h => have hu := hu_of hr; ⟨t_law_over K, (pss_one (ps_ret (pe_join pe_str (pe_lc (own := [("_law_k", 2)]) rfl sc_law_over.nd (pi_range1 (by rfl) T.b_range (pa_cons (pe_callB call_len_str (by rfl) T.b_len bt_len (pa_cons (pv 0) pa_nil)) pa_nil)) (blkOk_by (own := [("_law_k", 2)]) (N := nm_law_over) (sc := (defScope s_law_over)) (by decide +kernel)) (fun _ _ _ _ _ => (pg_name (i := 2) sc_law_over.nd rfl (Or.inl rfl) (hf := Or.inr rfl))) (fun _ _ _ _ _ => pts_nil) (fun _ _ _ _ _ => (pe_ifExp (pt_cmpR op_ne (pe_ix ix_str (pv 0) (pv 2) (fun _ _ => rfl)) pe_str (nomark _)) (pe_ix ix_str (pv 0) (pv 2) (fun _ _ => rfl)) (pe_ix ix_str (pv 1) (pv 2) (fun _ _ => rfl)))))))), ?_⟩)
  · obtain ⟨x, y, rfl, _⟩ := h
    rfl
  · obtain ⟨x, y, rfl, he, hl, k⟩ := h
    walk_at "go"
    refine lc_val1 (ov x y) (fun c => .str (S [c])) (by rw [ov_len, ← he, Nat.min_self]; exact walk_rng) (by rw [ov_len]; omega) (fun _ _ => trivial) ?_ ?_
    · rintro i c v H2 H3 R hc s2 ⟨rfl, rfl⟩ k1
      rw [ov_get] at hc
      obtain ⟨a, ha, hc⟩ := Option.bind_eq_some_iff.mp hc
      obtain ⟨b, hb, hc⟩ := Option.map_eq_some_iff.mp hc
      walk_at "go"
      refine w_ndec (fun e => ?_) (fun e => ?_)
      · walk_at "go"
        rw [if_neg e] at hc
        subst hc
        exact k1 _ (by walk_at "sm")
      · walk_at "go"
        rw [if_pos e] at hc
        subst hc
        exact k1 _ (by walk_at "sm")
    · intro D H2 nD s2 hD
      exact w_joinR hD (by rw [ov_len]; omega) (k _ s2)
abbrev nm_law_lot : List Str := ["_law_row", "_law_sign_here"]
theorem sc_law_lot : FnScope nm_law_lot ["_law_row"] (defScope s_law_lot) := ⟨rfl, rfl, rfl, by decide +kernel, rfl, by decide +kernel, by decide +kernel⟩
abbrev t_law_lot (K : PySem.W.Frag) : TS := (tRet (tM1 (rJoin K) (tC (.str "")) (tLc (iStr (tVar 0)) (gName 1) tYes (tIf (tTest (tOp rEq (tVar 1) (tC (.str ".")))) (tC (.str ".")) (tC (.str "+"))) [1])))
theorem c_law_lot (T : Tx K mg) : C8.Cal P w K mg base 1 "_law_lot" (sp_law_lot K) [] := by
  refine calG T.f_law_lot (fun _ _ _ _ _ _ us hl => match us, hl with | [_], _ => rfl) sc_law_lot (fun vs H Q E h => ?_) (fun f cdv A outer s H vs Q E hr h => have hu := hu_of hr; ⟨t_law_lot K, (pss_one (ps_ret (pe_join pe_str (pe_lc (own := [("_law_sign_here", 1)]) rfl sc_law_lot.nd (pi_str (pv 0)) (blkOk_by (own := [("_law_sign_here", 1)]) (N := nm_law_lot) (sc := (defScope s_law_lot)) (by decide +kernel)) (fun _ _ _ _ _ => (pg_name (i := 1) sc_law_lot.nd rfl (Or.inl rfl) (hf := Or.inr rfl))) (fun _ _ _ _ _ => pts_nil) (fun _ _ _ _ _ => (pe_ifExp (pt_cmpR op_eq (pv 1) pe_str (nomark _)) pe_str pe_str)))))), ?_⟩)
  · obtain ⟨x, rfl, _⟩ := h
    rfl
  · obtain ⟨x, rfl, hl, k⟩ := h
    walk_at "go"
    refine lc_val1 x (fun c => .str (S [if c = 46 then 46 else 43])) walk_row (by omega) (fun _ _ => trivial) ?_ ?_
    · rintro i c v H2 H3 R hc s2 ⟨rfl, c', hc', rfl⟩ k1
      obtain rfl : c' = c := Option.some.inj (hc'.symm.trans hc)
      walk_at "go"
      refine w_dec (fun e => ?_) (fun e => ?_)
      · walk_at "go"
        rw [lit_dot]
        rw [if_pos e] at k1
        exact k1 _ (by walk_at "sm")
      · walk_at "go"
        rw [lit_plus]
        rw [if_neg e] at k1
        exact k1 _ (by walk_at "sm")
    · intro D H2 nD s2 hD
      exact w_joinR (l := lot x) (by rw [hD]; unfold lot; rw [List.map_map]; rfl) (by unfold lot; rw [List.length_map]; omega) (k _ s2)
abbrev nm_lot_of : List Str := ["row", "sign"]
theorem sc_lot_of : FnScope nm_lot_of ["row"] (defScope s_lot_of) := ⟨rfl, rfl, rfl, by decide +kernel, rfl, by decide +kernel, by decide +kernel⟩
abbrev t_lot_of (K : PySem.W.Frag) : TS := (tRet (tM1 (rJoin K) (tC (.str "")) (tLc (iStr (tVar 0)) (gName 1) tYes (tIf (tTest (tOp rEq (tVar 1) (tC (.str ".")))) (tC (.str ".")) (tC (.str "+"))) [1])))
theorem c_lot_of (T : Tx K mg) : C8.Cal P w K mg base 1 "lot_of" (sp_lot_of K) [] := by
  refine calG T.f_lot_of (fun _ _ _ _ _ _ us hl => match us, hl with | [_], _ => rfl) sc_lot_of (fun vs H Q E h => ?_) (fun f cdv A outer s H vs Q E hr h => have hu := hu_of hr; ⟨t_lot_of K, (pss_one (ps_ret (pe_join pe_str (pe_lc (own := [("sign", 1)]) rfl sc_lot_of.nd (pi_str (pv 0)) (blkOk_by (own := [("sign", 1)]) (N := nm_lot_of) (sc := (defScope s_lot_of)) (by decide +kernel)) (fun _ _ _ _ _ => (pg_name (i := 1) sc_lot_of.nd rfl (Or.inl rfl) (hf := Or.inr rfl))) (fun _ _ _ _ _ => pts_nil) (fun _ _ _ _ _ => (pe_ifExp (pt_cmpR op_eq (pv 1) pe_str (nomark _)) pe_str pe_str)))))), ?_⟩)
  · obtain ⟨x, rfl, _⟩ := h
    rfl
  · obtain ⟨x, rfl, hl, k⟩ := h
    walk_at "go"
    refine lc_val1 x (fun c => .str (S [if c = 46 then 46 else 43])) walk_row (by omega) (fun _ _ => trivial) ?_ ?_
    · rintro i c v H2 H3 R hc s2 ⟨rfl, c', hc', rfl⟩ k1
      obtain rfl : c' = c := Option.some.inj (hc'.symm.trans hc)
      walk_at "go"
      refine w_dec (fun e => ?_) (fun e => ?_)
      · walk_at "go"
        rw [lit_dot]
        rw [if_pos e] at k1
        exact k1 _ (by walk_at "sm")
      · walk_at "go"
        rw [lit_plus]
        rw [if_neg e] at k1
        exact k1 _ (by walk_at "sm")
    · intro D H2 nD s2 hD
      exact w_joinR (l := lot x) (by rw [hD]; unfold lot; rw [List.map_map]; rfl) (by unfold lot; rw [List.length_map]; omega) (k _ s2)
abbrev nm_law_size : List Str := ["_law_row"]
theorem sc_law_size : FnScope nm_law_size ["_law_row"] (defScope s_law_size) := ⟨rfl, rfl, rfl, by decide +kernel, rfl, by decide +kernel, by decide +kernel⟩
abbrev t_law_size (K : PySem.W.Frag) : TS := (tRet (tOp rSubI (tCB rLenS (tCons (tVar 0) tNil)) (tM1 rCount (tVar 0) (tC (.str ".")))))
theorem c_law_size (T : Tx K mg) : C8.Cal P w K mg base 1 "_law_size" (sp_law_size K) [] := by
  refine calG T.f_law_size (fun _ _ _ _ _ _ us hl => match us, hl with | [_], _ => rfl) sc_law_size (fun vs H Q E h => ?_) (fun f cdv A outer s H vs Q E hr h => have hu := hu_of hr; ⟨t_law_size K, (pss_one (ps_ret (pe_op op_sub (pe_callB call_len_str (by rfl) T.b_len bt_len (pa_cons (pv 0) pa_nil)) (pe_m1 PySem.F.slot_str_count PySem.F.type_str_count mt_count (pv 0) pe_str)))), ?_⟩)
  · obtain ⟨x, rfl, _⟩ := h
    rfl
  · obtain ⟨x, rfl, hl, k⟩ := h
    have hc : x.count 46 ≤ x.length := List.count_le_length
    walk_at "go"
    rw [show ((x.length : Int) - (x.count 46 : Nat)) = ((told x : Nat) : Int) from by unfold told; omega]
    exact k _ (Same.refl _)
abbrev nm_told_cells : List Str := ["row"]
theorem sc_told_cells : FnScope nm_told_cells ["row"] (defScope s_told_cells) := ⟨rfl, rfl, rfl, by decide +kernel, rfl, by decide +kernel, by decide +kernel⟩
abbrev t_told_cells (K : PySem.W.Frag) : TS := (tRet (tOp rSubI (tCB rLenS (tCons (tVar 0) tNil)) (tM1 rCount (tVar 0) (tC (.str ".")))))
theorem c_told_cells (T : Tx K mg) : C8.Cal P w K mg base 1 "told_cells" (sp_told_cells K) [] := by
  refine calG T.f_told_cells (fun _ _ _ _ _ _ us hl => match us, hl with | [_], _ => rfl) sc_told_cells (fun vs H Q E h => ?_) (fun f cdv A outer s H vs Q E hr h => have hu := hu_of hr; ⟨t_told_cells K, (pss_one (ps_ret (pe_op op_sub (pe_callB call_len_str (by rfl) T.b_len bt_len (pa_cons (pv 0) pa_nil)) (pe_m1 PySem.F.slot_str_count PySem.F.type_str_count mt_count (pv 0) pe_str)))), ?_⟩)
  · obtain ⟨x, rfl, _⟩ := h
    rfl
  · obtain ⟨x, rfl, hl, k⟩ := h
    have hc : x.count 46 ≤ x.length := List.count_le_length
    walk_at "go"
    rw [show ((x.length : Int) - (x.count 46 : Nat)) = ((told x : Nat) : Int) from by unfold told; omega]
    exact k _ (Same.refl _)
abbrev nm_law_inside : List Str := ["_law_row", "_law_base", "_law_k"]
theorem sc_law_inside : FnScope nm_law_inside ["_law_row", "_law_base"] (defScope s_law_inside) := ⟨rfl, rfl, rfl, by decide +kernel, rfl, by decide +kernel, by decide +kernel⟩
abbrev t_law_inside (K : PySem.W.Frag) : TS := (tRet (tCB (rAll K) (tCons (tLc (iRng1 (tCons (tCB rLenS (tCons (tVar 0) tNil)) tNil)) (gName 2) tYes (tOrV (tOp rEq (tOp rIxS (tVar 0) (tVar 2)) (tC (.str "."))) (tOp rEq (tOp rIxS (tVar 1) (tVar 2)) (tC (.str "+")))) [2]) tNil)))
theorem c_law_inside (T : Tx K mg) : C8.Cal P w K mg base 1 "_law_inside" (sp_law_inside K) [] := by
  refine calG T.f_law_inside (fun _ _ _ _ _ _ us hl => match us, hl with | [_, _], _ => rfl) sc_law_inside (fun vs H Q E h => ?_) (fun f cdv A outer s H vs Q E hr h => have hu := hu_of hr; ⟨t_law_inside K, (pss_one (ps_ret (pe_callB (cr_all rfl) (by rfl) T.b_all bt_all (pa_cons (pe_lc (own := [("_law_k", 2)]) rfl sc_law_inside.nd (pi_range1 (by rfl) T.b_range (pa_cons (pe_callB call_len_str (by rfl) T.b_len bt_len (pa_cons (pv 0) pa_nil)) pa_nil)) (blkOk_by (own := [("_law_k", 2)]) (N := nm_law_inside) (sc := (defScope s_law_inside)) (by decide +kernel)) (fun _ _ _ _ _ => (pg_name (i := 2) sc_law_inside.nd rfl (Or.inl rfl) (hf := Or.inr rfl))) (fun _ _ _ _ _ => pts_nil) (fun _ _ _ _ _ => (pe_or (pe_cmpR op_eq (pe_ix ix_str (pv 0) (pv 2) (fun _ _ => rfl)) pe_str (nomark _)) (pe_one (pe_cmpR op_eq (pe_ix ix_str (pv 1) (pv 2) (fun _ _ => rfl)) pe_str (nomark _)))))) pa_nil)))), ?_⟩)
  · obtain ⟨x, y, rfl, _⟩ := h
    rfl
  · obtain ⟨x, y, rfl, he, hl, k⟩ := h
    walk_at "go"
    refine lc_val1 (List.range x.length) (fun k => .bl (x[k]? == some 46 || y[k]? == some 43)) (by rw [List.length_range]; exact walk_rng) (by rw [List.length_range]; omega) (fun _ _ => trivial) ?_ ?_
    · rintro i c v H2 H3 R hc s2 ⟨rfl, rfl⟩ k1
      obtain ⟨hi, rfl⟩ := range_some hc
      have h1 : x[c]? = some x[c] := by simp [hi]
      have h2 : y[c]? = some (y[c]'(by omega)) := by simp [he ▸ hi]
      walk_at "go"
      refine w_dec (fun e => ?_) (fun e => ?_)
      · rw [h1, e] at k1
        exact k1 _ (by walk_at "sm")
      · walk_at "go"
        have e1 : (x[c]? == some 46 || y[c]? == some 43) = decide (y[c]'(by omega) = 43) := by
          rw [h1, h2]
          exact ins_dec e
        rw [e1] at k1
        exact k1 _ (by walk_at "sm")
    · intro D H2 nD s2 hD
      walk_at "go"
      exact w_all hD (k _ s2)
abbrev nm_law_other : List Str := ["_law_row", "_law_x", "_law_at"]
theorem sc_law_other : FnScope nm_law_other ["_law_row", "_law_x"] (defScope s_law_other) := ⟨rfl, rfl, rfl, by decide +kernel, rfl, by decide +kernel, by decide +kernel⟩
abbrev t_law_other (K : PySem.W.Frag) : TS := (tRet (tM1 (rJoin K) (tC (.str "")) (tLc (iRng1 (tCons (tCB rLenS (tCons (tVar 0) tNil)) tNil)) (gName 2) (tTest (tOp rEq (tOp rIxS (tVar 1) (tVar 2)) (tC (.str ".")))) (tOp rIxS (tVar 0) (tVar 2)) [2])))
theorem c_law_other (T : Tx K mg) : C8.Cal P w K mg base 1 "_law_other" (sp_law_other K) [] := by
  refine calG T.f_law_other (fun _ _ _ _ _ _ us hl => match us, hl with | [_, _], _ => rfl) sc_law_other (fun vs H Q E h => ?_) (fun f cdv A outer s H vs Q E hr h => have hu := hu_of hr; ⟨t_law_other K, (pss_one (ps_ret (pe_join pe_str (pe_lc (own := [("_law_at", 2)]) rfl sc_law_other.nd (pi_range1 (by rfl) T.b_range (pa_cons (pe_callB call_len_str (by rfl) T.b_len bt_len (pa_cons (pv 0) pa_nil)) pa_nil)) (blkOk_by (own := [("_law_at", 2)]) (N := nm_law_other) (sc := (defScope s_law_other)) (by decide +kernel)) (fun _ _ _ _ _ => (pg_name (i := 2) sc_law_other.nd rfl (Or.inl rfl) (hf := Or.inr rfl))) (fun _ _ _ _ _ => (pts_one (pt_cmpR op_eq (pe_ix ix_str (pv 1) (pv 2) (fun _ _ => rfl)) pe_str (nomark _)))) (fun _ _ _ _ _ => (pe_ix ix_str (pv 0) (pv 2) (fun _ _ => rfl))))))), ?_⟩)
  · obtain ⟨x, y, rfl, _⟩ := h
    rfl
  · obtain ⟨x, y, rfl, he, hl, k⟩ := h
    walk_at "go"
    refine lc_valL (List.range x.length) (fun k => .str (S [x.getD k 0])) (fun k => y[k]? == some 46) (by rw [List.length_range]; exact walk_rng) (by rw [List.length_range]; omega) (fun _ _ => trivial) ?_ ?_
    · rintro i c v H2 H3 R R0 hc s2 ⟨rfl, rfl⟩ k1 k2
      obtain ⟨hi, rfl⟩ := range_some hc
      have h1 : x[c]? = some x[c] := by simp [hi]
      have h2 : y[c]? = some (y[c]'(by omega)) := by simp [he ▸ hi]
      walk_at "go"
      refine w_dec (fun e => ?_) (fun e => ?_)
      · walk_at "go"
        have e2 : x.getD c 0 = x[c] := by simp [List.getD_eq_getElem?_getD, h1]
        rw [e2] at k1
        exact k1 _ (by rw [h2, e]; rfl) (by walk_at "sm")
      · exact k2 _ (by rw [h2]; simp [e]) (by walk_at "sm")
    · intro D H2 nD s2 hD
      have e : ((List.range x.length).filter fun k => y[k]? == some 46).map (fun k => x.getD k 0) = rest x y := rest_range x y he
      refine w_joinR (l := rest x y) (by rw [hD, ← e, List.map_map]; rfl) ?_ (k _ s2)
      have := rest_len x y
      omega
abbrev nm_law_full : List Str := ["_law_rows_here", "_law_row"]
theorem sc_law_full : FnScope nm_law_full ["_law_rows_here"] (defScope s_law_full) := ⟨rfl, rfl, rfl, by decide +kernel, rfl, by decide +kernel, by decide +kernel⟩
abbrev t_law_full (K : PySem.W.Frag) : TS := (tRet (tLc (iList K (tVar 0)) (gName 1) (tTest (tOp rNotInS (tC (.str ".")) (tVar 1))) (tVar 1) [1]))
theorem c_law_full (T : Tx K mg) : C8.Cal P w K mg base 1 "_law_full" (sp_law_full K) [] := by
  refine calG T.f_law_full (fun _ _ _ _ _ _ us hl => match us, hl with | [_], _ => rfl) sc_law_full (fun vs H Q E h => ?_) (fun f cdv A outer s H vs Q E hr h => have hu := hu_of hr; ⟨t_law_full K, (pss_one (ps_ret (pe_lc (own := [("_law_row", 1)]) rfl sc_law_full.nd (pi_list (pv 0)) (blkOk_by (own := [("_law_row", 1)]) (N := nm_law_full) (sc := (defScope s_law_full)) (by decide +kernel)) (fun _ _ _ _ _ => (pg_name (i := 1) sc_law_full.nd rfl (Or.inl rfl) (hf := Or.inr rfl))) (fun _ _ _ _ _ => (pts_one (pt_cmpR op_notIn_sign pe_str (pv 1) rfl))) (fun _ _ _ _ _ => (pv 1))))), ?_⟩)
  · obtain ⟨a, rs, rfl, _⟩ := h
    rfl
  · obtain ⟨a, rs, rfl, hr, hl, k⟩ := h
    have hq : SqL K H a (rs.map fun r => .str (S r)) := hr
    walk_at "go"
    refine lc_valL rs (fun r => .str (S r)) full walk_listM (by omega) (fun H' s => s.seq hq) ?_ ?_
    · rintro i c v H2 H3 R R0 hc s2 ⟨rfl, r, hr, rfl⟩ k1 k2
      obtain rfl : r = c := Option.some.inj (hr.symm.trans hc)
      walk_at "go"
      rw [lit_dot]
      refine w_notInS ?_
      have e : (!decide (46 ∈ (S r).cps.toList)) = full r := by rw [S_list]; exact full_mem r
      rw [e]
      walk_at "go"
      cases e : full r with
      | true => walk_at "go"; exact k1 _ e (Same.refl _)
      | false => walk_at "go"; exact k2 _ e (Same.refl _)
    · intro D H2 nD s2 hD
      exact k _ _ nD s2 hD
abbrev nm_blank : List Str := ["many"]
theorem sc_blank : FnScope nm_blank ["many"] (defScope s_blank) := ⟨rfl, rfl, rfl, by decide +kernel, rfl, by decide +kernel, by decide +kernel⟩
abbrev t_blank (K : PySem.W.Frag) : TS := (tRet (tOp rMulS (tC (.str ".")) (tVar 0)))
theorem c_blank (T : Tx K mg) : C8.Cal P w K mg base 1 "blank" (sp_blank K) [] := by
  refine calG T.f_blank (fun _ _ _ _ _ _ us hl => match us, hl with | [_], _ => rfl) sc_blank (fun vs H Q E h => ?_) (fun f cdv A outer s H vs Q E hr h => have hu := hu_of hr; ⟨t_blank K, (pss_one (ps_ret (pe_op op_mul_str pe_str (pv 0)))), ?_⟩)
  · obtain ⟨n, rfl, _⟩ := h
    rfl
  · obtain ⟨n, rfl, hl, k⟩ := h
    walk_at "go"
    exact k _ (Same.refl _)
abbrev nm_lot_size : List Str := ["lot"]
theorem sc_lot_size : FnScope nm_lot_size ["lot"] (defScope s_lot_size) := ⟨rfl, rfl, rfl, by decide +kernel, rfl, by decide +kernel, by decide +kernel⟩
abbrev t_lot_size (K : PySem.W.Frag) : TS := (tRet (tM1 rCount (tVar 0) (tC (.str "+"))))
theorem c_lot_size (T : Tx K mg) : C8.Cal P w K mg base 1 "lot_size" (sp_lot_size K) [] := by
  refine calG T.f_lot_size (fun _ _ _ _ _ _ us hl => match us, hl with | [_], _ => rfl) sc_lot_size (fun vs H Q E h => ?_) (fun f cdv A outer s H vs Q E hr h => have hu := hu_of hr; ⟨t_lot_size K, (pss_one (ps_ret (pe_m1 PySem.F.slot_str_count PySem.F.type_str_count mt_count (pv 0) pe_str))), ?_⟩)
  · obtain ⟨x, rfl, _⟩ := h
    rfl
  · obtain ⟨x, rfl, k⟩ := h
    walk_at "go"
    rw [lit_plus]
    exact w_count (k _ (Same.refl _))
abbrev nm_cut : List Str := ["row", "places", "place"]
theorem sc_cut : FnScope nm_cut ["row", "places"] (defScope s_cut) := ⟨rfl, rfl, rfl, by decide +kernel, rfl, by decide +kernel, by decide +kernel⟩
abbrev t_cut (K : PySem.W.Frag) : TS := (tRet (tM1 (rJoin K) (tC (.str "")) (tLc (iList K (tVar 1)) (gName 2) tYes (tOp rIxS (tVar 0) (tVar 2)) [2])))
theorem c_cut (T : Tx K mg) : C8.Cal P w K mg base 1 "cut" (sp_cut K) [] := by
  refine calG T.f_cut (fun _ _ _ _ _ _ us hl => match us, hl with | [_, _], _ => rfl) sc_cut (fun vs H Q E h => ?_) (fun f cdv A outer s H vs Q E hr h => have hu := hu_of hr; ⟨t_cut K, (pss_one (ps_ret (pe_join pe_str (pe_lc (own := [("place", 2)]) rfl sc_cut.nd (pi_list (pv 1)) (blkOk_by (own := [("place", 2)]) (N := nm_cut) (sc := (defScope s_cut)) (by decide +kernel)) (fun _ _ _ _ _ => (pg_name (i := 2) sc_cut.nd rfl (Or.inl rfl) (hf := Or.inr rfl))) (fun _ _ _ _ _ => pts_nil) (fun _ _ _ _ _ => (pe_ix ix_str (pv 0) (pv 2) (fun _ _ => rfl))))))), ?_⟩)
  · obtain ⟨x, a, ps, rfl, _⟩ := h
    rfl
  · obtain ⟨x, a, ps, rfl, ha, hps, hl, hl2, k⟩ := h
    walk_at "go"
    refine lc_val1 ps (fun i => .str (S [x.getD i 0])) walk_listM (by omega) (fun H' s => s.seq ha) ?_ ?_
    · rintro i c v H2 H3 R hc s2 ⟨rfl, r, hr, rfl⟩ k1
      obtain rfl : r = c := Option.some.inj (hr.symm.trans hc)
      have hlt := hps r (List.mem_of_getElem? hc)
      have h1 : x[r]? = some x[r] := by simp [hlt]
      have e2 : x.getD r 0 = x[r] := by simp [List.getD_eq_getElem?_getD, h1]
      rw [e2] at k1
      walk_at "go"
      exact k1 _ (Same.refl _)
    · intro D H2 nD s2 hD
      exact w_joinR (l := cutR x ps) (by rw [hD]; unfold cutR; rw [List.map_map]; rfl) (by unfold cutR; rw [List.length_map]; omega) (k _ s2)
abbrev nm_mask : List Str := ["row", "bits", "sign"]
theorem sc_mask : FnScope nm_mask ["row"] (defScope s_mask) := ⟨rfl, rfl, rfl, by decide +kernel, rfl, by decide +kernel, by decide +kernel⟩
abbrev t_mask (K : PySem.W.Frag) : TS := (tSeq (tAsg (tC (.int 0)) (gName 1))
    (tSeq (tFor (iStr (tVar 0)) (gName 2) (tAsg (tOp rAddI (tOp rMulW (tVar 1) (tC (.int 2))) (tIf (tTest (tOp rEq (tVar 2) (tC (.str ".")))) (tC (.int 0)) (tC (.int 1)))) (gName 1)))
    (tRet (tVar 1))))
theorem c_mask (T : Tx K mg) : C8.Cal P w K mg base 1 "mask" (sp_mask K) [] := by
  refine calG T.f_mask (fun _ _ _ _ _ _ us hl => match us, hl with | [_], _ => rfl) sc_mask (fun vs H Q E h => ?_) (fun f cdv A outer s H vs Q E hr h => have hu := hu_of hr; ⟨t_mask K, (pss_cons (ps_set (i := 1) sc_mask.nd rfl (Or.inl rfl) pe_int)
      (pss_cons (ps_for PassesOwn.never rfl (pi_str (pv 0)) (pg_name (i := 2) sc_mask.nd rfl (Or.inl rfl) (hf := Or.inr rfl)) (pss_one (ps_set (i := 1) sc_mask.nd rfl (Or.inl rfl) (pe_op op_add (pe_op op_mulW (pv 1) pe_int) (pe_ifExp (pt_cmpR op_eq (pv 2) pe_str (nomark _)) pe_int pe_int)))))
      (pss_one (ps_ret (pv 1))))), ?_⟩)
  · obtain ⟨x, rfl, _⟩ := h
    rfl
  · obtain ⟨x, rfl, hl, k⟩ := h
    walk_at "go"
    refine for_G walk_row (fun i σ H' => H' = H ∧ ∃ v, σ = [some (.str (S x)), some (.int (mask (x.take i))), v]) ⟨rfl, none, rfl⟩ (fun _ _ _ _ _ => trivial) ?_ ?_
    · rintro i v σ H2 H3 hi ⟨rfl, u, rfl⟩ ⟨rfl, c, hc, rfl⟩
      walk_at "go"
      have hb := mask_lt (x.take i)
      rw [List.length_take] at hb
      have hb2 : mask (x.take i) < 2 ^ 1000 := Nat.lt_of_lt_of_le hb (Nat.pow_le_pow_right (by decide) (by omega))
      refine w_I (wide_mul (a := 1000) (b := 3) (by rw [Int.natAbs_natCast]; exact hb2) (by decide) (by decide) (by decide) (by decide)) ?_
      walk_at "go"
      have e : mask (x.take (i + 1)) = mask (x.take i) * 2 + (if c = 46 then 0 else 1) := by
        unfold mask maskF
        rw [List.take_succ, hc]
        simp
      rw [e]
      refine w_dec (fun e => ?_) (fun e => ?_)
      · walk_at "go"
        rw [if_pos e]
        exact ⟨rfl, _, rfl⟩
      · walk_at "go"
        rw [if_neg e]
        exact ⟨rfl, _, rfl⟩
    · rintro σ H2 ⟨rfl, u, rfl⟩
      rw [List.take_length]
      walk_at "go"
      exact k _ (Same.refl _)
end
/-! ## F3 -/
section
set_option maxHeartbeats 2000000
open PySem PySem.Spec PyProof.Rows L2


variable {P : Program} {w : World} {K : PySem.W.Frag} {mg : Str → Option Value} {base : Heap}
theorem gcd_div_den {a : Int} {b : Nat} (h : 0 < b) (hl : b.log2 < 9000) : CDivW (b : Int) ((a.natAbs.gcd b : Nat) : Int) := gcd_div (a := a) h hl
theorem mulW {a b : Int} (ha : a.natAbs.log2 < 100000) (hb : b.natAbs.log2 < 100000) : CMulW a b := by
  show _ + _ < _
  omega
abbrev nm_common_divisor_divisors : List Str := ["one", "other", "great", "small"]
theorem sc_common_divisor_divisors : FnScope nm_common_divisor_divisors ["one", "other"] (defScope s_common_divisor_divisors) := ⟨rfl, rfl, rfl, by decide +kernel, rfl, by decide +kernel, by decide +kernel⟩
abbrev t_common_divisor_divisors (K : PySem.W.Frag) : TS := (tSeq (tPar 2 3 (tCons (tCB rAbs (tCons (tVar 0) tNil)) (tCons (tCB rAbs (tCons (tVar 1) tNil)) tNil)))
    (tSeq (tWhile (tTest (tOp rGtI (tVar 3) (tC (.int 0)))) (tPar 2 3 (tCons (tVar 3) (tCons (tOp rModI (tVar 2) (tVar 3)) tNil))))
    (tRet (tVar 2))))
theorem c_common_divisor_divisors (T : Tx K mg) : C8.Cal P w K mg base 1 "common_divisor_divisors" (sp_common_divisor_divisors K) [] := by
  refine calG T.f_common_divisor_divisors (fun _ _ _ _ _ _ us hl => match us, hl with | [_, _], _ => rfl)  sc_common_divisor_divisors (fun vs H Q E h => ?_) (fun f cdv A outer s H vs Q E hr h => have hu := hu_of hr; ⟨t_common_divisor_divisors K, (pss_cons (ps_par (i := 2) (j := 3) (by rfl) sc_common_divisor_divisors.nd rfl rfl (by decide) rfl rfl (pa_cons (pe_callB call_abs (by rfl) T.b_abs bt_abs (pa_cons (pv 0) pa_nil)) (pa_cons (pe_callB call_abs (by rfl) T.b_abs bt_abs (pa_cons (pv 1) pa_nil)) pa_nil)) (by rfl))
      (pss_cons (ps_while PassesOwn.never (pt_cmpR op_gt (pv 3) pe_int (nomark _)) (pss_one (ps_par (i := 2) (j := 3) (by rfl) sc_common_divisor_divisors.nd rfl rfl (by decide) rfl rfl (pa_cons (pv 3) (pa_cons (pe_op op_mod (pv 2) (pv 3)) pa_nil)) (by rfl))))
      (pss_one (ps_ret (pv 2))))), ?_⟩)
  · obtain ⟨a, b, rfl, _⟩ := h
    rfl
  · obtain ⟨a, b, rfl, k⟩ := h
    walk_at "go"
    refine w_while (fun m σ H' => H' = H ∧ ∃ u v : Nat, m = v ∧ u.gcd v = a.natAbs.gcd b.natAbs ∧ σ = [some (.int a), some (.int b), some (.int u), some (.int v)]) b.natAbs ⟨rfl, _, _, rfl, rfl, rfl⟩ ?_
    rintro m σ H2 ⟨rfl, u, v, rfl, hg, rfl⟩
    walk_at "go"
    rw [nat_gt0]
    refine w_dec (fun e => w_N ?_) (fun e => ?_)
    · walk_at "go"
      refine w_mod ?_ (by omega)
      walk_at "go"
      exact ⟨u % m, Nat.mod_lt _ e, rfl, m, u % m, rfl, by rw [Nat.gcd_comm, ← Nat.gcd_rec, Nat.gcd_comm]; exact hg, rfl⟩
    · walk_at "go"
      have e0 : m = 0 := by omega
      subst e0
      rw [Nat.gcd_zero_right] at hg
      rw [hg]
      exact k _ (Same.refl _)
abbrev nm_law_gcd : List Str := ["_law_a", "_law_b"]
theorem sc_law_gcd : FnScope nm_law_gcd ["_law_a", "_law_b"] (defScope s_law_gcd) := ⟨rfl, rfl, rfl, by decide +kernel, rfl, by decide +kernel, by decide +kernel⟩
abbrev t_law_gcd (K : PySem.W.Frag) : TS := (tSeq (tPar 0 1 (tCons (tCB rAbs (tCons (tVar 0) tNil)) (tCons (tCB rAbs (tCons (tVar 1) tNil)) tNil)))
    (tSeq (tWhile (tTest (tOp rGtI (tVar 1) (tC (.int 0)))) (tPar 0 1 (tCons (tVar 1) (tCons (tOp rModI (tCB rIntI (tCons (tVar 0) tNil)) (tVar 1)) tNil))))
    (tRet (tVar 0))))
theorem c_law_gcd (T : Tx K mg) : C8.Cal P w K mg base 1 "_law_gcd" (sp_law_gcd K) [] := by
  refine calG T.f_law_gcd (fun _ _ _ _ _ _ us hl => match us, hl with | [_, _], _ => rfl)  sc_law_gcd (fun vs H Q E h => ?_) (fun f cdv A outer s H vs Q E hr h => have hu := hu_of hr; ⟨t_law_gcd K, (pss_cons (ps_par (i := 0) (j := 1) (by rfl) sc_law_gcd.nd rfl rfl (by decide) rfl rfl (pa_cons (pe_callB call_abs (by rfl) T.b_abs bt_abs (pa_cons (pv 0) pa_nil)) (pa_cons (pe_callB call_abs (by rfl) T.b_abs bt_abs (pa_cons (pv 1) pa_nil)) pa_nil)) (by rfl))
      (pss_cons (ps_while PassesOwn.never (pt_cmpR op_gt (pv 1) pe_int (nomark _)) (pss_one (ps_par (i := 0) (j := 1) (by rfl) sc_law_gcd.nd rfl rfl (by decide) rfl rfl (pa_cons (pv 1) (pa_cons (pe_op op_mod (pe_callTy call_int1 (by rfl) T.b_int bt_int (pa_cons (pv 0) pa_nil)) (pv 1)) pa_nil)) (by rfl))))
      (pss_one (ps_ret (pv 0))))), ?_⟩)
  · obtain ⟨a, b, rfl, _⟩ := h
    rfl
  · obtain ⟨a, b, rfl, k⟩ := h
    walk_at "go"
    refine w_while (fun m σ H' => H' = H ∧ ∃ u v : Nat, m = v ∧ u.gcd v = a.natAbs.gcd b.natAbs ∧ σ = [some (.int u), some (.int v)]) b.natAbs ⟨rfl, _, _, rfl, rfl, rfl⟩ ?_
    rintro m σ H2 ⟨rfl, u, v, rfl, hg, rfl⟩
    walk_at "go"
    rw [nat_gt0]
    refine w_dec (fun e => w_N ?_) (fun e => ?_)
    · walk_at "go"
      refine w_mod ?_ (by omega)
      walk_at "go"
      exact ⟨u % m, Nat.mod_lt _ e, rfl, m, u % m, rfl, by rw [Nat.gcd_comm, ← Nat.gcd_rec, Nat.gcd_comm]; exact hg, rfl⟩
    · walk_at "go"
      have e0 : m = 0 := by omega
      subst e0
      rw [Nat.gcd_zero_right] at hg
      rw [hg]
      exact k _ (Same.refl _)
abbrev nm_common_divisor_sums : List Str := ["one", "other"]
theorem sc_common_divisor_sums : FnScope nm_common_divisor_sums ["one", "other"] (defScope s_common_divisor_sums) := ⟨rfl, rfl, rfl, by decide +kernel, rfl, by decide +kernel, by decide +kernel⟩
abbrev t_common_divisor_sums (K : PySem.W.Frag) : TS := (tSeq (tWhile (tTru K (tVar 1)) (tPar 0 1 (tCons (tVar 1) (tCons (tOp rModI (tVar 0) (tVar 1)) tNil))))
    (tRet (tVar 0)))
theorem c_common_divisor_sums (T : Tx K mg) : C8.Cal P w K mg base 1 "common_divisor_sums" (sp_common_divisor_sums K) [] := by
  refine calG T.f_common_divisor_sums (fun _ _ _ _ _ _ us hl => match us, hl with | [_, _], _ => rfl)  sc_common_divisor_sums (fun vs H Q E h => ?_) (fun f cdv A outer s H vs Q E hr h => have hu := hu_of hr; ⟨t_common_divisor_sums K, (pss_cons (ps_while PassesOwn.never (pt_truth (pv 1) (by intro _; rfl)) (pss_one (ps_par (i := 0) (j := 1) (by rfl) sc_common_divisor_sums.nd rfl rfl (by decide) rfl rfl (pa_cons (pv 1) (pa_cons (pe_op op_mod (pv 0) (pv 1)) pa_nil)) (by rfl))))
      (pss_one (ps_ret (pv 0)))), ?_⟩)
  · obtain ⟨a, b, rfl, _⟩ := h
    rfl
  · obtain ⟨a, b, rfl, k⟩ := h
    refine w_seq ?_
    refine w_while (fun m σ H' => H' = H ∧ ∃ u v : Nat, m = v ∧ u.gcd v = a.gcd b ∧ σ = [some (.int u), some (.int v)]) b ⟨rfl, _, _, rfl, rfl, rfl⟩ ?_
    rintro m σ H2 ⟨rfl, u, v, rfl, hg, rfl⟩
    walk_at "go"
    refine ⟨decide ((m : Int) ≠ 0), w_truI, ?_⟩
    refine w_dec (fun e => w_N ?_) (fun e => ?_)
    · walk_at "go"
      refine w_mod ?_ (by omega)
      walk_at "go"
      exact ⟨u % m, Nat.mod_lt _ (by omega), rfl, m, u % m, rfl, by rw [Nat.gcd_comm, ← Nat.gcd_rec, Nat.gcd_comm]; exact hg, rfl⟩
    · walk_at "go"
      have e0 : m = 0 := by omega
      subst e0
      rw [Nat.gcd_zero_right] at hg
      rw [hg]
      exact k _ (Same.refl _)
abbrev nm_law_ratio : List Str := ["_law_top", "_law_bottom", "_law_shared"]
theorem sc_law_ratio : FnScope nm_law_ratio ["_law_top", "_law_bottom"] (defScope s_law_ratio) := ⟨rfl, rfl, rfl, by decide +kernel, rfl, by decide +kernel, by decide +kernel⟩
abbrev t_law_ratio (K : PySem.W.Frag) : TS := (tSeq (tAsg (tCall (sp_law_gcd K) [] E0 (tCons (tVar 0) (tCons (tVar 1) tNil))) (gName 2))
    (tRet (tTup (tCons (tOp rDivW (tVar 0) (tVar 2)) (tCons (tOp rDivW (tVar 1) (tVar 2)) tNil)))))
theorem c_law_ratio (T : Tx K mg) : C8.Cal P w K mg base 2 "_law_ratio" (sp_law_ratio K) [] := by
  refine calG T.f_law_ratio (fun _ _ _ _ _ _ us hl => match us, hl with | [_, _], _ => rfl)  sc_law_ratio (fun vs H Q E h => ?_) (fun f cdv A outer s H vs Q E hr h => have hu := hu_of hr; ⟨t_law_ratio K, (pss_cons (ps_set (i := 2) sc_law_ratio.nd rfl (Or.inl rfl) (C8.pe_c (c_law_gcd T) hr (by decide) (by rfl) (pa_cons (pv 0) (pa_cons (pv 1) pa_nil))))
      (pss_one (ps_ret (pe_tup (pa_cons (pe_op op_fdivW (pv 0) (pv 2)) (pa_cons (pe_op op_fdivW (pv 1) (pv 2)) pa_nil)))))), ?_⟩)
  · obtain ⟨a, b, rfl, _⟩ := h
    rfl
  · obtain ⟨a, b, rfl, hb, hl, k⟩ := h
    have hd := rat_den (a := a) hb
    have hn := rat_num (a := a) hb
    have hg := gcd_div (a := a) hb hl
    have hg2 : CDivW (b : Int) ((a.natAbs.gcd b : Nat) : Int) := gcd_div_den hb hl
    walk_at "go"
    refine ⟨a, b, rfl, fun H1 s1 => ?_⟩
    walk_at "go"
    rw [Int.natAbs_natCast]
    refine w_I hg ?_
    walk_at "go"
    refine w_I hg2 ?_
    walk_at "go"
    refine ⟨by show 2 ≤ sizeLine; decide, fun p hp => ?_⟩
    refine k p _ (s1.free hp) (s1.trans (same_new hp)) ?_
    unfold Rt
    rw [← hd, ← hn]
    exact upd_same
abbrev nm_ratio : List Str := ["top", "bottom", "divisor"]
theorem sc_ratio : FnScope nm_ratio ["top", "bottom"] (defScope s_ratio) := ⟨rfl, rfl, rfl, by decide +kernel, rfl, by decide +kernel, by decide +kernel⟩
abbrev t_ratio (K : PySem.W.Frag) : TS := (tSeq (tIfS (tTest (tOp rEq (tVar 1) (tC (.int 0)))) tNever tNext)
    (tSeq (tAsg (tCall (sp_common_divisor_divisors K) [] E0 (tCons (tVar 0) (tCons (tVar 1) tNil))) (gName 2))
    (tSeq (tIfS (tTest (tOp rLtI (tVar 1) (tC (.int 0)))) (tAsg (tUn rNegI (tVar 2)) (gName 2)) tNext)
    (tRet (tTup (tCons (tOp rDivW (tVar 0) (tVar 2)) (tCons (tOp rDivW (tVar 1) (tVar 2)) tNil)))))))
theorem c_ratio (T : Tx K mg) : C8.Cal P w K mg base 2 "ratio" (sp_ratio K) [] := by
  refine calGd T.f_ratio (n := 2) (j := 1) (List.cons_ne_nil _ _) rfl (fun _ _ _ _ _ _ _ us its h1 h2 => match us, h1, its, h2 with | [_, _], _, [_], _ => ⟨_, rfl, rfl⟩)  sc_ratio (fun vs H Q E h => ?_) (fun f cdv A outer s H vs Q E hr h => have hu := hu_of hr; ⟨t_ratio K, (pss_cons (ps_if (pt_cmpR op_eq (pv 1) pe_int (nomark _)) pss_never pss_nil)
      (pss_cons (ps_set (i := 2) sc_ratio.nd rfl (Or.inl rfl) (C8.pe_c (c_common_divisor_divisors T) hr (by decide) (by rfl) (pa_cons (pv 0) (pa_cons (pv 1) pa_nil))))
      (pss_cons (ps_if (pt_cmpR op_lt (pv 1) pe_int (nomark _)) (pss_one (ps_set (i := 2) sc_ratio.nd rfl (Or.inl rfl) (pe_un un_neg (pv 2)))) pss_nil)
      (pss_one (ps_ret (pe_tup (pa_cons (pe_op op_fdivW (pv 0) (pv 2)) (pa_cons (pe_op op_fdivW (pv 1) (pv 2)) pa_nil)))))))), ?_⟩)
  · obtain ⟨a, b, rfl, _⟩ := h
    rfl
  · obtain ⟨a, b, rfl, hb, hl, k⟩ := h
    have hd := rat_den (a := a) hb
    have hn := rat_num (a := a) hb
    have hg := gcd_div (a := a) hb hl
    have hg2 : CDivW (b : Int) ((a.natAbs.gcd b : Nat) : Int) := gcd_div_den hb hl
    walk_at "go"
    rw [decide_eq_false (by intro h; injection h with h; omega)]
    walk_at "go"
    refine ⟨a, b, rfl, fun H1 s1 => ?_⟩
    walk_at "go"
    rw [Int.natAbs_natCast]
    rw [decide_eq_false (by omega)]
    walk_at "go"
    refine w_I hg ?_
    walk_at "go"
    refine w_I hg2 ?_
    walk_at "go"
    refine ⟨by show 2 ≤ sizeLine; decide, fun p hp => ?_⟩
    refine k p _ (s1.free hp) (s1.trans (same_new hp)) ?_
    unfold Rt
    rw [← hd, ← hn]
    exact upd_same
abbrev nm_law_add : List Str := ["_law_x", "_law_y"]
theorem sc_law_add : FnScope nm_law_add ["_law_x", "_law_y"] (defScope s_law_add) := ⟨rfl, rfl, rfl, by decide +kernel, rfl, by decide +kernel, by decide +kernel⟩
abbrev t_law_add (K : PySem.W.Frag) : TS := (tRet (tCall (sp_law_ratio K) [] E0 (tCons (tOp rAddI (tOp rMulW (tOp (rIxT K) (tVar 0) (tC (.int 0))) (tOp (rIxT K) (tVar 1) (tC (.int 1)))) (tOp rMulW (tOp (rIxT K) (tVar 1) (tC (.int 0))) (tOp (rIxT K) (tVar 0) (tC (.int 1))))) (tCons (tOp rMulW (tOp (rIxT K) (tVar 0) (tC (.int 1))) (tOp (rIxT K) (tVar 1) (tC (.int 1)))) tNil))))
theorem c_law_add (T : Tx K mg) : C8.Cal P w K mg base 3 "_law_add" (sp_law_add K) [] := by
  refine calG T.f_law_add (fun _ _ _ _ _ _ us hl => match us, hl with | [_, _], _ => rfl)  sc_law_add (fun vs H Q E h => ?_) (fun f cdv A outer s H vs Q E hr h => have hu := hu_of hr; ⟨t_law_add K, (pss_one (ps_ret (C8.pe_c (c_law_ratio T) hr (by decide) (by rfl) (pa_cons (pe_op op_add (pe_op op_mulW (pe_ix ix_tup (pv 0) pe_int (fun _ _ => rfl)) (pe_ix ix_tup (pv 1) pe_int (fun _ _ => rfl))) (pe_op op_mulW (pe_ix ix_tup (pv 1) pe_int (fun _ _ => rfl)) (pe_ix ix_tup (pv 0) pe_int (fun _ _ => rfl)))) (pa_cons (pe_op op_mulW (pe_ix ix_tup (pv 0) pe_int (fun _ _ => rfl)) (pe_ix ix_tup (pv 1) pe_int (fun _ _ => rfl))) pa_nil))))), ?_⟩)
  · obtain ⟨p, q, a, b, c, d, rfl, _⟩ := h
    rfl
  · obtain ⟨p, q, a, b, c, d, rfl, hp, hq, hb, hd, ha, hc, hl, k⟩ := h
    walk_at "go"
    refine w_I (mulW (by walk_at "lg") (by walk_at "lg")) ?_
    walk_at "go"
    refine w_I (mulW (by walk_at "lg") (by walk_at "lg")) ?_
    walk_at "go"
    refine w_I (mulW (by walk_at "lg") (by walk_at "lg")) ?_
    walk_at "go"
    refine ⟨a * d + c * b, b * d, by rw [Int.natCast_mul]; rfl, Nat.mul_pos hb hd, ?_, fun r H' n s' h => k r H' n s' h⟩
    have := log2_mulle b d hb hd
    omega
abbrev nm_law_by : List Str := ["_law_x", "_law_y"]
theorem sc_law_by : FnScope nm_law_by ["_law_x", "_law_y"] (defScope s_law_by) := ⟨rfl, rfl, rfl, by decide +kernel, rfl, by decide +kernel, by decide +kernel⟩
abbrev t_law_by (K : PySem.W.Frag) : TS := (tRet (tCall (sp_law_ratio K) [] E0 (tCons (tOp rMulW (tOp (rIxT K) (tVar 0) (tC (.int 0))) (tOp (rIxT K) (tVar 1) (tC (.int 0)))) (tCons (tOp rMulW (tOp (rIxT K) (tVar 0) (tC (.int 1))) (tOp (rIxT K) (tVar 1) (tC (.int 1)))) tNil))))
theorem c_law_by (T : Tx K mg) : C8.Cal P w K mg base 3 "_law_by" (sp_law_by K) [] := by
  refine calG T.f_law_by (fun _ _ _ _ _ _ us hl => match us, hl with | [_, _], _ => rfl)  sc_law_by (fun vs H Q E h => ?_) (fun f cdv A outer s H vs Q E hr h => have hu := hu_of hr; ⟨t_law_by K, (pss_one (ps_ret (C8.pe_c (c_law_ratio T) hr (by decide) (by rfl) (pa_cons (pe_op op_mulW (pe_ix ix_tup (pv 0) pe_int (fun _ _ => rfl)) (pe_ix ix_tup (pv 1) pe_int (fun _ _ => rfl))) (pa_cons (pe_op op_mulW (pe_ix ix_tup (pv 0) pe_int (fun _ _ => rfl)) (pe_ix ix_tup (pv 1) pe_int (fun _ _ => rfl))) pa_nil))))), ?_⟩)
  · obtain ⟨p, q, a, b, c, d, rfl, _⟩ := h
    rfl
  · obtain ⟨p, q, a, b, c, d, rfl, hp, hq, hb, hd, ha, hc, hl, k⟩ := h
    walk_at "go"
    refine w_I (mulW (by walk_at "lg") (by walk_at "lg")) ?_
    walk_at "go"
    refine w_I (mulW (by walk_at "lg") (by walk_at "lg")) ?_
    walk_at "go"
    refine ⟨a * c, b * d, by rw [Int.natCast_mul]; rfl, Nat.mul_pos hb hd, ?_, fun r H' n s' h => k r H' n s' h⟩
    have := log2_mulle b d hb hd
    omega
abbrev nm_times : List Str := ["one", "other"]
theorem sc_times : FnScope nm_times ["one", "other"] (defScope s_times) := ⟨rfl, rfl, rfl, by decide +kernel, rfl, by decide +kernel, by decide +kernel⟩
abbrev t_times (K : PySem.W.Frag) : TS := (tRet (tCall (sp_ratio K) [] E0 (tCons (tOp rMulW (tOp (rIxT K) (tVar 0) (tC (.int 0))) (tOp (rIxT K) (tVar 1) (tC (.int 0)))) (tCons (tOp rMulW (tOp (rIxT K) (tVar 0) (tC (.int 1))) (tOp (rIxT K) (tVar 1) (tC (.int 1)))) tNil))))
theorem c_times (T : Tx K mg) : C8.Cal P w K mg base 3 "times" (sp_times K) [] := by
  refine calG T.f_times (fun _ _ _ _ _ _ us hl => match us, hl with | [_, _], _ => rfl)  sc_times (fun vs H Q E h => ?_) (fun f cdv A outer s H vs Q E hr h => have hu := hu_of hr; ⟨t_times K, (pss_one (ps_ret (C8.pe_c (c_ratio T) hr (by decide) (by rfl) (pa_cons (pe_op op_mulW (pe_ix ix_tup (pv 0) pe_int (fun _ _ => rfl)) (pe_ix ix_tup (pv 1) pe_int (fun _ _ => rfl))) (pa_cons (pe_op op_mulW (pe_ix ix_tup (pv 0) pe_int (fun _ _ => rfl)) (pe_ix ix_tup (pv 1) pe_int (fun _ _ => rfl))) pa_nil))))), ?_⟩)
  · obtain ⟨p, q, a, b, c, d, rfl, _⟩ := h
    rfl
  · obtain ⟨p, q, a, b, c, d, rfl, hp, hq, hb, hd, ha, hc, hl, k⟩ := h
    walk_at "go"
    refine w_I (mulW (by walk_at "lg") (by walk_at "lg")) ?_
    walk_at "go"
    refine w_I (mulW (by walk_at "lg") (by walk_at "lg")) ?_
    walk_at "go"
    refine ⟨a * c, b * d, by rw [Int.natCast_mul]; rfl, Nat.mul_pos hb hd, ?_, fun r H' n s' h => k r H' n s' h⟩
    have := log2_mulle b d hb hd
    omega
abbrev nm_plus : List Str := ["one", "other"]
theorem sc_plus : FnScope nm_plus ["one", "other"] (defScope s_plus) := ⟨rfl, rfl, rfl, by decide +kernel, rfl, by decide +kernel, by decide +kernel⟩
abbrev t_plus (K : PySem.W.Frag) : TS := (tSeq (tIfS (tTest (tOp rEq (tOp (rIxT K) (tVar 0) (tC (.int 1))) (tOp (rIxT K) (tVar 1) (tC (.int 1))))) (tRet (tCall (sp_ratio K) [] E0 (tCons (tOp rAddI (tOp (rIxT K) (tVar 0) (tC (.int 0))) (tOp (rIxT K) (tVar 1) (tC (.int 0)))) (tCons (tOp (rIxT K) (tVar 0) (tC (.int 1))) tNil)))) tNext)
    (tRet (tCall (sp_ratio K) [] E0 (tCons (tOp rAddI (tOp rMulW (tOp (rIxT K) (tVar 0) (tC (.int 0))) (tOp (rIxT K) (tVar 1) (tC (.int 1)))) (tOp rMulW (tOp (rIxT K) (tVar 1) (tC (.int 0))) (tOp (rIxT K) (tVar 0) (tC (.int 1))))) (tCons (tOp rMulW (tOp (rIxT K) (tVar 0) (tC (.int 1))) (tOp (rIxT K) (tVar 1) (tC (.int 1)))) tNil)))))
theorem c_plus (T : Tx K mg) : C8.Cal P w K mg base 3 "plus" (sp_plus K) [] := by
  refine calG T.f_plus (fun _ _ _ _ _ _ us hl => match us, hl with | [_, _], _ => rfl)  sc_plus (fun vs H Q E h => ?_) (fun f cdv A outer s H vs Q E hr h => have hu := hu_of hr; ⟨t_plus K, (pss_cons (ps_if (pt_cmpR op_eq (pe_ix ix_tup (pv 0) pe_int (fun _ _ => rfl)) (pe_ix ix_tup (pv 1) pe_int (fun _ _ => rfl)) (nomark _)) (pss_one (ps_ret (C8.pe_c (c_ratio T) hr (by decide) (by rfl) (pa_cons (pe_op op_add (pe_ix ix_tup (pv 0) pe_int (fun _ _ => rfl)) (pe_ix ix_tup (pv 1) pe_int (fun _ _ => rfl))) (pa_cons (pe_ix ix_tup (pv 0) pe_int (fun _ _ => rfl)) pa_nil))))) pss_nil)
      (pss_one (ps_ret (C8.pe_c (c_ratio T) hr (by decide) (by rfl) (pa_cons (pe_op op_add (pe_op op_mulW (pe_ix ix_tup (pv 0) pe_int (fun _ _ => rfl)) (pe_ix ix_tup (pv 1) pe_int (fun _ _ => rfl))) (pe_op op_mulW (pe_ix ix_tup (pv 1) pe_int (fun _ _ => rfl)) (pe_ix ix_tup (pv 0) pe_int (fun _ _ => rfl)))) (pa_cons (pe_op op_mulW (pe_ix ix_tup (pv 0) pe_int (fun _ _ => rfl)) (pe_ix ix_tup (pv 1) pe_int (fun _ _ => rfl))) pa_nil)))))), ?_⟩)
  · obtain ⟨p, q, a, b, c, d, rfl, _⟩ := h
    rfl
  · obtain ⟨p, q, a, b, c, d, rfl, hp, hq, hb, hd, ha, hc, hl, k⟩ := h
    walk_at "go"
    refine w_dec (fun e => ?_) (fun e => ?_)
    · injection e with e
      have e : b = d := by omega
      subst e
      walk_at "go"
      refine ⟨a + c, b, rfl, hb, by omega, fun r H' n s' h => k r H' n s' ?_⟩
      have e2 : qadd a b c b = mkRat (a + c) b := by
        show mkRat _ _ = _
        rw [Rat.mkRat_eq_iff (Nat.ne_of_gt (Nat.mul_pos hb hb)) (Nat.ne_of_gt hb), Int.natCast_mul, ← Int.add_mul, Int.mul_assoc]
      rw [e2]; exact h
    · walk_at "go"
      refine w_I (mulW (by walk_at "lg") (by walk_at "lg")) ?_
      walk_at "go"
      refine w_I (mulW (by walk_at "lg") (by walk_at "lg")) ?_
      walk_at "go"
      refine w_I (mulW (by walk_at "lg") (by walk_at "lg")) ?_
      walk_at "go"
      refine ⟨a * d + c * b, b * d, by rw [Int.natCast_mul]; rfl, Nat.mul_pos hb hd, ?_, fun r H' n s' h => k r H' n s' h⟩
      have := log2_mulle b d hb hd
      omega
end
end NT
/-! ## C0 -/
section
set_option maxHeartbeats 2000000
namespace NT
open PySem PySem.Spec PyProof.Rows L2
section
variable {K : PySem.W.Frag} {H H' : Hp} {Q : VK} {σ : L2.St} {x y : List Nat} {a p : Addr} {xs : List V} {v z : V}
/-! ### tests that are known -/
theorem w_decT {p A B : Prop} {d : Decidable p} (h : p) (k : A) : if decide p = true then A else B := by rw [if_pos (decide_eq_true h)]; exact k
theorem w_decF {p A B : Prop} {d : Decidable p} (h : ¬p) (k : B) : if decide p = true then A else B := by rw [if_neg (by simp [h])]; exact k
theorem w_ndecT {p A B : Prop} {d : Decidable p} (h : p) (k : B) : if (!decide p) = true then A else B := by rw [if_neg (by simp [h])]; exact k
theorem w_ndecF {p A B : Prop} {d : Decidable p} (h : ¬p) (k : A) : if (!decide p) = true then A else B := by rw [if_pos (by simp [h])]; exact k
theorem w_ifnT {A B : Prop} (k : B) : if (!true) = true then A else B := k
theorem w_ifnF {A B : Prop} (k : A) : if (!false) = true then A else B := k
theorem w_chain {r r' : R2} {ta tb tc : TE} (h : ta σ H fun x H1 => tb σ H1 fun y H2 => r x y H2 fun z H3 => ∃ k, z = .bl k ∧ (if k = true then tc σ H3 fun w' H4 => r' y w' H4 Q else Q (.bl false) H3)) : tChain r r' ta tb tc σ H Q := h
theorem len_ok {n : Nat} (h : n ≤ 1000) : n ≤ sizeLine := sl1000 h
theorem w_pnew {R : Addr → Prop} {n : Nat} (h : ∀ p, H p = none → R p) (hl : Nat.ble n 1000 = true) : n ≤ sizeLine ∧ ∀ p, H p = none → R p := ⟨sl1000 (Nat.le_of_ble_eq_true hl), h⟩
theorem w_eqI {i j : Int} (q : Q (.bl (decide (i = j))) H) : rEq (.int i) (.int j) H Q := by
  refine ⟨rfl, ?_⟩
  have e : decide (V.int i = V.int j) = decide (i = j) := decide_eq_decide.mpr ⟨fun h => by injection h, fun h => by rw [h]⟩
  rw [e]; exact q
theorem w_neI {i j : Int} (q : Q (.bl (!decide (i = j))) H) : rNe (.int i) (.int j) H Q := by
  refine ⟨rfl, ?_⟩
  have e : decide (V.int i = V.int j) = decide (i = j) := decide_eq_decide.mpr ⟨fun h => by injection h, fun h => by rw [h]⟩
  rw [e]; exact q
theorem w_lenM {α : Type} {l : List α} {f : α → V} (q : Q (.int l.length) H) (h : SqL K H a (l.map f)) : rLenQ K [.ref a] H Q := ⟨a, l.map f, rfl, .inl h, by rw [List.length_map]; exact q⟩
theorem w_lenT {xs : List V} (q : Q (.int xs.length) H) (h : H a = some (.tup xs)) : rLenQ K [.ref a] H Q := ⟨a, xs, rfl, .inr (SqT.of h), q⟩
theorem w_SL {ta : TA} {R : It → Hp → Prop} (h : ta σ H fun vs H1 => ∃ x b ys, vs = [.str x, .ref b] ∧ SqL K H1 b ys ∧ R (ItzSL K x b) H1) : iZipSL K ta σ H R := h
theorem w_SL2 {R : Str → Addr → Prop} {x : Str} {b : Addr} (h : SqL K H b xs) (q : R x b) : ∃ x' b' ys, [V.str x, V.ref b] = [.str x', .ref b'] ∧ SqL K H b' ys ∧ R x' b' := ⟨x, b, xs, rfl, h, q⟩
theorem walk_zipRL {α : Type} {x : List Nat} {l : List α} {f : α → V} : Walk (ItzSL K (S x) a) (min x.length l.length) (fun H => SqL K H a (l.map f)) (fun i H v H' => ∃ T c y, v = .ref T ∧ H T = none ∧ H' = upd H T (.tup [.str (SX.S [c]), f y]) ∧ x[i]? = some c ∧ l[i]? = some y) := by
  have h := walk_zipSL (K := K) (x := S x) (b := a) (ys := l.map f)
  rw [S_size, List.length_map] at h
  refine h.mono (fun _ h => h) fun i H v H' _ _ z => ?_
  obtain ⟨T, c, y, h1, h2, h3, h4, h5⟩ := z
  have h4 : (S x).cps[i]?.map (fun c => V.str { cps := #[c] }) = some c := h4
  have h5 : (l.map f)[i]? = some y := h5
  rw [S_get] at h4
  rw [List.getElem?_map] at h5
  obtain ⟨c, h6, rfl⟩ := Option.map_eq_some_iff.mp h4
  obtain ⟨d, h7, rfl⟩ := Option.map_eq_some_iff.mp h5
  exact ⟨T, c, d, h1, h2, h3, h6, h7⟩
theorem w_sl {r : V → Option Int → Option Int → Hp → VK → Prop} {ta : TE} {tl tu : TO} (h : ta σ H fun x H1 => tl σ H1 fun l H2 => tu σ H2 fun u H3 => r x l u H3 Q) : tSl r ta tl tu σ H Q := h
theorem w_nopart {R : Option Int → Hp → Prop} (h : R none H) : tNoPart σ H R := h
theorem w_part {te : TE} {R : Option Int → Hp → Prop} (h : te σ H fun x H1 => ∃ i, x = .int i ∧ R (some i) H1) : tPart te σ H R := h
theorem w_part2 {i : Int} {R : Int → Prop} (h : R i) : ∃ j, V.int i = .int j ∧ R j := ⟨i, rfl, h⟩
theorem w_slX {z : Str} {lo hi : Option Int} (hz : z.length ≤ 1000) (q : Q (.str (Txt.slice z lo hi)) H) : C8.rSlX (.str z) lo hi H Q := ⟨z, rfl, sl1000 hz, q⟩
theorem w_gt2T {i j : Nat} {T : Addr} {x y : V} {R : L2.St → Hp → Prop} (e : H T = some (.tup [x, y])) (h : R ((σ.set i (some x)).set j (some y)) H) : gTup K 2 (gCons (gName i) (gCons (gName j) gNil)) (.ref T) σ H R :=
  ⟨T, [x, y], rfl, SqT.of e, rfl, x, [y], rfl, y, [], rfl, rfl, h⟩
theorem w_gt3T {i j l : Nat} {T : Addr} {x y z : V} {R : L2.St → Hp → Prop} (e : H T = some (.tup [x, y, z])) (h : R (((σ.set i (some x)).set j (some y)).set l (some z)) H) : gTup K 3 (gCons (gName i) (gCons (gName j) (gCons (gName l) gNil))) (.ref T) σ H R :=
  ⟨T, [x, y, z], rfl, SqT.of e, rfl, x, [y, z], rfl, y, [z], rfl, z, [], rfl, rfl, h⟩
theorem w_bm {T : String} {r : V → List V → Hp → VK → Prop} {to : TE} {t : TA} (h : to σ H fun x H1 => tyV K T x H1 ∧ t σ H1 fun xs H2 => r x xs H2 Q) : tBM K T r to t σ H Q := h
theorem w_bm0 {T : String} {r : V → List V → Hp → VK → Prop} {to : TE} (h : to σ H fun x H1 => tyV K T x H1 ∧ r x [] H1 Q) : tBM0 K T r to σ H Q := h
theorem cutV_to (xs : List V) (i : Nat) : cutV xs none (some (i : Int)) = xs.take i := by
  unfold cutV
  rw [HT.sIx_none, HT.sIx_nat, List.drop_zero, Nat.sub_zero]
  by_cases h : i ≤ xs.length
  · rw [Nat.min_eq_left h]
  · rw [Nat.min_eq_right (by omega), List.take_length, List.take_of_length_le (by omega)]
theorem cutV_but (xs : List V) : cutV xs none (some (-1)) = xs.dropLast := by
  unfold cutV
  rw [HT.sIx_none]
  have e : HT.sIx xs.length xs.length (some (-1)) = xs.length - 1 := by
    have e2 : HT.sIx xs.length xs.length (some (-1)) = ((-1 : Int) + (xs.length : Int)).toNat := rfl
    rw [e2]
    omega
  rw [e, List.drop_zero, Nat.sub_zero, List.dropLast_eq_take]
theorem w_slTo {α : Type} {l : List α} {f : α → V} {i : Nat} (h : SqL K H a (l.map f)) (q : ∀ p, H p = none → Q (.ref p) (upd H p (.lst ((l.take i).map f)))) : rSlL K (.ref a) none (some (i : Nat)) H Q :=
  ⟨a, _, rfl, h, fun p hp => by rw [cutV_to, ← List.map_take]; exact q p hp⟩
theorem w_slBut {α : Type} {l : List α} {f : α → V} (h : SqL K H a (l.map f)) (q : ∀ p, H p = none → Q (.ref p) (upd H p (.lst (l.dropLast.map f)))) : rSlL K (.ref a) none (some (-1)) H Q :=
  ⟨a, _, rfl, h, fun p hp => by rw [cutV_but, ← List.map_dropLast]; exact q p hp⟩
theorem some_dec {a b : Nat} : ((some a : Option Nat) == some b) = decide (a = b) := by
  by_cases h : a = b
  · subst h; simp
  · rw [decide_eq_false h, beq_eq_false_iff_ne]
    intro e
    exact h (Option.some.inj e)
theorem w_tyL {A : Prop} (h : H p = some (.lst xs)) (q : A) : tyV K "list" (.ref p) H ∧ A := ⟨.inl ⟨rfl, xs, .inl (.inl h)⟩, q⟩
theorem w_app {y : V} (h : H p = some (.lst xs)) (hl : xs.length ≤ 1000) (q : Q .non (upd H p (.lst (xs ++ [y])))) : rAppend (.ref p) [y] H Q :=
  ⟨p, xs, y, rfl, rfl, h, by have h3 : (1000 : Nat) < sizeLine := by decide
                             omega, q⟩
/-! ### isinstance -/
theorem w_isi {n t : String} {b : Bool} (h : TyX K H x' (.type t)) (hb : kitB t n = some b) (q : Q (.bl b) H) : rIsi K [x', .ty n] H Q := ⟨x', .ty n, .type t, .type n, b, rfl, .ty n, h, kit_ty hb, q⟩
theorem w_isi_ss {z : Str} (q : Q (.bl true) H) : rIsi K [.str z, .ty "str"] H Q := w_isi (.base (.str z)) (by decide +kernel) q
theorem w_isi_ii {i : Int} (q : Q (.bl true) H) : rIsi K [.int i, .ty "int"] H Q := w_isi (.base (.int i)) (by decide +kernel) q
theorem w_isi_ib {i : Int} (q : Q (.bl false) H) : rIsi K [.int i, .ty "bool"] H Q := w_isi (.base (.int i)) (by decide +kernel) q
theorem w_isi_tt (h : H a = some (.tup xs)) (q : Q (.bl true) H) : rIsi K [.ref a, .ty "tuple"] H Q := w_isi (.base (.tup h)) (by decide +kernel) q
theorem w_isi_dd {kvs : List (Key × V)} (h : H a = some (.dK kvs)) (q : Q (.bl true) H) : rIsi K [.ref a, .ty "dict"] H Q := w_isi (.base (.dK h)) (by decide +kernel) q
theorem kitLT {t : String} {b : Bool} (h1 : kitB t "list" = some b) (h2 : b = false → kitB t "tuple" = some r) (h3 : b = true → r = true) : PySem.W.kitAny K (.type t) [.type "list", .type "tuple"] = some r := by
  refine kitAny_cons (kit_ty h1) (fun e => ?_) h3
  refine kitAny_cons (kit_ty (h2 e)) (fun e => ?_) (fun e => e)
  rw [e]; exact kitAny_nil
theorem w_isT_l (h : H p = some (.tup [.ty "list", .ty "tuple"])) (ha : H a = some (.lst xs)) (q : Q (.bl true) H) : rIsiT K [.ref a, .ref p] H Q :=
  ⟨.ref a, p, _, .type "list", [.type "list", .type "tuple"], true, rfl, h, .cons (.ty _) (.cons (.ty _) .nil), .base (.lst ha), kitLT (b := true) (by decide +kernel) (fun e => by cases e) (fun _ => rfl), q⟩
/-! ### membership in a list of texts -/
theorem inV_rows (x : List Nat) : ∀ l : List (List Nat), inV (.str (S x)) (l.map fun r => .str (S r)) = decide (x ∈ l)
  | [] => rfl
  | r :: l => by
    have ih := inV_rows x l
    unfold inV at ih ⊢
    rw [List.map_cons, List.any_cons, ih]
    have e : eqV (.str (S r)) (.str (S x)) = decide (x = r) := by
      show ((S r : Str) == S x) = _
      by_cases h : x = r
      · subst h; simp
      · have h2 : S r ≠ S x := fun e => h (by
          have e2 : (S r).cps.toList = (S x).cps.toList := by rw [e]
          rw [S_list, S_list] at e2
          exact e2.symm)
        rw [decide_eq_false h, beq_eq_false_iff_ne.mpr h2]
    rw [e]
    by_cases h : x = r
    · simp [h]
    · simp [h]
theorem flat_rows (l : List (List Nat)) : (l.map fun r => V.str (S r)).all flatV = true := by
  rw [List.all_map]
  exact List.all_eq_true.mpr fun _ _ => rfl
theorem w_inL {l : List (List Nat)} (h : SqL K H a (l.map fun r => .str (S r))) (q : Q (.bl (decide (x ∈ l))) H) : rIn K false (.str (S x)) (.ref a) H Q :=
  ⟨a, _, rfl, .inl h, rfl, flat_rows l, by rw [inV_rows]; exact q⟩
theorem w_ninL {l : List (List Nat)} (h : SqL K H a (l.map fun r => .str (S r))) (q : Q (.bl (!decide (x ∈ l))) H) : rIn K true (.str (S x)) (.ref a) H Q :=
  ⟨a, _, rfl, .inl h, rfl, flat_rows l, by rw [inV_rows]; exact q⟩
theorem S_inj {x y : List Nat} (h : S x = S y) : x = y := by
  have e2 : (S x).cps.toList = (S y).cps.toList := by rw [h]
  rw [S_list, S_list] at e2
  exact e2
theorem w_eqS (q : Q (.bl (decide (x = y))) H) : rEq (.str (S x)) (.str (S y)) H Q := by
  refine ⟨rfl, ?_⟩
  have e : decide (V.str (S x) = V.str (S y)) = decide (x = y) := decide_eq_decide.mpr ⟨fun h => by injection h with h; exact S_inj h, fun h => by rw [h]⟩
  rw [e]; exact q
theorem w_neS (q : Q (.bl (!decide (x = y))) H) : rNe (.str (S x)) (.str (S y)) H Q := by
  refine ⟨rfl, ?_⟩
  have e : decide (V.str (S x) = V.str (S y)) = decide (x = y) := decide_eq_decide.mpr ⟨fun h => by injection h with h; exact S_inj h, fun h => by rw [h]⟩
  rw [e]; exact q
theorem nd_take {α : Type} {l : List α} {i : Nat} {x : α} (n : l.Nodup) (h : l[i]? = some x) : x ∉ l.take i := by
  intro hm
  obtain ⟨j, hj, e⟩ := List.getElem_of_mem hm
  rw [List.length_take] at hj
  rw [List.getElem_take] at e
  obtain ⟨hi, e2⟩ := List.getElem?_eq_some_iff.mp h
  have := List.pairwise_iff_getElem.mp n j i (by omega) hi (by omega)
  exact this (e.trans e2.symm)
/-! ### cells -/
structure Cell where
  p : Addr
  nm : List Nat
  k : Nat
def CellOk (H : Hp) (c : Cell) : Prop := H c.p = some (.tup [.str (S c.nm), .int (c.k : Nat)])
theorem CellOk.same {H H' : Hp} {c : Cell} (h : CellOk H c) (s : Same H H') : CellOk H' c := s _ _ h
structure CellsAt (H : Hp) (a : Addr) (cs : List Cell) : Prop where
  l : H a = some (.lst (cs.map fun c => .ref c.p))
  c : ∀ c ∈ cs, CellOk H c
theorem CellsAt.same {cs : List Cell} (h : CellsAt H a cs) (s : Same H H') : CellsAt H' a cs := ⟨s _ _ h.l, fun c hc => (h.c c hc).same s⟩
def NameOk (n : List Nat) : Prop := 1 ≤ n.length ∧ n.length ≤ 6 ∧ ∀ c ∈ n, 97 ≤ c ∧ c ≤ 122
/-- cells of a band -/
structure CellsOk (cs : List Cell) : Prop where
  one : 1 ≤ cs.length
  few : cs.length ≤ 6
  names : ∀ c ∈ cs, NameOk c.nm
  ks : ∀ c ∈ cs, 1 ≤ c.k ∧ c.k ≤ 4
  nd : (cs.map Cell.nm).Nodup
/-- a row of the cells -/
def Fits (cs : List Cell) (x : List Nat) : Prop := x.length = cs.length ∧ ∀ (i c k : Nat), x[i]? = some c → (cs[i]?).map Cell.k = some k → c = 46 ∨ (48 ≤ c ∧ c < 48 + k)
def sp_is_name (K : PySem.W.Frag) : Sp := fun vs H Q _ => ∃ n, vs = [.str (S n)] ∧ NameOk n ∧ ∀ H', Same H H' → Q (.bl true) H'
def sp_is_number (K : PySem.W.Frag) : Sp := fun vs H Q _ => ∃ i l m : Int, vs = [.int i, .int l, .int m] ∧ l ≤ i ∧ i ≤ m ∧ ∀ H', Same H H' → Q (.bl true) H'
def sp_is_row (K : PySem.W.Frag) : Sp := fun vs H Q _ => ∃ a cs x, vs = [.ref a, .str (S x)] ∧ CellsAt H a cs ∧ CellsOk cs ∧ Fits cs x ∧ ∀ H', Same H H' → Q (.bl true) H'
def sp_check_cells (K : PySem.W.Frag) : Sp := fun vs H Q _ => ∃ a cs, vs = [.ref a] ∧ CellsAt H a cs ∧ CellsOk cs ∧ ∀ H', Same H H' → Q .non H'
/-- seeds of a band -/
structure SeedsOk (cs : List Cell) (ss : List (List Nat)) : Prop where
  few : ss.length ≤ 6
  fit : ∀ s ∈ ss, Fits cs s
  nb : ∀ s ∈ ss, s ≠ List.replicate cs.length 46
  nd : ss.Nodup
  cov : ∀ i, i < cs.length → ∃ s ∈ ss, s[i]? ≠ some 46
def sp_check_seeds (K : PySem.W.Frag) : Sp := fun vs H Q _ => ∃ a b cs ss, vs = [.ref a, .ref b] ∧ CellsAt H a cs ∧ CellsOk cs ∧ H b = some (.lst (ss.map fun s => .str (S s))) ∧ SeedsOk cs ss ∧ ∀ H', Same H H' → Q .non H'
theorem lett {c : Nat} (h : 97 ≤ c ∧ c ≤ 122) : c ∈ (Str.ofString "abcdefghijklmnopqrstuvwxyz").cps.toList := by
  have e : (Str.ofString "abcdefghijklmnopqrstuvwxyz").cps.toList = (List.range 26).map (· + 97) := by decide +kernel
  rw [e]
  exact List.mem_map.mpr ⟨c - 97, List.mem_range.mpr (by omega), by omega⟩
theorem digs {c k : Nat} (hk : 1 ≤ k ∧ k ≤ 4) (h : c = 46 ∨ (48 ≤ c ∧ c < 48 + k)) : c ∈ (Txt.slice (Str.ofString ".0123") none (some ((k : Int) + 1))).cps.toList := by
  have e0 : Str.ofString ".0123" = SX.S [46, 48, 49, 50, 51] := by decide +kernel
  rw [e0, SX.slice_to (by omega), show ((k : Int) + 1).toNat = k + 1 by omega]
  rw [show (SX.S (List.take (k + 1) [46, 48, 49, 50, 51])).cps.toList = _ from S_list _]
  have h4 : k = 1 ∨ k = 2 ∨ k = 3 ∨ k = 4 := by omega
  rcases h4 with e | e | e | e <;> subst e <;> simp <;> omega
end
end NT
end
/-! ## B1 -/
section
set_option maxHeartbeats 2000000
namespace NT
open PySem PySem.Spec PyProof.Rows L2
/-! ### list(d.values()), list(d.keys()), sum(d.values()) -/
def tListVals (te : TE) : TE := fun σ H Q => te σ H fun x H1 => ∃ (d : Addr) (kvs : List (Key × V)), x = .ref d ∧ Rd H1 d (.dK kvs) ∧ ∀ p, H1 p = none → Q (.ref p) (upd H1 p (.lst (kvs.map (·.2))))
def tListKeys (te : TE) : TE := fun σ H Q => te σ H fun x H1 => ∃ (d : Addr) (kvs : List (Key × V)), x = .ref d ∧ Rd H1 d (.dK kvs) ∧ ∀ p, H1 p = none → Q (.ref p) (upd H1 p (.lst (kvs.map fun kv => kV kv.1)))
def tSumVals (te : TE) : TE := fun σ H Q => te σ H fun x H1 => ∃ (d : Addr) (kvs : List (Key × V)) (is : List Int), x = .ref d ∧ Rd H1 d (.dK kvs) ∧ kvs.map (·.2) = is.map V.int ∧ Q (.int is.sum) H1
section
variable {X : Cx} {e : Expr} {te : TE} {p apos cpos pos : Pos}
theorem vals_ats : ∀ {kvs : List (Key × V)} {vs : List (Key × Value)}, KV kvs vs → Vals (kvs.map (·.2)) (vs.map (·.2))
  | _, _, .nil => .nil
  | _, _, .cons r t => .cons r.2 (vals_ats t)
theorem pe_listVals (hc : X.calm = true) (hg : Gl X "list") (hm : X.mg "list" = none) (he : PE X e te) (hv : bootBuiltins "list" = some (.type "list") := by decide +kernel) (hbase : attributeBase e "values" X.env (eval e X.env) = eval e X.env := by rfl) (hline : (apos.endLine == cpos.line) = true := by rfl)
    (hs : starEach [.Call (.Attribute e "values" apos) [] [] cpos] X.env = (false, eval (.Call (.Attribute e "values" apos) [] [] cpos) X.env) :: starEach [] X.env := by rfl) :
    PE X (.Call (.Name "list" p) [.Call (.Attribute e "values" apos) [] [] cpos] [] pos) (tListVals te) := by
  refine ⟨fun pins s σ H Q I hq => ?_⟩
  refine wpAny_Call_Name_kw (ld_blt I hg hm hv ?_)
  refine PyProof.Rows.callWith_type1 ?_ hs rfl
  rw [hs]
  show wpAny _ _ (spliced ((false, eval (.Call (.Attribute e "values" apos) [] [] cpos) X.env) :: backTo pos (starEach [] X.env))) _ _ s
  refine Calls.spliced_cons ?_
  refine wpAny_Call_method (T := "dict") (id := "dict.values") hbase rfl hline F.plainAttrs_dict F.slot_dict_values F.type_dict_values (thn (he.run pins s σ H _ I hq) fun u s1 ⟨x, H1, I1, rx, d, kvs, ex, hd, q⟩ => ?_)
  subst ex
  obtain rfl : u = Value.ref d := rx
  obtain ⟨hz, hs0, vs, kv, hdo⟩ := dk_rd I1.hok hd
  obtain ⟨ep, hat⟩ := hdo.dictAt
  have I2 : Inv X pins σ H1 { s1 with heap := s1.heap.push { cls := .type "dict_values", data := .fields #[.ref d] } } := I1.kept (t' := s1.toks) fun b ob q => Heap.get?_push_of_some _ q
  refine ⟨hdo.typeIs, hdo.mapOf.noDict, ?_⟩
  show wpAny _ _ (callWith cpos (.builtin "dict.values") [.ref d] [] []) _ X.xe s1
  refine method_meetsIn F.slot_dict_values F.entry_dict_values rfl (PySem.evalArgs_none ⟨rfl, hdo.typeIs, F.args_dict_values_1 _, _, meets_dict_values (mixKind X.prog X.w) d hs0, ⟨vs, hdo⟩, ?_⟩)
  refine Calls.spliced_nil ?_
  refine PySem.W.kdl_call (PySem.W.kdl_values (knd := mixKind X.prog X.w) (d := d) (r := s1.heap.objs.size) (kvs := vs) (ep := ep)) (I1.ok.hd hc) ⟨⟨_, Heap.get?_push_size _ rfl, rfl, rfl⟩, hat.push _⟩ (by rw [← kv.length]; exact hz) fun h' tk acc c' hk hD hacc => ?_
  have e0 : acc.toList = vs.map (·.2) := PySem.W.kdl_vals_eq acc.toList (by rw [Array.length_toList]; exact hacc.1) fun j v e => hacc.2 j v (by rw [← Array.getElem?_toList]; exact e)
  exact ⟨.ref _, _, I2.laid (t' := tk) hk (Nat.le_refl _) (show ObjOk X.prog X.w _ _ _ (.lst (kvs.map (·.2))) from ⟨by rw [List.length_map]; exact hz, acc.toList, c', by rw [e0]; exact vals_ats kv, by rw [Array.toArray_toList]; exact hD⟩), rfl, q _ (I2.hok.fresh (Nat.le_refl _))⟩
theorem pe_listKeys (hc : X.calm = true) (hg : Gl X "list") (hm : X.mg "list" = none) (he : PE X e te) (hv : bootBuiltins "list" = some (.type "list") := by decide +kernel) (hbase : attributeBase e "keys" X.env (eval e X.env) = eval e X.env := by rfl) (hline : (apos.endLine == cpos.line) = true := by rfl)
    (hs : starEach [.Call (.Attribute e "keys" apos) [] [] cpos] X.env = (false, eval (.Call (.Attribute e "keys" apos) [] [] cpos) X.env) :: starEach [] X.env := by rfl) :
    PE X (.Call (.Name "list" p) [.Call (.Attribute e "keys" apos) [] [] cpos] [] pos) (tListKeys te) := by
  refine ⟨fun pins s σ H Q I hq => ?_⟩
  refine wpAny_Call_Name_kw (ld_blt I hg hm hv ?_)
  refine PyProof.Rows.callWith_type1 ?_ hs rfl
  rw [hs]
  show wpAny _ _ (spliced ((false, eval (.Call (.Attribute e "keys" apos) [] [] cpos) X.env) :: backTo pos (starEach [] X.env))) _ _ s
  refine Calls.spliced_cons ?_
  refine wpAny_Call_method (T := "dict") (id := "dict.keys") hbase rfl hline F.plainAttrs_dict F.slot_dict_keys F.type_dict_keys (thn (he.run pins s σ H _ I hq) fun u s1 ⟨x, H1, I1, rx, d, kvs, ex, hd, q⟩ => ?_)
  subst ex
  obtain rfl : u = Value.ref d := rx
  obtain ⟨hz, hs0, vs, kv, hdo⟩ := dk_rd I1.hok hd
  obtain ⟨ep, hat⟩ := hdo.dictAt
  have I2 : Inv X pins σ H1 { s1 with heap := s1.heap.push { cls := .type "dict_keys", data := .fields #[.ref d] } } := I1.kept (t' := s1.toks) fun b ob q => Heap.get?_push_of_some _ q
  refine ⟨hdo.typeIs, hdo.mapOf.noDict, ?_⟩
  show wpAny _ _ (callWith cpos (.builtin "dict.keys") [.ref d] [] []) _ X.xe s1
  refine method_meetsIn F.slot_dict_keys F.entry_dict_keys rfl (PySem.evalArgs_none ⟨rfl, hdo.typeIs, F.args_dict_keys_1 _, _, PySem.W.kdl_meets_keys (mixKind X.prog X.w) d hs0, ⟨vs, hdo⟩, ?_⟩)
  refine Calls.spliced_nil ?_
  have ek : (kvs.map fun kv => kV kv.1) = vs.map fun p => kV p.1 := by
    have e := congrArg (List.map kV) kv.keys
    rw [List.map_map, List.map_map] at e
    exact e
  refine PySem.W.kdl_call (PySem.W.kdl_keys (knd := mixKind X.prog X.w) (d := d) (r := s1.heap.objs.size) (kvs := vs) (ep := ep)) (I1.ok.hd hc) ⟨⟨_, Heap.get?_push_size _ rfl, rfl, rfl⟩, hat.push _⟩ (by rw [← kv.length]; exact hz) fun h' tk acc c' hk hD hacc => ?_
  have hv : Vals (vs.map fun p => kV p.1) acc.toList := keys_at (by rw [Array.length_toList]; exact hacc.1) fun j v e => hacc.2 j v (by rw [← Array.getElem?_toList]; exact e)
  exact ⟨.ref _, _, I2.laid (t' := tk) hk (Nat.le_refl _) (show ObjOk X.prog X.w _ _ _ (.lst (kvs.map fun kv => kV kv.1)) from ⟨by rw [List.length_map]; exact hz, acc.toList, c', by rw [ek]; exact hv, by rw [Array.toArray_toList]; exact hD⟩), rfl, q _ (I2.hok.fresh (Nat.le_refl _))⟩
theorem getD_take_sum (is : List Int) : ∀ n, n ≤ is.length → preSum (fun i => is.getD i 0) n = (is.take n).sum
  | 0, _ => rfl
  | n + 1, h => by
    have hn : is[n]? = some (is[n]'(by omega)) := by simp
    show preSum (fun i => is.getD i 0) n + is.getD n 0 = _
    rw [getD_take_sum is n (by omega), List.take_succ, hn, List.sum_append, List.getD_eq_getElem?_getD, hn]
    simp
theorem preSum_all (is : List Int) : preSum (fun i => is.getD i 0) is.length = is.sum := by
  have h := getD_take_sum is is.length (Nat.le_refl _)
  rw [List.take_length] at h
  exact h
theorem pe_sumVals (hc : X.calm = true) (hg : Gl X "sum") (hm : X.mg "sum" = none) (hd : PE X e te) (hbase : attributeBase e "values" X.env (eval e X.env) = eval e X.env := by rfl) (hline : (apos.endLine == cpos.line) = true := by rfl)
    (hse : starEach [Expr.Call (.Attribute e "values" apos) [] [] cpos] X.env = [(false, eval (Expr.Call (.Attribute e "values" apos) [] [] cpos) X.env)] := by rfl) :
    PE X (.Call (.Name "sum" p) [.Call (.Attribute e "values" apos) [] [] cpos] [] pos) (tSumVals te) := by
  refine ⟨fun pins s σ H Q I h => ?_⟩
  refine wpAny_Call_Name_kw (ld_blt I hg hm (u := .builtin "sum") (by first | rfl | decide +kernel) ?_ (by first | decide +kernel | decide) (by first | decide +kernel | decide))
  rw [hse]
  refine PySem.callWith_builtin1 (wpAny_Call_method0_late hbase hline (thn (hd.run pins s σ H _ I h) fun v s1 ⟨x, H1, I1, r1, a, kvs, is, ex, ha, hv, q⟩ => ?_))
  subst ex
  obtain rfl : v = Value.ref a := r1
  obtain ⟨_, hsys, vs, rel, dof⟩ := dk_rd I1.hok ha
  obtain ⟨ep, dat⟩ := dof.dictAt
  have dat' := dat
  obtain ⟨ob, es, ho, ex, hdat, hko, hpr, hnd⟩ := dat'
  refine ⟨"dict", "dict.values", F.plainAttrs_dict, F.slot_dict_values, F.type_dict_values, ⟨ob, ho, ex.1⟩, fun b e => ?_, Calls.callWith_builtin rfl (PySem.evalArgs_none ?_)⟩
  · cases e
    exact ⟨ob, ho, ex.2.1⟩
  refine call_meetsIn F.slot_dict_values ⟨ob, ho, ex.1⟩ F.entry_dict_values (F.args_dict_values_1 _) (meets_dict_values (mixKind X.prog X.w) a hsys) ⟨⟨vs, dof⟩, ?_⟩
  have k1 : ∀ b u, s1.heap.get? b = some u → (s1.heap.push { cls := .type "dict_values", data := .fields #[.ref a] }).get? b = some u := fun b u e => Heap.get?_push_of_some _ e
  have dat1 : (s1.heap.push { cls := .type "dict_values", data := .fields #[.ref a] }).DictAt (mixKind X.prog X.w) a vs ep := dat.keep k1
  have hlv : vs.length = is.length := by
    have e1 := congrArg List.length hv
    rw [List.length_map, List.length_map] at e1
    rw [← e1]
    exact (KV.length rel).symm
  have hval : ∀ (i : Nat) (v : Value), (∃ k, vs[i]? = some (k, v)) → ∃ t, v = Value.int (is.getD i 0) t := fun i v ⟨k, hk⟩ => by
    obtain ⟨x, h1, h2⟩ := KV.at' rel hk
    have e1 : (kvs.map (·.2))[i]? = some x := by rw [List.getElem?_map, h1] <;> rfl
    rw [hv, List.getElem?_map] at e1
    obtain ⟨j, hj, e2⟩ := Option.map_eq_some_iff.mp e1
    subst e2
    obtain ⟨t, e3⟩ := h2
    refine ⟨t, ?_⟩
    rw [e3, List.getD_eq_getElem?_getD, hj] <;> rfl
  have KS := PySem.W.kdl_values (knd := mixKind X.prog X.w) (prog := X.prog) (w := X.w) (d := a) (r := s1.heap.objs.size) (kvs := vs) (ep := ep)
  have hok : ((s1.heap.push { cls := .type "dict_values", data := .fields #[.ref a] }).IsValuesView s1.heap.objs.size a ∧ (s1.heap.push { cls := .type "dict_values", data := .fields #[.ref a] }).DictAt (mixKind X.prog X.w) a vs ep) := ⟨⟨_, Heap.get?_push_size _ rfl, rfl, rfl⟩, dat1⟩
  refine call_sum_walkAnyS ?_
  obtain ⟨oI, St, hit, W, st⟩ := KS.iter X.A.in1 { s1 with heap := s1.heap.push { cls := .type "dict_values", data := .fields #[.ref a] } } (I.ok.hd hc) hok
  refine hit _ _ ⟨_, _, _, _, vs.length, _, _, fun i => is.getD i 0, rfl, W.toS, st, fun b hb => ?_, hval, fun s' t' hm => ?_⟩
  · show b < ((s1.heap.push _).push oI).objs.size
    rw [size_push']
    rcases List.mem_cons.mp hb with e | hb
    · rw [e]; exact Nat.lt_succ_self _
    · rw [List.mem_singleton.mp hb]; exact Nat.lt_succ_of_lt (KS.there _ hok).2
  · have hk : ∀ b o, s1.heap.get? b = some o → s'.heap.get? b = some o := fun b o e =>
      hm.heap b o (fun hI => absurd (Heap.lt_size (k1 b o e)) (by rw [List.mem_singleton.mp hI]; exact Nat.lt_irrefl _)) (Heap.get?_push_of_some _ (k1 b o e))
    rw [Moved.eq_with hm]
    refine ⟨.int is.sum, H1, I1.kept (t' := s'.toks) hk, ⟨t', ?_⟩, q⟩
    rw [hlv, preSum_all]
/-- list(text) -/
def rListS : List V → Hp → VK → Prop := fun xs H Q => ∃ z : List Nat, xs = [.str (S z)] ∧ z.length ≤ 1000 ∧ ∀ p, H p = none → Q (.ref p) (upd H p (.lst (z.map fun c => .str (S [c]))))
theorem vals_signs : ∀ (z : List Nat) (acc : List Value), acc.length = z.length → (∀ (j : Nat) (v : Value), acc[j]? = some v → ∃ (c : Nat) (u : Tok), z[j]? = some c ∧ v = Value.str ⟨#[c]⟩ u) → Vals (z.map fun c => V.str (S [c])) acc
  | [], [], _, _ => .nil
  | [], _ :: _, h, _ => by cases h
  | _ :: _, [], h, _ => by cases h
  | c :: z, v :: acc, h, k => by
    obtain ⟨c', u, hc, hv⟩ := k 0 v rfl
    obtain rfl : c = c' := Option.some.inj hc
    refine .cons ⟨u, hv⟩ (vals_signs z acc (by simpa using h) fun j v hj => ?_)
    exact k (j + 1) v hj
theorem call_list_strS (hc : X.calm = true) : CallR X (.type "list") rListS := by
  intro pins s σ H xs us Q I r h
  obtain ⟨z, rfl, hl, q⟩ := h
  obtain ⟨u, rfl, rx⟩ := vals1 r
  obtain ⟨t, rfl⟩ := rx
  refine PySem.call_list_str (I.ok.hd hc) (S z) t (hn := by rw [S_size]; exact sl1000 hl) fun h' tk acc' c' hk hS' hacc => ?_
  have hv : Vals (z.map fun c => V.str (S [c])) acc'.toList := by
    refine vals_signs z acc'.toList ?_ fun j v hj => ?_
    · have h1 := hacc.1
      rw [Array.length_toList, h1]
      exact S_size z
    · obtain ⟨c, u, h1, h2⟩ := hacc.2 j v (by simpa using hj)
      rw [S_get] at h1
      exact ⟨c, u, h1, h2⟩
  exact ⟨.ref _, _, I.laid (t' := tk) hk (Nat.le_refl _) (show ObjOk X.prog X.w _ _ _ (.lst (z.map fun c => V.str (S [c]))) from ⟨by rw [List.length_map]; exact sl1000 hl, acc'.toList, c', hv, by rw [Array.toArray_toList]; exact hS'⟩), rfl, q _ (I.hok.fresh (Nat.le_refl _))⟩
end
end NT
end
/-! ## S0 -/
section
set_option maxHeartbeats 4000000
namespace NT
open PySem PySem.Spec PyProof.Rows L2 PySem.Froz
/-! ### a set of texts: made of a list, sorted -/
/-- the set at a holds the texts l; it can be walked -/
def TxS (P : Program) (w : World) (h : Heap) (a : Addr) (l : List Str) : Prop :=
  ∃ D : SD, h.get? a = some (sObj "set" D) ∧ TxOk P w D l ∧ Ris D.2.2.place.toList ∧ (w.params.followText "set-order" = true ∨ D.2.2.led = true)
theorem tail_ris {ep : Nat} {es : Array (Int × Value)} {t : SetTable} {b : Bool} (r : Ris t.place.toList) : Ris (tailTx ep es t b).2.2.place.toList ∧ (tailTx ep es t b).2.2.led = t.led := by
  unfold tailTx
  by_cases c : (!b && t.tooFull) = true
  · rw [if_pos c]; exact ⟨relayAll_ris .., relayAll_led ..⟩
  · rw [if_neg c]; exact ⟨r, rfl⟩
theorem add_ris {h : Int} {v : Value} {D : SD} (r : Ris D.2.2.place.toList) : Ris (addTx h v D).2.2.place.toList ∧ (addTx h v D).2.2.led = D.2.2.led := by
  have h1 := layNew_ris D.2.2 D.1 h v r
  have h2 := layNew_led D.2.2 D.1 h v
  unfold addTx
  by_cases c : (layNew D.2.2 D.1 h v).2.1.plain = true
  · rw [if_pos c]
    have h3 := tail_ris (ep := D.2.1) (es := (layNew D.2.2 D.1 h v).1) (b := (layNew D.2.2 D.1 h v).2.2.1) (t := { (layNew D.2.2 D.1 h v).2.1 with plain := false }) h1
    exact ⟨h3.1, h3.2.trans h2⟩
  · rw [if_neg c]
    have h3 := tail_ris (ep := D.2.1) (es := (layNew D.2.2 D.1 h v).1) (b := (layNew D.2.2 D.1 h v).2.2.1) h1
    exact ⟨h3.1, h3.2.trans h2⟩
section
variable {P : Program} {w : World} {A : Around} {E : Value → Shared → Prop} {s : Shared} {a : Addr} {l : List Str} {k : Str} {u : Tok}
/-- a text that is there -/
theorem tx_old {D : SD} {Q : Bool → Shared → Prop} (ho : s.heap.get? a = some (sObj "set" D)) (F : TxOk P w D l) (hk : k ∈ l) (hb : l.length < scanBound) (h : Q false s) : wpAny (model P w) A (setAddHashed a (.str k u) (hashStr w k)) Q E s := by
  obtain ⟨es, ep, t⟩ := D
  have hs : es.size < scanBound := by rw [show es.size = l.length from F.sz]; exact hb
  have he : ElemsOf (strKind P w) es.toList := F.el
  have hf : t.fits es.size = true := F.fit
  have hd : (sObj "set" (es, ep, t)).data = .set es ep t := rfl
  unfold setAddHashed
  unfold setAddHashedIn
  refine wpAny_holding ?_
  refine wpAny_bind (wpAny_setState_of ho (show (sObj "set" (es, ep, t)).data = .set es ep t from rfl) hf ?_)
  dsimp only
  rw [byScan_of rfl hs he]
  simp only [if_true]
  unfold setAddByScan
  refine wpAny_bind (wpAny_bind (wpAny_rule (wpAny_bind (wpAny_setScan_of (knd := strKind P w) (k := k) (is_str k u) ho hd hf he ?_))))
  cases hr : List.findIdx? (fun e => (strKind P w).is k e.2) es.toList with
  | some j => exact wpAny_pure (wpAny_pure h)
  | none =>
    obtain ⟨e, he2, q⟩ := (F.mem k).mp hk
    have c := List.findIdx?_eq_none_iff.mp hr e he2
    rw [q] at c
    cases c
/-- an item more -/
theorem tx_add {Q : Bool → Shared → Prop} (T : TxS P w s.heap a l) (hb : l.length < 64) (h : ∀ b h' l', Heap.SameBut a s.heap h' → TxS P w h' a l' → (∀ x ∈ l', x = k ∨ x ∈ l) → l'.length ≤ l.length + 1 → Q b { s with heap := h' }) :
    wpAny (model P w) A (setAddHashed a (.str k u) (hashStr w k)) Q E s := by
  obtain ⟨D, ho, F, r, ld⟩ := T
  have hsb : 100 < scanBound := by unfold scanBound; omega
  by_cases hk : k ∈ l
  · exact tx_old ho F hk (by omega) (h false s.heap l (Heap.SameBut.refl a s.heap) ⟨D, ho, F, r, ld⟩ (fun x hx => .inr hx) (Nat.le_succ _))
  · have h2 := add_ris (h := hashStr w k) (v := Value.str k u) r
    refine add_x ho F hk (by omega) (h true _ (k :: l) (Heap.SameBut.update ..) ⟨_, get_upd _ ho rfl, add_ok u F, h2.1, ld.imp id fun z => by rw [h2.2]; exact z⟩ (fun x hx => List.mem_cons.mp hx) (Nat.le_refl _))
end
/-- the loop of set.update -/
theorem tx_loop {P : Program} {w : World} {A : Around} {R : Result → Shared → Prop} {I : Addr} {fp wr : List Addr} {G : Array GenState → Array GenState → Prop} {n : Nat} {Pv : Nat → Value → Prop} {St : Nat → Shared → Prop}
    (W : WalksS P w A.in1 I fp wr G n Pv St) (D : Addr) (hDf : D ∉ fp) (xs : List Str) (hn : n < 64) (hval : ∀ i v, Pv i v → ∃ x t, x ∈ xs ∧ v = Value.str x t) :
    ∀ (m i : Nat) (s : Shared), n - i = m → i ≤ n → St i s → (∃ l, TxS P w s.heap D l ∧ (∀ x ∈ l, x ∈ xs) ∧ l.length ≤ i) →
      (∀ s', Moved (D :: wr) G s s' → (∃ l, TxS P w s'.heap D l ∧ (∀ x ∈ l, x ∈ xs) ∧ l.length ≤ n) → R (.ok (.ret .none)) s') →
      codeAny (model P w) A (.builtin "set.update.loop" ⟨[.ref D, .ref I], []⟩) R s := by
  have hDw : D ∉ wr := fun z => hDf (W.sub _ z)
  have up : ∀ b ∈ wr, b ∈ D :: wr := fun b z => List.mem_cons_of_mem _ z
  have keep : ∀ {s s' : Shared} {l : List Str}, Moved wr G s s' → TxS P w s.heap D l → TxS P w s'.heap D l := fun mv ⟨X, ho, r⟩ => ⟨X, mv.heap D _ hDw ho, r⟩
  intro m
  induction m with
  | zero =>
    intro i s hm hi hst ⟨l, T, hl, hc⟩ fin
    obtain rfl : i = n := by omega
    refine codeAny_builtin PyProof.Rows.F.entry_set_update_loop ?_
    rw [Around.under_plainId PyProof.Rows.F.plain_set_update_loop _]
    refine wpAny_bind (W.done s _ _ hst fun s' mv => wpAny_pure (fin s' (mv.mono up) ⟨l, keep mv T, hl, hc⟩))
  | succ m ih =>
    intro i s hm hi hst ⟨l, T, hl, hc⟩ fin
    refine codeAny_builtin PyProof.Rows.F.entry_set_update_loop ?_
    rw [Around.under_plainId PyProof.Rows.F.plain_set_update_loop _]
    refine wpAny_bind (W.item i s _ _ (by omega) hst fun v s1 hp hst1 mv => ?_)
    obtain ⟨x, t, hx, rfl⟩ := hval i v hp
    show wpAny _ A.in1 (holding [Value.str x t] (setAdd D (.str x t)) >>= _) _ _ s1
    refine wpAny_bind (wpAny_holding ?_)
    unfold setAdd
    refine wpAny_holding (wpAny_bind ((strKind P w).pyHash (k := x) (is_str x t) ?_))
    have T1 : TxS P w s1.heap D l := keep mv T
    refine tx_add (s := { s1 with toks := s1.toks + 1 }) (l := l) T1 (by omega) fun b h' l' sb T' hl' hc' => ?_
    refine wpAny_pure ⟨plainId_quiet PyProof.Rows.F.plain_set_update_loop _, ih (i + 1) _ (by omega) (by omega) ?_ ⟨l', T', fun y hy => ?_, by omega⟩ fun s2 mv2 r2 => ?_⟩
    · exact W.frame _ s1 _ _ hst1 (Nat.le_succ _) fun b hb o e => by rw [sb.2 b (fun z => hDf (by rw [← z]; exact hb))]; exact e
    · rcases hl' y hy with z | z
      · rw [z]; exact hx
      · exact hl y z
    · exact fin s2 (Moved.trans W.gtrans ((mv.mono up).then_heap (Nat.le_succ _) fun b o hb e => by rw [sb.2 b (fun z => hb (by rw [z]; exact List.mem_cons_self ..))]; exact e) mv2) r2
section
variable {P : Program} {w : World} {A : Around} {E : Value → Shared → Prop} {s : Shared}
abbrev noSet (led : Bool) : Obj := { cls := .type "set", dict := none, data := .set #[] 0 (.fresh 0 0 led) }
theorem tx_new {h : Heap} {a : Addr} (ho : h.get? a = some (noSet (!w.params.followText "set-order"))) : TxS P w h a [] := by
  refine ⟨(#[], 0, .fresh 0 0 (!w.params.followText "set-order")), ho, TxOk.nil (by rfl), List.Pairwise.nil, ?_⟩
  show _ ∨ (!w.params.followText "set-order") = true
  cases w.params.followText "set-order"
  · exact .inr rfl
  · exact .inl rfl
set_option maxHeartbeats 6400000 in
/-- set(list of texts) -/
theorem call_setTx {b : Addr} {items : Array Value} {xs : List Str} {Q : Value → Shared → Prop} (hh : A.handled = none) (hb : s.heap.IsList b items) (hi : ∀ v ∈ items.toList, ∃ x t, x ∈ xs ∧ v = Value.str x t) (hn : items.size < 64)
    (q : ∀ (h' : Heap) (tk : Nat) (l : List Str), TxS P w h' s.heap.objs.size l → (∀ x ∈ l, x ∈ xs) → l.length < 64 → (∀ c o, s.heap.get? c = some o → h'.get? c = some o) → Q (.ref s.heap.objs.size) { s with heap := h', toks := tk }) :
    wpAny (model P w) A (call (.type "set") [.ref b]) Q E s := by
  obtain ⟨_, _, hm⟩ := PySem.F.called_set.mro
  have f1 := PySem.F.called_set.made
  have f2 := PySem.F.called_set.sub
  refine wpAny_call (codeAny_of_tree (wpAny_pure ⟨Code.quiet_builtin _ (by decide +kernel), codeAny_builtin PySem.F.entry_type_call ?_⟩))
  rw [Around.under_plain (weight_type_call_type "set" [.ref b] []) rfl]
  have f3 := PySem.F.called_set.notType
  have f4 := PySem.F.called_set.canCreate
  have f5 := PySem.F.typeCall_set_1 (.ref b)
  repeat any_goals first | assumption | wp_step
  refine codeAny_mono (code_set_led1 (.ref b) (E := E) (Q₁ := fun o s' => o = .ref s.heap.objs.size ∧ s' = { s with heap := s.heap.push (noSet (!w.params.followText "set-order")) }) ⟨rfl, rfl⟩) fun r s' hr => ?_
  cases r with
  | error e => exact hr
  | ok fl =>
    cases fl with
    | ret o =>
      obtain ⟨rfl, rfl⟩ := hr
      have hS : (s.heap.push (noSet (!w.params.followText "set-order"))).get? s.heap.objs.size = some (noSet (!w.params.followText "set-order")) := Heap.get?_push_size _ rfl
      have hT : Shared.TypeIs { s with heap := s.heap.push (noSet (!w.params.followText "set-order")) } (.ref s.heap.objs.size) "set" := ⟨_, hS, rfl⟩
      have f6 := PySem.F.called_set.init.lookup
      have f7 := PySem.F.called_set.init.bind (.ref s.heap.objs.size)
      repeat any_goals first | assumption | wp_step
      refine codeAny_mono (codeAny_call_builtin (R := wants (fun r s2 => r = .none ∧ ∃ h' tk l, s2 = { s with heap := h', toks := tk } ∧ TxS P w h' s.heap.objs.size l ∧ (∀ x ∈ l, x ∈ xs) ∧ l.length < 64 ∧ (∀ c o, s.heap.get? c = some o → h'.get? c = some o)) E)
        PySem.F.called_set.init.plain PySem.F.entry_set_init (check_set_init_1 hT ?_)) fun r2 s2 hr2 => ?_
      · obtain ⟨⟨c1, c2, c3, c4⟩, hol, hcl, nl, hdl⟩ := hb
        simp only at hcl hdl
        subst hcl; subst hdl
        have hol2 : (s.heap.push (noSet (!w.params.followText "set-order"))).get? b = some { cls := .type "list", dict := c2, data := .seq items nl, slots := c4 } := Heap.get?_push_of_some _ hol
        have f8 := PySem.F.sub_list_set
        have f9 := PySem.F.sub_list_frozenset
        have f0 : (Value.type "list" == Value.type "dict") = false := by decide
        have hl1 : (s.heap.push (noSet (!w.params.followText "set-order"))).IsList b items := ⟨_, hol2, rfl, nl, rfl⟩
        unfold Builtin.«set.__init__» noKeywords Builtin.Frozenset.updateFrom
        generalize hPI : pyIter = PI
        wp_walk
        subst hPI
        refine wpAny_pyIter_list hl1 (wpAny_bind (wpAny_runValue ?_))
        have hlt : b < s.heap.objs.size := Heap.lt_size hol
        have h3 : A.in1.in1.in1.handled = none := by simp [hh]
        have hne : b ≠ (s.heap.push (noSet (!w.params.followText "set-order"))).objs.size := by rw [Heap.size_push]; exact Nat.ne_of_lt (Nat.lt_succ_of_lt hlt)
        have hSf : s.heap.objs.size ∉ [(s.heap.push (noSet (!w.params.followText "set-order"))).objs.size, b] := by
          rw [Heap.size_push]
          simp only [List.mem_cons, List.not_mem_nil, or_false, not_or]
          exact ⟨Nat.ne_of_lt (Nat.lt_succ_self _), Nat.ne_of_gt hlt⟩
        refine tx_loop (n := items.size) ((Walks.list h3 _ b hne items).toS) s.heap.objs.size hSf xs hn (fun i v hv => hi v (by
            have e : items[i]? = some v := hv
            rw [← Array.getElem?_toList] at e
            exact List.mem_of_getElem? e)) (items.size - 0) 0 _ rfl (Nat.zero_le _) ⟨⟨_, Heap.get?_push_size _ rfl, rfl, rfl⟩, (hl1.push _)⟩ ⟨[], tx_new (Heap.get?_push_of_some _ hS), (fun x hx => by cases hx), Nat.zero_le _⟩ ?_
        rintro ⟨h', g', d', tk', os'⟩ mv ⟨l, T, hl, hc⟩
        obtain rfl : g' = s.gens := mv.gens
        obtain rfl : d' = s.drawn := mv.drawn
        obtain rfl : os' = s.os := mv.os
        refine wpAny_pure (wpAny_pure ⟨rfl, h', tk', l, rfl, T, hl, Nat.lt_of_le_of_lt hc hn, fun c o e => ?_⟩)
        have hlc := Heap.lt_size e
        refine mv.heap c o ?_ (Heap.get?_push_of_some _ (Heap.get?_push_of_some _ e))
        simp only [List.mem_cons, List.not_mem_nil, or_false, not_or]
        rw [Heap.size_push]
        exact ⟨Nat.ne_of_lt hlc, Nat.ne_of_lt (Nat.lt_succ_of_lt hlc)⟩
      · cases r2 with
        | error e => exact hr2
        | ok fl2 =>
          cases fl2 with
          | ret r =>
            obtain ⟨rfl, h', tk, l, rfl, T, hl, hc, hk⟩ := hr2
            repeat any_goals first | assumption | wp_step
            exact q _ _ l T hl hc hk
          | _ => exact hr2.elim
    | _ => exact hr.elim
end
end NT
end
/-! ## S1 -/
section
set_option maxHeartbeats 4000000
namespace NT
open PySem PySem.Spec PyProof.Rows L2 PySem.Froz
def TxO (P : Program) (w : World) (a : Addr) (l : List Str) : HO := .ext fun h => TxS P w h a l
section
variable {X : Cx}
def rSetTx (K : PySem.W.Frag) (P : Program) (w : World) : List V → Hp → VK → Prop := fun vs H Q => ∃ (b : Addr) (xs : List Str), vs = [V.ref b] ∧ SqL K H b (xs.map V.str) ∧ xs.length < 64 ∧
  ∀ (l : List Str) (p : Addr), H p = none → (∀ y ∈ l, y ∈ xs) → l.length < 64 → Q (.ref p) (upd H p (TxO P w p l))
theorem strs_each : ∀ {vs : List Value} {xs : List Str}, StrsAre vs xs → ∀ v ∈ vs, ∃ x t, x ∈ xs ∧ v = Value.str x t
  | _, _, .cons y t r, v, hv => by
    rcases List.mem_cons.mp hv with e | e
    · exact ⟨y, t, List.mem_cons_self .., e⟩
    · obtain ⟨x, u, h1, h2⟩ := strs_each r v e
      exact ⟨x, u, List.mem_cons_of_mem _ h1, h2⟩
theorem cr_setTx (hc : X.calm = true) : CallR X (.type "set") (rSetTx X.K X.prog X.w) := by
  intro pins s σ H vs us Q I r h
  obtain ⟨b, xs, rfl, hb, h64, q⟩ := h
  rw [Vals.ref1 r]
  obtain ⟨its, rv, pl, _⟩ := I.list hb
  have hn : its.length = xs.length := by
    have e := rv.length
    rw [List.length_map] at e
    exact e.symm
  have hN : H s.heap.objs.size = none := I.hok.fresh (Nat.le_refl _)
  refine call_setTx (P := X.prog) (w := X.w) (xs := xs) (I.ok.hd hc) pl.isList (by simpa using strs_each rv.strs) (by simp; omega) fun h' tk l T hl hc2 k => ?_
  have new : ObjOk X.prog X.w (upd H s.heap.objs.size (TxO X.prog X.w s.heap.objs.size l)) h' s.heap.objs.size (TxO X.prog X.w s.heap.objs.size l) := by
    refine ⟨T, ?_, fun h1 h2 p kk => ?_⟩
    · obtain ⟨D, ho, _⟩ := T
      exact ⟨_, ho⟩
    · obtain ⟨D, ho, r⟩ := p
      exact ⟨D, kk _ ho, r⟩
  exact ⟨.ref s.heap.objs.size, _, I.laid (t' := tk) k (Nat.le_refl _) new, rfl, q l _ hN hl hc2⟩
/-- sorted(set of texts) -/
def rSortTx (P : Program) (w : World) : List V → Hp → VK → Prop := fun vs H Q => ∃ (a : Addr) (l : List Str), vs = [V.ref a] ∧ H a = some (TxO P w a l) ∧ l.length < 64 ∧
  ∀ (ys : List Str) (p : Addr), (∀ y ∈ ys, y ∈ l) → ys.length < 64 → H p = none → Q (.ref p) (upd H p (.lst (ys.map V.str)))
theorem cr_sortTx (hc : X.calm = true) : CallR X (.builtin "sorted") (rSortTx X.prog X.w) := by
  intro pins s σ H vs us Q I r h
  obtain ⟨a, l, rfl, ha, h64, q⟩ := h
  obtain ⟨D, ho, F, ris, ld⟩ := (I.hok a _ ha).1
  rw [Vals.ref1 r]
  have hsz : D.1.size = l.length := F.sz
  have hsb : 100 < scanBound := by unfold scanBound; omega
  refine Calls.call_function_entry PyProof.Rows.kind_sorted PyProof.Rows.plain_sorted PyProof.Rows.entry_sorted (PyProof.Rows.args_sorted1 _) ?_
  unfold Builtin.«sorted»
  refine wpAny_bind (m := checkCount "sorted" 1 1 _) (wpAny_pure ?_)
  refine wpAny_bind (collect_set (A := X.A.in1) (es := D.1) (ep := D.2.1) (t := D.2.2) (I.ok.hd hc) ⟨_, ho, rfl, rfl⟩ F.fit (by omega) ris ld fun s1 vs k1 hz g1 o1 pm => ?_)
  have hvl : vs.length = l.length := by rw [pm.length_eq, List.length_map, Array.length_toList]; exact hsz
  -- the members as texts
  have each : ∀ v ∈ vs, ∃ x t, x ∈ l ∧ v = Value.str x t := fun v hv => by
    obtain ⟨e, he, e2⟩ := List.mem_map.mp (pm.mem_iff.mp hv)
    obtain ⟨⟨k, h1, _⟩, _⟩ := F.el e he
    obtain ⟨t, h2⟩ := Value.isStrOf_shape h1
    exact ⟨k, t, (F.mem k).mpr ⟨e, he, h1⟩, by rw [← e2]; exact h2⟩
  have texts : ∀ vs : List Value, (∀ v ∈ vs, ∃ x t, x ∈ l ∧ v = Value.str x t) → ∃ ks : List Str, StrsAre vs ks ∧ ∀ k ∈ ks, k ∈ l := by
    intro vs
    induction vs with
    | nil => exact fun _ => ⟨[], .nil, fun k hk => by cases hk⟩
    | cons v vs ih =>
      intro h
      obtain ⟨x, t, hx, rfl⟩ := h v List.mem_cons_self
      obtain ⟨ks, h1, h2⟩ := ih fun u hu => h u (List.mem_cons_of_mem _ hu)
      refine ⟨x :: ks, .cons x t h1, fun k hk => ?_⟩
      rcases List.mem_cons.mp hk with e | e
      · rw [e]; exact hx
      · exact h2 k e
  obtain ⟨ks, hS, hks⟩ := texts vs each
  refine wpAny_bind (wpAny_newList ?_ (by rw [hvl, sizeLine_eq]; omega))
  have hoL : (s1.heap.push (seqObj "list" vs.toArray 0)).get? s1.heap.objs.size = some (seqObj "list" vs.toArray 0) := Heap.get?_push_size _ rfl
  refine wpAny_bind (wpAny_holding (wpAny_call_entry PyProof.Rows.slot_list_sort ⟨_, hoL, rfl⟩ PyProof.Rows.entry_list_sort
    (list_sort_treeK strKind_oneLt (s := { s1 with heap := s1.heap.push (seqObj "list" vs.toArray 0) }) hoL hS.keysOf (fun v₁ v₂ rest e => keyKind_strs (by rw [← e]; exact hS)) (by rw [hvl]; exact h64) fun st' hp hs => ⟨_, rfl, ?_⟩)
    (PyProof.Rows.args_list_sort _)))
  obtain ⟨ys, g1', g2, g3⟩ := sorted_out_str hS hp hs
  obtain ⟨c, hc'⟩ := PyProof.Rows.sortedHeap_at (vs := vs) (out := (arrOf st').map (·.2)) hoL
  have hyl : ys.length < 64 := by
    have e1 := g2.length_eq
    have e2 : vs.length = ks.length := StrsAre.len_eq hS
    omega
  have hlen : (ys.map V.str).length ≤ sizeLine := by rw [List.length_map]; exact Nat.le_trans (Nat.le_of_lt hyl) (by decide)
  have hN : H s1.heap.objs.size = none := I.hok.fresh hz
  have kk : ∀ b o, s.heap.get? b = some o → (sortedHeap (s1.heap.push (seqObj "list" vs.toArray 0)) s1.heap.objs.size vs ((arrOf st').map (·.2))).get? b = some o := fun b o e => by
    have e1 := k1 b o e
    have hb := Heap.lt_size e1
    rw [PyProof.Rows.sortedHeap_old (Nat.ne_of_lt hb) (by rw [size_push']; exact Nat.lt_succ_of_lt hb)]
    exact Heap.get?_push_of_some _ e1
  have J : Inv X pins σ (upd H s1.heap.objs.size (.lst (ys.map V.str))) { s with heap := sortedHeap (s1.heap.push (seqObj "list" vs.toArray 0)) s1.heap.objs.size vs ((arrOf st').map (·.2)), gens := s1.gens, drawn := s1.drawn, toks := s1.toks } :=
    I.call (ch := []) (Un.laid kk hz hN) (I.hok.laid kk hz ⟨hlen, ((arrOf st').map (·.2)).toList, c, vals_of_strs g1', by rw [Array.toArray_toList]; exact hc'⟩) (by rw [g1]; exact I.bare) (fun _ z => nomatch z)
  have e : ({ s1 with heap := sortedHeap (s1.heap.push (seqObj "list" vs.toArray 0)) s1.heap.objs.size vs ((arrOf st').map (·.2)) } : Shared) = { s with heap := sortedHeap (s1.heap.push (seqObj "list" vs.toArray 0)) s1.heap.objs.size vs ((arrOf st').map (·.2)), gens := s1.gens, drawn := s1.drawn, toks := s1.toks } := by
    cases s1
    cases s
    cases o1
    rfl
  refine wpAny_pure ⟨_, rfl, ?_⟩
  rw [e]
  exact ⟨.ref _, _, J, rfl, q ys _ (fun y hy => hks y (g2.mem_iff.mp hy)) hyl hN⟩
end
end NT
end
namespace NT
open PySem PySem.Spec PyProof.Rows L2
local macro_rules | `(tactic| walk_at "g1") => `(tactic| first
  | ((with_reducible refine w_var (v := ?vv) ?_ ?hh); (case hh => exact rfl))
  | (with_reducible refine w_c ?_)
  | (with_reducible refine w_op ?_)
  | (with_reducible refine w_un ?_)
  | (with_reducible refine w_I0 ?_)
  | (with_reducible refine w_U ?_)
  | (with_reducible refine w_dot ?_)
  | (with_reducible refine w_ndot ?_)
  | (with_reducible refine w_plusS ?_)
  | (with_reducible refine w_it ?_)
  | (with_reducible refine w_if0 ?_)
  | ((with_reducible refine w_wp ?_ ?hh); (case hh => exact rfl))
  | (with_reducible refine w_eqI ?_)
  | (with_reducible refine w_neI ?_)
  | (with_reducible refine w_eqS ?_)
  | (with_reducible refine w_neS ?_)
  | ((with_reducible refine w_eq ?_ ?hh); (case hh => exact rfl))
  | ((with_reducible refine w_ne ?_ ?hh); (case hh => exact rfl))
  | (with_reducible refine w_isN ?_)
  | (with_reducible refine w_notN ?_)
  | (with_reducible refine w_inS ?_)
  | (with_reducible refine w_notInS ?_)
  | (with_reducible refine w_test ?_)
  | (with_reducible refine w_tB ?_)
  | (with_reducible refine w_bl ?_)
  | (with_reducible refine w_not ?_)
  | (with_reducible refine w_and ?_)
  | (with_reducible refine w_or ?_)
  | (with_reducible refine w_tru ?_)
  | (with_reducible refine w_andV ?_)
  | (with_reducible refine w_orV ?_)
  | (with_reducible refine w_notV ?_)
  | (with_reducible refine w_if ?_)
  | (with_reducible refine w_nil ?_)
  | (with_reducible refine w_cons ?_)
  | (with_reducible refine w_CB ?_)
  | (with_reducible refine w_call ?_)
  | (with_reducible refine w_seq ?_)
  | (with_reducible refine w_asg ?_)
  | (with_reducible refine w_name ?_)
  | (with_reducible refine w_ret ?_)
  | (with_reducible refine w_ifs ?_)
  | (with_reducible refine w_nx ?_)
  | (with_reducible refine w_drop ?_)
  | (with_reducible refine w_par ?_)
  | (with_reducible refine w_par2 ?_)
  | (with_reducible refine w_par3 ?_)
  | (with_reducible refine w_par33 ?_)
  | (with_reducible refine w_lc ?_)
  | (with_reducible refine w_SS ?_)
  | (with_reducible refine w_SS2 ?_)
  | (with_reducible refine w_iStr ?_)
  | (with_reducible refine w_str ?_)
  | (with_reducible refine w_iList ?_)
  | (with_reducible refine w_rng ?_)
  | (with_reducible refine w_for ?_)
  | (with_reducible refine w_enum ?_)
  | ((with_reducible refine w_aref (xs := ?xx) ?hh ?_); (case hh => walk_at "sq"))
  | ((with_reducible refine w_aref2 (xs := ?xx) ?hh ?_); (case hh => walk_at "sq"))
  | (with_reducible refine w_gt2 ?_)
  | (with_reducible refine w_yes ?_)
  | (with_reducible refine w_M1 ?_)
  | (with_reducible refine w_and2 ?_)
  | (with_reducible refine w_abs ?_)
  | (with_reducible refine w_int ?_)
  | ((with_reducible refine w_t0 (x := ?vv) (xs := ?ww) ?_ ?hh); (case hh => walk_at "at"))
  | ((with_reducible refine w_t1 (x := ?vv) (y := ?uu) (xs := ?ww) ?_ ?hh); (case hh => walk_at "at"))
  | ((with_reducible refine w_ixS (c := ?cc) ?_ ?hh ?hl); (case hh => assumption); (case hl => walk_at "om"))
  | ((with_reducible refine w_lenS ?_ ?hl); (case hl => walk_at "om"))
  | ((with_reducible refine w_lenM (α := ?aa) (l := ?ll) (f := ?ff) ?_ ?hh); (case hh => walk_at "sq"))
  | ((with_reducible refine w_lenT (xs := ?xx) ?_ ?hh); (case hh => walk_at "at"))
  | ((with_reducible refine w_lenL (xs := ?xx) ?_ ?hh); (case hh => walk_at "sq"))
  | ((with_reducible refine w_dots ?_ ?hh); (case hh => walk_at "om"))
  | (with_reducible refine w_countD ?_)
  | (with_reducible refine w_count ?_)
  | ((with_reducible refine w_rng2 ?_ ?hh); (case hh => walk_at "om"))
  | (with_reducible refine w_str ?_)
  | (with_reducible refine w_chain ?_)
  | (with_reducible refine w_ifnT ?_)
  | (with_reducible refine w_ifnF ?_)
  | (with_reducible refine w_isi_ss ?_)
  | (with_reducible refine w_isi_ii ?_)
  | (with_reducible refine w_isi_ib ?_)
  | ((with_reducible refine w_isi_tt (xs := ?xx) ?hh ?_); (case hh => walk_at "at"))
  | ((with_reducible refine w_isT_l (xs := ?xx) ?h1 ?h2 ?_); (case h1 => walk_at "at"); (case h2 => walk_at "at"))
  | ((with_reducible refine w_decT ?hh ?_); (case hh => walk_at "ar"))
  | ((with_reducible refine w_decF ?hh ?_); (case hh => walk_at "ar"))
  | ((with_reducible refine w_ndecT ?hh ?_); (case hh => walk_at "ar"))
  | ((with_reducible refine w_ndecF ?hh ?_); (case hh => walk_at "ar"))
  | ((with_reducible refine w_inL (l := ?ll) ?hh ?_); (case hh => walk_at "sq"))
  | ((with_reducible refine w_ninL (l := ?ll) ?hh ?_); (case hh => walk_at "sq"))
  | ((with_reducible refine w_pnew ?_ ?hh); (case hh => exact rfl); (intro p hp))
  | (with_reducible refine w_SL ?_)
  | ((with_reducible refine w_SL2 (xs := ?xx) ?hh ?_); (case hh => walk_at "sq"))
  | (with_reducible refine w_sl ?_)
  | (with_reducible refine w_nopart ?_)
  | (with_reducible refine w_part ?_)
  | (with_reducible refine w_part2 ?_)
  | ((with_reducible refine w_gt2T (x := ?xx) (y := ?yy) ?hh ?_); (case hh => walk_at "at"))
  | ((with_reducible refine w_gt3T (x := ?xx) (y := ?yy) (z := ?zz) ?hh ?_); (case hh => walk_at "at"))
  | (with_reducible refine w_bm ?_)
  | (with_reducible refine w_bm0 ?_)
  | ((with_reducible refine w_tyL (xs := ?xx) ?hh ?_); (case hh => walk_at "at"))
  | ((with_reducible refine w_dnew ?_); intro p hp)
  | (with_reducible refine w_lkeys ?_)
  | (with_reducible refine w_lvals ?_)
  | (with_reducible refine w_svals ?_)
  | ((with_reducible refine w_disp ?_); intro p hp)
  | ((with_reducible refine w_dend ?hh ?_); (case hh => walk_at "at"))
  | ((with_reducible refine w_l0 (x0 := ?x0) (x1 := ?x1) (x2 := ?x2) (x3 := ?x3) (x4 := ?x4) ?_ ?hh); (case hh => walk_at "at"))
  | ((with_reducible refine w_l1 (x0 := ?x0) (x1 := ?x1) (x2 := ?x2) (x3 := ?x3) (x4 := ?x4) ?_ ?hh); (case hh => walk_at "at"))
  | ((with_reducible refine w_l2 (x0 := ?x0) (x1 := ?x1) (x2 := ?x2) (x3 := ?x3) (x4 := ?x4) ?_ ?hh); (case hh => walk_at "at"))
  | ((with_reducible refine w_l3 (x0 := ?x0) (x1 := ?x1) (x2 := ?x2) (x3 := ?x3) (x4 := ?x4) ?_ ?hh); (case hh => walk_at "at"))
  | ((with_reducible refine w_l4 (x0 := ?x0) (x1 := ?x1) (x2 := ?x2) (x3 := ?x3) (x4 := ?x4) ?_ ?hh); (case hh => walk_at "at"))
  | ((with_reducible refine w_s1 (x0 := ?x0) (x1 := ?x1) (x2 := ?x2) (x3 := ?x3) (x4 := ?x4) ?_ ?hh); (case hh => walk_at "at"))
  | ((with_reducible refine w_s2 (x0 := ?x0) (x1 := ?x1) (x2 := ?x2) (x3 := ?x3) (x4 := ?x4) ?_ ?hh); (case hh => walk_at "at"))
  | ((with_reducible refine w_s3 (x0 := ?x0) (x1 := ?x1) (x2 := ?x2) (x3 := ?x3) (x4 := ?x4) ?_ ?hh); (case hh => walk_at "at"))
  | ((with_reducible refine w_s4 (x0 := ?x0) (x1 := ?x1) (x2 := ?x2) (x3 := ?x3) (x4 := ?x4) ?_ ?hh); (case hh => walk_at "at"))
  | (with_reducible refine w_gsub ?_)
  | (with_reducible refine w_fld1 ?_)
  | ((with_reducible refine w_fld2 (C := ?CC) (dx := ?dx) (fs := ?fs) (v := ?vv) ?h1 ?h2 ?h3 ?h4 ?_); (case h1 => walk_at "at"); (case h2 => assumption); (case h3 => assumption); (case h4 => assumption))
  | (with_reducible refine w_meth ?_)
  | ((with_reducible refine w_meth2 (dx := ?dx) (fs := ?fs) ?h1 ?h2 ?_); (case h1 => walk_at "at"); (case h2 => assumption))
  | (with_reducible refine w_prop ?_)
  | ((with_reducible refine w_prop2 (dx := ?dx) (fs := ?fs) ?h1 ?_); (case h1 => walk_at "at"))
  | (with_reducible refine w_sfld ?_)
  | (with_reducible refine w_make ?_)
  | (with_reducible refine w_dc ?_)
  | (with_reducible refine w_dget ?_)
  | (with_reducible refine w_dget2 ?_)
  | (with_reducible refine w_din ?_)
  | (with_reducible refine w_dnin ?_)
  | (with_reducible refine w_dput ?_)
  | (with_reducible refine w_items ?_)
  | (with_reducible refine w_vals ?_)
  | (with_reducible refine w_keysM ?_)
  | (with_reducible refine w_keys ?_)
  | ((with_reducible refine w_frz (od := ?oo) (kvs := ?kk) ?hh ?_); (case hh => walk_at "at"))
  | ((with_reducible refine w_frzK (od := ?oo) (kvs := ?kk) ?hh ?_); (case hh => walk_at "at"))
  | ((with_reducible refine w_sortLots ?_); intro fkey)
  | (with_reducible refine w_tup ?_)
  | (with_reducible refine w_lst ?_))
local macro_rules | `(tactic| walk_at "ar") => `(tactic| first | omega | exact rfl)
local macro_rules | `(tactic| walk_at "om") => `(tactic| first | assumption | omega)
local macro_rules | `(tactic| walk_at "go") => `(tactic| repeat (walk_at "g1"))
local macro_rules | `(tactic| walk_at "sm") => `(tactic| first
  | exact Same.refl _
  | assumption
  | exact same_new (by assumption)
  | (refine Same.trans ?_ (same_new (by assumption)); walk_at "sm")
  | (refine same_mut ?_ (by assumption); walk_at "sm")
  | (refine Same.trans ?_ (by assumption); walk_at "sm"))
local macro_rules | `(tactic| walk_at "sq") => `(tactic| first
  | assumption
  | ((refine Same.seq ?_ (by assumption)); walk_at "sm"))
local macro_rules | `(tactic| walk_at "at") => `(tactic| first
  | assumption
  | exact upd_same
  | exact (by assumption : Same _ _) _ _ (by assumption)
  | ((refine (?ss : Same _ _) _ _ (by assumption)); (case ss => walk_at "sm")))
local macro_rules | `(tactic| walk_at "lg") => `(tactic| first | assumption | (rw [Int.natAbs_natCast]; omega))
local macro_rules | `(tactic| walk_at "sb") => `(tactic| first
  | exact SBut.refl
  | assumption
  | exact same_but (by assumption)
  | exact sbut_new (by assumption)
  | (refine SBut.trans ?_ (sbut_new (by assumption)); walk_at "sb")
  | (refine sbut_mut ?_ (by assumption); walk_at "sb")
  | (refine SBut.trans ?_ (by assumption); walk_at "sb")
  | (refine SBut.trans ?_ (same_but (by assumption)); walk_at "sb"))
/-! ## F4 -/
section
set_option maxHeartbeats 2000000
open PySem PySem.Spec PyProof.Rows L2


variable {P : Program} {w : World} {K : PySem.W.Frag} {mg : Str → Option Value} {base : Heap}
abbrev nm_is_name : List Str := ["value", "sign"]
theorem sc_is_name : FnScope nm_is_name ["value"] (defScope s_is_name) := ⟨rfl, rfl, rfl, by decide +kernel, rfl, by decide +kernel, by decide +kernel⟩
abbrev t_is_name (K : PySem.W.Frag) : TS := (tSeq (tIfS (tOr (tNot (tB (tCB (rIsi K) (tCons (tVar 0) (tCons (tC (.ty "str")) tNil))))) (tNot (tTest (tChain rLeI rLeI (tC (.int 1)) (tCB rLenS (tCons (tVar 0) tNil)) (tC (.int 6)))))) (tRet (tC (.bl false))) tNext)
    (tRet (tCB (rAll K) (tCons (tLc (iStr (tVar 0)) (gName 1) tYes (tOp rInS (tVar 1) (tC (.str "abcdefghijklmnopqrstuvwxyz"))) [1]) tNil))))
theorem c_is_name (T : Tx K mg) : C8.Cal P w K mg base 1 "is_name" (sp_is_name K) [] := by
  refine calG T.f_is_name (fun _ _ _ _ _ _ us hl => match us, hl with | [_], _ => rfl)  sc_is_name (fun vs H Q E h => ?_) (fun f cdv A outer s H vs Q E hr h => have hu := hu_of hr; ⟨t_is_name K, (pss_cons (ps_if (PW.pt (pw_or (pt_not (pt_val (pe_callB call_isi (by rfl) T.b_isinstance bt_isinstance (pa_cons (pv 0) (pa_cons (pe_bltn (by rfl) T.b_str bt_str rfl) pa_nil))))) (pw_or1 (pt_not (pt_chain op_le op_le pe_int (pe_callB call_len_str (by rfl) T.b_len bt_len (pa_cons (pv 0) pa_nil)) pe_int))))) (pss_one (ps_ret pe_bl)) pss_nil)
      (pss_one (ps_ret (pe_callB (cr_all rfl) (by rfl) T.b_all bt_all (pa_cons (pe_lc (own := [("sign", 1)]) rfl sc_is_name.nd (pi_str (pv 0)) (blkOk_by (own := [("sign", 1)]) (N := nm_is_name) (sc := (defScope s_is_name)) (by decide +kernel)) (fun _ _ _ _ _ => (pg_name (i := 1) sc_is_name.nd rfl (Or.inl rfl) (hf := Or.inr rfl))) (fun _ _ _ _ _ => pts_nil) (fun _ _ _ _ _ => (pe_cmpR op_in_sign (pv 1) (pe_gstr (by rfl) T.c_LETTERS) rfl))) pa_nil))))), ?_⟩)
  · obtain ⟨n, rfl, _⟩ := h
    rfl
  · obtain ⟨n, rfl, hn, k⟩ := h
    obtain ⟨h1, h6, hc⟩ := hn
    walk_at "go"
    refine lc_val1 n (fun _ => .bl true) walk_row (by omega) (fun _ _ => trivial) ?_ ?_
    · rintro i c v H2 H3 R hi s2 ⟨rfl, c', hc', rfl⟩ k1
      obtain rfl : c' = c := Option.some.inj (hc'.symm.trans hi)
      walk_at "go"
      rw [decide_eq_true (lett (hc _ (List.mem_of_getElem? hi)))]
      exact k1 _ (Same.refl _)
    · intro D H2 nD s2 hD
      walk_at "go"
      refine w_all (f := fun _ => true) hD ?_
      rw [List.all_eq_true.mpr fun _ _ => rfl]
      exact k _ s2
abbrev nm_is_number : List Str := ["value", "least", "most"]
theorem sc_is_number : FnScope nm_is_number ["value", "least", "most"] (defScope s_is_number) := ⟨rfl, rfl, rfl, by decide +kernel, rfl, by decide +kernel, by decide +kernel⟩
abbrev t_is_number (K : PySem.W.Frag) : TS := (tRet (tAndV (tCB (rIsi K) (tCons (tVar 0) (tCons (tC (.ty "int")) tNil))) (tAndV (tNotV (tCB (rIsi K) (tCons (tVar 0) (tCons (tC (.ty "bool")) tNil)))) (tChain rLeI rLeI (tVar 1) (tVar 0) (tVar 2)))))
theorem c_is_number (T : Tx K mg) : C8.Cal P w K mg base 1 "is_number" (sp_is_number K) [] := by
  refine calG T.f_is_number (fun _ _ _ _ _ _ us hl => match us, hl with | [_, _, _], _ => rfl)  sc_is_number (fun vs H Q E h => ?_) (fun f cdv A outer s H vs Q E hr h => have hu := hu_of hr; ⟨t_is_number K, (pss_one (ps_ret (pe_and (pe_callB call_isi (by rfl) T.b_isinstance bt_isinstance (pa_cons (pv 0) (pa_cons (pe_bltn (by rfl) T.b_int bt_int rfl) pa_nil))) (pe_and (pe_not (pe_callB call_isi (by rfl) T.b_isinstance bt_isinstance (pa_cons (pv 0) (pa_cons (pe_bltn (by rfl) T.b_bool bt_bool rfl) pa_nil)))) (pe_one (pe_chain op_le op_le (pv 1) (pv 0) (pv 2))))))), ?_⟩)
  · obtain ⟨i, l, m, rfl, _⟩ := h
    rfl
  · obtain ⟨i, l, m, rfl, h1, h2, k⟩ := h
    walk_at "go"
    rw [decide_eq_true h2]
    exact k _ (Same.refl _)
abbrev nm_is_row : List Str := ["cells", "value", "sign", "cell"]
theorem sc_is_row : FnScope nm_is_row ["cells", "value"] (defScope s_is_row) := ⟨rfl, rfl, rfl, by decide +kernel, rfl, by decide +kernel, by decide +kernel⟩
abbrev t_is_row (K : PySem.W.Frag) : TS := (tSeq (tIfS (tOr (tNot (tB (tCB (rIsi K) (tCons (tVar 1) (tCons (tC (.ty "str")) tNil))))) (tTest (tOp rNe (tCB rLenS (tCons (tVar 1) tNil)) (tCB (rLenQ K) (tCons (tVar 0) tNil))))) (tRet (tC (.bl false))) tNext)
    (tRet (tCB (rAll K) (tCons (tLc (iZipSL K (tCons (tVar 1) (tCons (tVar 0) tNil))) (gTup K 2 (gCons (gName 2) (gCons (gName 3) gNil))) tYes (tOp rInS (tVar 2) (tSl C8.rSlX (tC (.str ".0123")) tNoPart (tPart (tOp rAddI (tOp (rIxT K) (tVar 3) (tC (.int 1))) (tC (.int 1)))))) [2, 3]) tNil))))
theorem c_is_row (T : Tx K mg) : C8.Cal P w K mg base 1 "is_row" (sp_is_row K) [] := by
  refine calG T.f_is_row (fun _ _ _ _ _ _ us hl => match us, hl with | [_, _], _ => rfl)  sc_is_row (fun vs H Q E h => ?_) (fun f cdv A outer s H vs Q E hr h => have hu := hu_of hr; ⟨t_is_row K, (pss_cons (ps_if (PW.pt (pw_or (pt_not (pt_val (pe_callB call_isi (by rfl) T.b_isinstance bt_isinstance (pa_cons (pv 1) (pa_cons (pe_bltn (by rfl) T.b_str bt_str rfl) pa_nil))))) (pw_or1 (pt_cmpR op_ne (pe_callB call_len_str (by rfl) T.b_len bt_len (pa_cons (pv 1) pa_nil)) (pe_callB call_len_seq (by rfl) T.b_len bt_len (pa_cons (pv 0) pa_nil)) (nomark _))))) (pss_one (ps_ret pe_bl)) pss_nil)
      (pss_one (ps_ret (pe_callB (cr_all rfl) (by rfl) T.b_all bt_all (pa_cons (pe_lc (own := [("sign", 2), ("cell", 3)]) rfl sc_is_row.nd (pi_zipSL (by rfl) T.b_zip (pa_cons (pv 1) (pa_cons (pv 0) pa_nil))) (blkOk_by (own := [("sign", 2), ("cell", 3)]) (N := nm_is_row) (sc := (defScope s_is_row)) (by decide +kernel)) (fun _ _ _ _ _ => (pg_tup rfl (pgs_cons (pg_name (i := 2) sc_is_row.nd rfl (Or.inl rfl) (hf := Or.inr rfl)) (pgs_cons (pg_name (i := 3) sc_is_row.nd rfl (Or.inl rfl) (hf := Or.inr rfl)) pgs_nil)))) (fun _ _ _ _ _ => pts_nil) (fun _ _ _ _ _ => (pe_cmpR op_in_sign (pv 2) (pe_slice C8.sl_txt pe_str po_none (po_some (pe_op op_add (pe_ix ix_tup (pv 3) pe_int (fun _ _ => rfl)) pe_int))) rfl))) pa_nil))))), ?_⟩)
  · obtain ⟨a, cs, x, rfl, _⟩ := h
    rfl
  · obtain ⟨a, cs, x, rfl, hc, hk, hf, k⟩ := h
    have hx := hf.1
    have h6 := hk.few
    have hq : SqL K H a (cs.map fun c => .ref c.p) := .inl (.inl hc.l)
    walk_at "go"
    refine lc_val1 x (fun _ => .bl true) (by have e := walk_zipRL (K := K) (a := a) (x := x) (l := cs) (f := fun c => .ref c.p); rw [hx, Nat.min_self, ← hx] at e; exact e) (by omega) (fun H' s => s.seq hq) ?_ ?_
    · rintro i c v H2 H3 R hi s2 ⟨T, c', y, rfl, hT, rfl, hc', hy⟩ k1
      obtain rfl : c' = c := Option.some.inj (hc'.symm.trans hi)
      have hyc : CellOk H2 y := (hc.c y (List.mem_of_getElem? hy)).same s2
      have hyc : CellOk (upd H2 T (.tup [.str (SX.S [c']), .ref y.p])) y := hyc.same (same_new hT)
      have hyc : (upd H2 T (.tup [.str (SX.S [c']), .ref y.p])) y.p = some (.tup [.str (S y.nm), .int (y.k : Nat)]) := hyc
      have hk4 := hk.ks y (List.mem_of_getElem? hy)
      have hfit := hf.2 i c' y.k hi (by rw [hy]; rfl)
      walk_at "go"
      refine w_slX (by decide +kernel) ?_
      refine w_inS ?_
      rw [decide_eq_true (digs hk4 hfit)]
      exact k1 _ (by walk_at "sm")
    · intro D H2 nD s2 hD
      walk_at "go"
      refine w_all (f := fun _ => true) hD ?_
      rw [List.all_eq_true.mpr fun _ _ => rfl]
      exact k _ s2
abbrev nm_check_cells : List Str := ["cells", "names", "at", "cell", "name", "many"]
theorem sc_check_cells : FnScope nm_check_cells ["cells"] (defScope s_check_cells) := ⟨rfl, rfl, rfl, by decide +kernel, rfl, by decide +kernel, by decide +kernel⟩
abbrev t_check_cells (K : PySem.W.Frag) : TS := (tSeq (tIfS (tOr (tNot (tB (tCB (rIsiT K) (tCons (tVar 0) (tCons (tTup (tCons (tC (.ty "list")) (tCons (tC (.ty "tuple")) tNil))) tNil))))) (tNot (tTest (tChain rLeI rLeI (tC (.int 1)) (tCB (rLenQ K) (tCons (tVar 0) tNil)) (tC (.int 12)))))) tNever tNext)
    (tSeq (tAsg (tLst tNil) (gName 1))
    (tFor (iEnum K (tCons (tVar 0) tNil)) (gTup K 2 (gCons (gName 2) (gCons (gName 3) gNil))) (tSeq (tIfS (tOr (tNot (tB (tCB (rIsi K) (tCons (tVar 3) (tCons (tC (.ty "tuple")) tNil))))) (tTest (tOp rNe (tCB (rLenQ K) (tCons (tVar 3) tNil)) (tC (.int 2))))) tNever tNext)
    (tSeq (tAsg (tVar 3) (gTup K 2 (gCons (gName 4) (gCons (gName 5) gNil))))
    (tSeq (tIfS (tOr (tNot (tB (tCall (sp_is_name K) [] E0 (tCons (tVar 4) tNil)))) (tOr (tNot (tB (tCall (sp_is_number K) [] E0 (tCons (tVar 5) (tCons (tC (.int 1)) (tCons (tC (.int 4)) tNil)))))) (tTest (tOp (rIn K false) (tVar 4) (tVar 1))))) tNever tNext)
    (tDrop (tBM K "list" rAppend (tVar 1) (tCons (tVar 4) tNil)))))))))
theorem c_check_cells (T : Tx K mg) : C8.Cal P w K mg base 2 "check_cells" (sp_check_cells K) [] := by
  refine calG T.f_check_cells (fun _ _ _ _ _ _ us hl => match us, hl with | [_], _ => rfl)  sc_check_cells (fun vs H Q E h => ?_) (fun f cdv A outer s H vs Q E hr h => have hu := hu_of hr; ⟨t_check_cells K, (pss_cons (ps_if (PW.pt (pw_or (pt_not (pt_val (pe_callB call_isiT (by rfl) T.b_isinstance bt_isinstance (pa_cons (pv 0) (pa_cons (pe_tup (pa_cons (pe_bltn (by rfl) T.b_list bt_list rfl) (pa_cons (pe_bltn (by rfl) T.b_tuple bt_tuple rfl) pa_nil))) pa_nil))))) (pw_or1 (pt_not (pt_chain op_le op_le pe_int (pe_callB call_len_seq (by rfl) T.b_len bt_len (pa_cons (pv 0) pa_nil)) (pe_gint (by rfl) T.c_MOST_CELLS)))))) pss_never pss_nil)
      (pss_cons (ps_set (i := 1) sc_check_cells.nd rfl (Or.inl rfl) (pe_lst pa_nil))
      (pss_one (ps_for PassesOwn.never rfl (pi_enum (by rfl) T.b_enumerate (pa_cons (pv 0) pa_nil)) (pg_tup rfl (pgs_cons (pg_name (i := 2) sc_check_cells.nd rfl (Or.inl rfl) (hf := Or.inr rfl)) (pgs_cons (pg_name (i := 3) sc_check_cells.nd rfl (Or.inl rfl) (hf := Or.inr rfl)) pgs_nil))) (pss_cons (ps_if (PW.pt (pw_or (pt_not (pt_val (pe_callB call_isi (by rfl) T.b_isinstance bt_isinstance (pa_cons (pv 3) (pa_cons (pe_bltn (by rfl) T.b_tuple bt_tuple rfl) pa_nil))))) (pw_or1 (pt_cmpR op_ne (pe_callB call_len_seq (by rfl) T.b_len bt_len (pa_cons (pv 3) pa_nil)) pe_int (nomark _))))) pss_never pss_nil)
      (pss_cons (ps_asg (pv 3) (pg_tup rfl (pgs_cons (pg_name (i := 4) sc_check_cells.nd rfl (Or.inl rfl) (hf := Or.inr rfl)) (pgs_cons (pg_name (i := 5) sc_check_cells.nd rfl (Or.inl rfl) (hf := Or.inr rfl)) pgs_nil))))
      (pss_cons (ps_if (PW.pt (pw_or (pt_not (pt_val (C8.pe_c (c_is_name T) hr (by decide) (by rfl) (pa_cons (pv 4) pa_nil)))) (pw_or (pt_not (pt_val (C8.pe_c (c_is_number T) hr (by decide) (by rfl) (pa_cons (pv 5) (pa_cons pe_int (pa_cons (pe_gint (by rfl) T.c_MOST_VALUES) pa_nil)))))) (pw_or1 (pt_cmpR op_in_seq (pv 4) (pv 1) rfl))))) pss_never pss_nil)
      (pss_one (ps_expr (pe_bm PySem.F.plainAttrs_list PySem.F.slot_list_append PySem.F.type_list_append mt_append (pv 1) (pa_cons (pv 4) pa_nil))))))))))), ?_⟩)
  · obtain ⟨a, cs, rfl, _⟩ := h
    rfl
  · obtain ⟨a, cs, rfl, hc, hk, k⟩ := h
    have h1 := hk.one
    have h6 := hk.few
    have hl := hc.l
    have hq : SqL K H a (cs.map fun c => .ref c.p) := .inl (.inl hc.l)
    walk_at "go"
    rename_i p1 n1 p2 n2'
    have n2 : H p2 = none := (same_new n1).free n2'
    refine for_G walk_enumM (fun i σ H' => Same H H' ∧ H' p2 = some (.lst ((cs.take i).map fun c => .str (S c.nm))) ∧ ∃ u1 u2 u3 u4, σ = [some (.ref a), some (.ref p2), u1, u2, u3, u4])
      ⟨by walk_at "sm", upd_same, _, _, _, _, rfl⟩ (fun i σ H' _ h => h.1.seq hq) ?_ ?_
    · rintro i v σ H2 H3 hi ⟨s2, hp2, u1, u2, u3, u4, rfl⟩ ⟨T, y, rfl, hT, rfl, hy⟩
      have hyc : CellOk H2 y := (hc.c y (List.mem_of_getElem? hy)).same s2
      have hyc : CellOk (upd H2 T (.tup [.int i, .ref y.p])) y := hyc.same (same_new hT)
      have hyc : (upd H2 T (.tup [.int i, .ref y.p])) y.p = some (.tup [.str (S y.nm), .int (y.k : Nat)]) := hyc
      have hym := List.mem_of_getElem? hy
      have hk4 := hk.ks y hym
      have hnm := hk.names y hym
      walk_at "go"
      refine ⟨_, rfl, hnm, fun H4 s4 => ?_⟩
      walk_at "go"
      refine ⟨_, _, _, rfl, by omega, by omega, fun H5 s5 => ?_⟩
      have hq2 : SqL K H2 p2 (((cs.take i).map Cell.nm).map fun r => .str (S r)) := by rw [List.map_map]; exact .inl (.inl hp2)
      walk_at "go"
      refine w_decF ?_ ?_
      · rw [List.map_take]
        exact nd_take hk.nd (by rw [List.getElem?_map, hy]; rfl)
      walk_at "go"
      have hp5 : H5 p2 = some (.lst ((cs.take i).map fun c => .str (S c.nm))) := s5 _ _ (s4 _ _ (same_new hT _ _ hp2))
      walk_at "go"
      refine w_app hp5 ?_ ?_
      · rw [List.length_map, List.length_take]; omega
      walk_at "go"
      refine ⟨by walk_at "sm", ?_, _, _, _, _, rfl⟩
      · rw [upd_same, List.take_succ, hy]; simp
    · rintro σ H2 ⟨s2, hp2, u1, u2, u3, u4, rfl⟩
      exact k _ s2
end
/-! ## F5 -/
section
set_option maxHeartbeats 2000000
open PySem PySem.Spec PyProof.Rows L2


variable {P : Program} {w : World} {K : PySem.W.Frag} {mg : Str → Option Value} {base : Heap}
abbrev nm_check_seeds : List Str := ["cells", "seeds", "at", "seed", "cell"]
theorem sc_check_seeds : FnScope nm_check_seeds ["cells", "seeds"] (defScope s_check_seeds) := ⟨rfl, rfl, rfl, by decide +kernel, rfl, by decide +kernel, by decide +kernel⟩
abbrev t_check_seeds (K : PySem.W.Frag) : TS := (tSeq (tIfS (tNot (tB (tCB (rIsiT K) (tCons (tVar 1) (tCons (tTup (tCons (tC (.ty "list")) (tCons (tC (.ty "tuple")) tNil))) tNil))))) tNever tNext)
    (tSeq (tIfS (tTest (tOp rGtI (tCB (rLenQ K) (tCons (tVar 1) tNil)) (tC (.int 30)))) tNever tNext)
    (tSeq (tFor (iEnum K (tCons (tVar 1) tNil)) (gTup K 2 (gCons (gName 2) (gCons (gName 3) gNil))) (tIfS (tOr (tNot (tB (tCall (sp_is_row K) [] E0 (tCons (tVar 0) (tCons (tVar 3) tNil))))) (tOr (tTest (tOp rEq (tVar 3) (tCall (sp_blank K) [] E0 (tCons (tCB (rLenQ K) (tCons (tVar 0) tNil)) tNil)))) (tTest (tOp (rIn K false) (tVar 3) (tSl (rSlL K) (tVar 1) tNoPart (tPart (tVar 2))))))) tNever tNext))
    (tFor (iEnum K (tCons (tVar 0) tNil)) (gTup K 2 (gCons (gName 2) (gCons (gName 4) gNil))) (tIfS (tB (tCB (rAll K) (tCons (tLc (iList K (tVar 1)) (gName 3) tYes (tOp rEq (tOp rIxS (tVar 3) (tVar 2)) (tC (.str "."))) [3]) tNil))) tNever tNext)))))
theorem c_check_seeds (T : Tx K mg) : C8.Cal P w K mg base 2 "check_seeds" (sp_check_seeds K) [] := by
  refine calG T.f_check_seeds (fun _ _ _ _ _ _ us hl => match us, hl with | [_, _], _ => rfl) sc_check_seeds (fun vs H Q E h => ?_) (fun f cdv A outer s H vs Q E hr h => have hu := hu_of hr; ⟨t_check_seeds K, (pss_cons (ps_if (pt_not (pt_val (pe_callB call_isiT (by rfl) T.b_isinstance bt_isinstance (pa_cons (pv 1) (pa_cons (pe_tup (pa_cons (pe_bltn (by rfl) T.b_list bt_list rfl) (pa_cons (pe_bltn (by rfl) T.b_tuple bt_tuple rfl) pa_nil))) pa_nil))))) pss_never pss_nil)
      (pss_cons (ps_if (pt_cmpR op_gt (pe_callB call_len_seq (by rfl) T.b_len bt_len (pa_cons (pv 1) pa_nil)) (pe_gint (by rfl) T.c_MOST_SEEDS) (nomark _)) pss_never pss_nil)
      (pss_cons (ps_for PassesOwn.never rfl (pi_enum (by rfl) T.b_enumerate (pa_cons (pv 1) pa_nil)) (pg_tup rfl (pgs_cons (pg_name (i := 2) sc_check_seeds.nd rfl (Or.inr rfl) (hf := Or.inl rfl)) (pgs_cons (pg_name (i := 3) sc_check_seeds.nd rfl (Or.inl rfl) (hf := Or.inr rfl)) pgs_nil))) (pss_one (ps_if (PW.pt (pw_or (pt_not (pt_val (C8.pe_c (c_is_row T) hr (by decide) (by rfl) (pa_cons (pv 0) (pa_cons (pv 3) pa_nil))))) (pw_or (pt_cmpR op_eq (pv 3) (C8.pe_c (c_blank T) hr (by decide) (by rfl) (pa_cons (pe_callB call_len_seq (by rfl) T.b_len bt_len (pa_cons (pv 0) pa_nil)) pa_nil)) (nomark _)) (pw_or1 (pt_cmpR op_in_seq (pv 3) (pe_slice sl_list (pv 1) po_none (po_some (pv 2))) rfl))))) pss_never pss_nil)))
      (pss_one (ps_for PassesOwn.never rfl (pi_enum (by rfl) T.b_enumerate (pa_cons (pv 0) pa_nil)) (pg_tup rfl (pgs_cons (pg_name (i := 2) sc_check_seeds.nd rfl (Or.inr rfl) (hf := Or.inl rfl)) (pgs_cons (pg_name (i := 4) sc_check_seeds.nd rfl (Or.inl rfl) (hf := Or.inr rfl)) pgs_nil))) (pss_one (ps_if (pt_val (pe_callB (cr_all rfl) (by rfl) T.b_all bt_all (pa_cons (pe_lc (own := [("seed", 3)]) rfl sc_check_seeds.nd (pi_list (pv 1)) (blkOk_by (own := [("seed", 3)]) (N := nm_check_seeds) (sc := (defScope s_check_seeds)) (by decide +kernel)) (fun _ _ _ _ _ => (pg_name (i := 3) sc_check_seeds.nd rfl (Or.inl rfl) (hf := Or.inr rfl))) (fun _ _ _ _ _ => pts_nil) (fun _ _ _ _ _ => (pe_cmpR op_eq (pe_ix ix_str (pv 3) (pv 2) (fun _ _ => rfl)) pe_str (nomark _)))) pa_nil))) pss_never pss_nil))))))), ?_⟩)
  · obtain ⟨a, b, cs, ss, rfl, _⟩ := h
    rfl
  · obtain ⟨a, b, cs, ss, rfl, hc, hk, hb, hs, k⟩ := h
    have h1 := hk.one
    have h6 := hk.few
    have hf := hs.few
    have hl := hc.l
    have hq : SqL K H a (cs.map fun c => .ref c.p) := .inl (.inl hc.l)
    have hq2 : SqL K H b (ss.map fun s => .str (S s)) := .inl (.inl hb)
    walk_at "go"
    rename_i p1 n1
    refine for_G walk_enumM (fun i σ H' => Same H H' ∧ ∃ u2 u3 u4, σ = [some (.ref a), some (.ref b), u2, u3, u4])
      ⟨by walk_at "sm", _, _, _, rfl⟩ (fun i σ H' _ h => h.1.seq hq2) ?_ ?_
    · rintro i v σ H2 H3 hi ⟨s2, u2, u3, u4, rfl⟩ ⟨T, y, rfl, hT, rfl, hy⟩
      have hym := List.mem_of_getElem? hy
      have hc3 : CellsAt (upd H2 T (.tup [.int i, .str (S y)])) a cs := (hc.same s2).same (same_new hT)
      have hq3 : SqL K (upd H2 T (.tup [.int i, .str (S y)])) a (cs.map fun c => .ref c.p) := .inl (.inl hc3.l)
      have hq4 : SqL K (upd H2 T (.tup [.int i, .str (S y)])) b (ss.map fun s => .str (S s)) := (s2.trans (same_new hT)).seq hq2
      walk_at "go"
      refine ⟨_, _, _, rfl, hc3, hk, hs.fit y hym, fun H4 s4 => ?_⟩
      walk_at "go"
      refine ⟨_, rfl, by omega, fun H5 s5 => ?_⟩
      walk_at "go"
      refine w_decF (hs.nb y hym) ?_
      walk_at "go"
      refine w_slTo (l := ss) (f := fun s => .str (S s)) (by walk_at "sq") fun p2 n2 => ?_
      refine w_inL (l := ss.take i) (.inl (.inl upd_same)) ?_
      walk_at "go"
      refine w_decF (nd_take hs.nd hy) ?_
      walk_at "go"
      exact ⟨by walk_at "sm", _, _, _, rfl⟩
    · rintro σ H2 ⟨s2, u2, u3, u4, rfl⟩
      have hq3 : SqL K H2 a (cs.map fun c => .ref c.p) := s2.seq hq
      walk_at "go"
      refine for_G walk_enumM (fun i σ H' => Same H H' ∧ ∃ u2 u3 u4, σ = [some (.ref a), some (.ref b), u2, u3, u4])
        ⟨by walk_at "sm", _, _, _, rfl⟩ (fun i σ H' _ h => h.1.seq hq) ?_ ?_
      · rintro i v σ H2 H3 hi ⟨s2, u2, u3, u4, rfl⟩ ⟨T, y, rfl, hT, rfl, hy⟩
        have hq4 : SqL K (upd H2 T (.tup [.int i, .ref y.p])) b (ss.map fun s => .str (S s)) := (s2.trans (same_new hT)).seq hq2
        walk_at "go"
        refine lc_val1 ss (fun s => .bl (s[i]? == some 46)) walk_listM (by omega) (fun H' s => s.seq hq4) ?_ ?_
        · rintro j c v H4 H5 R hj s4 ⟨rfl, r, hr, rfl⟩ k1
          obtain rfl : r = c := Option.some.inj (hr.symm.trans hj)
          have hfl := (hs.fit r (List.mem_of_getElem? hj)).1
          have h1 : r[i]? = some (r[i]'(by omega)) := by simp [hfl, hi]
          have h2 : r.length ≤ 1000 := by omega
          walk_at "go"
          rw [h1] at k1
          have e : ((some (r[i]'(by omega)) : Option Nat) == some 46) = decide (r[i]'(by omega) = 46) := some_dec
          rw [e] at k1
          exact k1 _ (Same.refl _)
        · intro D H4 nD s4 hD
          walk_at "go"
          refine w_all hD ?_
          obtain ⟨s', hs', hne⟩ := hs.cov i hi
          have e : ss.all (fun s => s[i]? == some 46) = false := by
            rw [List.all_eq_false]
            exact ⟨s', hs', by simpa using hne⟩
          rw [e]
          walk_at "go"
          exact ⟨by walk_at "sm", _, _, _, rfl⟩
      · rintro σ H2 ⟨s2, u2, u3, u4, rfl⟩
        walk_at "go"
        exact k _ s2
end
/-! ## F1 -/
section
set_option maxHeartbeats 2000000
open PySem PySem.Spec PyProof.Rows L2


variable {P : Program} {w : World} {K : PySem.W.Frag} {mg : Str → Option Value} {base : Heap}
abbrev nm_over : List Str := ["newer", "older", "sign", "below"]
theorem sc_over : FnScope nm_over ["newer", "older"] (defScope s_over) := ⟨rfl, rfl, rfl, by decide +kernel, rfl, by decide +kernel, by decide +kernel⟩
abbrev t_over (K : PySem.W.Frag) : TS := (tRet (tM1 (rJoin K) (tC (.str "")) (tLc (iZipSS (tCons (tVar 0) (tCons (tVar 1) tNil))) (gTup K 2 (gCons (gName 2) (gCons (gName 3) gNil))) tYes (tIf (tTest (tOp rEq (tVar 2) (tC (.str ".")))) (tVar 3) (tVar 2)) [2, 3])))
theorem c_over (T : Tx K mg) : C8.Cal P w K mg base 1 "over" (sp_over K) [] := by
  refine calG T.f_over (fun _ _ _ _ _ _ us hl => match us, hl with | [_, _], _ => rfl) sc_over (fun vs H Q E h => ?_) (fun f cdv A outer s H vs Q E hr h => have hu := hu_of hr; ⟨t_over K, ?_, ?_⟩)
  · obtain ⟨x, y, rfl, _⟩ := h
    rfl
  · exact (pss_one (ps_ret (pe_join pe_str (pe_lc (own := [("sign", 2), ("below", 3)]) rfl sc_over.nd (pi_zipSS (by rfl) T.b_zip (pa_cons (pv 0) (pa_cons (pv 1) pa_nil))) (blkOk_by (own := [("sign", 2), ("below", 3)]) (N := nm_over) (sc := (defScope s_over)) (by decide +kernel)) (fun _ _ _ _ _ => (pg_tup rfl (pgs_cons (pg_name (i := 2) sc_over.nd rfl (Or.inl rfl) (hf := Or.inr rfl)) (pgs_cons (pg_name (i := 3) sc_over.nd rfl (Or.inl rfl) (hf := Or.inr rfl)) pgs_nil)))) (fun _ _ _ _ _ => pts_nil) (fun _ _ _ _ _ => (pe_ifExp (pt_cmpR op_eq (pv 2) pe_str (nomark _)) (pv 3) (pv 2)))))))
  · obtain ⟨x, y, rfl, hl, k⟩ := h
    walk_at "go"
    refine lc_val1 (ov x y) (fun c => .str (S [c])) (by rw [ov_len]; exact walk_zipR) (by rw [ov_len]; omega) (fun _ _ => trivial) ?_ ?_
    · rintro i c v H2 H3 R hc s2 ⟨T, a, b, rfl, hT, rfl, ha, hb⟩ k1
      rw [ov_get, ha, hb] at hc
      injection hc with hc
      have hc : (if a = 46 then b else a) = c := hc
      walk_at "go"
      refine w_dec (fun e => ?_) (fun e => ?_)
      · walk_at "go"
        rw [if_pos e] at hc
        subst hc
        exact k1 _ (by walk_at "sm")
      · walk_at "go"
        rw [if_neg e] at hc
        subst hc
        exact k1 _ (by walk_at "sm")
    · intro D H2 nD s2 hD
      exact w_joinR hD (by rw [ov_len]; omega) (k _ s2)
end
end NT
/-! ## D0 -/
section
set_option maxHeartbeats 2000000
namespace NT
open PySem PySem.Spec PyProof.Rows L2
/-! ### dicts whose keys are rows -/
abbrev Row : Type := List Nat
def putA {α : Type} (l : List (Row × α)) (r : Row) (v : α) : List (Row × α) := if (l.any fun a => decide (a.1 = r)) = true then l.map (fun a => if a.1 = r then (a.1, v) else a) else l ++ [(r, v)]
def lookA {α : Type} (l : List (Row × α)) (r : Row) : Option α := (l.find? fun a => decide (a.1 = r)).map (·.2)
def kR (r : Row) : Key := .inr (S r)
theorem kR_inj {x y : Row} (h : kR x = kR y) : x = y := by
  unfold kR at h
  injection h with h
  exact S_inj h
theorem kR_dec (x y : Row) : decide (kR x = kR y) = decide (x = y) := decide_eq_decide.mpr ⟨kR_inj, fun h => by rw [h]⟩
def KD {α : Type} (f : α → V) (l : List (Row × α)) : List (Key × V) := l.map fun a => (kR a.1, f a.2)
theorem KD_any {α : Type} (f : α → V) (r : Row) : ∀ l : List (Row × α), ((KD f l).any fun kv => decide (kv.1 = kR r)) = l.any fun a => decide (a.1 = r)
  | [] => rfl
  | a :: l => by
    have ih := KD_any f r l
    unfold KD at ih ⊢
    rw [List.map_cons, List.any_cons, List.any_cons, ih, kR_dec]
theorem putK_KD {α : Type} (f : α → V) (l : List (Row × α)) (r : Row) (v : α) : putK (KD f l) (kR r) (f v) = KD f (putA l r v) := by
  unfold putK putA
  rw [KD_any]
  by_cases h : (l.any fun a => decide (a.1 = r)) = true
  · rw [if_pos h, if_pos h]
    unfold KD
    rw [List.map_map, List.map_map]
    apply List.map_congr_left
    intro a _
    show (if kR a.1 = kR r then (kR a.1, f v) else (kR a.1, f a.2)) = (kR (if a.1 = r then (a.1, v) else a).1, f (if a.1 = r then (a.1, v) else a).2)
    by_cases e : a.1 = r
    · rw [if_pos (by rw [e]), if_pos e]
    · rw [if_neg (fun z => e (kR_inj z)), if_neg e]
  · rw [if_neg h, if_neg h]
    unfold KD
    rw [List.map_append]
    rfl
theorem valV_KD {α : Type} (f : α → V) (r : Row) : ∀ l : List (Row × α), valV (KD f l) (kR r) = (lookA l r).map f
  | [] => rfl
  | a :: l => by
    have ih := valV_KD f r l
    unfold valV lookA KD at ih ⊢
    rw [List.map_cons, List.find?_cons, List.find?_cons, kR_dec]
    cases e : decide (a.1 = r) with
    | true => rfl
    | false => exact ih
theorem KD_len {α : Type} (f : α → V) (l : List (Row × α)) : (KD f l).length = l.length := by unfold KD; rw [List.length_map]
abbrev WD (l : List (Row × Nat)) : List (Key × V) := KD (fun n : Nat => V.int n) l
section
variable {K : PySem.W.Frag} {H H' : Hp} {Q : VK} {σ : L2.St} {a d p : Addr} {r : Row} {v x y z : V} {α : Type} {f : α → V} {l : List (Row × α)} {c : α} {td ty tx tv te : TE} {D : Ends}
theorem w_dget (h : td σ H fun x H1 => ty σ H1 fun y H2 => ∃ a v, x = .ref a ∧ DGet H2 a y (some v) ∧ Q v H2) : tDGet td ty σ H Q := h
theorem w_dgetR {R : V → Prop} (h : Rd H a (.dK (KD f l))) (hr : lookA l r = some c) (q : R (f c)) : ∃ a' v, V.ref a = .ref a' ∧ DGet H a' (.str (S r)) (some v) ∧ R v := ⟨a, f c, rfl, .inl ⟨_, kR r, h, rfl, by rw [valV_KD, hr]; rfl⟩, q⟩
theorem w_dget2 (h : td σ H fun x H1 => ∃ a, x = .ref a ∧ IsD H1 a ∧ ty σ H1 fun y H2 => tx σ H2 fun z H3 => ∃ o, DGet H3 a y o ∧ Q (o.getD z) H3) : tDGet2 td ty tx σ H Q := h
theorem w_dget2R {R : Option V → Prop} (h : Rd H a (.dK (KD f l))) (q : R ((lookA l r).map f)) : ∃ o, DGet H a (.str (S r)) o ∧ R o := ⟨_, .inl ⟨_, kR r, h, rfl, rfl⟩, by rw [valV_KD]; exact q⟩
theorem w_dget2W {R : Option V → Prop} {l : List (Row × Nat)} (h : Rd H a (.dK (WD l))) (q : ∀ o : Option V, o.getD (.int 0) = .int ((lookA l r).getD 0 : Nat) → R o) : ∃ o, DGet H a (.str (S r)) o ∧ R o :=
  ⟨_, .inl ⟨_, kR r, h, rfl, rfl⟩, q _ (by rw [valV_KD]; cases e : lookA l r with
    | none => rfl
    | some n => rfl)⟩
theorem w_isD {A : Prop} {kvs : List (Key × V)} (h : Rd H a (.dK kvs)) (q : A) : IsD H a ∧ A := ⟨.inl ⟨kvs, h⟩, q⟩
theorem w_din (h : ty σ H fun y H1 => td σ H1 fun x H2 => ∃ a o, x = .ref a ∧ DGet H2 a y o ∧ Q (.bl o.isSome) H2) : tDIn ty td σ H Q := h
theorem w_dnin (h : ty σ H fun y H1 => td σ H1 fun x H2 => ∃ a o, x = .ref a ∧ DGet H2 a y o ∧ Q (.bl (!o.isSome)) H2) : tDNotIn ty td σ H Q := h
theorem w_dninR {R : Option V → Prop} (h : Rd H a (.dK (KD f l))) (q : ∀ o : Option V, o.isSome = (lookA l r).isSome → R o) : ∃ a' o, V.ref a = .ref a' ∧ DGet H a' (.str (S r)) o ∧ R o :=
  ⟨a, _, rfl, .inl ⟨_, kR r, h, rfl, rfl⟩, q _ (by rw [valV_KD, Option.isSome_map])⟩
theorem w_dput (h : tv σ H fun v H1 => td σ H1 fun x H2 => ty σ H2 fun y H3 => ∃ a H4, x = .ref a ∧ DPut H3 a y v H4 ∧ D.nx σ H4) : sDPut td ty tv D σ H := h
theorem w_dputR {v : α} {R : Hp → Prop} (h : H a = some (.dK (KD f l))) (hl : l.length ≤ 1000) (q : R (upd H a (.dK (KD f (putA l r v))))) : ∃ a' H4, V.ref a = .ref a' ∧ DPut H a' (.str (S r)) (f v) H4 ∧ R H4 :=
  ⟨a, _, rfl, .inl ⟨_, kR r, h, rfl, Nat.lt_of_le_of_lt (Nat.le_of_eq (KD_len f l)) (Nat.lt_of_le_of_lt hl (by decide)), rfl⟩, by rw [putK_KD]; exact q⟩
theorem w_dnew (h : ∀ p, H p = none → Q (.ref p) (upd H p (.dK []))) : tDNewK σ H Q := h
/-! ### a dict that is walked -/
theorem w_lockE {t : TE} {kvs : List (Key × V)} (hd : H d = some (.dK kvs)) (h : ∀ od, t σ (upd H d (.frz od (.dK kvs))) fun v H' => H' d = some (.frz od (.dK kvs)) ∧ Q v (upd H' d (.dK kvs))) : tLockE t σ H Q := ⟨d, _, hd, trivial, h⟩
theorem w_lock {t : TS} {kvs : List (Key × V)} (hd : H d = some (.dK kvs))
    (h : ∀ od, t ⟨fun σ' H' => H' d = some (.frz od (.dK kvs)) ∧ D.nx σ' (upd H' d (.dK kvs)), fun v H' => H' d = some (.frz od (.dK kvs)) ∧ D.rt v (upd H' d (.dK kvs)), fun σ' H' => H' d = some (.frz od (.dK kvs)) ∧ D.bk σ' (upd H' d (.dK kvs)), fun σ' H' => H' d = some (.frz od (.dK kvs)) ∧ D.ct σ' (upd H' d (.dK kvs))⟩ σ (upd H d (.frz od (.dK kvs)))) : tLock t D σ H :=
  ⟨d, _, hd, trivial, h⟩
theorem same_unlock {od : Obj} {kvs : List (Key × V)} (hd : H d = some (.dK kvs)) (s : Same (upd H d (.frz od (.dK kvs))) H') : Same H (upd H' d (.dK kvs)) := fun b u e => by
  by_cases hb : b = d
  · rw [hb] at e ⊢
    rw [upd_same, ← hd]; exact e
  · rw [upd_ne hb]
    exact s b u (by rw [upd_ne hb]; exact e)
theorem frz_ne {od : Obj} {u w : HO} (hd : H d = some u) (hb : H a = some w) (n : w ≠ u) : upd H d (.frz od u) a = some w := by
  have : a ≠ d := fun z => by rw [z, hd] at hb; exact n (Option.some.inj hb).symm
  rw [upd_ne this]; exact hb
theorem none_lock {u : HO} (h : upd H d u a = none) : H a = none ∧ a ≠ d := by
  have e : a ≠ d := fun z => by rw [z, upd_same] at h; cases h
  rw [upd_ne e] at h
  exact ⟨h, e⟩
theorem w_lkeys (h : te σ H fun x H1 => ∃ (d : Addr) (kvs : List (Key × V)), x = .ref d ∧ Rd H1 d (.dK kvs) ∧ ∀ p, H1 p = none → Q (.ref p) (upd H1 p (.lst (kvs.map fun kv => kV kv.1)))) : tListKeys te σ H Q := h
theorem w_lvals (h : te σ H fun x H1 => ∃ (d : Addr) (kvs : List (Key × V)), x = .ref d ∧ Rd H1 d (.dK kvs) ∧ ∀ p, H1 p = none → Q (.ref p) (upd H1 p (.lst (kvs.map (·.2))))) : tListVals te σ H Q := h
theorem w_svals (h : te σ H fun x H1 => ∃ (d : Addr) (kvs : List (Key × V)) (is : List Int), x = .ref d ∧ Rd H1 d (.dK kvs) ∧ kvs.map (·.2) = is.map V.int ∧ Q (.int is.sum) H1) : tSumVals te σ H Q := h
theorem w_disp {tk tv : TE} (h : ∀ p, H p = none → tk σ (upd H p (.dK [])) fun x H1 => tv σ H1 fun y H2 => (H2 p = some (.dK []) ∧ ∃ kvs : List (Key × V), [(x, y)] = kvs.map (fun kv => (kV kv.1, kv.2)) ∧ kvs.length ≤ 15 ∧ Q (.ref p) (upd H2 p (.dK (mergeK [] kvs))))) : tDisp [(tk, tv)] σ H Q := h
theorem w_dend {R : List (Key × V) → Prop} (e : H p = some (.dK [])) (q : R [(kR r, v)]) : H p = some (.dK []) ∧ ∃ kvs : List (Key × V), [(V.str (S r), v)] = kvs.map (fun kv => (kV kv.1, kv.2)) ∧ kvs.length ≤ 15 ∧ R kvs := ⟨e, [(kR r, v)], rfl, Nat.le_of_ble_eq_true rfl, q⟩
theorem w_lenDK (h : H a = some (.dK (KD f l))) (q : Q (.int l.length) H) : rLenD [.ref a] H Q := ⟨a, _, rfl, h, by rw [KD_len]; exact q⟩
theorem w_items {R : It → Hp → Prop} (h : td σ H fun x H1 => ∃ d o kvs, x = .ref d ∧ H1 d = some (.frz o (.dK kvs)) ∧ R (Iti d o kvs) H1) : iItems td σ H R := h
theorem w_vals {R : It → Hp → Prop} (h : td σ H fun x H1 => ∃ d o kvs, x = .ref d ∧ H1 d = some (.frz o (.dK kvs)) ∧ R (Itd d o kvs) H1) : iVals td σ H R := h
theorem w_keysM {R : It → Hp → Prop} (h : td σ H fun x H1 => ∃ d o kvs, x = .ref d ∧ H1 d = some (.frz o (.dK kvs)) ∧ R (Itk d o kvs) H1) : iKeysM td σ H R := h
theorem w_keys {R : It → Hp → Prop} (h : td σ H fun x H1 => ∃ d o, x = .ref d ∧ ((∃ kvs, H1 d = some (.frz o (.dK kvs)) ∧ R (Itk d o kvs) H1) ∨ ∃ kvs, H1 d = some (.frz o (.dT kvs)) ∧ R (Itkt d o kvs) H1)) : iKeys td σ H R := h
theorem w_frzK {od : Obj} {kvs : List (Key × V)} {R : Addr → Obj → List (Key × V) → Prop} {R2 : Addr → Obj → List (List Key × V) → Prop} (h : H d = some (.frz od (.dK kvs))) (q : R d od kvs) :
    ∃ d' o, V.ref d = .ref d' ∧ ((∃ kvs', H d' = some (.frz o (.dK kvs')) ∧ R d' o kvs') ∨ ∃ kvs', H d' = some (.frz o (.dT kvs')) ∧ R2 d' o kvs') := ⟨d, od, rfl, .inl ⟨kvs, h, q⟩⟩
theorem w_frz {od : Obj} {kvs : List (Key × V)} {R : Addr → Obj → List (Key × V) → Prop} (h : H d = some (.frz od (.dK kvs))) (q : R d od kvs) : ∃ d' o kvs', V.ref d = .ref d' ∧ H d' = some (.frz o (.dK kvs')) ∧ R d' o kvs' := ⟨d, od, kvs, rfl, h, q⟩
theorem walk_itemsKD {od : Obj} : Walk (Iti d od (KD f l)) l.length (fun H => H d = some (.frz od (.dK (KD f l)))) (fun i H v H' => ∃ T a, v = .ref T ∧ H T = none ∧ H' = upd H T (.tup [.str (S a.1), f a.2]) ∧ l[i]? = some a) := by
  have h := walk_items (d := d) (o := od) (kvs := KD f l)
  rw [KD_len] at h
  refine h.mono (fun _ h => h) fun i H v H' _ _ y => ?_
  obtain ⟨T, x, y, h1, h2, h3, h4, h5⟩ := y
  have h4 : ((KD f l)[i]?).map (fun kv => kV kv.1) = some x := h4
  have h5 : ((KD f l)[i]?).map Prod.snd = some y := h5
  unfold KD at h4 h5
  rw [List.getElem?_map] at h4 h5
  cases e : l[i]? with
  | none => rw [e] at h4; cases h4
  | some b =>
    rw [e] at h4 h5
    obtain rfl := Option.some.inj h4
    obtain rfl := Option.some.inj h5
    exact ⟨T, b, h1, h2, h3, rfl⟩
theorem walk_valsKD {od : Obj} : Walk (Itd d od (KD f l)) l.length (fun H => H d = some (.frz od (.dK (KD f l)))) (fun i H v H' => H' = H ∧ ∃ a, l[i]? = some a ∧ v = f a.2) := by
  have h := walk_values (d := d) (o := od) (kvs := KD f l)
  rw [KD_len] at h
  refine h.mono (fun _ h => h) fun i H v H' _ _ y => ?_
  obtain ⟨h1, k, h2⟩ := y
  unfold KD at h2
  rw [List.getElem?_map] at h2
  obtain ⟨b, h3, h4⟩ := Option.map_eq_some_iff.mp h2
  injection h4 with h5 h6
  exact ⟨h1, b, h3, h6.symm⟩
theorem walk_keysKD {od : Obj} : Walk (Itk d od (KD f l)) l.length (fun H => H d = some (.frz od (.dK (KD f l)))) (fun i H v H' => H' = H ∧ ∃ a, l[i]? = some a ∧ v = .str (S a.1)) := by
  have h := walk_keys (d := d) (o := od) (kvs := KD f l)
  rw [KD_len] at h
  refine h.mono (fun _ h => h) fun i H v H' _ _ y => ?_
  obtain ⟨h1, k, u, h2, h3⟩ := y
  unfold KD at h2
  rw [List.getElem?_map] at h2
  obtain ⟨b, h4, h5⟩ := Option.map_eq_some_iff.mp h2
  injection h5 with h6 h7
  exact ⟨h1, b, h4, by rw [h3, ← h6]; rfl⟩
theorem paired_flip {β γ : Type} {F : β → γ → Prop} : ∀ {xs : List β} {ys : List γ}, Paired F xs ys → Paired (fun y x => F x y) ys xs
  | _, _, .nil => .nil
  | _, _, .cons r t => .cons r (paired_flip t)
/-- a list of objects, item by item -/
theorem walk_pair {β : Type} {F : β → V → Prop} {xs : List β} {ps : List V} (h : Paired F xs ps) : Walk (Itl K a) xs.length (fun H => SqL K H a ps) (fun i H v H' => H' = H ∧ ∃ x, xs[i]? = some x ∧ F x v) := by
  have w := walk_list (K := K) (a := a) (xs := ps)
  rw [← Paired.length h] at w
  refine w.mono (fun _ h => h) fun i H v H' hi _ y => ?_
  obtain ⟨h1, h2⟩ := y
  have hx : xs[i]? = some xs[i] := by simp [hi]
  obtain ⟨v', h3, h4⟩ := LiI.paired_get h hx
  obtain rfl := Option.some.inj (h3.symm.trans h2)
  exact ⟨h1, _, hx, h4⟩
end
end NT
end
/-! ## D1 -/
section
set_option maxHeartbeats 2000000
namespace NT
open PySem PySem.Spec PyProof.Rows L2
/-! ### weights -/
abbrev Ws : Type := List (Row × Nat)
/-- a row's telling is within y's -/
def sub (x y : Row) : Bool := (List.range x.length).all fun k => x[k]? == some 46 || !(y[k]? == some 46)
structure WsOk (n : Nat) (ws : Ws) : Prop where
  len : ∀ a ∈ ws, a.1.length = n
  few : ws.length ≤ 40
  nd : (ws.map (·.1)).Nodup
  pos : ∀ a ∈ ws, 1 ≤ a.2
def deedV (H : Hp) (a : Row × Nat) (v : V) : Prop := ∃ q, v = .ref q ∧ H q = some (.tup [.str (S a.1), .int (mask a.1 : Nat), .int (a.2 : Nat)])
theorem deedV.same {H H' : Hp} {a : Row × Nat} {v : V} (s : Same H H') (h : deedV H a v) : deedV H' a v := let ⟨q, e, k⟩ := h; ⟨q, e, s _ _ k⟩
def sp_masked (K : PySem.W.Frag) : Sp := fun vs H Q _ => ∃ d ws, vs = [.ref d] ∧ H d = some (.dK (WD ws)) ∧ ws.length ≤ 40 ∧ (∀ a ∈ ws, a.1.length ≤ 1000) ∧ ∀ p H' ps, Same H H' → H p = none → H' p = some (.lst ps) → Paired (deedV H') ws ps → Q (.ref p) H'
def inW (ws : Ws) (b : Nat) : Nat := ((ws.filter fun a => mask a.1 &&& b == mask a.1).map (·.2)).sum
def sp_within_weight (K : PySem.W.Frag) : Sp := fun vs H Q _ => ∃ p ws ps, ∃ b : Nat, vs = [.ref p, .int b] ∧ H p = some (.lst ps) ∧ Paired (deedV H) ws ps ∧ ws.length ≤ 40 ∧ ∀ H', Same H H' → Q (.int (inW ws b : Nat)) H'
/-- n more at r -/
def bump (l : Ws) (r : Row) (n : Nat) : Ws := putA l r ((lookA l r).getD 0 + n)
def tally (l : Ws) : Ws := l.foldl (fun acc a => bump acc a.1 a.2) []
theorem tally_take (l : Ws) (i : Nat) (a : Row × Nat) (h : l[i]? = some a) : tally (l.take (i + 1)) = bump (tally (l.take i)) a.1 a.2 := by
  unfold tally
  rw [List.take_succ, h, List.foldl_append]
  rfl
theorem putA_new {α : Type} {l : List (Row × α)} {r : Row} {v : α} (h : r ∉ l.map (·.1)) : putA l r v = l ++ [(r, v)] := by
  unfold putA
  rw [if_neg]
  intro z
  obtain ⟨a, ha, e⟩ := List.any_eq_true.mp z
  exact h (List.mem_map.mpr ⟨a, ha, of_decide_eq_true e⟩)
theorem putA_len {α : Type} (l : List (Row × α)) (r : Row) (v : α) : (putA l r v).length ≤ l.length + 1 := by
  unfold putA
  split
  · rw [List.length_map]; omega
  · rw [List.length_append]; simp
theorem tally_len (l : Ws) : (tally l).length ≤ l.length := by
  have h : ∀ (l acc : Ws), (l.foldl (fun acc a => bump acc a.1 a.2) acc).length ≤ acc.length + l.length := by
    intro l
    induction l with
    | nil => intro acc; simp
    | cons a l ih =>
      intro acc
      have h1 := ih (bump acc a.1 a.2)
      have h2 := putA_len acc a.1 ((lookA acc a.1).getD 0 + a.2)
      rw [List.foldl_cons, List.length_cons]
      unfold bump at h1 ⊢
      omega
  have := h l []
  simpa [tally] using this
/-- where the row goes -/
def moves (ws : Ws) (row : Row) : Ws := tally ((ws.filter fun a => !(mask a.1 &&& mask row == mask a.1)).map fun a => (ov row a.1, a.2))
def sp_older_moves (K : PySem.W.Frag) : Sp := fun vs H Q _ => ∃ p ws ps row, vs = [.ref p, .str (S row), .non] ∧ H p = some (.lst ps) ∧ Paired (deedV H) ws ps ∧ ws.length ≤ 40 ∧ (∀ a ∈ ws, a.1.length ≤ 1000) ∧ row.length ≤ 1000 ∧
  ∀ d H', Same H H' → H d = none → H' d = some (.dK (WD (moves ws row))) → Q (.ref d) H'
theorem tally_snoc (l : Ws) (r : Row) (n : Nat) : tally (l ++ [(r, n)]) = bump (tally l) r n := by
  unfold tally
  rw [List.foldl_append]
  rfl
theorem moves_step (ws : Ws) (row : Row) (i : Nat) (a : Row × Nat) (h : ws[i]? = some a) :
    moves (ws.take (i + 1)) row = if (mask a.1 &&& mask row == mask a.1) = true then moves (ws.take i) row else bump (moves (ws.take i) row) (ov row a.1) a.2 := by
  unfold moves
  rw [List.take_succ, h, List.filter_append]
  cases e : (mask a.1 &&& mask row == mask a.1) with
  | true => simp [e]
  | false =>
    simp only [Option.toList_some, List.filter_cons, e, Bool.not_false, if_true, List.filter_nil, List.map_append, List.map_cons, List.map_nil]
    rw [tally_snoc]
    simp
theorem moves_len (ws : Ws) (row : Row) : (moves ws row).length ≤ ws.length := by
  unfold moves
  refine Nat.le_trans (tally_len _) ?_
  rw [List.length_map]
  exact List.length_filter_le _ _
def gcdW (ws : Ws) : Nat := ws.foldl (fun g a => a.2.gcd g) 0
def sp_law_faces (K : PySem.W.Frag) : Sp := fun vs H Q _ => ∃ d ws, vs = [.ref d] ∧ H d = some (.dK (WD ws)) ∧ ∀ H', Same H H' → Q (.int ((ws.map (·.2)).sum : Nat)) H'
def sp_law_v (K : PySem.W.Frag) : Sp := fun vs H Q _ => ∃ d ws y, vs = [.ref d, .str (S y)] ∧ H d = some (.dK (WD ws)) ∧ ws.length ≤ 40 ∧ (∀ a ∈ ws, a.1.length = y.length) ∧ y.length ≤ 1000 ∧ (ws.map (·.1)).Nodup ∧ ∀ H', Same H H' → Q (.int (((ws.filter fun a => ins a.1 y).map (·.2)).sum : Nat)) H'
theorem look_mem {α : Type} : ∀ {l : List (Row × α)} {a : Row × α}, (l.map (·.1)).Nodup → a ∈ l → lookA l a.1 = some a.2
  | b :: l, a, nd, h => by
    rw [List.map_cons, List.nodup_cons] at nd
    unfold lookA
    rw [List.find?_cons]
    rcases List.mem_cons.mp h with e | h
    · rw [← e, decide_eq_true rfl]; rfl
    · have e : b.1 ≠ a.1 := fun z => nd.1 (by rw [z]; exact List.mem_map.mpr ⟨a, h, rfl⟩)
      rw [decide_eq_false e]
      exact look_mem nd.2 h
theorem bitAnd_nat (a b : Nat) : Builtin.bitAnd (a : Int) (b : Int) = ((a &&& b : Nat) : Int) := PySem.W.os_band a b
theorem sum_cast {α : Type} (f : α → Nat) : ∀ l : List α, (l.map fun a => ((f a : Nat) : Int)).sum = (((l.map f).sum : Nat) : Int)
  | [] => rfl
  | a :: l => by rw [List.map_cons, List.sum_cons, sum_cast f l, List.map_cons, List.sum_cons, Int.natCast_add]
end NT
end
namespace NT
open PySem PySem.Spec PyProof.Rows L2
local macro_rules | `(tactic| walk_at "g1") => `(tactic| first
  | ((with_reducible refine w_var (v := ?vv) ?_ ?hh); (case hh => exact rfl))
  | (with_reducible refine w_c ?_)
  | (with_reducible refine w_op ?_)
  | (with_reducible refine w_un ?_)
  | (with_reducible refine w_I0 ?_)
  | (with_reducible refine w_U ?_)
  | (with_reducible refine w_dot ?_)
  | (with_reducible refine w_ndot ?_)
  | (with_reducible refine w_plusS ?_)
  | (with_reducible refine w_it ?_)
  | (with_reducible refine w_if0 ?_)
  | ((with_reducible refine w_wp ?_ ?hh); (case hh => exact rfl))
  | (with_reducible refine w_eqI ?_)
  | (with_reducible refine w_neI ?_)
  | (with_reducible refine w_eqS ?_)
  | (with_reducible refine w_neS ?_)
  | ((with_reducible refine w_eq ?_ ?hh); (case hh => exact rfl))
  | ((with_reducible refine w_ne ?_ ?hh); (case hh => exact rfl))
  | (with_reducible refine w_isN ?_)
  | (with_reducible refine w_notN ?_)
  | (with_reducible refine w_inS ?_)
  | (with_reducible refine w_notInS ?_)
  | (with_reducible refine w_test ?_)
  | (with_reducible refine w_tB ?_)
  | (with_reducible refine w_bl ?_)
  | (with_reducible refine w_not ?_)
  | (with_reducible refine w_and ?_)
  | (with_reducible refine w_or ?_)
  | (with_reducible refine w_tru ?_)
  | (with_reducible refine w_andV ?_)
  | (with_reducible refine w_orV ?_)
  | (with_reducible refine w_notV ?_)
  | (with_reducible refine w_if ?_)
  | (with_reducible refine w_nil ?_)
  | (with_reducible refine w_cons ?_)
  | (with_reducible refine w_CB ?_)
  | (with_reducible refine w_call ?_)
  | (with_reducible refine w_seq ?_)
  | (with_reducible refine w_asg ?_)
  | (with_reducible refine w_name ?_)
  | (with_reducible refine w_ret ?_)
  | (with_reducible refine w_ifs ?_)
  | (with_reducible refine w_nx ?_)
  | (with_reducible refine w_drop ?_)
  | (with_reducible refine w_par ?_)
  | (with_reducible refine w_par2 ?_)
  | (with_reducible refine w_par3 ?_)
  | (with_reducible refine w_par33 ?_)
  | (with_reducible refine w_lc ?_)
  | (with_reducible refine w_SS ?_)
  | (with_reducible refine w_SS2 ?_)
  | (with_reducible refine w_iStr ?_)
  | (with_reducible refine w_str ?_)
  | (with_reducible refine w_iList ?_)
  | (with_reducible refine w_rng ?_)
  | (with_reducible refine w_for ?_)
  | (with_reducible refine w_enum ?_)
  | ((with_reducible refine w_aref (xs := ?xx) ?hh ?_); (case hh => walk_at "sq"))
  | ((with_reducible refine w_aref2 (xs := ?xx) ?hh ?_); (case hh => walk_at "sq"))
  | (with_reducible refine w_gt2 ?_)
  | (with_reducible refine w_yes ?_)
  | (with_reducible refine w_M1 ?_)
  | (with_reducible refine w_and2 ?_)
  | (with_reducible refine w_abs ?_)
  | (with_reducible refine w_int ?_)
  | ((with_reducible refine w_t0 (x := ?vv) (xs := ?ww) ?_ ?hh); (case hh => walk_at "at"))
  | ((with_reducible refine w_t1 (x := ?vv) (y := ?uu) (xs := ?ww) ?_ ?hh); (case hh => walk_at "at"))
  | ((with_reducible refine w_ixS (c := ?cc) ?_ ?hh ?hl); (case hh => assumption); (case hl => walk_at "om"))
  | ((with_reducible refine w_lenS ?_ ?hl); (case hl => walk_at "om"))
  | ((with_reducible refine w_lenM (α := ?aa) (l := ?ll) (f := ?ff) ?_ ?hh); (case hh => walk_at "sq"))
  | ((with_reducible refine w_lenT (xs := ?xx) ?_ ?hh); (case hh => walk_at "at"))
  | ((with_reducible refine w_lenL (xs := ?xx) ?_ ?hh); (case hh => walk_at "sq"))
  | ((with_reducible refine w_dots ?_ ?hh); (case hh => walk_at "om"))
  | (with_reducible refine w_countD ?_)
  | (with_reducible refine w_count ?_)
  | ((with_reducible refine w_rng2 ?_ ?hh); (case hh => walk_at "om"))
  | (with_reducible refine w_str ?_)
  | (with_reducible refine w_chain ?_)
  | (with_reducible refine w_ifnT ?_)
  | (with_reducible refine w_ifnF ?_)
  | (with_reducible refine w_isi_ss ?_)
  | (with_reducible refine w_isi_ii ?_)
  | (with_reducible refine w_isi_ib ?_)
  | ((with_reducible refine w_isi_tt (xs := ?xx) ?hh ?_); (case hh => walk_at "at"))
  | ((with_reducible refine w_isT_l (xs := ?xx) ?h1 ?h2 ?_); (case h1 => walk_at "at"); (case h2 => walk_at "at"))
  | ((with_reducible refine w_decT ?hh ?_); (case hh => walk_at "ar"))
  | ((with_reducible refine w_decF ?hh ?_); (case hh => walk_at "ar"))
  | ((with_reducible refine w_ndecT ?hh ?_); (case hh => walk_at "ar"))
  | ((with_reducible refine w_ndecF ?hh ?_); (case hh => walk_at "ar"))
  | ((with_reducible refine w_inL (l := ?ll) ?hh ?_); (case hh => walk_at "sq"))
  | ((with_reducible refine w_ninL (l := ?ll) ?hh ?_); (case hh => walk_at "sq"))
  | ((with_reducible refine w_pnew ?_ ?hh); (case hh => exact rfl); (intro p hp))
  | (with_reducible refine w_SL ?_)
  | ((with_reducible refine w_SL2 (xs := ?xx) ?hh ?_); (case hh => walk_at "sq"))
  | (with_reducible refine w_sl ?_)
  | (with_reducible refine w_nopart ?_)
  | (with_reducible refine w_part ?_)
  | (with_reducible refine w_part2 ?_)
  | ((with_reducible refine w_gt2T (x := ?xx) (y := ?yy) ?hh ?_); (case hh => walk_at "at"))
  | ((with_reducible refine w_gt3T (x := ?xx) (y := ?yy) (z := ?zz) ?hh ?_); (case hh => walk_at "at"))
  | (with_reducible refine w_bm ?_)
  | (with_reducible refine w_bm0 ?_)
  | ((with_reducible refine w_tyL (xs := ?xx) ?hh ?_); (case hh => walk_at "at"))
  | ((with_reducible refine w_dnew ?_); intro p hp)
  | (with_reducible refine w_lkeys ?_)
  | (with_reducible refine w_lvals ?_)
  | (with_reducible refine w_svals ?_)
  | ((with_reducible refine w_disp ?_); intro p hp)
  | ((with_reducible refine w_dend ?hh ?_); (case hh => walk_at "at"))
  | ((with_reducible refine w_l0 (x0 := ?x0) (x1 := ?x1) (x2 := ?x2) (x3 := ?x3) (x4 := ?x4) ?_ ?hh); (case hh => walk_at "at"))
  | ((with_reducible refine w_l1 (x0 := ?x0) (x1 := ?x1) (x2 := ?x2) (x3 := ?x3) (x4 := ?x4) ?_ ?hh); (case hh => walk_at "at"))
  | ((with_reducible refine w_l2 (x0 := ?x0) (x1 := ?x1) (x2 := ?x2) (x3 := ?x3) (x4 := ?x4) ?_ ?hh); (case hh => walk_at "at"))
  | ((with_reducible refine w_l3 (x0 := ?x0) (x1 := ?x1) (x2 := ?x2) (x3 := ?x3) (x4 := ?x4) ?_ ?hh); (case hh => walk_at "at"))
  | ((with_reducible refine w_l4 (x0 := ?x0) (x1 := ?x1) (x2 := ?x2) (x3 := ?x3) (x4 := ?x4) ?_ ?hh); (case hh => walk_at "at"))
  | ((with_reducible refine w_s1 (x0 := ?x0) (x1 := ?x1) (x2 := ?x2) (x3 := ?x3) (x4 := ?x4) ?_ ?hh); (case hh => walk_at "at"))
  | ((with_reducible refine w_s2 (x0 := ?x0) (x1 := ?x1) (x2 := ?x2) (x3 := ?x3) (x4 := ?x4) ?_ ?hh); (case hh => walk_at "at"))
  | ((with_reducible refine w_s3 (x0 := ?x0) (x1 := ?x1) (x2 := ?x2) (x3 := ?x3) (x4 := ?x4) ?_ ?hh); (case hh => walk_at "at"))
  | ((with_reducible refine w_s4 (x0 := ?x0) (x1 := ?x1) (x2 := ?x2) (x3 := ?x3) (x4 := ?x4) ?_ ?hh); (case hh => walk_at "at"))
  | (with_reducible refine w_gsub ?_)
  | (with_reducible refine w_fld1 ?_)
  | ((with_reducible refine w_fld2 (C := ?CC) (dx := ?dx) (fs := ?fs) (v := ?vv) ?h1 ?h2 ?h3 ?h4 ?_); (case h1 => walk_at "at"); (case h2 => assumption); (case h3 => assumption); (case h4 => assumption))
  | (with_reducible refine w_meth ?_)
  | ((with_reducible refine w_meth2 (dx := ?dx) (fs := ?fs) ?h1 ?h2 ?_); (case h1 => walk_at "at"); (case h2 => assumption))
  | (with_reducible refine w_prop ?_)
  | ((with_reducible refine w_prop2 (dx := ?dx) (fs := ?fs) ?h1 ?_); (case h1 => walk_at "at"))
  | (with_reducible refine w_sfld ?_)
  | (with_reducible refine w_make ?_)
  | (with_reducible refine w_dc ?_)
  | (with_reducible refine w_dget ?_)
  | (with_reducible refine w_dget2 ?_)
  | (with_reducible refine w_din ?_)
  | (with_reducible refine w_dnin ?_)
  | (with_reducible refine w_dput ?_)
  | (with_reducible refine w_items ?_)
  | (with_reducible refine w_vals ?_)
  | (with_reducible refine w_keysM ?_)
  | (with_reducible refine w_keys ?_)
  | ((with_reducible refine w_frz (od := ?oo) (kvs := ?kk) ?hh ?_); (case hh => walk_at "at"))
  | ((with_reducible refine w_frzK (od := ?oo) (kvs := ?kk) ?hh ?_); (case hh => walk_at "at"))
  | ((with_reducible refine w_sortLots ?_); intro fkey)
  | (with_reducible refine w_tup ?_)
  | (with_reducible refine w_lst ?_))
local macro_rules | `(tactic| walk_at "ar") => `(tactic| first | omega | exact rfl)
local macro_rules | `(tactic| walk_at "om") => `(tactic| first | assumption | omega)
local macro_rules | `(tactic| walk_at "go") => `(tactic| repeat (walk_at "g1"))
local macro_rules | `(tactic| walk_at "sm") => `(tactic| first
  | exact Same.refl _
  | assumption
  | exact same_new (by assumption)
  | (refine Same.trans ?_ (same_new (by assumption)); walk_at "sm")
  | (refine same_mut ?_ (by assumption); walk_at "sm")
  | (refine Same.trans ?_ (by assumption); walk_at "sm"))
local macro_rules | `(tactic| walk_at "sq") => `(tactic| first
  | assumption
  | ((refine Same.seq ?_ (by assumption)); walk_at "sm"))
local macro_rules | `(tactic| walk_at "at") => `(tactic| first
  | assumption
  | exact upd_same
  | exact (by assumption : Same _ _) _ _ (by assumption)
  | ((refine (?ss : Same _ _) _ _ (by assumption)); (case ss => walk_at "sm")))
local macro_rules | `(tactic| walk_at "lg") => `(tactic| first | assumption | (rw [Int.natAbs_natCast]; omega))
local macro_rules | `(tactic| walk_at "sb") => `(tactic| first
  | exact SBut.refl
  | assumption
  | exact same_but (by assumption)
  | exact sbut_new (by assumption)
  | (refine SBut.trans ?_ (sbut_new (by assumption)); walk_at "sb")
  | (refine sbut_mut ?_ (by assumption); walk_at "sb")
  | (refine SBut.trans ?_ (by assumption); walk_at "sb")
  | (refine SBut.trans ?_ (same_but (by assumption)); walk_at "sb"))
/-! ## F6 -/
section
set_option maxHeartbeats 2000000
open PySem PySem.Spec PyProof.Rows L2


variable {P : Program} {w : World} {K : PySem.W.Frag} {mg : Str → Option Value} {base : Heap}
abbrev nm_masked : List Str := ["weights", "deed", "weight"]
theorem sc_masked : FnScope nm_masked ["weights"] (defScope s_masked) := ⟨rfl, rfl, rfl, by decide +kernel, rfl, by decide +kernel, by decide +kernel⟩
abbrev t_masked (K : PySem.W.Frag) : TS := (tRet (tLockE (tLc (iItems (tVar 0)) (gTup K 2 (gCons (gName 1) (gCons (gName 2) gNil))) tYes (tTup (tCons (tVar 1) (tCons (tCall (sp_mask K) [] E0 (tCons (tVar 1) tNil)) (tCons (tVar 2) tNil)))) [1, 2])))
theorem c_masked (T : Tx K mg) : C8.Cal P w K mg base 2 "masked" (sp_masked K) [] := by
  refine calG T.f_masked (fun _ _ _ _ _ _ us hl => match us, hl with | [_], _ => rfl)  sc_masked (fun vs H Q E h => ?_) (fun f cdv A outer s H vs Q E hr h => have hu := hu_of hr; ⟨t_masked K, (pss_one (ps_ret (pe_lock (pe_lc (own := [("deed", 1), ("weight", 2)]) rfl sc_masked.nd (pi_items (pv 0)) (blkOk_by (own := [("deed", 1), ("weight", 2)]) (N := nm_masked) (sc := (defScope s_masked)) (by decide +kernel)) (fun _ _ _ _ _ => (pg_tup rfl (pgs_cons (pg_name (i := 1) sc_masked.nd rfl (Or.inl rfl) (hf := Or.inr rfl)) (pgs_cons (pg_name (i := 2) sc_masked.nd rfl (Or.inl rfl) (hf := Or.inr rfl)) pgs_nil)))) (fun _ _ _ _ _ => pts_nil) (fun _ _ _ _ _ => (pe_tup (pa_cons (pv 1) (pa_cons (C8.pe_c (c_mask T) hr (by decide) (by rfl) (pa_cons (pv 1) pa_nil)) (pa_cons (pv 2) pa_nil))))))))), ?_⟩)
  · obtain ⟨d, ws, rfl, _⟩ := h
    rfl
  · obtain ⟨d, ws, rfl, hd, hl, hl2, k⟩ := h
    walk_at "go"
    refine w_lockE hd fun od => ?_
    walk_at "go"
    refine lc_relL ws walk_itemsKD (by omega) (fun _ => true) (fun D a v H => ∃ q, v = .ref q ∧ q ≠ D ∧ H q = some (.tup [.str (S a.1), .int (mask a.1 : Nat), .int (a.2 : Nat)])) ?_ (fun H' s => s _ _ upd_same) ?_ ?_
    · rintro D a v H1 H2 sb ⟨q, e1, e2, e3⟩
      exact ⟨q, e1, e2, sb _ _ e2 e3⟩
    · rintro D i a v H2 H3 R R0 hi nD s2 ⟨zs, hz⟩ ⟨T, a', rfl, hT, rfl, ha'⟩ k1 k2
      obtain rfl : a' = a := Option.some.inj (ha'.symm.trans hi)
      walk_at "go"
      refine ⟨_, rfl, hl2 _ (List.mem_of_getElem? hi), fun H4 s4 => ?_⟩
      walk_at "go"
      rename_i p np
      have nD4 : upd H4 p (.tup [.str (S a'.1), .int (mask a'.1 : Nat), .int (a'.2 : Nat)]) p = some (.tup [.str (S a'.1), .int (mask a'.1 : Nat), .int (a'.2 : Nat)]) := upd_same
      have hz4 : H4 D = some (.lst zs) := s4 _ _ (same_new hT _ _ hz)
      exact k1 _ _ rfl (by walk_at "sm") ⟨p, rfl, (ne_of_none hz4 np).symm, nD4⟩
    · intro D H2 zs nD s2 hD hz
      have hd2 : H2 d = some (.frz od (.dK (WD ws))) := s2 _ _ upd_same
      refine ⟨hd2, ?_⟩
      obtain ⟨nD0, nDd⟩ := none_lock nD
      rw [List.filter_eq_self.mpr fun _ _ => rfl] at hz
      refine k D _ zs (same_unlock hd s2) nD0 (by rw [upd_ne nDd]; exact hD) (Paired.mapP hz fun a v e => ?_)
      obtain ⟨q, e1, e2, e3⟩ := e
      refine ⟨q, e1, ?_⟩
      have hqd : q ≠ d := fun z => by rw [z, hd2] at e3; cases e3
      rw [upd_ne hqd]; exact e3
abbrev nm_within_weight : List Str := ["deeds", "bits", "deed", "lot", "weight"]
theorem sc_within_weight : FnScope nm_within_weight ["deeds", "bits"] (defScope s_within_weight) := ⟨rfl, rfl, rfl, by decide +kernel, rfl, by decide +kernel, by decide +kernel⟩
abbrev t_within_weight (K : PySem.W.Frag) : TS := (tRet (tCB (rSum K) (tCons (tLc (iList K (tVar 0)) (gTup K 3 (gCons (gName 2) (gCons (gName 3) (gCons (gName 4) gNil)))) (tTest (tOp rEq (tOp rAndI (tVar 3) (tVar 1)) (tVar 3))) (tVar 4) [2, 3, 4]) tNil)))
theorem c_within_weight (T : Tx K mg) : C8.Cal P w K mg base 1 "within_weight" (sp_within_weight K) [] := by
  refine calG T.f_within_weight (fun _ _ _ _ _ _ us hl => match us, hl with | [_, _], _ => rfl)  sc_within_weight (fun vs H Q E h => ?_) (fun f cdv A outer s H vs Q E hr h => have hu := hu_of hr; ⟨t_within_weight K, (pss_one (ps_ret (pe_callB (cr_sum rfl) (by rfl) T.b_sum bt_sum (pa_cons (pe_lc (own := [("deed", 2), ("lot", 3), ("weight", 4)]) rfl sc_within_weight.nd (pi_list (pv 0)) (blkOk_by (own := [("deed", 2), ("lot", 3), ("weight", 4)]) (N := nm_within_weight) (sc := (defScope s_within_weight)) (by decide +kernel)) (fun _ _ _ _ _ => (pg_tup rfl (pgs_cons (pg_name (i := 2) sc_within_weight.nd rfl (Or.inl rfl) (hf := Or.inr rfl)) (pgs_cons (pg_name (i := 3) sc_within_weight.nd rfl (Or.inl rfl) (hf := Or.inr rfl)) (pgs_cons (pg_name (i := 4) sc_within_weight.nd rfl (Or.inl rfl) (hf := Or.inr rfl)) pgs_nil))))) (fun _ _ _ _ _ => (pts_one (pt_cmpR op_eq (pe_op op_and (pv 3) (pv 1)) (pv 3) (nomark _)))) (fun _ _ _ _ _ => (pv 4))) pa_nil)))), ?_⟩)
  · obtain ⟨p, ws, ps, b, rfl, _⟩ := h
    rfl
  · obtain ⟨p, ws, ps, b, rfl, hp, hP, hl, k⟩ := h
    have hq : SqL K H p ps := .inl (.inl hp)
    walk_at "go"
    refine lc_valL ws (fun a => .int (a.2 : Nat)) (fun a => mask a.1 &&& b == mask a.1) (walk_pair hP) (by omega) (fun H' s => s.seq hq) ?_ ?_
    · rintro i a v H2 H3 R R0 hi s2 ⟨rfl, a', ha', hv⟩ k1 k2
      obtain rfl : a' = a := Option.some.inj (ha'.symm.trans hi)
      obtain ⟨q, rfl, hqq⟩ := hv.same s2
      walk_at "go"
      rw [bitAnd_nat]
      refine w_dec (fun e => ?_) (fun e => ?_)
      · walk_at "go"
        exact k1 _ (by simp only [beq_iff_eq]; omega) (Same.refl _)
      · exact k2 _ (by simp only [beq_eq_false_iff_ne]; omega) (Same.refl _)
    · intro D H2 nD s2 hD
      walk_at "go"
      refine w_sum (f := fun a : Row × Nat => ((a.2 : Nat) : Int)) hD ?_
      rw [sum_cast]
      exact k _ s2
abbrev nm_law_faces : List Str := ["_law_w"]
theorem sc_law_faces : FnScope nm_law_faces ["_law_w"] (defScope s_law_faces) := ⟨rfl, rfl, rfl, by decide +kernel, rfl, by decide +kernel, by decide +kernel⟩
abbrev t_law_faces (K : PySem.W.Frag) : TS := (tRet (tSumVals (tVar 0)))
theorem c_law_faces (T : Tx K mg) : C8.Cal P w K mg base 1 "_law_faces" (sp_law_faces K) [] := by
  refine calG T.f_law_faces (fun _ _ _ _ _ _ us hl => match us, hl with | [_], _ => rfl)  sc_law_faces (fun vs H Q E h => ?_) (fun f cdv A outer s H vs Q E hr h => have hu := hu_of hr; ⟨t_law_faces K, (pss_one (ps_ret (pe_sumVals rfl (by rfl) T.b_sum (pv 0)))), ?_⟩)
  · obtain ⟨d, ws, rfl, _⟩ := h
    rfl
  · obtain ⟨d, ws, rfl, hd, k⟩ := h
    walk_at "go"
    refine ⟨d, WD ws, ws.map fun a => ((a.2 : Nat) : Int), rfl, .inl hd, by unfold WD KD; rw [List.map_map, List.map_map]; rfl, ?_⟩
    rw [sum_cast]
    exact k _ (Same.refl _)
abbrev nm_law_v : List Str := ["_law_w", "_law_base", "_law_row"]
theorem sc_law_v : FnScope nm_law_v ["_law_w", "_law_base"] (defScope s_law_v) := ⟨rfl, rfl, rfl, by decide +kernel, rfl, by decide +kernel, by decide +kernel⟩
abbrev t_law_v (K : PySem.W.Frag) : TS := (tRet (tCB (rSum K) (tCons (tLockE (tLc (iKeysM (tVar 0)) (gName 2) (tB (tCall (sp_law_inside K) [] E0 (tCons (tVar 2) (tCons (tVar 1) tNil)))) (tDGet (tVar 0) (tVar 2)) [2])) tNil)))
theorem c_law_v (T : Tx K mg) : C8.Cal P w K mg base 2 "_law_v" (sp_law_v K) [] := by
  refine calG T.f_law_v (fun _ _ _ _ _ _ us hl => match us, hl with | [_, _], _ => rfl) sc_law_v (fun vs H Q E h => ?_) (fun f cdv A outer s H vs Q E hr h => have hu := hu_of hr; ⟨t_law_v K, (pss_one (ps_ret (pe_callB (cr_sum rfl) (by rfl) T.b_sum bt_sum (pa_cons (pe_lock (pe_lc (own := [("_law_row", 2)]) rfl sc_law_v.nd (pi_keysM (pv 0)) (blkOk_by (own := [("_law_row", 2)]) (N := nm_law_v) (sc := (defScope s_law_v)) (by decide +kernel)) (fun _ _ _ _ _ => (pg_name (i := 2) sc_law_v.nd rfl (Or.inl rfl) (hf := Or.inr rfl))) (fun _ _ _ _ _ => (pts_one (pt_val (C8.pe_c (c_law_inside T) hr (by decide) (by rfl) (pa_cons (pv 2) (pa_cons (pv 1) pa_nil)))))) (fun _ _ _ _ _ => (pe_dget hu (pv 0) (pv 2) (fun _ _ => rfl))))) pa_nil)))), ?_⟩)
  · obtain ⟨d, ws, y, rfl, _⟩ := h
    rfl
  · obtain ⟨d, ws, y, rfl, hd, hl, hlen, hy, nd, k⟩ := h
    walk_at "go"
    refine w_lockE hd fun od => ?_
    walk_at "go"
    refine lc_valL ws (fun a => .int (a.2 : Nat)) (fun a => ins a.1 y) walk_keysKD (by omega) (fun H' s => s _ _ upd_same) ?_ ?_
    · rintro i a v H2 H3 R R0 hi s2 ⟨rfl, a', ha', rfl⟩ k1 k2
      obtain rfl : a' = a := Option.some.inj (ha'.symm.trans hi)
      have ham := List.mem_of_getElem? hi
      walk_at "go"
      refine ⟨_, _, rfl, hlen _ ham, by rw [hlen _ ham]; exact hy, fun H4 s4 => ?_⟩
      have hd4 : H4 d = some (.frz od (.dK (WD ws))) := s4 _ _ (s2 _ _ upd_same)
      walk_at "go"
      cases e : ins a'.1 y with
      | true =>
        walk_at "go"
        refine w_dgetR (l := ws) (.inr ⟨od, hd4⟩) (look_mem nd ham) ?_
        exact k1 _ e s4
      | false =>
        walk_at "go"
        exact k2 _ e s4
    · intro D H2 nD s2 hD
      have hd2 : H2 d = some (.frz od (.dK (WD ws))) := s2 _ _ upd_same
      refine ⟨hd2, ?_⟩
      obtain ⟨nD0, nDd⟩ := none_lock nD
      have hD3 : upd H2 d (.dK (WD ws)) D = some (.lst ((ws.filter fun a => ins a.1 y).map fun a => V.int ((a.2 : Nat) : Int))) := by rw [upd_ne nDd]; exact hD
      walk_at "go"
      refine w_sum (f := fun a : Row × Nat => ((a.2 : Nat) : Int)) hD3 ?_
      rw [sum_cast]
      exact k _ (same_unlock hd s2)
end
end NT
/-! ## D2 -/
section
set_option maxHeartbeats 2000000
namespace NT
open PySem PySem.Spec PyProof.Rows L2
/-- what a dict comprehension asks of what is walked -/
def DcG (J : It) (g : TG) (tt : TT) (tk tv : TE) (vs : List Nat) (σ : L2.St) (H1 : Hp) (Q : VK) : Prop :=
  ∀ D, H1 D = none → ∃ W : Nat → Nat → Hp → Prop, (∃ m, W 0 m (upd H1 D (.dK []))) ∧ ∀ i m H, W i m H →
  (J.stop i H ∧ Q (.ref D) H) ∨ (J.go i H ∧ ∃ Nx : Hp → Prop, (∀ H', Nx H' → ∃ m', m' < m ∧ W (i + 1) m' H') ∧ ∀ x H', J.yld i H x H' → g x (wipe σ vs) H' fun σ2 H2 => wipe σ2 vs = wipe σ vs ∧ tt σ2 H2 fun b H3 =>
    if b = true then tk σ2 H3 fun y H4 => tv σ2 H4 fun z H5 => ∃ kvs k, y = kV k ∧ H5 D = some (.dK kvs) ∧ kvs.length < sizeLine ∧ Nx (upd H5 D (.dK (putK kvs k z))) else Nx H3)
theorem w_dc {wi : TI} {g : TG} {tt : TT} {tk tv : TE} {vs : List Nat} {σ : L2.St} {H : Hp} {Q : VK} (h : wi σ H fun J H1 => DcG J g tt tk tv vs σ H1 Q) : tDc wi g tt tk tv vs σ H Q := h
section
variable {α : Type} {J : It} {n : Nat} {G : Hp → Prop} {Y : Nat → Hp → V → Hp → Prop} {g : TG} {tt : TT} {tk tv : TE} {vs : List Nat} {σ : L2.St} {H1 : Hp} {Q : VK}
theorem dc_relL (xs : List α) (key : α → Row) (w : Walk J xs.length G Y) (hn : xs.length ≤ 1000) (b : α → Bool) (nd : ((xs.filter b).map key).Nodup) (E : Addr → α → V → Hp → Prop) (hE : ∀ D a v H H', SBut D H H' → E D a v H → E D a v H') (hG : ∀ H', Same H1 H' → G H')
    (turn : ∀ D i a x H2 H3 (R : V → V → Hp → Prop) (R0 : Hp → Prop), xs[i]? = some a → H1 D = none → Same H1 H2 → (∃ kvs, H2 D = some (.dK kvs)) → Y i H2 x H3 → (∀ v H6, b a = true → Same H2 H6 → E D a v H6 → R (.str (S (key a))) v H6) → (∀ H6, b a = false → Same H2 H6 → R0 H6) →
      g x (wipe σ vs) H3 fun σ2 H4 => wipe σ2 vs = wipe σ vs ∧ tt σ2 H4 fun c H5 => if c = true then tk σ2 H5 fun y H6 => tv σ2 H6 fun z H7 => R y z H7 else R0 H5)
    (done : ∀ D H2 kvs, H1 D = none → Same H1 H2 → H2 D = some (.dK kvs) → Paired (fun a kv => kv.1 = kR (key a) ∧ E D a kv.2 H2) (xs.filter b) kvs → Q (.ref D) H2) :
    DcG J g tt tk tv vs σ H1 Q := by
  intro D nD
  let Pv : Nat → Hp → Prop := fun i H => Same H1 H ∧ ∃ kvs, H D = some (.dK kvs) ∧ Paired (fun a kv => kv.1 = kR (key a) ∧ E D a kv.2 H) ((xs.take i).filter b) kvs
  refine ⟨fun i m H => m = xs.length - i ∧ i ≤ xs.length ∧ Pv i H, ⟨_, rfl, Nat.zero_le _, same_mut (Same.refl H1) nD, [], upd_same, .nil⟩, ?_⟩
  rintro i m H ⟨rfl, hi, s, kvs, hz, pz⟩
  have q := hG H s
  by_cases hlt : i < xs.length
  · refine .inr ⟨w.goes i H hlt q, Pv (i + 1), fun H' p' => ⟨xs.length - (i + 1), by omega, rfl, hlt, p'⟩, fun x H' y => ?_⟩
    have y := w.yields i H x H' hlt q y
    have hxi : xs[i]? = some xs[i] := by simp [hlt]
    have hl : kvs.length ≤ 1000 := by
      have h1 : ((xs.take i).filter b).length = kvs.length := Paired.length pz
      have h2 := List.length_filter_le b (xs.take i)
      rw [List.length_take] at h2
      omega
    have hft : (xs.take (i + 1)).filter b = (xs.take i).filter b ++ (if b xs[i] = true then [xs[i]] else []) := by
      rw [List.take_succ, hxi, List.filter_append]
      cases e : b xs[i] with
      | true => simp [e]
      | false => simp [e]
    refine turn D i xs[i] x H H' _ _ hxi nD s ⟨kvs, hz⟩ y (fun v H6 hb s6 e6 => ?_) (fun H6 hb s6 => ?_)
    · refine ⟨kvs, kR (key xs[i]), rfl, s6 D _ hz, Nat.lt_of_le_of_lt hl (by decide), same_mut (s.trans s6) nD, kvs ++ [(kR (key xs[i]), v)], ?_, ?_⟩
      · rw [upd_same]
        have hno : (kvs.any fun kv => decide (kv.1 = kR (key xs[i]))) = false := by
          rw [List.any_eq_false]
          intro kv hkv
          obtain ⟨j, y, e1, e2, e3⟩ := LiI.paired_ix (F := fun kv a => kv.1 = kR (key a)) (paired_flip (Paired.mapP pz fun a kv e => e.1)) hkv
          simp only [decide_eq_true_eq]
          intro e4
          have e5 := kR_inj (e3.symm.trans e4)
          have hsplit : xs.filter b = (xs.take i).filter b ++ (xs.drop i).filter b := by rw [← List.filter_append, List.take_append_drop]
          rw [hsplit, List.map_append] at nd
          have hin2 : key xs[i] ∈ ((xs.drop i).filter b).map key := List.mem_map.mpr ⟨xs[i], List.mem_filter.mpr ⟨by rw [List.drop_eq_getElem_cons hlt]; exact List.mem_cons_self, hb⟩, rfl⟩
          have hin1 : key xs[i] ∈ ((xs.take i).filter b).map key := List.mem_map.mpr ⟨y, List.mem_of_getElem? e2, e5⟩
          exact (List.nodup_append.mp nd).2.2 _ hin1 _ hin2 rfl
        unfold putK
        rw [if_neg (by rw [hno]; exact Bool.false_ne_true)]
      · rw [hft, if_pos hb]
        have p1 : Paired (fun (a : α) (kv : Key × V) => kv.1 = kR (key a) ∧ E D a kv.2 (upd H6 D (.dK (putK kvs (kR (key xs[i])) v)))) ((xs.take i).filter b) kvs := Paired.mapP pz fun j u e => ⟨e.1, hE D j u.2 _ _ sbut_upd (hE D j u.2 _ _ (same_but s6) e.2)⟩
        exact paired_app p1 (.cons ⟨rfl, hE D _ v _ _ sbut_upd e6⟩ .nil)
    · refine ⟨s.trans s6, kvs, s6 D _ hz, ?_⟩
      rw [hft, if_neg (by rw [hb]; exact Bool.false_ne_true), List.append_nil]
      exact Paired.mapP pz fun j u e => ⟨e.1, hE D j u.2 _ _ (same_but s6) e.2⟩
  · have e : i = xs.length := by omega
    subst e
    rw [List.take_length] at pz
    exact .inl ⟨w.stops H q, done D H kvs nD s hz pz⟩
/-- the values are values -/
theorem dc_val1 (xs : List α) (key : α → Row) (f : α → V) (w : Walk J xs.length G Y) (hn : xs.length ≤ 1000) (nd : (xs.map key).Nodup) (hG : ∀ H', Same H1 H' → G H')
    (turn : ∀ i a x H2 H3 (R : V → V → Hp → Prop), xs[i]? = some a → Same H1 H2 → Y i H2 x H3 → (∀ H6, Same H2 H6 → R (.str (S (key a))) (f a) H6) →
      g x (wipe σ vs) H3 fun σ2 H4 => wipe σ2 vs = wipe σ vs ∧ tk σ2 H4 fun y H6 => tv σ2 H6 fun z H7 => R y z H7)
    (done : ∀ D H2, H1 D = none → Same H1 H2 → H2 D = some (.dK (xs.map fun a => (kR (key a), f a))) → Q (.ref D) H2) :
    DcG J g tYes tk tv vs σ H1 Q := by
  have hf : xs.filter (fun _ => true) = xs := List.filter_eq_self.mpr fun _ _ => rfl
  refine dc_relL xs key w hn (fun _ => true) (by rw [hf]; exact nd) (fun _ a v _ => v = f a) (fun _ _ _ _ _ _ e => e) hG (fun D i a x H2 H3 R R0 hi nD s _ y k1 k2 => turn i a x H2 H3 R hi s y (fun H6 s6 => k1 _ H6 rfl s6 rfl)) (fun D H2 kvs nD s hz pz => done D H2 nD s ?_)
  rw [hf] at pz
  have : ∀ {l : List α} {kvs : List (Key × V)}, Paired (fun a kv => kv.1 = kR (key a) ∧ kv.2 = f a) l kvs → kvs = l.map fun a => (kR (key a), f a) := by
    intro l kvs h
    induction h with
    | nil => rfl
    | cons r t ih => rw [List.map_cons, ← ih, ← r.1, ← r.2]
  rw [hz, this pz]
end
end NT
end
/-! ## D3 -/
section
set_option maxHeartbeats 2000000
namespace NT
open PySem PySem.Spec PyProof.Rows L2
/-! ### sorted rows -/
theorem lt_anti : ∀ {x y : Row}, ltCps x y = false → ltCps y x = false → x = y
  | [], [], _, _ => rfl
  | [], _ :: _, h, _ => by simp [ltCps] at h
  | _ :: _, [], _, h => by simp [ltCps] at h
  | a :: x, b :: y, h, k => by
    simp only [ltCps, Bool.or_eq_false_iff, Bool.and_eq_false_iff, decide_eq_false_iff_not, beq_eq_false_iff_ne] at h k
    have e : a = b := by omega
    subst e
    rcases h.2 with h2 | h2
    · exact absurd rfl h2
    rcases k.2 with k2 | k2
    · exact absurd rfl k2
    rw [lt_anti h2 k2]
theorem le_trans3 : ∀ {x y z : Row}, ltCps y x = false → ltCps z y = false → ltCps z x = false
  | [], _, [], _, _ => rfl
  | [], _, _ :: _, _, _ => rfl
  | _ :: _, [], _, h, _ => by simp [ltCps] at h
  | _ :: _, _ :: _, [], _, h => by simp [ltCps] at h
  | a :: x, b :: y, c :: z, h, k => by
    simp only [ltCps, Bool.or_eq_false_iff, Bool.and_eq_false_iff, decide_eq_false_iff_not, beq_eq_false_iff_ne] at h k ⊢
    refine ⟨by omega, ?_⟩
    by_cases e : c = a
    · right
      have e1 : a = b := by omega
      have e2 : b = c := by omega
      rcases h.2 with h2 | h2
      · exact absurd e1.symm h2
      rcases k.2 with k2 | k2
      · exact absurd e2.symm k2
      exact le_trans3 h2 k2
    · left; exact e
/-- rising, equal ones side by side -/
def Srt (l : List Row) : Prop := l.Pairwise fun x y => ltCps y x = false
theorem rising_all : ∀ (l : List Row) (p : Row), risingS (S p) (l.map S) = true → Srt (p :: l)
  | [], p, _ => List.pairwise_singleton ..
  | x :: l, p, h => by
    have h : (!ltCps (S x).cps.toList (S p).cps.toList && risingS (S x) (l.map S)) = true := h
    rw [S_list, S_list, Bool.and_eq_true, Bool.not_eq_true'] at h
    have ih := rising_all l x h.2
    refine List.pairwise_cons.mpr ⟨fun y hy => ?_, ih⟩
    rcases List.mem_cons.mp hy with e | hy
    · rw [e]; exact h.1
    · exact le_trans3 h.1 ((List.pairwise_cons.mp ih).1 y hy)
theorem srt_of {l : List Row} (h : sortedS (l.map S) = true) : Srt l := by
  cases l with
  | nil => exact List.Pairwise.nil
  | cons x l => exact rising_all l x h
theorem srt_unique {l l' : List Row} (p : l.Perm l') (h : Srt l) (h' : Srt l') : l = l' := by
  induction l generalizing l' with
  | nil => exact (List.nil_perm.mp p).symm
  | cons x l ih =>
    cases l' with
    | nil => exact absurd p.length_eq (by simp)
    | cons y l' =>
      obtain ⟨h1, h2⟩ := List.pairwise_cons.mp h
      obtain ⟨h3, h4⟩ := List.pairwise_cons.mp h'
      have hxy : x = y := by
        have hx : x ∈ y :: l' := p.mem_iff.mp List.mem_cons_self
        have hy : y ∈ x :: l := p.mem_iff.mpr List.mem_cons_self
        rcases List.mem_cons.mp hx with e | e
        · exact e
        · rcases List.mem_cons.mp hy with e2 | e2
          · exact e2.symm
          · exact lt_anti (h3 x e) (h1 y e2) |>.symm ▸ rfl
      subst hxy
      rw [ih (List.perm_cons _ |>.mp p) h2 h4]
/-- two rising lists of the same members, each once -/
theorem srt_same {l l' : List Row} (n : l.Nodup) (n' : l'.Nodup) (m : ∀ x, x ∈ l ↔ x ∈ l') (h : Srt l) (h' : Srt l') : l = l' :=
  srt_unique ((List.perm_ext_iff_of_nodup n n').mpr m) h h'
theorem map_strs : ∀ {ys : List Str} {l : List Row}, ys.Perm (l.map S) → ∃ l' : List Row, ys = l'.map S ∧ l'.Perm l := by
  intro ys l h
  refine ⟨ys.map fun y => y.cps.toList, ?_, ?_⟩
  · rw [List.map_map]
    have : (S ∘ fun y : Str => y.cps.toList) = id := by
      funext y
      show (⟨y.cps.toList.toArray⟩ : Str) = y
      rw [Array.toArray_toList]
    rw [this, List.map_id]
  · have h2 := h.map fun y : Str => y.cps.toList
    rw [List.map_map] at h2
    have : ((fun y : Str => y.cps.toList) ∘ S) = id := by funext x; exact S_list x
    rw [this, List.map_id] at h2
    exact h2
theorem w_sortedR {K : PySem.W.Frag} {H : Hp} {Q : VK} {a : Addr} {l : List Row} (h : SqL K H a (l.map fun r => .str (S r))) (hl : l.length < 64) (q : ∀ (l' : List Row) (p : Addr), l'.Perm l → Srt l' → H p = none → Q (.ref p) (upd H p (.lst (l'.map fun r => .str (S r))))) : rSortedS K [.ref a] H Q := by
  refine ⟨a, l.map S, rfl, by rw [List.map_map]; exact h, by rw [List.length_map]; exact hl, fun ys p h1 h2 n => ?_⟩
  obtain ⟨l', rfl, h3⟩ := map_strs h1
  have h4 := q l' p h3 (srt_of h2) n
  rw [List.map_map]
  exact h4
/-- the lowest weights, in the rows' order: l in the order -/
def lowOf (l : List Row) (ws : Ws) : Ws := l.map fun r => (r, (lookA ws r).getD 0 / gcdW ws)
def sp_lowest (K : PySem.W.Frag) : Sp := fun vs H Q _ => ∃ d ws, vs = [.ref d] ∧ H d = some (.dK (WD ws)) ∧ ws.length ≤ 40 ∧ (ws.map (·.1)).Nodup ∧ ws ≠ [] ∧ (∀ a ∈ ws, 1 ≤ a.2 ∧ a.2 < 1000000) ∧
  ∀ p H' l, Same H H' → H p = none → l.Perm (ws.map (·.1)) → Srt l → H' p = some (.dK (WD (lowOf l ws))) → Q (.ref p) H'
def sp_lowest_weights := sp_lowest
def sp_law_plain := sp_lowest
theorem gcd_take (ws : Ws) (i : Nat) (a : Row × Nat) (h : ws[i]? = some a) : gcdW (ws.take (i + 1)) = a.2.gcd (gcdW (ws.take i)) := by
  unfold gcdW
  rw [List.take_succ, h, List.foldl_append]
  rfl
theorem gcd_fold_dvd : ∀ (ws : Ws) (g : Nat), (ws.foldl (fun g a => a.2.gcd g) g) ∣ g ∧ ∀ a ∈ ws, (ws.foldl (fun g a => a.2.gcd g) g) ∣ a.2
  | [], g => ⟨Nat.dvd_refl _, fun a h => by cases h⟩
  | b :: ws, g => by
    obtain ⟨h1, h2⟩ := gcd_fold_dvd ws (b.2.gcd g)
    rw [List.foldl_cons]
    refine ⟨Nat.dvd_trans h1 (Nat.gcd_dvd_right _ _), fun a ha => ?_⟩
    rcases List.mem_cons.mp ha with e | e
    · rw [e]; exact Nat.dvd_trans h1 (Nat.gcd_dvd_left _ _)
    · exact h2 a e
theorem gcdW_dvd {ws : Ws} {a : Row × Nat} (h : a ∈ ws) : gcdW ws ∣ a.2 := (gcd_fold_dvd ws 0).2 a h
theorem gcdW_pos {ws : Ws} (ne : ws ≠ []) (p : ∀ a ∈ ws, 1 ≤ a.2 ∧ a.2 < 1000000) : 0 < gcdW ws ∧ gcdW ws < 1000000 := by
  obtain ⟨b, hb⟩ := List.exists_mem_of_ne_nil ws ne
  have h1 := p b hb
  have h2 := Nat.le_of_dvd (by omega) (gcdW_dvd hb)
  refine ⟨Nat.pos_of_dvd_of_pos (gcdW_dvd hb) (by omega), by omega⟩
end NT
end
namespace NT
open PySem PySem.Spec PyProof.Rows L2
local macro_rules | `(tactic| walk_at "g1") => `(tactic| first
  | ((with_reducible refine w_var (v := ?vv) ?_ ?hh); (case hh => exact rfl))
  | (with_reducible refine w_c ?_)
  | (with_reducible refine w_op ?_)
  | (with_reducible refine w_un ?_)
  | (with_reducible refine w_I0 ?_)
  | (with_reducible refine w_U ?_)
  | (with_reducible refine w_dot ?_)
  | (with_reducible refine w_ndot ?_)
  | (with_reducible refine w_plusS ?_)
  | (with_reducible refine w_it ?_)
  | (with_reducible refine w_if0 ?_)
  | ((with_reducible refine w_wp ?_ ?hh); (case hh => exact rfl))
  | (with_reducible refine w_eqI ?_)
  | (with_reducible refine w_neI ?_)
  | (with_reducible refine w_eqS ?_)
  | (with_reducible refine w_neS ?_)
  | ((with_reducible refine w_eq ?_ ?hh); (case hh => exact rfl))
  | ((with_reducible refine w_ne ?_ ?hh); (case hh => exact rfl))
  | (with_reducible refine w_isN ?_)
  | (with_reducible refine w_notN ?_)
  | (with_reducible refine w_inS ?_)
  | (with_reducible refine w_notInS ?_)
  | (with_reducible refine w_test ?_)
  | (with_reducible refine w_tB ?_)
  | (with_reducible refine w_bl ?_)
  | (with_reducible refine w_not ?_)
  | (with_reducible refine w_and ?_)
  | (with_reducible refine w_or ?_)
  | (with_reducible refine w_tru ?_)
  | (with_reducible refine w_andV ?_)
  | (with_reducible refine w_orV ?_)
  | (with_reducible refine w_notV ?_)
  | (with_reducible refine w_if ?_)
  | (with_reducible refine w_nil ?_)
  | (with_reducible refine w_cons ?_)
  | (with_reducible refine w_CB ?_)
  | (with_reducible refine w_call ?_)
  | (with_reducible refine w_seq ?_)
  | (with_reducible refine w_asg ?_)
  | (with_reducible refine w_name ?_)
  | (with_reducible refine w_ret ?_)
  | (with_reducible refine w_ifs ?_)
  | (with_reducible refine w_nx ?_)
  | (with_reducible refine w_drop ?_)
  | (with_reducible refine w_par ?_)
  | (with_reducible refine w_par2 ?_)
  | (with_reducible refine w_par3 ?_)
  | (with_reducible refine w_par33 ?_)
  | (with_reducible refine w_lc ?_)
  | (with_reducible refine w_SS ?_)
  | (with_reducible refine w_SS2 ?_)
  | (with_reducible refine w_iStr ?_)
  | (with_reducible refine w_str ?_)
  | (with_reducible refine w_iList ?_)
  | (with_reducible refine w_rng ?_)
  | (with_reducible refine w_for ?_)
  | (with_reducible refine w_enum ?_)
  | ((with_reducible refine w_aref (xs := ?xx) ?hh ?_); (case hh => walk_at "sq"))
  | ((with_reducible refine w_aref2 (xs := ?xx) ?hh ?_); (case hh => walk_at "sq"))
  | (with_reducible refine w_gt2 ?_)
  | (with_reducible refine w_yes ?_)
  | (with_reducible refine w_M1 ?_)
  | (with_reducible refine w_and2 ?_)
  | (with_reducible refine w_abs ?_)
  | (with_reducible refine w_int ?_)
  | ((with_reducible refine w_t0 (x := ?vv) (xs := ?ww) ?_ ?hh); (case hh => walk_at "at"))
  | ((with_reducible refine w_t1 (x := ?vv) (y := ?uu) (xs := ?ww) ?_ ?hh); (case hh => walk_at "at"))
  | ((with_reducible refine w_ixS (c := ?cc) ?_ ?hh ?hl); (case hh => assumption); (case hl => walk_at "om"))
  | ((with_reducible refine w_lenS ?_ ?hl); (case hl => walk_at "om"))
  | ((with_reducible refine w_lenM (α := ?aa) (l := ?ll) (f := ?ff) ?_ ?hh); (case hh => walk_at "sq"))
  | ((with_reducible refine w_lenT (xs := ?xx) ?_ ?hh); (case hh => walk_at "at"))
  | ((with_reducible refine w_lenL (xs := ?xx) ?_ ?hh); (case hh => walk_at "sq"))
  | ((with_reducible refine w_dots ?_ ?hh); (case hh => walk_at "om"))
  | (with_reducible refine w_countD ?_)
  | (with_reducible refine w_count ?_)
  | ((with_reducible refine w_rng2 ?_ ?hh); (case hh => walk_at "om"))
  | (with_reducible refine w_str ?_)
  | (with_reducible refine w_chain ?_)
  | (with_reducible refine w_ifnT ?_)
  | (with_reducible refine w_ifnF ?_)
  | (with_reducible refine w_isi_ss ?_)
  | (with_reducible refine w_isi_ii ?_)
  | (with_reducible refine w_isi_ib ?_)
  | ((with_reducible refine w_isi_tt (xs := ?xx) ?hh ?_); (case hh => walk_at "at"))
  | ((with_reducible refine w_isT_l (xs := ?xx) ?h1 ?h2 ?_); (case h1 => walk_at "at"); (case h2 => walk_at "at"))
  | ((with_reducible refine w_decT ?hh ?_); (case hh => walk_at "ar"))
  | ((with_reducible refine w_decF ?hh ?_); (case hh => walk_at "ar"))
  | ((with_reducible refine w_ndecT ?hh ?_); (case hh => walk_at "ar"))
  | ((with_reducible refine w_ndecF ?hh ?_); (case hh => walk_at "ar"))
  | ((with_reducible refine w_inL (l := ?ll) ?hh ?_); (case hh => walk_at "sq"))
  | ((with_reducible refine w_ninL (l := ?ll) ?hh ?_); (case hh => walk_at "sq"))
  | ((with_reducible refine w_pnew ?_ ?hh); (case hh => exact rfl); (intro p hp))
  | (with_reducible refine w_SL ?_)
  | ((with_reducible refine w_SL2 (xs := ?xx) ?hh ?_); (case hh => walk_at "sq"))
  | (with_reducible refine w_sl ?_)
  | (with_reducible refine w_nopart ?_)
  | (with_reducible refine w_part ?_)
  | (with_reducible refine w_part2 ?_)
  | ((with_reducible refine w_gt2T (x := ?xx) (y := ?yy) ?hh ?_); (case hh => walk_at "at"))
  | ((with_reducible refine w_gt3T (x := ?xx) (y := ?yy) (z := ?zz) ?hh ?_); (case hh => walk_at "at"))
  | (with_reducible refine w_bm ?_)
  | (with_reducible refine w_bm0 ?_)
  | ((with_reducible refine w_tyL (xs := ?xx) ?hh ?_); (case hh => walk_at "at"))
  | ((with_reducible refine w_dnew ?_); intro p hp)
  | (with_reducible refine w_lkeys ?_)
  | (with_reducible refine w_lvals ?_)
  | (with_reducible refine w_svals ?_)
  | ((with_reducible refine w_disp ?_); intro p hp)
  | ((with_reducible refine w_dend ?hh ?_); (case hh => walk_at "at"))
  | ((with_reducible refine w_l0 (x0 := ?x0) (x1 := ?x1) (x2 := ?x2) (x3 := ?x3) (x4 := ?x4) ?_ ?hh); (case hh => walk_at "at"))
  | ((with_reducible refine w_l1 (x0 := ?x0) (x1 := ?x1) (x2 := ?x2) (x3 := ?x3) (x4 := ?x4) ?_ ?hh); (case hh => walk_at "at"))
  | ((with_reducible refine w_l2 (x0 := ?x0) (x1 := ?x1) (x2 := ?x2) (x3 := ?x3) (x4 := ?x4) ?_ ?hh); (case hh => walk_at "at"))
  | ((with_reducible refine w_l3 (x0 := ?x0) (x1 := ?x1) (x2 := ?x2) (x3 := ?x3) (x4 := ?x4) ?_ ?hh); (case hh => walk_at "at"))
  | ((with_reducible refine w_l4 (x0 := ?x0) (x1 := ?x1) (x2 := ?x2) (x3 := ?x3) (x4 := ?x4) ?_ ?hh); (case hh => walk_at "at"))
  | ((with_reducible refine w_s1 (x0 := ?x0) (x1 := ?x1) (x2 := ?x2) (x3 := ?x3) (x4 := ?x4) ?_ ?hh); (case hh => walk_at "at"))
  | ((with_reducible refine w_s2 (x0 := ?x0) (x1 := ?x1) (x2 := ?x2) (x3 := ?x3) (x4 := ?x4) ?_ ?hh); (case hh => walk_at "at"))
  | ((with_reducible refine w_s3 (x0 := ?x0) (x1 := ?x1) (x2 := ?x2) (x3 := ?x3) (x4 := ?x4) ?_ ?hh); (case hh => walk_at "at"))
  | ((with_reducible refine w_s4 (x0 := ?x0) (x1 := ?x1) (x2 := ?x2) (x3 := ?x3) (x4 := ?x4) ?_ ?hh); (case hh => walk_at "at"))
  | (with_reducible refine w_gsub ?_)
  | (with_reducible refine w_fld1 ?_)
  | ((with_reducible refine w_fld2 (C := ?CC) (dx := ?dx) (fs := ?fs) (v := ?vv) ?h1 ?h2 ?h3 ?h4 ?_); (case h1 => walk_at "at"); (case h2 => assumption); (case h3 => assumption); (case h4 => assumption))
  | (with_reducible refine w_meth ?_)
  | ((with_reducible refine w_meth2 (dx := ?dx) (fs := ?fs) ?h1 ?h2 ?_); (case h1 => walk_at "at"); (case h2 => assumption))
  | (with_reducible refine w_prop ?_)
  | ((with_reducible refine w_prop2 (dx := ?dx) (fs := ?fs) ?h1 ?_); (case h1 => walk_at "at"))
  | (with_reducible refine w_sfld ?_)
  | (with_reducible refine w_make ?_)
  | (with_reducible refine w_dc ?_)
  | (with_reducible refine w_dget ?_)
  | (with_reducible refine w_dget2 ?_)
  | (with_reducible refine w_din ?_)
  | (with_reducible refine w_dnin ?_)
  | (with_reducible refine w_dput ?_)
  | (with_reducible refine w_items ?_)
  | (with_reducible refine w_vals ?_)
  | (with_reducible refine w_keysM ?_)
  | (with_reducible refine w_keys ?_)
  | ((with_reducible refine w_frz (od := ?oo) (kvs := ?kk) ?hh ?_); (case hh => walk_at "at"))
  | ((with_reducible refine w_frzK (od := ?oo) (kvs := ?kk) ?hh ?_); (case hh => walk_at "at"))
  | ((with_reducible refine w_sortLots ?_); intro fkey)
  | (with_reducible refine w_tup ?_)
  | (with_reducible refine w_lst ?_))
local macro_rules | `(tactic| walk_at "ar") => `(tactic| first | omega | exact rfl)
local macro_rules | `(tactic| walk_at "om") => `(tactic| first | assumption | omega)
local macro_rules | `(tactic| walk_at "go") => `(tactic| repeat (walk_at "g1"))
local macro_rules | `(tactic| walk_at "sm") => `(tactic| first
  | exact Same.refl _
  | assumption
  | exact same_new (by assumption)
  | (refine Same.trans ?_ (same_new (by assumption)); walk_at "sm")
  | (refine same_mut ?_ (by assumption); walk_at "sm")
  | (refine Same.trans ?_ (by assumption); walk_at "sm"))
local macro_rules | `(tactic| walk_at "sq") => `(tactic| first
  | assumption
  | ((refine Same.seq ?_ (by assumption)); walk_at "sm"))
local macro_rules | `(tactic| walk_at "at") => `(tactic| first
  | assumption
  | exact upd_same
  | exact (by assumption : Same _ _) _ _ (by assumption)
  | ((refine (?ss : Same _ _) _ _ (by assumption)); (case ss => walk_at "sm")))
local macro_rules | `(tactic| walk_at "lg") => `(tactic| first | assumption | (rw [Int.natAbs_natCast]; omega))
local macro_rules | `(tactic| walk_at "sb") => `(tactic| first
  | exact SBut.refl
  | assumption
  | exact same_but (by assumption)
  | exact sbut_new (by assumption)
  | (refine SBut.trans ?_ (sbut_new (by assumption)); walk_at "sb")
  | (refine sbut_mut ?_ (by assumption); walk_at "sb")
  | (refine SBut.trans ?_ (by assumption); walk_at "sb")
  | (refine SBut.trans ?_ (same_but (by assumption)); walk_at "sb"))
/-! ## F7 -/
section
set_option maxHeartbeats 2000000
open PySem PySem.Spec PyProof.Rows L2


variable {P : Program} {w : World} {K : PySem.W.Frag} {mg : Str → Option Value} {base : Heap}
abbrev nm_lowest_weights : List Str := ["weights", "divisor", "weight", "row"]
theorem sc_lowest_weights : FnScope nm_lowest_weights ["weights"] (defScope s_lowest_weights) := ⟨rfl, rfl, rfl, by decide +kernel, rfl, by decide +kernel, by decide +kernel⟩
abbrev t_lowest_weights (K : PySem.W.Frag) : TS := (tSeq (tAsg (tC (.int 0)) (gName 1))
    (tSeq (tLock (tFor (iVals (tVar 0)) (gName 2) (tAsg (tCall (sp_common_divisor_sums K) [] E0 (tCons (tVar 2) (tCons (tVar 1) tNil))) (gName 1))))
    (tRet (tDc (iList K (tCB (rSortedS K) (tCons (tCB rListD (tCons (tVar 0) tNil)) tNil))) (gName 3) tYes (tVar 3) (tOp rDivW (tDGet (tVar 0) (tVar 3)) (tVar 1)) [3]))))
theorem c_lowest_weights (T : Tx K mg) : C8.Cal P w K mg base 2 "lowest_weights" (sp_lowest_weights K) [] := by
  refine calG T.f_lowest_weights (fun _ _ _ _ _ _ us hl => match us, hl with | [_], _ => rfl) sc_lowest_weights (fun vs H Q E h => ?_) (fun f cdv A outer s H vs Q E hr h => have hu := hu_of hr; ⟨t_lowest_weights K, (pss_cons (ps_set (i := 1) sc_lowest_weights.nd rfl (Or.inr rfl) pe_int)
      (pss_cons (ps_lock (ps_for PassesOwn.never rfl (pi_values (pv 0)) (pg_name (i := 2) sc_lowest_weights.nd rfl (Or.inl rfl) (hf := Or.inr rfl)) (pss_one (ps_set (i := 1) sc_lowest_weights.nd rfl (Or.inr rfl) (C8.pe_c (c_common_divisor_sums T) hr (by decide) (by rfl) (pa_cons (pv 2) (pa_cons (pv 1) pa_nil)))))))
      (pss_one (ps_ret (pe_dc (own := [("row", 3)]) rfl sc_lowest_weights.nd (pi_list (pe_callB cr_sortedS (by rfl) T.b_sorted bt_sorted (pa_cons (pe_callTy (call_listD rfl) (by rfl) T.b_list bt_list (pa_cons (pv 0) pa_nil)) pa_nil))) (blkOk_by (own := [("row", 3)]) (N := nm_lowest_weights) (sc := (defScope s_lowest_weights)) (by decide +kernel)) (fun _ _ _ _ _ => (pg_name (i := 3) sc_lowest_weights.nd rfl (Or.inl rfl) (hf := Or.inr rfl))) (fun _ _ _ _ _ => pts_nil) (fun _ _ _ _ _ => (pv 3)) (fun _ _ _ _ _ => (pe_op op_fdivW (pe_dget hu (pv 0) (pv 3) (fun _ _ => rfl)) (pv 1)))))))), ?_⟩)
  · obtain ⟨d, ws, rfl, _⟩ := h
    rfl
  · obtain ⟨d, ws, rfl, hd, hl, nd, ne, hp, k⟩ := h
    refine w_seq (w_asg (w_c (w_name (w_seq ?_))))
    refine w_lock hd fun od => ?_
    walk_at "go"
    refine for_G (n := ws.length) walk_valsKD (fun i σ H' => Same (upd H d (.frz od (.dK (WD ws)))) H' ∧ ∃ u v, σ = [some (.ref d), some (.int (gcdW (ws.take i) : Nat)), u, v]) ⟨Same.refl _, _, _, rfl⟩ (fun i σ H' _ h => h.1 _ _ upd_same) ?_ ?_
    · rintro i v σ H2 H3 hi ⟨s2, u, v', rfl⟩ ⟨rfl, a, ha, rfl⟩
      walk_at "go"
      refine ⟨_, _, rfl, fun H4 s4 => ?_⟩
      walk_at "go"
      rw [← gcd_take ws i a ha]
      exact ⟨s2.trans s4, _, _, rfl⟩
    · rintro σ H2 ⟨s2, u, v', rfl⟩
      rw [List.take_length]
      have hd2 : H2 d = some (.frz od (.dK (WD ws))) := s2 _ _ upd_same
      have s3 := same_unlock hd s2
      refine ⟨hd2, ?_⟩
      have hd3 : upd H2 d (.dK (WD ws)) d = some (.dK (WD ws)) := upd_same
      generalize upd H2 d (.dK (WD ws)) = H3 at s3 hd3
      walk_at "go"
      refine ⟨d, WD ws, rfl, .inl hd3, fun p1 n1 => ?_⟩
      walk_at "go"
      have e1 : (WD ws).map (fun kv => kV kv.1) = (ws.map (·.1)).map fun r => V.str (S r) := by unfold WD KD; rw [List.map_map, List.map_map]; rfl
      rw [e1]
      refine w_sortedR (l := ws.map (·.1)) (.inl (.inl upd_same)) (by rw [List.length_map]; omega) fun l p2 pm sr n2 => ?_
      have hll : l.length = ws.length := by rw [pm.length_eq, List.length_map]
      have s4 : Same H3 (upd (upd H3 p1 (.lst ((ws.map (·.1)).map fun r => V.str (S r)))) p2 (.lst (l.map fun r => V.str (S r)))) := by walk_at "sm"
      generalize hG4 : upd (upd H3 p1 (.lst ((ws.map (·.1)).map fun r => V.str (S r)))) p2 (.lst (l.map fun r => V.str (S r))) = H4 at s4
      have hq : SqL K H4 p2 (l.map fun r => V.str (S r)) := by rw [← hG4]; exact .inl (.inl upd_same)
      have hd4 : H4 d = some (.dK (WD ws)) := s4 _ _ hd3
      have gp := gcdW_pos ne hp
      have mem : ∀ r ∈ l, ∃ n, lookA ws r = some n := fun r hr => by
        obtain ⟨a, ha, e⟩ := List.mem_map.mp (pm.mem_iff.mp hr)
        exact ⟨a.2, by rw [← e]; exact look_mem nd ha⟩
      walk_at "go"
      refine dc_val1 l (fun r => r) (fun r => .int (((lookA ws r).getD 0 / gcdW ws : Nat) : Int)) walk_listM (by omega) (by rw [List.map_id']; exact pm.nodup_iff.mpr nd) (fun H' s => s.seq hq) ?_ ?_
      · rintro i r v H5 H6 R hi s5 ⟨rfl, r', hr', rfl⟩ k1
        obtain rfl : r' = r := Option.some.inj (hr'.symm.trans hi)
        obtain ⟨n, hn⟩ := mem r' (List.mem_of_getElem? hi)
        walk_at "go"
        refine w_dgetR (l := ws) (f := fun n : Nat => V.int n) (.inl (s5 _ _ hd4)) hn ?_
        walk_at "go"
        refine w_I ⟨by omega, ?_⟩ ?_
        · rw [Int.natAbs_natCast]
          exact Nat.lt_of_le_of_lt (log2_mono (Nat.le_of_lt gp.2)) (by decide)
        rw [hn] at k1
        have e2 : ((n : Int) / (gcdW ws : Int)) = ((n / gcdW ws : Nat) : Int) := by rw [Int.natCast_ediv]
        rw [e2]
        exact k1 _ (Same.refl _)
      · intro D H5 nD s5 hD
        refine k D H5 l ((s3.trans s4).trans s5) ((s3.trans s4).free nD) pm sr ?_
        rw [hD]
        unfold lowOf WD KD
        rw [List.map_map]
        rfl
abbrev nm_older_moves : List Str := ["deeds", "row", "goal", "bits", "found", "deed", "lot", "weight", "target"]
theorem sc_older_moves : FnScope nm_older_moves ["deeds", "row", "goal"] (defScope s_older_moves) := ⟨rfl, rfl, rfl, by decide +kernel, rfl, by decide +kernel, by decide +kernel⟩
abbrev t_older_moves (K : PySem.W.Frag) : TS := (tSeq (tAsg (tCall (sp_mask K) [] E0 (tCons (tVar 1) tNil)) (gName 3))
    (tSeq (tAsg tDNewK (gName 4))
    (tSeq (tFor (iList K (tVar 0)) (gTup K 3 (gCons (gName 5) (gCons (gName 6) (gCons (gName 7) gNil)))) (tIfS (tTest (tOp rNe (tOp rAndI (tVar 6) (tVar 3)) (tVar 6))) (tSeq (tAsg (tCall (sp_over K) [] E0 (tCons (tVar 1) (tCons (tVar 5) tNil))) (gName 8))
    (tIfS (tOr (tTest (tOp rIsN (tVar 2) (tC .non))) (tTest (tOp rEq (tCall (sp_over K) [] E0 (tCons (tVar 8) (tCons (tVar 2) tNil))) (tVar 2)))) (sDPut (tVar 4) (tVar 8) (tOp rAddI (tDGet2 (tVar 4) (tVar 8) (tC (.int 0))) (tVar 7))) tNext)) tNext))
    (tRet (tVar 4)))))
theorem c_older_moves (T : Tx K mg) : C8.Cal P w K mg base 2 "older_moves" (sp_older_moves K) [] := by
  refine calGd T.f_older_moves (n := 3) (j := 1) (List.cons_ne_nil _ _) rfl (fun _ _ _ _ _ _ _ us its h1 h2 => match us, h1, its, h2 with | [_, _, _], _, [_], _ => ⟨_, rfl, rfl⟩) sc_older_moves (fun vs H Q E h => ?_) (fun f cdv A outer s H vs Q E hr h => have hu := hu_of hr; ⟨t_older_moves K, (pss_cons (ps_set (i := 3) sc_older_moves.nd rfl (Or.inl rfl) (C8.pe_c (c_mask T) hr (by decide) (by rfl) (pa_cons (pv 1) pa_nil)))
      (pss_cons (ps_set (i := 4) sc_older_moves.nd rfl (Or.inl rfl) pe_dnewK)
      (pss_cons (ps_for PassesOwn.never rfl (pi_list (pv 0)) (pg_tup rfl (pgs_cons (pg_name (i := 5) sc_older_moves.nd rfl (Or.inl rfl) (hf := Or.inr rfl)) (pgs_cons (pg_name (i := 6) sc_older_moves.nd rfl (Or.inl rfl) (hf := Or.inr rfl)) (pgs_cons (pg_name (i := 7) sc_older_moves.nd rfl (Or.inl rfl) (hf := Or.inr rfl)) pgs_nil)))) (pss_one (ps_if (pt_cmpR op_ne (pe_op op_and (pv 6) (pv 3)) (pv 6) (nomark _)) (pss_cons (ps_set (i := 8) sc_older_moves.nd rfl (Or.inl rfl) (C8.pe_c (c_over T) hr (by decide) (by rfl) (pa_cons (pv 1) (pa_cons (pv 5) pa_nil))))
      (pss_one (ps_if (PW.pt (pw_or (pt_cmpR op_isN (pv 2) pe_non (nomark _)) (pw_or1 (pt_cmpR op_eq (C8.pe_c (c_over T) hr (by decide) (by rfl) (pa_cons (pv 8) (pa_cons (pv 2) pa_nil))) (pv 2) (nomark _))))) (pss_one (ps_dput hu (pv 4) (pv 8) (pe_op op_add (pe_dget2 hu (pv 4) (pv 8) pe_int ⟨rfl, rfl, rfl, rfl⟩) (pv 7)) rfl)) pss_nil))) pss_nil)))
      (pss_one (ps_ret (pv 4)))))), ?_⟩)
  · obtain ⟨p, ws, ps, row, rfl, _⟩ := h
    rfl
  · obtain ⟨p, ws, ps, row, rfl, hp, hP, hl, hlen, hrow, k⟩ := h
    have hq : SqL K H p ps := .inl (.inl hp)
    walk_at "go"
    refine ⟨_, rfl, hrow, fun H1 s1 => ?_⟩
    walk_at "go"
    rename_i d nd
    have nd0 : H d = none := s1.free nd
    refine for_G (n := ws.length) (walk_pair hP) (fun i σ H' => Same H H' ∧ H' d = some (.dK (WD (moves (ws.take i) row))) ∧ ∃ u5 u6 u7 u8, σ = [some (.ref p), some (.str (S row)), some .non, some (.int (mask row : Nat)), some (.ref d), u5, u6, u7, u8])
      ⟨by walk_at "sm", upd_same, _, _, _, _, rfl⟩ (fun i σ H' _ h => h.1.seq hq) ?_ ?_
    · rintro i v σ H2 H3 hi ⟨s2, hd2, u5, u6, u7, u8, rfl⟩ ⟨rfl, a, ha, hv⟩
      obtain ⟨q, rfl, hqq⟩ := hv.same s2
      have hal := hlen _ (List.mem_of_getElem? ha)
      have hml := moves_len (ws.take i) row
      have hst := moves_step ws row i a ha
      rw [List.length_take] at hml
      walk_at "go"
      rw [bitAnd_nat]
      refine w_ndec (fun e => ?_) (fun e => ?_)
      · rw [if_neg (by simp only [beq_iff_eq]; omega)] at hst
        walk_at "go"
        refine ⟨_, _, rfl, hrow, fun H4 s4 => ?_⟩
        have hd4 : H4 d = some (.dK (KD (fun n : Nat => V.int n) (moves (ws.take i) row))) := s4 _ _ hd2
        walk_at "go"
        refine ⟨d, rfl, w_isD (.inl hd4) ?_⟩
        walk_at "go"
        refine w_dget2W (l := moves (ws.take i) row) (.inl hd4) fun o ho => ?_
        rw [ho]
        walk_at "go"
        refine w_dputR (f := fun n : Nat => V.int n) (v := (lookA (moves (ws.take i) row) (ov row a.1)).getD 0 + a.2) hd4 (by omega) ?_
        refine ⟨by walk_at "sm", ?_, _, _, _, _, rfl⟩
        rw [hst]; exact upd_same
      · rw [if_pos (by simp only [beq_iff_eq]; omega)] at hst
        walk_at "go"
        exact ⟨s2, by rw [hst]; exact hd2, _, _, _, _, rfl⟩
    · rintro σ H2 ⟨s2, hd2, u5, u6, u7, u8, rfl⟩
      rw [List.take_length] at hd2
      walk_at "go"
      exact k _ _ s2 nd0 hd2
end
/-! ## F8 -/
section
set_option maxHeartbeats 2000000
open PySem PySem.Spec PyProof.Rows L2


variable {P : Program} {w : World} {K : PySem.W.Frag} {mg : Str → Option Value} {base : Heap}
abbrev nm_law_plain : List Str := ["_law_load_here", "_law_shared", "_law_found", "_law_row"]
theorem sc_law_plain : FnScope nm_law_plain ["_law_load_here"] (defScope s_law_plain) := ⟨rfl, rfl, rfl, by decide +kernel, rfl, by decide +kernel, by decide +kernel⟩
abbrev t_law_plain (K : PySem.W.Frag) : TS := (tSeq (tPar 1 2 (tCons (tC (.int 0)) (tCons tDNewK tNil)))
    (tSeq (tLock (tFor (iKeysM (tVar 0)) (gName 3) (tAsg (tCall (sp_law_gcd K) [] E0 (tCons (tVar 1) (tCons (tDGet (tVar 0) (tVar 3)) tNil))) (gName 1))))
    (tSeq (tFor (iList K (tCB (rSortedS K) (tCons (tListKeys (tVar 0)) tNil))) (gName 3) (sDPut (tVar 2) (tVar 3) (tOp rDivW (tDGet (tVar 0) (tVar 3)) (tVar 1))))
    (tRet (tVar 2)))))
theorem c_law_plain (T : Tx K mg) : C8.Cal P w K mg base 2 "_law_plain" (sp_law_plain K) [] := by
  refine calG T.f_law_plain (fun _ _ _ _ _ _ us hl => match us, hl with | [_], _ => rfl) sc_law_plain (fun vs H Q E h => ?_) (fun f cdv A outer s H vs Q E hr h => have hu := hu_of hr; ⟨t_law_plain K, (pss_cons (ps_par (i := 1) (j := 2) (by rfl) sc_law_plain.nd rfl rfl (by decide) rfl rfl (pa_cons pe_int (pa_cons pe_dnewK pa_nil)) (by rfl))
      (pss_cons (ps_lock (ps_for PassesOwn.never rfl (pi_keysM (pv 0)) (pg_name (i := 3) sc_law_plain.nd rfl (Or.inl rfl) (hf := Or.inr rfl)) (pss_one (ps_set (i := 1) sc_law_plain.nd rfl (Or.inl rfl) (C8.pe_c (c_law_gcd T) hr (by decide) (by rfl) (pa_cons (pv 1) (pa_cons (pe_dget hu (pv 0) (pv 3) (fun _ _ => rfl)) pa_nil)))))))
      (pss_cons (ps_for PassesOwn.never rfl (pi_list (pe_callB cr_sortedS (by rfl) T.b_sorted bt_sorted (pa_cons (pe_listKeys rfl (by rfl) T.b_list (pv 0)) pa_nil))) (pg_name (i := 3) sc_law_plain.nd rfl (Or.inl rfl) (hf := Or.inr rfl)) (pss_one (ps_dput hu (pv 2) (pv 3) (pe_op op_fdivW (pe_dget hu (pv 0) (pv 3) (fun _ _ => rfl)) (pv 1)) rfl)))
      (pss_one (ps_ret (pv 2)))))), ?_⟩)
  · obtain ⟨d, ws, rfl, _⟩ := h
    rfl
  · obtain ⟨d, ws, rfl, hd, hl, nd, ne, hp, k⟩ := h
    walk_at "go"
    rename_i f nf
    have hd0 : (upd H f (.dK [])) d = some (.dK (WD ws)) := same_new nf _ _ hd
    have hdf : d ≠ f := ne_of_none hd nf
    refine w_lock hd0 fun od => ?_
    walk_at "go"
    refine for_G (n := ws.length) walk_keysKD (fun i σ H' => Same (upd (upd H f (.dK [])) d (.frz od (.dK (WD ws)))) H' ∧ ∃ u, σ = [some (.ref d), some (.int (gcdW (ws.take i) : Nat)), some (.ref f), u]) ⟨Same.refl _, _, rfl⟩ (fun i σ H' _ h => h.1 _ _ upd_same) ?_ ?_
    · rintro i v σ H2 H3 hi ⟨s2, u, rfl⟩ ⟨rfl, a, ha, rfl⟩
      have ham := List.mem_of_getElem? ha
      walk_at "go"
      refine w_dgetR (l := ws) (f := fun n : Nat => V.int n) (.inr ⟨od, s2 _ _ upd_same⟩) (look_mem nd ham) ?_
      walk_at "go"
      refine ⟨_, _, rfl, fun H4 s4 => ?_⟩
      walk_at "go"
      rw [Int.natAbs_natCast, Int.natAbs_natCast, Nat.gcd_comm, ← gcd_take ws i a ha]
      exact ⟨s2.trans s4, _, rfl⟩
    · rintro σ H2 ⟨s2, u, rfl⟩
      rw [List.take_length]
      have hd2 : H2 d = some (.frz od (.dK (WD ws))) := s2 _ _ upd_same
      have s3' := same_unlock hd0 s2
      refine ⟨hd2, ?_⟩
      have hd3 : upd H2 d (.dK (WD ws)) d = some (.dK (WD ws)) := upd_same
      have s3 : Same H (upd H2 d (.dK (WD ws))) := (same_new nf).trans s3'
      have hf3 : upd H2 d (.dK (WD ws)) f = some (.dK []) := s3' _ _ upd_same
      generalize upd H2 d (.dK (WD ws)) = H3 at s3 hd3 hf3
      walk_at "go"
      refine ⟨d, WD ws, rfl, .inl hd3, fun p1 n1 => ?_⟩
      walk_at "go"
      have e1 : (WD ws).map (fun kv => kV kv.1) = (ws.map (·.1)).map fun r => V.str (S r) := by unfold WD KD; rw [List.map_map, List.map_map]; rfl
      rw [e1]
      refine w_sortedR (l := ws.map (·.1)) (.inl (.inl upd_same)) (by rw [List.length_map]; omega) fun l p2 pm sr n2 => ?_
      have hll : l.length = ws.length := by rw [pm.length_eq, List.length_map]
      have s4 : Same H3 (upd (upd H3 p1 (.lst ((ws.map (·.1)).map fun r => V.str (S r)))) p2 (.lst (l.map fun r => V.str (S r)))) := by walk_at "sm"
      generalize hG4 : upd (upd H3 p1 (.lst ((ws.map (·.1)).map fun r => V.str (S r)))) p2 (.lst (l.map fun r => V.str (S r))) = H4 at s4
      have hq : H4 p2 = some (.lst (l.map fun r => V.str (S r))) := by rw [← hG4]; exact upd_same
      have hd4 : H4 d = some (.dK (WD ws)) := s4 _ _ hd3
      have hf4 : H4 f = some (.dK []) := s4 _ _ hf3
      have s5 := s3.trans s4
      have gp := gcdW_pos ne hp
      have mem : ∀ r ∈ l, ∃ n, lookA ws r = some n := fun r hr => by
        obtain ⟨a, ha, e⟩ := List.mem_map.mp (pm.mem_iff.mp hr)
        exact ⟨a.2, by rw [← e]; exact look_mem nd ha⟩
      have ndl : l.Nodup := pm.nodup_iff.mpr nd
      have hqf : p2 ≠ f := fun z => by rw [z, hf4] at hq; cases hq
      have hqq : SqL K H4 p2 (l.map fun r => V.str (S r)) := .inl (.inl hq)
      walk_at "go"
      refine for_G (n := l.length) walk_listM (fun i σ H' => Same H H' ∧ H' d = some (.dK (WD ws)) ∧ H' p2 = some (.lst (l.map fun r => V.str (S r))) ∧ H' f = some (.dK (WD (lowOf (l.take i) ws))) ∧ ∃ u, σ = [some (.ref d), some (.int (gcdW ws : Nat)), some (.ref f), u])
        ⟨s5, hd4, hq, hf4, _, rfl⟩ (fun i σ H' _ h => .inl (.inl h.2.2.1)) ?_ ?_
      · rintro i v σ H5 H6 hi ⟨s6, hd5, hq5, hf5, u, rfl⟩ ⟨rfl, r, hr, rfl⟩
        obtain ⟨n, hn⟩ := mem r (List.mem_of_getElem? hr)
        walk_at "go"
        refine w_dgetR (l := ws) (f := fun n : Nat => V.int n) (.inl hd5) hn ?_
        walk_at "go"
        refine w_I ⟨by omega, ?_⟩ ?_
        · rw [Int.natAbs_natCast]
          exact Nat.lt_of_le_of_lt (log2_mono (Nat.le_of_lt gp.2)) (by decide)
        walk_at "go"
        rw [← Int.natCast_ediv]
        have hno : r ∉ (lowOf (l.take i) ws).map (·.1) := by
          unfold lowOf
          rw [List.map_map, show ((fun x : Row × Nat => x.1) ∘ fun r => (r, (lookA ws r).getD 0 / gcdW ws)) = id from rfl, List.map_id]
          exact nd_take ndl hr
        have hlen : (lowOf (l.take i) ws).length ≤ 1000 := by unfold lowOf; rw [List.length_map, List.length_take]; omega
        refine w_dputR (f := fun n : Nat => V.int n) (v := n / gcdW ws) hf5 hlen ?_
        refine ⟨same_mut s6 nf, by rw [upd_ne hdf]; exact hd5, by rw [upd_ne hqf]; exact hq5, ?_, _, rfl⟩
        rw [upd_same, putA_new hno]
        have e3 : lowOf (l.take (i + 1)) ws = lowOf (l.take i) ws ++ [(r, n / gcdW ws)] := by
          unfold lowOf
          rw [List.take_succ, hr, List.map_append]
          simp [hn]
        rw [e3]
      · rintro σ H5 ⟨s6, hd5, hq5, hf5, u, rfl⟩
        rw [List.take_length] at hf5
        walk_at "go"
        exact k f H5 l s6 nf pm sr hf5
end
/-! ## G0 -/
section
set_option maxHeartbeats 2000000
open PySem PySem.Spec PyProof.Rows L2
/-! ### rows over rows -/
theorem ov_lenE {x y : Row} (h : x.length = y.length) : (ov x y).length = x.length := by rw [ov_len, h, Nat.min_self]
theorem ov_assoc : ∀ (x y z : Row), ov (ov x y) z = ov x (ov y z)
  | [], _, _ => rfl
  | _ :: _, [], _ => rfl
  | _ :: _, _ :: _, [] => rfl
  | a :: x, b :: y, c :: z => by
    simp only [ov, ov_assoc x y z]
    by_cases h : a = 46
    · simp [h]
    · simp [h]
theorem ov_blankL : ∀ (y : Row), ov (List.replicate y.length 46) y = y
  | [] => rfl
  | b :: y => by rw [List.length_cons, List.replicate_succ]; simp only [ov, if_true, ov_blankL y]
theorem ov_blankR : ∀ (x : Row), ov x (List.replicate x.length 46) = x
  | [] => rfl
  | a :: x => by
    rw [List.length_cons, List.replicate_succ]
    simp only [ov, ov_blankR x]
    by_cases h : a = 46
    · simp [h]
    · simp [h]
/-- the products of the seeds -/
inductive Prd (n : Nat) (ss : List Row) : Row → Prop where
  | nil : Prd n ss (List.replicate n 46)
  | step {s r : Row} (h : s ∈ ss) (k : Prd n ss r) : Prd n ss (ov s r)
theorem Prd.len {n : Nat} {ss : List Row} (hs : ∀ s ∈ ss, s.length = n) {r : Row} (h : Prd n ss r) : r.length = n := by
  induction h with
  | nil => simp
  | step h k ih => rw [ov_len, hs _ h, ih, Nat.min_self]
theorem Prd.seed {n : Nat} {ss : List Row} (hs : ∀ s ∈ ss, s.length = n) {s : Row} (h : s ∈ ss) : Prd n ss s := by
  have := Prd.step h (Prd.nil (n := n) (ss := ss))
  rw [← hs s h, ov_blankR, hs s h] at this
  exact this
theorem Prd.mul {n : Nat} {ss : List Row} (hs : ∀ s ∈ ss, s.length = n) {r q : Row} (h : Prd n ss r) (k : Prd n ss q) : Prd n ss (ov r q) := by
  induction h with
  | nil =>
    have e := k.len hs
    rw [← e, ov_blankL, e]
    exact k
  | step h _ ih => rw [ov_assoc]; exact .step h ih
/-- few products -/
def Few (n : Nat) (ss : List Row) : Prop := ∃ R : List Row, R.length ≤ 20 ∧ ∀ r, Prd n ss r → r ∈ R
theorem nodup_len {α : Type} [DecidableEq α] : ∀ (l m : List α), l.Nodup → (∀ x ∈ l, x ∈ m) → l.length ≤ m.length
  | [], _, _, _ => Nat.zero_le _
  | a :: l, m, n, h => by
    obtain ⟨h1, h2⟩ := List.nodup_cons.mp n
    have ha := h a List.mem_cons_self
    have := nodup_len l (m.erase a) h2 fun x hx => by
      have hxa : x ≠ a := fun e => h1 (e ▸ hx)
      exact (List.mem_erase_of_ne hxa).mpr (h x (List.mem_cons_of_mem _ hx))
    rw [List.length_erase_of_mem ha] at this
    have hp := List.length_pos_of_mem ha
    rw [List.length_cons]
    omega
theorem Few.len {n : Nat} {ss : List Row} (h : Few n ss) {l : List Row} (nd : l.Nodup) (hl : ∀ r ∈ l, Prd n ss r) : l.length ≤ 20 := by
  obtain ⟨R, h1, h2⟩ := h
  exact Nat.le_trans (nodup_len l R nd fun x hx => h2 x (hl x hx)) h1
abbrev rowL (l : List Row) : List V := l.map fun r => .str (S r)
abbrev knownD (l : List Row) : List (Row × Bool) := l.map fun r => (r, true)
def sp_grown_rows (K : PySem.W.Frag) : Sp := fun vs H Q _ => ∃ b ss, ∃ n : Nat, vs = [.ref b, .str (S (List.replicate n 46)), .int 800] ∧ H b = some (.lst (rowL ss)) ∧ n ≤ 1000 ∧ ss.length ≤ 40 ∧ (∀ s ∈ ss, s.length = n) ∧ Few n ss ∧
  ∀ p H' rs, Same H H' → H p = none → H' p = some (.lst (rowL rs)) → rs.Nodup → rs.length ≤ 20 → (∀ r, r ∈ rs ↔ Prd n ss r) → Q (.ref p) H'
/-- grown_rows, between two rows -/
structure GrowI (n : Nat) (ss : List Row) (H H' : Hp) (pr pk : Addr) (rs : List Row) : Prop where
  s : Same H H'
  r : H' pr = some (.lst (rowL rs))
  k : H' pk = some (.dK (KD (fun b : Bool => V.bl b) (knownD rs)))
  nd : rs.Nodup
  p : ∀ r ∈ rs, Prd n ss r
  b : List.replicate n 46 ∈ rs
theorem look_known {l : List Row} {r : Row} : (lookA (knownD l) r).isSome = decide (r ∈ l) := by
  induction l with
  | nil => rfl
  | cons a l ih =>
    have e0 : knownD (a :: l) = (a, true) :: knownD l := rfl
    rw [e0]
    unfold lookA at ih ⊢
    rw [List.find?_cons]
    by_cases e : a = r
    · subst e; simp
    · have e2 : ¬ r = a := fun h => e h.symm
      rw [decide_eq_false (show ¬ (a, true).1 = r from e)]
      show (Option.map (fun x => x.2) (List.find? (fun a => decide (a.1 = r)) (knownD l))).isSome = _
      rw [ih]
      simp [e2]
theorem put_known {l : List Row} {r : Row} (h : r ∉ l) : putA (knownD l) r true = knownD (l ++ [r]) := by
  rw [putA_new (by rw [List.map_map, show ((fun x : Row × Bool => x.1) ∘ fun r => (r, true)) = id from rfl, List.map_id]; exact h)]
  unfold knownD
  rw [List.map_append]
  rfl
end
/-! ## F9 -/
section
set_option maxHeartbeats 2000000
open PySem PySem.Spec PyProof.Rows L2


variable {P : Program} {w : World} {K : PySem.W.Frag} {mg : Str → Option Value} {base : Heap}
abbrev nm_grown_rows : List Str := ["seeds", "first", "most", "rows", "known", "at", "seed", "row"]
theorem sc_grown_rows : FnScope nm_grown_rows ["seeds", "first", "most"] (defScope s_grown_rows) := ⟨rfl, rfl, rfl, by decide +kernel, rfl, by decide +kernel, by decide +kernel⟩
abbrev t_grown_rows (K : PySem.W.Frag) : TS := (tSeq (tAsg (tLst (tCons (tVar 1) tNil)) (gName 3))
    (tSeq (tAsg (tDisp [((tVar 1), (tC (.bl true)))]) (gName 4))
    (tSeq (tAsg (tC (.int 0)) (gName 5))
    (tSeq (tWhile (tAnd (tTest (tOp rLtI (tVar 5) (tCB (rLenQ K) (tCons (tVar 3) tNil)))) (tTest (tOp rLeI (tCB (rLenQ K) (tCons (tVar 3) tNil)) (tVar 2)))) (tSeq (tFor (iList K (tVar 0)) (gName 6) (tSeq (tAsg (tCall (sp_over K) [] E0 (tCons (tVar 6) (tCons (tOp (rIxL K) (tVar 3) (tVar 5)) tNil))) (gName 7))
    (tIfS (tB (tDNotIn (tVar 7) (tVar 4))) (tSeq (sDPut (tVar 4) (tVar 7) (tC (.bl true)))
    (tDrop (tBM K "list" rAppend (tVar 3) (tCons (tVar 7) tNil)))) tNext)))
    (tAsg (tOp rAddI (tVar 5) (tC (.int 1))) (gName 5))))
    (tRet (tVar 3))))))
theorem c_grown_rows (T : Tx K mg) : C8.Cal P w K mg base 2 "grown_rows" (sp_grown_rows K) [] := by
  refine calG T.f_grown_rows (fun _ _ _ _ _ _ us hl => match us, hl with | [_, _, _], _ => rfl) sc_grown_rows (fun vs H Q E h => ?_) (fun f cdv A outer s H vs Q E hr h => have hu := hu_of hr; ⟨t_grown_rows K, (pss_cons (ps_set (i := 3) sc_grown_rows.nd rfl (Or.inl rfl) (pe_lst (pa_cons (pv 1) pa_nil)))
      (pss_cons (ps_set (i := 4) sc_grown_rows.nd rfl (Or.inl rfl) (pe_disp (pps_cons (pv 1) pe_bl pps_nil) (by rfl) (by rfl) (fun z => by cases z) (by decide)))
      (pss_cons (ps_set (i := 5) sc_grown_rows.nd rfl (Or.inl rfl) pe_int)
      (pss_cons (ps_while PassesOwn.never (PW.pt (pw_and (pt_cmpR op_lt (pv 5) (pe_callB call_len_seq (by rfl) T.b_len bt_len (pa_cons (pv 3) pa_nil)) (nomark _)) (pw_and1 (pt_cmpR op_le (pe_callB call_len_seq (by rfl) T.b_len bt_len (pa_cons (pv 3) pa_nil)) (pv 2) (nomark _))))) (pss_cons (ps_for PassesOwn.never rfl (pi_list (pv 0)) (pg_name (i := 6) sc_grown_rows.nd rfl (Or.inl rfl) (hf := Or.inr rfl)) (pss_cons (ps_set (i := 7) sc_grown_rows.nd rfl (Or.inl rfl) (C8.pe_c (c_over T) hr (by decide) (by rfl) (pa_cons (pv 6) (pa_cons (pe_ix ix_list (pv 3) (pv 5) (fun _ _ => rfl)) pa_nil))))
      (pss_one (ps_if (pt_cmp (pc_dnotin hu (pv 7) (pv 4)) (by rfl)) (pss_cons (ps_dput hu (pv 4) (pv 7) pe_bl rfl)
      (pss_one (ps_expr (pe_bm PySem.F.plainAttrs_list PySem.F.slot_list_append PySem.F.type_list_append mt_append (pv 3) (pa_cons (pv 7) pa_nil))))) pss_nil))))
      (pss_one (ps_set (i := 5) sc_grown_rows.nd rfl (Or.inl rfl) (pe_op op_add (pv 5) pe_int)))))
      (pss_one (ps_ret (pv 3))))))), ?_⟩)
  · obtain ⟨b, ss, n, rfl, _⟩ := h
    rfl
  · obtain ⟨b, ss, n, rfl, hb, hn, hl, hs, few, k⟩ := h
    walk_at "go"
    rename_i pr npr pk npk'
    have npk : H pk = none := (same_new npr).free npk'
    have hne : pr ≠ pk := fun e => by rw [e, upd_same] at npk'; cases npk'
    refine w_while (fun m σ H' => ∃ (a : Nat) (rs : List Row) (u v : Option V), m = 21 - a ∧ GrowI n ss H H' pr pk rs ∧ a ≤ rs.length ∧ (∀ (j : Nat) (r : Row), j < a → rs[j]? = some r → ∀ s ∈ ss, ov s r ∈ rs) ∧
      σ = [some (.ref b), some (.str (S (List.replicate n 46))), some (.int 800), some (.ref pr), some (.ref pk), some (.int (a : Nat)), u, v]) 21
      ⟨0, [List.replicate n 46], none, none, rfl, ⟨?_, ?_, ?_, List.nodup_cons.mpr ⟨List.not_mem_nil, List.nodup_nil⟩, fun r h => by rw [List.mem_singleton.mp h]; exact .nil, List.mem_singleton.mpr rfl⟩, Nat.zero_le _, fun j r h => absurd h (Nat.not_lt_zero _), rfl⟩ ?_
    · rw [upd_upd]; walk_at "sm"
    · rw [upd_ne hne, upd_ne hne]; exact upd_same
    · exact upd_same
    rintro m σ H' ⟨a, rs, u, v, rfl, G, ha, hcl, rfl⟩
    have h20 := few.len G.nd G.p
    have hqr : SqL K H' pr (rowL rs) := .inl (.inl G.r)
    refine w_and ?_
    walk_at "go"
    refine w_dec (fun e => ?_) (fun e => ?_)
    · refine w_test ?_
      walk_at "go"
      refine w_N ?_
      have har : a < rs.length := by omega
      have hr0 : rs[a]? = some rs[a] := by simp [har]
      generalize rs[a] = r0 at hr0
      have hr0m := List.mem_of_getElem? hr0
      have hr0l : r0.length = n := (G.p r0 hr0m).len hs
      have hqb : SqL K H' b (rowL ss) := G.s.seq (.inl (.inl hb))
      walk_at "go"
      refine for_G (n := ss.length) walk_listM (fun i σ H2 => ∃ (more : List Row) (u v : Option V), GrowI n ss H H2 pr pk (rs ++ more) ∧ (∀ (j : Nat) (s : Row), j < i → ss[j]? = some s → ov s r0 ∈ rs ++ more) ∧
        σ = [some (.ref b), some (.str (S (List.replicate n 46))), some (.int 800), some (.ref pr), some (.ref pk), some (.int (a : Nat)), u, v])
        ⟨[], u, v, by rw [List.append_nil]; exact G, fun j s h => absurd h (Nat.not_lt_zero _), rfl⟩ (fun i σ H2 _ h => let ⟨_, _, _, g, _⟩ := h; g.s.seq (.inl (.inl hb))) ?_ ?_
      · rintro i x σ H2 H3 hi ⟨more, u, v, G2, hj, rfl⟩ ⟨rfl, s, hss, rfl⟩
        have hsm := List.mem_of_getElem? hss
        have hsl := hs s hsm
        have g20 := few.len G2.nd G2.p
        have hr1 : (rowL (rs ++ more))[a]? = some (.str (S r0)) := by
          show (List.map _ _)[a]? = _
          rw [List.getElem?_map, List.getElem?_append_left har, hr0]
          rfl
        walk_at "go"
        refine w_ixL' (xs := rowL (rs ++ more)) ?_ (.inl (.inl G2.r)) hr1
        walk_at "go"
        refine ⟨_, _, rfl, by omega, fun H4 s4 => ?_⟩
        walk_at "go"
        have hprd : Prd n ss (ov s r0) := .step hsm (G.p r0 hr0m)
        refine w_dninR (f := fun b : Bool => V.bl b) (l := knownD (rs ++ more)) (r := ov s r0) (.inl (s4 _ _ G2.k)) fun o ho => ?_
        rw [ho, look_known]
        walk_at "go"
        refine w_ndec (fun e2 => ?_) (fun e2 => ?_)
        · walk_at "go"
          refine w_dputR (f := fun b : Bool => V.bl b) (v := true) (s4 _ _ G2.k) (by rw [List.length_map]; omega) ?_
          rw [put_known e2]
          have hpr5 : upd H4 pk (.dK (KD (fun b : Bool => V.bl b) (knownD ((rs ++ more) ++ [ov s r0])))) pr = some (.lst (rowL (rs ++ more))) := by rw [upd_ne hne]; exact s4 _ _ G2.r
          walk_at "go"
          refine w_app hpr5 (by rw [List.length_map]; omega) ?_
          refine ⟨more ++ [ov s r0], _, _, ⟨?_, ?_, ?_, ?_, ?_, ?_⟩, ?_, rfl⟩
          · exact same_mut (same_mut (G2.s.trans s4) npk) npr
          · rw [upd_same, ← List.append_assoc]; show _ = some (HO.lst (List.map _ _)); rw [List.map_append]; rfl
          · rw [upd_ne hne.symm, upd_same, ← List.append_assoc]
          · rw [← List.append_assoc]
            exact List.nodup_append.mpr ⟨G2.nd, List.nodup_cons.mpr ⟨List.not_mem_nil, List.nodup_nil⟩, fun x hx y hy z => e2 (by rw [← List.mem_singleton.mp hy, ← z]; exact hx)⟩
          · rw [← List.append_assoc]
            intro r hr
            rcases List.mem_append.mp hr with h | h
            · exact G2.p r h
            · rw [List.mem_singleton.mp h]; exact hprd
          · rw [← List.append_assoc]; exact List.mem_append_left _ G2.b
          · intro j s' hj' hs'
            rw [← List.append_assoc]
            rcases Nat.lt_succ_iff_lt_or_eq.mp hj' with h | h
            · exact List.mem_append_left _ (hj j s' h hs')
            · subst h
              obtain rfl : s' = s := Option.some.inj (hs'.symm.trans hss)
              exact List.mem_append_right _ (List.mem_singleton.mpr rfl)
        · walk_at "go"
          refine ⟨more, _, _, ⟨G2.s.trans s4, s4 _ _ G2.r, s4 _ _ G2.k, G2.nd, G2.p, G2.b⟩, fun j s' hj' hs' => ?_, rfl⟩
          rcases Nat.lt_succ_iff_lt_or_eq.mp hj' with h | h
          · exact hj j s' h hs'
          · subst h
            obtain rfl : s' = s := Option.some.inj (hs'.symm.trans hss)
            exact e2
      · rintro σ H2 ⟨more, u, v, G2, hj, rfl⟩
        have hl2 : (rs ++ more).length = rs.length + more.length := List.length_append
        walk_at "go"
        refine ⟨21 - (a + 1), by omega, a + 1, rs ++ more, u, v, rfl, G2, by omega, fun j r hj' hr s hsm => ?_, by simp⟩
        rcases Nat.lt_succ_iff_lt_or_eq.mp hj' with h | h
        · rw [List.getElem?_append_left (by omega)] at hr
          exact List.mem_append_left _ (hcl j r h hr s hsm)
        · subst h
          rw [List.getElem?_append_left har, hr0] at hr
          obtain rfl := Option.some.inj hr
          obtain ⟨j2, hj2, e3⟩ := List.getElem_of_mem hsm
          exact hj j2 s hj2 (by rw [← e3]; simp [hj2])
    · walk_at "go"
      refine k pr H' rs G.s npr G.r G.nd h20 fun r => ⟨G.p r, fun h => ?_⟩
      have ea : a = rs.length := by omega
      subst ea
      induction h with
      | nil => exact G.b
      | step h _ ih =>
        obtain ⟨j, hj, e3⟩ := List.getElem_of_mem ih
        exact hcl j _ hj (by rw [← e3]; simp [hj]) _ h
end
/-! ## F10 -/
section
set_option maxHeartbeats 2000000
open PySem PySem.Spec PyProof.Rows L2


variable {P : Program} {w : World} {K : PySem.W.Frag} {mg : Str → Option Value} {base : Heap}
theorem ov_count : ∀ (x y : Row), x.length = y.length → (ov x y).count 46 ≤ x.count 46 ∧ (ov x y = x ∨ (ov x y).count 46 < x.count 46)
  | [], _, _ => ⟨Nat.le_refl _, .inl rfl⟩
  | _ :: _, [], h => by simp at h
  | a :: x, b :: y, h => by
    obtain ⟨h1, h2⟩ := ov_count x y (by simpa using h)
    by_cases ha : a = 46
    · subst ha
      by_cases hb : b = 46
      · subst hb
        simp only [ov, if_true, List.count_cons]
        refine ⟨by omega, ?_⟩
        rcases h2 with h2 | h2
        · left; rw [h2]
        · right; omega
      · simp only [ov, if_true, List.count_cons]
        have : (b == 46) = false := by simpa using hb
        simp only [this, beq_self_eq_true, if_true]
        refine ⟨by simp; omega, .inr (by simp; omega)⟩
    · simp only [ov, if_neg ha, List.count_cons]
      refine ⟨by omega, ?_⟩
      rcases h2 with h2 | h2
      · left; rw [h2]
      · right; omega
def sp_law_rows (K : PySem.W.Frag) : Sp := fun vs H Q _ => ∃ b ss, ∃ n : Nat, vs = [.ref b, .int 20] ∧ H b = some (.lst (rowL ss)) ∧ n ≤ 1000 ∧ ss ≠ [] ∧ ss.length ≤ 40 ∧ (∀ s ∈ ss, s.length = n) ∧
  ∀ p H' rs, Same H H' → H p = none → H' p = some (.lst (rowL rs)) → rs.Nodup → Srt rs → rs.length ≤ 21 → (∀ r ∈ rs, Prd n ss r) → List.replicate n 46 ∈ rs → (rs.length ≤ 20 → ∀ r, Prd n ss r → r ∈ rs) → Q (.ref p) H'
/-- known rows -/
structure RowsI (n : Nat) (ss : List Row) (H H' : Hp) (pk : Addr) (ks : List Row) : Prop where
  s : Same H H'
  k : H' pk = some (.dK (KD (fun b : Bool => V.bl b) (knownD ks)))
  nd : ks.Nodup
  p : ∀ r ∈ ks, Prd n ss r
  b : List.replicate n 46 ∈ ks
  few : ks.length ≤ 21
abbrev nm_law_rows : List Str := ["_law_some", "_law_cap", "_law_many", "_law_known", "_law_level", "_law_k", "_law_later", "_law_row", "_law_seed", "_law_new"]
theorem sc_law_rows : FnScope nm_law_rows ["_law_some", "_law_cap"] (defScope s_law_rows) := ⟨rfl, rfl, rfl, by decide +kernel, rfl, by decide +kernel, by decide +kernel⟩
abbrev t_law_rows (K : PySem.W.Frag) : TS := (tSeq (tAsg (tCB rLenS (tCons (tOp (rIxL K) (tVar 0) (tC (.int 0))) tNil)) (gName 2))
    (tSeq (tPar 3 4 (tCons (tDisp [((tOp rMulS (tC (.str ".")) (tVar 2)), (tC (.bl true)))]) (tCons (tLst (tCons (tOp rMulS (tC (.str ".")) (tVar 2)) tNil)) tNil)))
    (tSeq (tFor (iRng1 (tCons (tVar 2) tNil)) (gName 5) (tSeq (tAsg (tLst tNil) (gName 6))
    (tSeq (tFor (iList K (tVar 4)) (gName 7) (tFor (iList K (tVar 0)) (gName 8) (tSeq (tAsg (tCall (sp_law_over K) [] E0 (tCons (tVar 7) (tCons (tVar 8) tNil))) (gName 9))
    (tIfS (tAnd (tB (tDNotIn (tVar 9) (tVar 3))) (tTest (tOp rLeI (tCB rLenD (tCons (tVar 3) tNil)) (tVar 1)))) (tSeq (sDPut (tVar 3) (tVar 9) (tC (.bl true)))
    (tDrop (tBM K "list" rAppend (tVar 6) (tCons (tVar 9) tNil)))) tNext))))
    (tAsg (tVar 6) (gName 4)))))
    (tRet (tCB (rSortedS K) (tCons (tListKeys (tVar 3)) tNil))))))
theorem c_law_rows (T : Tx K mg) : C8.Cal P w K mg base 2 "_law_rows" (sp_law_rows K) [] := by
  refine calG T.f_law_rows (fun _ _ _ _ _ _ us hl => match us, hl with | [_, _], _ => rfl) sc_law_rows (fun vs H Q E h => ?_) (fun f cdv A outer s H vs Q E hr h => have hu := hu_of hr; ⟨t_law_rows K, (pss_cons (ps_set (i := 2) sc_law_rows.nd rfl (Or.inl rfl) (pe_callB call_len_str (by rfl) T.b_len bt_len (pa_cons (pe_ix ix_list (pv 0) pe_int (fun _ _ => rfl)) pa_nil)))
      (pss_cons (ps_par (i := 3) (j := 4) (by rfl) sc_law_rows.nd rfl rfl (by decide) rfl rfl (pa_cons (pe_disp (pps_cons (pe_op op_mul_str pe_str (pv 2)) pe_bl pps_nil) (by rfl) (by rfl) (fun z => by cases z) (by decide)) (pa_cons (pe_lst (pa_cons (pe_op op_mul_str pe_str (pv 2)) pa_nil)) pa_nil)) (by rfl))
      (pss_cons (ps_for PassesOwn.never rfl (pi_range1 (by rfl) T.b_range (pa_cons (pv 2) pa_nil)) (pg_name (i := 5) sc_law_rows.nd rfl (Or.inl rfl) (hf := Or.inr rfl)) (pss_cons (ps_set (i := 6) sc_law_rows.nd rfl (Or.inl rfl) (pe_lst pa_nil))
      (pss_cons (ps_for PassesOwn.never rfl (pi_list (pv 4)) (pg_name (i := 7) sc_law_rows.nd rfl (Or.inl rfl) (hf := Or.inr rfl)) (pss_one (ps_for PassesOwn.never rfl (pi_list (pv 0)) (pg_name (i := 8) sc_law_rows.nd rfl (Or.inl rfl) (hf := Or.inr rfl)) (pss_cons (ps_set (i := 9) sc_law_rows.nd rfl (Or.inl rfl) (C8.pe_c (c_law_over T) hr (by decide) (by rfl) (pa_cons (pv 7) (pa_cons (pv 8) pa_nil))))
      (pss_one (ps_if (PW.pt (pw_and (pt_cmp (pc_dnotin hu (pv 9) (pv 3)) (by rfl)) (pw_and1 (pt_cmpR op_le (pe_callB call_lenD (by rfl) T.b_len bt_len (pa_cons (pv 3) pa_nil)) (pv 1) (nomark _))))) (pss_cons (ps_dput hu (pv 3) (pv 9) pe_bl rfl)
      (pss_one (ps_expr (pe_bm PySem.F.plainAttrs_list PySem.F.slot_list_append PySem.F.type_list_append mt_append (pv 6) (pa_cons (pv 9) pa_nil))))) pss_nil))))))
      (pss_one (ps_set (i := 4) sc_law_rows.nd rfl (Or.inl rfl) (pv 6))))))
      (pss_one (ps_ret (pe_callB cr_sortedS (by rfl) T.b_sorted bt_sorted (pa_cons (pe_listKeys rfl (by rfl) T.b_list (pv 3)) pa_nil))))))), ?_⟩)
  · obtain ⟨b, ss, n, rfl, _⟩ := h
    rfl
  · obtain ⟨b, ss, n, rfl, hb, hn, hne, hl, hs, k⟩ := h
    obtain ⟨s0, hs0⟩ := List.exists_mem_of_ne_nil ss hne
    have hss0 : ∃ s, ss[0]? = some s ∧ s.length = n := by
      cases ss with
      | nil => exact absurd rfl hne
      | cons s r => exact ⟨s, rfl, hs s List.mem_cons_self⟩
    obtain ⟨s1, hs1, hs1l⟩ := hss0
    have hr1 : (rowL ss)[0]? = some (.str (S s1)) := by
      show (List.map _ _)[0]? = _
      rw [List.getElem?_map, hs1]; rfl
    walk_at "go"
    refine w_ixL (i := 0) (xs := rowL ss) (.inl (.inl hb)) hr1 ?_
    walk_at "go"
    rw [hs1l]
    rename_i pk npk pl npl'
    have e0 : upd (upd H pk (.dK [])) pk (.dK (mergeK [] [(kR (List.replicate n 46), V.bl true)])) = upd H pk (.dK (KD (fun b : Bool => V.bl b) (knownD [List.replicate n 46]))) := upd_upd
    rw [hs1l, e0] at npl'
    rw [e0]
    have npl : H pl = none := (same_new npk).free npl'
    have hkl : pk ≠ pl := fun e => by rw [← e, upd_same] at npl'; cases npl'
    have base_s : Same H (upd (upd H pk (.dK (KD (fun b : Bool => V.bl b) (knownD [List.replicate n 46])))) pl (.lst [.str (S (List.replicate n 46))])) := by walk_at "sm"
    refine for_G (n := n) walk_rng (fun i σ H' => ∃ (ks lv : List Row) (p : Addr) (u5 u6 u7 u8 u9 : Option V), RowsI n ss H H' pk ks ∧ H' p = some (.lst (rowL lv)) ∧ (∀ r ∈ lv, r ∈ ks ∧ r.count 46 + i ≤ n) ∧ (ks.length ≤ 20 → ∀ r ∈ ks, r ∉ lv → ∀ s ∈ ss, ov r s ∈ ks) ∧
      σ = [some (.ref b), some (.int 20), some (.int (n : Nat)), some (.ref pk), some (.ref p), u5, u6, u7, u8, u9])
      ⟨[List.replicate n 46], [List.replicate n 46], pl, none, none, none, none, none, ⟨base_s, by rw [upd_ne hkl, upd_same], List.nodup_cons.mpr ⟨List.not_mem_nil, List.nodup_nil⟩, fun r h => by rw [List.mem_singleton.mp h]; exact .nil, List.mem_singleton.mpr rfl, Nat.le_of_ble_eq_true rfl⟩,
        upd_same, fun r h => ⟨h, by rw [List.mem_singleton.mp h, List.count_replicate_self]; omega⟩, fun _ r h h2 => absurd h h2, rfl⟩ (fun _ _ _ _ _ => trivial) ?_ ?_
    · rintro i x σ H1 H1' hi ⟨ks, lv, p, u5, u6, u7, u8, u9, R1, hp, hlv, hcl, rfl⟩ ⟨rfl, rfl⟩
      walk_at "go"
      rename_i pt npt
      have npt0 : H pt = none := R1.s.free npt
      have hkt : pk ≠ pt := ne_of_none R1.k npt
      have hpt : p ≠ pt := ne_of_none hp npt
      have hq1 : SqL K (upd H1' pt (.lst [])) p (rowL lv) := (same_new npt).seq (.inl (.inl hp))
      walk_at "go"
      refine for_G (n := lv.length) walk_listM (fun j σ H2 => ∃ (lt : List Row) (u7 u8 u9 : Option V), RowsI n ss H H2 pk (ks ++ lt) ∧ H2 p = some (.lst (rowL lv)) ∧ H2 pt = some (.lst (rowL lt)) ∧ (∀ r ∈ lt, r.count 46 + (i + 1) ≤ n) ∧
          ((ks ++ lt).length ≤ 20 → ∀ (m : Nat) (r : Row), m < j → lv[m]? = some r → ∀ s ∈ ss, ov r s ∈ ks ++ lt) ∧
          σ = [some (.ref b), some (.int 20), some (.int (n : Nat)), some (.ref pk), some (.ref p), some (.int (i : Nat)), some (.ref pt), u7, u8, u9])
        ⟨[], u7, u8, u9, ⟨same_mut R1.s npt0, by rw [upd_ne hkt, List.append_nil]; exact R1.k, by rw [List.append_nil]; exact R1.nd, by rw [List.append_nil]; exact R1.p, by rw [List.append_nil]; exact R1.b, by rw [List.append_nil]; exact R1.few⟩,
          by rw [upd_ne hpt]; exact hp, upd_same, (fun r h => absurd h List.not_mem_nil), (fun _ m r h => absurd h (Nat.not_lt_zero _)), rfl⟩ (fun j σ H2 _ h => let ⟨_, _, _, _, _, h, _⟩ := h; .inl (.inl h)) ?_ ?_
      · rintro j x σ H2 H2' hj ⟨lt, u7, u8, u9, R2, hp2, ht2, hc2, hd2, rfl⟩ ⟨rfl, row, hrow, rfl⟩
        have hrm := hlv row (List.mem_of_getElem? hrow)
        have hrl : row.length = n := (R1.p row hrm.1).len hs
        have hq2 : SqL K H2' b (rowL ss) := R2.s.seq (.inl (.inl hb))
        walk_at "go"
        refine for_G (n := ss.length) walk_listM (fun q σ H3 => ∃ (lt : List Row) (u8 u9 : Option V), RowsI n ss H H3 pk (ks ++ lt) ∧ H3 p = some (.lst (rowL lv)) ∧ H3 pt = some (.lst (rowL lt)) ∧ (∀ r ∈ lt, r.count 46 + (i + 1) ≤ n) ∧
            ((ks ++ lt).length ≤ 20 → ∀ (m : Nat) (r : Row), m < j → lv[m]? = some r → ∀ s ∈ ss, ov r s ∈ ks ++ lt) ∧
            ((ks ++ lt).length ≤ 20 → ∀ (m : Nat) (s : Row), m < q → ss[m]? = some s → ov row s ∈ ks ++ lt) ∧
            σ = [some (.ref b), some (.int 20), some (.int (n : Nat)), some (.ref pk), some (.ref p), some (.int (i : Nat)), some (.ref pt), some (.str (S row)), u8, u9])
          ⟨lt, u8, u9, R2, hp2, ht2, hc2, hd2, fun _ m s h => absurd h (Nat.not_lt_zero _), rfl⟩ (fun j σ H2 _ h => let ⟨_, _, _, h, _⟩ := h; h.s.seq (.inl (.inl hb))) ?_ ?_
        · rintro q x σ H3 H3' hq ⟨lt, u8, u9, R3, hp3, ht3, hc3, hd3, he3, rfl⟩ ⟨rfl, s, hss, rfl⟩
          have hsm := List.mem_of_getElem? hss
          have hsl := hs s hsm
          have hfew := R3.few
          walk_at "go"
          refine ⟨_, _, rfl, by omega, by omega, fun H4 s4 => ?_⟩
          have hprd : Prd n ss (ov row s) := (R1.p row hrm.1).mul hs (Prd.seed hs hsm)
          walk_at "go"
          refine w_dninR (f := fun b : Bool => V.bl b) (l := knownD (ks ++ lt)) (r := ov row s) (.inl (s4 _ _ R3.k)) fun o ho => ?_
          rw [ho, look_known]
          walk_at "go"
          refine w_ndec (fun e2 => ?_) (fun e2 => ?_)
          · walk_at "go"
            refine w_lenDK (f := fun b : Bool => V.bl b) (l := knownD (ks ++ lt)) (s4 _ _ R3.k) ?_
            rw [List.length_map]
            walk_at "go"
            refine w_dec (fun e => ?_) (fun e => ?_)
            · have e : (ks ++ lt).length ≤ 20 := by omega
              walk_at "go"
              refine w_dputR (f := fun b : Bool => V.bl b) (v := true) (s4 _ _ R3.k) (by rw [List.length_map]; omega) ?_
              rw [put_known e2]
              have hpt5 : upd H4 pk (.dK (KD (fun b : Bool => V.bl b) (knownD ((ks ++ lt) ++ [ov row s])))) pt = some (.lst (rowL lt)) := by rw [upd_ne hkt.symm]; exact s4 _ _ ht3
              have hltl : lt.length ≤ 20 := by rw [List.length_append] at e; omega
              walk_at "go"
              refine w_app hpt5 (by rw [List.length_map]; omega) ?_
              have hpk2 : p ≠ pk := fun z => by rw [z, R3.k] at hp3; cases hp3
              have hin : ∀ x, x ∈ ks ++ lt → x ∈ ks ++ (lt ++ [ov row s]) := fun x hx => by rw [← List.append_assoc]; exact List.mem_append_left _ hx
              have hlt : ∀ {X : Prop}, ((ks ++ (lt ++ [ov row s])).length ≤ 20 → X) → ((ks ++ (lt ++ [ov row s])).length ≤ 20 → X) := fun h => h
              have hle : (ks ++ (lt ++ [ov row s])).length ≤ 20 → (ks ++ lt).length ≤ 20 := fun h => by simp only [List.length_append] at h ⊢; omega
              refine ⟨lt ++ [ov row s], _, _, ⟨?_, ?_, ?_, ?_, ?_, ?_⟩, ?_, ?_, ?_, ?_, ?_, rfl⟩
              · exact same_mut (same_mut (R3.s.trans s4) npk) npt0
              · rw [upd_ne hkt, upd_same, List.append_assoc]
              · rw [← List.append_assoc]
                exact List.nodup_append.mpr ⟨R3.nd, List.nodup_cons.mpr ⟨List.not_mem_nil, List.nodup_nil⟩, fun x hx y hy z => e2 (by rw [← List.mem_singleton.mp hy, ← z]; exact hx)⟩
              · rw [← List.append_assoc]
                intro r hr
                rcases List.mem_append.mp hr with h | h
                · exact R3.p r h
                · rw [List.mem_singleton.mp h]; exact hprd
              · exact hin _ R3.b
              · simp only [List.length_append, List.length_cons, List.length_nil] at e ⊢; omega
              · rw [upd_ne hpt, upd_ne hpk2]; exact s4 _ _ hp3
              · rw [upd_same]; show _ = some (HO.lst (List.map _ _)); rw [List.map_append]; rfl
              · intro r hr
                rcases List.mem_append.mp hr with h | h
                · exact hc3 r h
                · rw [List.mem_singleton.mp h]
                  rcases (ov_count row s (by omega)).2 with z | z
                  · rw [z] at e2
                    exact absurd (List.mem_append_left _ hrm.1) e2
                  · have := hrm.2
                    omega
              · intro h m r hm hr' s' hs'
                exact hin _ (hd3 (hle h) m r hm hr' s' hs')
              · intro h m s' hm hs'
                rcases Nat.lt_succ_iff_lt_or_eq.mp hm with z | z
                · exact hin _ (he3 (hle h) m s' z hs')
                · subst z
                  obtain rfl : s' = s := Option.some.inj (hs'.symm.trans hss)
                  exact List.mem_append_right _ (List.mem_append_right _ (List.mem_singleton.mpr rfl))
            · walk_at "go"
              have e : ¬ (ks ++ lt).length ≤ 20 := by omega
              exact ⟨lt, _, _, ⟨R3.s.trans s4, s4 _ _ R3.k, R3.nd, R3.p, R3.b, R3.few⟩, s4 _ _ hp3, s4 _ _ ht3, hc3, fun h => absurd h e, fun h => absurd h e, rfl⟩
          · walk_at "go"
            refine ⟨lt, _, _, ⟨R3.s.trans s4, s4 _ _ R3.k, R3.nd, R3.p, R3.b, R3.few⟩, s4 _ _ hp3, s4 _ _ ht3, hc3, hd3, ?_, rfl⟩
            intro h m s' hm hs'
            rcases Nat.lt_succ_iff_lt_or_eq.mp hm with z | z
            · exact he3 h m s' z hs'
            · subst z
              obtain rfl : s' = s := Option.some.inj (hs'.symm.trans hss)
              exact e2
        · rintro σ H3 ⟨lt, u8, u9, R3, hp3, ht3, hc3, hd3, he3, rfl⟩
          refine ⟨lt, _, _, _, R3, hp3, ht3, hc3, fun h m r hm hr' s hsm => ?_, rfl⟩
          rcases Nat.lt_succ_iff_lt_or_eq.mp hm with z | z
          · exact hd3 h m r z hr' s hsm
          · subst z
            obtain rfl : r = row := Option.some.inj (hr'.symm.trans hrow)
            obtain ⟨j2, hj2, e3⟩ := List.getElem_of_mem hsm
            exact he3 h j2 s hj2 (by rw [← e3]; simp [hj2])
      · rintro σ H2 ⟨lt, u7, u8, u9, R2, hp2, ht2, hc2, hd2, rfl⟩
        walk_at "go"
        refine ⟨ks ++ lt, lt, pt, _, _, _, _, _, R2, ht2, fun r h => ⟨List.mem_append_right _ h, hc2 r h⟩, fun h r hr' hn' s hsm => ?_, rfl⟩
        rcases List.mem_append.mp hr' with z | z
        · by_cases hl2 : r ∈ lv
          · obtain ⟨m, hm, e3⟩ := List.getElem_of_mem hl2
            exact hd2 h m r hm (by rw [← e3]; simp [hm]) s hsm
          · exact List.mem_append_left _ (hcl (by rw [List.length_append] at h; omega) r z hl2 s hsm)
        · exact absurd z hn'
    · rintro σ H1 ⟨ks, lv, p, u5, u6, u7, u8, u9, R1, hp, hlv, hcl, rfl⟩
      have hfew := R1.few
      walk_at "go"
      refine ⟨pk, KD (fun b : Bool => V.bl b) (knownD ks), rfl, .inl R1.k, fun p1 n1 => ?_⟩
      walk_at "go"
      have e1 : (KD (fun b : Bool => V.bl b) (knownD ks)).map (fun kv => kV kv.1) = rowL ks := by unfold KD knownD; rw [List.map_map, List.map_map]; rfl
      rw [e1]
      refine w_sortedR (l := ks) (.inl (.inl upd_same)) (by omega) fun l p2 pm sr n2 => ?_
      refine k p2 _ l ?_ ?_ upd_same (pm.nodup_iff.mpr R1.nd) sr (by rw [pm.length_eq]; exact R1.few) (fun r h => R1.p r (pm.mem_iff.mp h)) (pm.mem_iff.mpr R1.b) ?_
      · exact R1.s.trans (by walk_at "sm")
      · exact R1.s.free ((same_new n1).free n2)
      · intro h20 r hr'
        rw [pm.length_eq] at h20
        rw [pm.mem_iff]
        have closed : ∀ r ∈ ks, ∀ s ∈ ss, ov r s ∈ ks := fun r h s hsm => by
          by_cases hl2 : r ∈ lv
          · have h1 := (hlv r hl2).2
            have h2 := (R1.p r h).len hs
            rcases (ov_count r s (by rw [h2, hs s hsm])).2 with z | z
            · rw [z]; exact h
            · omega
          · exact hcl h20 r h hl2 s hsm
        have key : ∀ r, Prd n ss r → ∀ q ∈ ks, ov q r ∈ ks := fun r h => by
          induction h with
          | nil =>
            intro q hq
            have e := (R1.p q hq).len hs
            rw [← e, ov_blankR]; exact hq
          | step h _ ih =>
            intro q hq
            rw [← ov_assoc]
            exact ih _ (closed q hq _ h)
        have := key r hr' _ R1.b
        have e := hr'.len hs
        rw [← e, ov_blankL] at this
        exact this
end
end NT
/-! ## E0 -/
section
set_option maxHeartbeats 2000000
namespace NT
open PySem PySem.Spec PyProof.Rows L2
abbrev s_law_ofS : Stmt := s_law_of
/-! ### the bag of the drawn -/
structure Bg where
  b : Addr
  c : Addr
  zs : List Int
/-- the bag, at most m draws beyond the script -/
def BagAt (B : Bg) (m : Nat) (H : Hp) : Prop := ∃ (i k r bl : Nat), H B.b = some (.lst [.ref B.c, .int (i : Nat), .int (r : Nat), .int (bl : Nat), .int (k : Nat)]) ∧ H B.c = some (.lst (B.zs.map V.int)) ∧ B.c ≠ B.b ∧ bl < 2147483563 ∧ k ≤ m
theorem BagAt.mono {B : Bg} {m m' : Nat} {H : Hp} (h : BagAt B m H) (l : m ≤ m') : BagAt B m' H := by
  obtain ⟨i, k, r, bl, h1, h2, h3, h4, h5⟩ := h
  exact ⟨i, k, r, bl, h1, h2, h3, h4, Nat.le_trans h5 l⟩
theorem BagAt.same {B : Bg} {m : Nat} {H H' : Hp} (h : BagAt B m H) (s : Same H H') : BagAt B m H' := by
  obtain ⟨i, k, r, bl, h1, h2, h3⟩ := h
  exact ⟨i, k, r, bl, s _ _ h1, s _ _ h2, h3⟩
theorem BagAt.someB {B : Bg} {m : Nat} {H : Hp} (h : BagAt B m H) : ∃ xs, H B.b = some (.lst xs) := by
  obtain ⟨i, k, r, bl, h1, _⟩ := h
  exact ⟨_, h1⟩
theorem BagAt.someC {B : Bg} {m : Nat} {H : Hp} (h : BagAt B m H) : ∃ xs, H B.c = some (.lst xs) := by
  obtain ⟨i, k, r, bl, h1, h2, _⟩ := h
  exact ⟨_, h2⟩
/-- another object is written -/
theorem BagAt.upd {B : Bg} {m : Nat} {H : Hp} {p : Addr} {o : HO} (h : BagAt B m H) (h1 : p ≠ B.b) (h2 : p ≠ B.c) : BagAt B m (upd H p o) := by
  obtain ⟨i, k, r, bl, e1, e2, e3⟩ := h
  exact ⟨i, k, r, bl, by rw [upd_ne h1.symm]; exact e1, by rw [upd_ne h2.symm]; exact e2, e3⟩
/-- a new place is not the bag's -/
theorem BagAt.new {B : Bg} {m : Nat} {H : Hp} (h : BagAt B m H) {p : Addr} (n : H p = none) : p ≠ B.b ∧ p ≠ B.c := by
  obtain ⟨xs, e1⟩ := h.someB
  obtain ⟨ys, e2⟩ := h.someC
  exact ⟨(ne_of_none e1 n).symm, (ne_of_none e2 n).symm⟩
theorem SBut.refl {b : Addr} {H : Hp} : SBut b H H := fun _ _ _ h => h
theorem SBut.trans {b : Addr} {H H1 H2 : Hp} (h : SBut b H H1) (k : SBut b H1 H2) : SBut b H H2 := fun c o n e => k c o n (h c o n e)
/-- b is a list throughout, so a place that is free later was free before -/
theorem SBut.free {B : Bg} {H H' : Hp} {m : Nat} (s : SBut B.b H H') (h : BagAt B m H') {p : Addr} (n : H' p = none) : p ≠ B.b ∧ H p = none := by
  have hp := (h.new n).1
  refine ⟨hp, ?_⟩
  cases e : H p with
  | none => rfl
  | some o => rw [s p o hp e] at n; cases n
def sp_law_bag (K : PySem.W.Frag) : Sp := fun vs H Q _ => ∃ a, ∃ zs : List Int, vs = [.ref a] ∧ SqL K H a (zs.map V.int) ∧ zs.length ≤ 1000 ∧ ∀ B H', Same H H' → H B.b = none → H B.c = none → BagAt B 0 H' → Q (.ref B.b) H'
def sp_law_draw (K : PySem.W.Frag) : Sp := fun vs H Q _ => ∃ B, ∃ m n : Nat, vs = [.ref B.b, .int n] ∧ BagAt B m H ∧ m ≤ 100000 ∧ 0 < n ∧ n ≤ 100000 ∧ ∀ (d : Nat) H', SBut B.b H H' → BagAt B (m + 1) H' → d < n → Q (.int d) H'
def sp_law_of (K : PySem.W.Frag) : Sp := fun vs H Q _ => ∃ B a, ∃ m : Nat, ∃ xs : List V, vs = [.ref B.b, .ref a] ∧ BagAt B m H ∧ m ≤ 100000 ∧ H a = some (.lst xs) ∧ a ≠ B.b ∧ xs ≠ [] ∧ xs.length ≤ 1000 ∧ ∀ v H', SBut B.b H H' → BagAt B (m + 1) H' → v ∈ xs → Q v H'
def sp_law_ofS (K : PySem.W.Frag) : Sp := fun vs H Q _ => ∃ B, ∃ m : Nat, ∃ x : Row, vs = [.ref B.b, .str (S x)] ∧ BagAt B m H ∧ m ≤ 100000 ∧ x ≠ [] ∧ x.length ≤ 1000 ∧ ∀ c H', SBut B.b H H' → BagAt B (m + 1) H' → c ∈ x → Q (.str (S [c])) H'
def sp_law_word (K : PySem.W.Frag) : Sp := fun vs H Q _ => ∃ B, ∃ m : Nat, vs = [.ref B.b] ∧ BagAt B m H ∧ m ≤ 90000 ∧ ∀ (x : Row) (H' : Hp), SBut B.b H H' → BagAt B (m + 6) H' → x.length ≤ 5 → (∀ c ∈ x, 97 ≤ c ∧ c ≤ 122) → Q (.str (S x)) H'
def sp_law_sign (K : PySem.W.Frag) : Sp := fun vs H Q _ => ∃ B a, ∃ m i : Nat, ∃ cs : List Cell, ∃ c, vs = [.ref B.b, .ref a, .int i] ∧ BagAt B m H ∧ m ≤ 90000 ∧ CellsAt H a cs ∧ a ≠ B.b ∧ cs[i]? = some c ∧ 1 ≤ c.k ∧ c.k ≤ 4 ∧ ∀ (d : Nat) H', SBut B.b H H' → BagAt B (m + 1) H' → 48 ≤ d → d < 48 + c.k → Q (.str (S [d])) H'
theorem lit_abc : V.str (Str.ofString "abcdefghijklmnopqrstuvwxyz") = V.str (S ((List.range 26).map (· + 97))) := congrArg V.str (by decide +kernel)
theorem modN {a b : Nat} : ((a : Int) % (b : Int)) = ((a % b : Nat) : Int) := (Int.natCast_emod a b).symm
section
variable {K : PySem.W.Frag} {H : Hp} {Q : VK} {p : Addr} {x0 x1 x2 x3 x4 v : V} {σ : L2.St}
theorem w_l0 (q : Q x0 H) (h : H p = some (.lst [x0, x1, x2, x3, x4])) : rIxL K (.ref p) (.int 0) H Q := w_ixL (i := 0) (.inl (.inl h)) rfl q
theorem w_l1 (q : Q x1 H) (h : H p = some (.lst [x0, x1, x2, x3, x4])) : rIxL K (.ref p) (.int 1) H Q := w_ixL (i := 1) (.inl (.inl h)) rfl q
theorem w_l2 (q : Q x2 H) (h : H p = some (.lst [x0, x1, x2, x3, x4])) : rIxL K (.ref p) (.int 2) H Q := w_ixL (i := 2) (.inl (.inl h)) rfl q
theorem w_l3 (q : Q x3 H) (h : H p = some (.lst [x0, x1, x2, x3, x4])) : rIxL K (.ref p) (.int 3) H Q := w_ixL (i := 3) (.inl (.inl h)) rfl q
theorem w_l4 (q : Q x4 H) (h : H p = some (.lst [x0, x1, x2, x3, x4])) : rIxL K (.ref p) (.int 4) H Q := w_ixL (i := 4) (.inl (.inl h)) rfl q
theorem w_gsub {to ti : TE} {t : TSet} {R : L2.St → Hp → Prop} (h : to σ H fun o H1 => ti σ H1 fun i H2 => t o i v H2 fun H3 => R σ H3) : gSub to ti t v σ H R := h
theorem w_s1 {R : Hp → Prop} (q : R (upd H p (.lst [x0, v, x2, x3, x4]))) (h : H p = some (.lst [x0, x1, x2, x3, x4])) : rSetL (.ref p) (.int 1) v H R := ⟨p, _, 1, 1, rfl, rfl, h, rfl, q⟩
theorem w_s2 {R : Hp → Prop} (q : R (upd H p (.lst [x0, x1, v, x3, x4]))) (h : H p = some (.lst [x0, x1, x2, x3, x4])) : rSetL (.ref p) (.int 2) v H R := ⟨p, _, 2, 2, rfl, rfl, h, rfl, q⟩
theorem w_s3 {R : Hp → Prop} (q : R (upd H p (.lst [x0, x1, x2, v, x4]))) (h : H p = some (.lst [x0, x1, x2, x3, x4])) : rSetL (.ref p) (.int 3) v H R := ⟨p, _, 3, 3, rfl, rfl, h, rfl, q⟩
theorem w_s4 {R : Hp → Prop} (q : R (upd H p (.lst [x0, x1, x2, x3, v]))) (h : H p = some (.lst [x0, x1, x2, x3, x4])) : rSetL (.ref p) (.int 4) v H R := ⟨p, _, 4, 4, rfl, rfl, h, rfl, q⟩
end
theorem w_modK {i j : Int} {H : Hp} {Q : VK} (hj : 0 < j) (q : ∀ b : Nat, (b : Int) < j → Q (.int (b : Nat)) H) : rModI (.int i) (.int j) H Q := by
  refine w_mod ?_ hj
  have h1 := Int.emod_nonneg i (by omega : j ≠ 0)
  have h2 := Int.emod_lt_of_pos i hj
  have e : i % j = (((i % j).toNat : Nat) : Int) := (Int.toNat_of_nonneg h1).symm
  rw [e]
  exact q _ (by omega)
theorem lg30 {a : Nat} (h : a < 10000000000) : (a : Int).natAbs.log2 < 100000 := by
  rw [Int.natAbs_natCast]
  exact Nat.lt_of_le_of_lt (log2_mono (Nat.le_of_lt h)) (by decide +kernel)
theorem lgI {i : Int} (h : 0 ≤ i) (h2 : i < 10000000000) : i.natAbs.log2 < 100000 := Nat.lt_of_le_of_lt (log2_mono (show i.natAbs ≤ 10000000000 by omega)) (by decide +kernel)
/-- a comprehension that draws: n turns of at most c draws -/
theorem lc_bag {J : It} {n c m : Nat} {Y : Nat → Hp → V → Hp → Prop} {g : TG} {te : TE} {vs : List Nat} {σ : L2.St} {H1 : Hp} {Q : VK} {B : Bg} (w : Walk J n (fun _ => True) Y) (hn : n ≤ 1000) (hb : BagAt B m H1) (P : Nat → Nat → Prop)
    (turn : ∀ i x H2 H3 (R : V → Hp → Prop), i < n → SBut B.b H1 H2 → BagAt B (m + i * c) H2 → Y i H2 x H3 → (∀ d H6, SBut B.b H2 H6 → BagAt B (m + i * c + c) H6 → P i d → R (.str (S [d])) H6) → g x (wipe σ vs) H3 fun σ2 H4 => wipe σ2 vs = wipe σ vs ∧ te σ2 H4 R)
    (done : ∀ D H2 (ds : List Nat), H1 D = none → D ≠ B.b → D ≠ B.c → SBut B.b H1 H2 → BagAt B (m + n * c) H2 → ds.length = n → (∀ (i : Nat) (d : Nat), ds[i]? = some d → P i d) → H2 D = some (.lst (ds.map fun d => .str (S [d]))) → Q (.ref D) H2) : LcG J g tYes te vs σ H1 Q := by
  intro D nD
  obtain ⟨hDb, hDc⟩ := hb.new nD
  refine lc_it w (fun i H => SBut B.b H1 H ∧ BagAt B (m + i * c) H ∧ ∃ ds : List Nat, ds.length = i ∧ (∀ (j : Nat) (d : Nat), ds[j]? = some d → P j d) ∧ H D = some (.lst (ds.map fun d => .str (S [d]))))
    ⟨fun a o _ e => same_new nD a o e, by rw [Nat.zero_mul, Nat.add_zero]; exact hb.same (same_new nD), [], rfl, fun j d h => by simp at h, upd_same⟩ (fun _ _ _ _ => trivial) ?_ (fun H p => let ⟨s, hb, ds, h1, h2, h3⟩ := p; done D H ds nD hDb hDc s hb h1 h2 h3)
  rintro i x H H' hi ⟨s, hb2, ds, h1, h2, h3⟩ y
  refine turn i x H H' (fun y H4 => ∃ acc, H4 D = some (.lst acc) ∧ acc.length < sizeLine ∧ SBut B.b H1 (upd H4 D (.lst (acc ++ [y]))) ∧ BagAt B (m + (i + 1) * c) (upd H4 D (.lst (acc ++ [y]))) ∧
    ∃ ds : List Nat, ds.length = i + 1 ∧ (∀ (j : Nat) (d : Nat), ds[j]? = some d → P j d) ∧ (upd H4 D (.lst (acc ++ [y]))) D = some (.lst (ds.map fun d => .str (S [d])))) hi s hb2 y fun d H6 s6 b6 p6 => ?_
  refine ⟨_, s6 D _ hDb h3, ?_, ?_, ?_, ds ++ [d], by rw [List.length_append, h1]; rfl, ?_, ?_⟩
  · rw [List.length_map, h1]
    exact Nat.lt_of_lt_of_le hi (Nat.le_trans hn (by decide))
  · intro a o hab e
    rw [upd_ne (ne_of_none e nD)]
    exact s6 a o hab (s a o hab e)
  · rw [show m + (i + 1) * c = m + i * c + c by rw [Nat.add_mul, Nat.one_mul]; omega]
    exact b6.upd hDb hDc
  · intro j d' hd
    by_cases hj : j < ds.length
    · rw [List.getElem?_append_left hj] at hd
      exact h2 j d' hd
    · have : j = ds.length := by
        have := (List.getElem?_eq_some_iff.mp hd).1
        rw [List.length_append] at this
        simp at this
        omega
      subst this
      rw [List.getElem?_append_right (Nat.le_refl _), Nat.sub_self] at hd
      obtain rfl := Option.some.inj hd
      rw [h1]; exact p6
  · rw [upd_same, List.map_append]; rfl
end NT
end
namespace NT
open PySem PySem.Spec PyProof.Rows L2
local macro_rules | `(tactic| walk_at "g1") => `(tactic| first
  | ((with_reducible refine w_var (v := ?vv) ?_ ?hh); (case hh => exact rfl))
  | (with_reducible refine w_c ?_)
  | (with_reducible refine w_op ?_)
  | (with_reducible refine w_un ?_)
  | (with_reducible refine w_I0 ?_)
  | (with_reducible refine w_U ?_)
  | (with_reducible refine w_dot ?_)
  | (with_reducible refine w_ndot ?_)
  | (with_reducible refine w_plusS ?_)
  | (with_reducible refine w_it ?_)
  | (with_reducible refine w_if0 ?_)
  | ((with_reducible refine w_wp ?_ ?hh); (case hh => exact rfl))
  | (with_reducible refine w_eqI ?_)
  | (with_reducible refine w_neI ?_)
  | (with_reducible refine w_eqS ?_)
  | (with_reducible refine w_neS ?_)
  | ((with_reducible refine w_eq ?_ ?hh); (case hh => exact rfl))
  | ((with_reducible refine w_ne ?_ ?hh); (case hh => exact rfl))
  | (with_reducible refine w_isN ?_)
  | (with_reducible refine w_notN ?_)
  | (with_reducible refine w_inS ?_)
  | (with_reducible refine w_notInS ?_)
  | (with_reducible refine w_test ?_)
  | (with_reducible refine w_tB ?_)
  | (with_reducible refine w_bl ?_)
  | (with_reducible refine w_not ?_)
  | (with_reducible refine w_and ?_)
  | (with_reducible refine w_or ?_)
  | (with_reducible refine w_tru ?_)
  | (with_reducible refine w_andV ?_)
  | (with_reducible refine w_orV ?_)
  | (with_reducible refine w_notV ?_)
  | (with_reducible refine w_if ?_)
  | (with_reducible refine w_nil ?_)
  | (with_reducible refine w_cons ?_)
  | (with_reducible refine w_CB ?_)
  | (with_reducible refine w_call ?_)
  | (with_reducible refine w_seq ?_)
  | (with_reducible refine w_asg ?_)
  | (with_reducible refine w_name ?_)
  | (with_reducible refine w_ret ?_)
  | (with_reducible refine w_ifs ?_)
  | (with_reducible refine w_nx ?_)
  | (with_reducible refine w_drop ?_)
  | (with_reducible refine w_par ?_)
  | (with_reducible refine w_par2 ?_)
  | (with_reducible refine w_par3 ?_)
  | (with_reducible refine w_par33 ?_)
  | (with_reducible refine w_lc ?_)
  | (with_reducible refine w_SS ?_)
  | (with_reducible refine w_SS2 ?_)
  | (with_reducible refine w_iStr ?_)
  | (with_reducible refine w_str ?_)
  | (with_reducible refine w_iList ?_)
  | (with_reducible refine w_rng ?_)
  | (with_reducible refine w_for ?_)
  | (with_reducible refine w_enum ?_)
  | ((with_reducible refine w_aref (xs := ?xx) ?hh ?_); (case hh => walk_at "sq"))
  | ((with_reducible refine w_aref2 (xs := ?xx) ?hh ?_); (case hh => walk_at "sq"))
  | (with_reducible refine w_gt2 ?_)
  | (with_reducible refine w_yes ?_)
  | (with_reducible refine w_M1 ?_)
  | (with_reducible refine w_and2 ?_)
  | (with_reducible refine w_abs ?_)
  | (with_reducible refine w_int ?_)
  | ((with_reducible refine w_t0 (x := ?vv) (xs := ?ww) ?_ ?hh); (case hh => walk_at "at"))
  | ((with_reducible refine w_t1 (x := ?vv) (y := ?uu) (xs := ?ww) ?_ ?hh); (case hh => walk_at "at"))
  | ((with_reducible refine w_ixS (c := ?cc) ?_ ?hh ?hl); (case hh => assumption); (case hl => walk_at "om"))
  | ((with_reducible refine w_lenS ?_ ?hl); (case hl => walk_at "om"))
  | ((with_reducible refine w_lenM (α := ?aa) (l := ?ll) (f := ?ff) ?_ ?hh); (case hh => walk_at "sq"))
  | ((with_reducible refine w_lenT (xs := ?xx) ?_ ?hh); (case hh => walk_at "at"))
  | ((with_reducible refine w_lenL (xs := ?xx) ?_ ?hh); (case hh => walk_at "sq"))
  | ((with_reducible refine w_dots ?_ ?hh); (case hh => walk_at "om"))
  | (with_reducible refine w_countD ?_)
  | (with_reducible refine w_count ?_)
  | ((with_reducible refine w_rng2 ?_ ?hh); (case hh => walk_at "om"))
  | (with_reducible refine w_str ?_)
  | (with_reducible refine w_chain ?_)
  | (with_reducible refine w_ifnT ?_)
  | (with_reducible refine w_ifnF ?_)
  | (with_reducible refine w_isi_ss ?_)
  | (with_reducible refine w_isi_ii ?_)
  | (with_reducible refine w_isi_ib ?_)
  | ((with_reducible refine w_isi_tt (xs := ?xx) ?hh ?_); (case hh => walk_at "at"))
  | ((with_reducible refine w_isT_l (xs := ?xx) ?h1 ?h2 ?_); (case h1 => walk_at "at"); (case h2 => walk_at "at"))
  | ((with_reducible refine w_decT ?hh ?_); (case hh => walk_at "ar"))
  | ((with_reducible refine w_decF ?hh ?_); (case hh => walk_at "ar"))
  | ((with_reducible refine w_ndecT ?hh ?_); (case hh => walk_at "ar"))
  | ((with_reducible refine w_ndecF ?hh ?_); (case hh => walk_at "ar"))
  | ((with_reducible refine w_inL (l := ?ll) ?hh ?_); (case hh => walk_at "sq"))
  | ((with_reducible refine w_ninL (l := ?ll) ?hh ?_); (case hh => walk_at "sq"))
  | ((with_reducible refine w_pnew ?_ ?hh); (case hh => exact rfl); (intro p hp))
  | (with_reducible refine w_SL ?_)
  | ((with_reducible refine w_SL2 (xs := ?xx) ?hh ?_); (case hh => walk_at "sq"))
  | (with_reducible refine w_sl ?_)
  | (with_reducible refine w_nopart ?_)
  | (with_reducible refine w_part ?_)
  | (with_reducible refine w_part2 ?_)
  | ((with_reducible refine w_gt2T (x := ?xx) (y := ?yy) ?hh ?_); (case hh => walk_at "at"))
  | ((with_reducible refine w_gt3T (x := ?xx) (y := ?yy) (z := ?zz) ?hh ?_); (case hh => walk_at "at"))
  | (with_reducible refine w_bm ?_)
  | (with_reducible refine w_bm0 ?_)
  | ((with_reducible refine w_tyL (xs := ?xx) ?hh ?_); (case hh => walk_at "at"))
  | ((with_reducible refine w_dnew ?_); intro p hp)
  | (with_reducible refine w_lkeys ?_)
  | (with_reducible refine w_lvals ?_)
  | (with_reducible refine w_svals ?_)
  | ((with_reducible refine w_disp ?_); intro p hp)
  | ((with_reducible refine w_dend ?hh ?_); (case hh => walk_at "at"))
  | ((with_reducible refine w_l0 (x0 := ?x0) (x1 := ?x1) (x2 := ?x2) (x3 := ?x3) (x4 := ?x4) ?_ ?hh); (case hh => walk_at "at"))
  | ((with_reducible refine w_l1 (x0 := ?x0) (x1 := ?x1) (x2 := ?x2) (x3 := ?x3) (x4 := ?x4) ?_ ?hh); (case hh => walk_at "at"))
  | ((with_reducible refine w_l2 (x0 := ?x0) (x1 := ?x1) (x2 := ?x2) (x3 := ?x3) (x4 := ?x4) ?_ ?hh); (case hh => walk_at "at"))
  | ((with_reducible refine w_l3 (x0 := ?x0) (x1 := ?x1) (x2 := ?x2) (x3 := ?x3) (x4 := ?x4) ?_ ?hh); (case hh => walk_at "at"))
  | ((with_reducible refine w_l4 (x0 := ?x0) (x1 := ?x1) (x2 := ?x2) (x3 := ?x3) (x4 := ?x4) ?_ ?hh); (case hh => walk_at "at"))
  | ((with_reducible refine w_s1 (x0 := ?x0) (x1 := ?x1) (x2 := ?x2) (x3 := ?x3) (x4 := ?x4) ?_ ?hh); (case hh => walk_at "at"))
  | ((with_reducible refine w_s2 (x0 := ?x0) (x1 := ?x1) (x2 := ?x2) (x3 := ?x3) (x4 := ?x4) ?_ ?hh); (case hh => walk_at "at"))
  | ((with_reducible refine w_s3 (x0 := ?x0) (x1 := ?x1) (x2 := ?x2) (x3 := ?x3) (x4 := ?x4) ?_ ?hh); (case hh => walk_at "at"))
  | ((with_reducible refine w_s4 (x0 := ?x0) (x1 := ?x1) (x2 := ?x2) (x3 := ?x3) (x4 := ?x4) ?_ ?hh); (case hh => walk_at "at"))
  | (with_reducible refine w_gsub ?_)
  | (with_reducible refine w_fld1 ?_)
  | ((with_reducible refine w_fld2 (C := ?CC) (dx := ?dx) (fs := ?fs) (v := ?vv) ?h1 ?h2 ?h3 ?h4 ?_); (case h1 => walk_at "at"); (case h2 => assumption); (case h3 => assumption); (case h4 => assumption))
  | (with_reducible refine w_meth ?_)
  | ((with_reducible refine w_meth2 (dx := ?dx) (fs := ?fs) ?h1 ?h2 ?_); (case h1 => walk_at "at"); (case h2 => assumption))
  | (with_reducible refine w_prop ?_)
  | ((with_reducible refine w_prop2 (dx := ?dx) (fs := ?fs) ?h1 ?_); (case h1 => walk_at "at"))
  | (with_reducible refine w_sfld ?_)
  | (with_reducible refine w_make ?_)
  | (with_reducible refine w_dc ?_)
  | (with_reducible refine w_dget ?_)
  | (with_reducible refine w_dget2 ?_)
  | (with_reducible refine w_din ?_)
  | (with_reducible refine w_dnin ?_)
  | (with_reducible refine w_dput ?_)
  | (with_reducible refine w_items ?_)
  | (with_reducible refine w_vals ?_)
  | (with_reducible refine w_keysM ?_)
  | (with_reducible refine w_keys ?_)
  | ((with_reducible refine w_frz (od := ?oo) (kvs := ?kk) ?hh ?_); (case hh => walk_at "at"))
  | ((with_reducible refine w_frzK (od := ?oo) (kvs := ?kk) ?hh ?_); (case hh => walk_at "at"))
  | ((with_reducible refine w_sortLots ?_); intro fkey)
  | (with_reducible refine w_tup ?_)
  | (with_reducible refine w_lst ?_))
local macro_rules | `(tactic| walk_at "ar") => `(tactic| first | omega | exact rfl)
local macro_rules | `(tactic| walk_at "om") => `(tactic| first | assumption | omega)
local macro_rules | `(tactic| walk_at "go") => `(tactic| repeat (walk_at "g1"))
local macro_rules | `(tactic| walk_at "sm") => `(tactic| first
  | exact Same.refl _
  | assumption
  | exact same_new (by assumption)
  | (refine Same.trans ?_ (same_new (by assumption)); walk_at "sm")
  | (refine same_mut ?_ (by assumption); walk_at "sm")
  | (refine Same.trans ?_ (by assumption); walk_at "sm"))
local macro_rules | `(tactic| walk_at "sq") => `(tactic| first
  | assumption
  | ((refine Same.seq ?_ (by assumption)); walk_at "sm"))
local macro_rules | `(tactic| walk_at "at") => `(tactic| first
  | assumption
  | exact upd_same
  | exact (by assumption : Same _ _) _ _ (by assumption)
  | ((refine (?ss : Same _ _) _ _ (by assumption)); (case ss => walk_at "sm")))
local macro_rules | `(tactic| walk_at "lg") => `(tactic| first | assumption | (rw [Int.natAbs_natCast]; omega))
local macro_rules | `(tactic| walk_at "sb") => `(tactic| first
  | exact SBut.refl
  | assumption
  | exact same_but (by assumption)
  | exact sbut_new (by assumption)
  | (refine SBut.trans ?_ (sbut_new (by assumption)); walk_at "sb")
  | (refine sbut_mut ?_ (by assumption); walk_at "sb")
  | (refine SBut.trans ?_ (by assumption); walk_at "sb")
  | (refine SBut.trans ?_ (same_but (by assumption)); walk_at "sb"))
/-! ## F11 -/
section
set_option maxHeartbeats 2000000
open PySem PySem.Spec PyProof.Rows L2


variable {P : Program} {w : World} {K : PySem.W.Frag} {mg : Str → Option Value} {base : Heap}
abbrev nm_law_bag : List Str := ["_law_script", "_law_cell", "_law_cells_here", "_law_blend"]
theorem sc_law_bag : FnScope nm_law_bag ["_law_script"] (defScope s_law_bag) := ⟨rfl, rfl, rfl, by decide +kernel, rfl, by decide +kernel, by decide +kernel⟩
abbrev t_law_bag (K : PySem.W.Frag) : TS := (tSeq (tAsg (tLc (iList K (tSl (rSlL K) (tVar 0) tNoPart (tPart (tC (.int 63))))) (gName 1) tYes (tCB rIntI (tCons (tVar 1) tNil)) [1]) (gName 2))
    (tSeq (tAsg (tC (.int 12042061)) (gName 3))
    (tSeq (tFor (iList K (tVar 2)) (gName 1) (tAsg (tOp rModI (tCB rIntI (tCons (tOp rAddI (tOp rAddI (tOp rMulW (tVar 3) (tC (.int 40093))) (tOp rModI (tCB rIntI (tCons (tVar 1) tNil)) (tC (.int 2147483399)))) (tC (.int 41))) tNil)) (tC (.int 2147483549))) (gName 3)))
    (tRet (tLst (tCons (tVar 2) (tCons (tC (.int 0)) (tCons (tC (.int 0)) (tCons (tVar 3) (tCons (tC (.int 0)) tNil))))))))))
theorem c_law_bag (T : Tx K mg) : C8.Cal P w K mg base 1 "_law_bag" (sp_law_bag K) [] := by
  refine calG T.f_law_bag (fun _ _ _ _ _ _ us hl => match us, hl with | [_], _ => rfl) sc_law_bag (fun vs H Q E h => ?_) (fun f cdv A outer s H vs Q E hr h => have hu := hu_of hr; ⟨t_law_bag K, (pss_cons (ps_setLc (i := 2) (own := [("_law_cell", 1)]) rfl sc_law_bag.nd rfl rfl (sw_true rfl rfl rfl (by decide +kernel)) (pi_list (pe_slice sl_list (pv 0) po_none (po_some pe_int))) (blkOk_by (own := [("_law_cell", 1)]) (N := nm_law_bag) (sc := (defScope s_law_bag)) (by decide +kernel)) (fun _ _ _ _ _ => (pg_name (i := 1) sc_law_bag.nd rfl (Or.inl rfl) (hf := Or.inr rfl))) (fun _ _ _ _ _ => pts_nil) (fun _ _ _ _ _ => (pe_callTy call_int1 (by rfl) T.b_int bt_int (pa_cons (pv 1) pa_nil))))
      (pss_cons (ps_set (i := 3) sc_law_bag.nd rfl (Or.inl rfl) pe_int)
      (pss_cons (ps_for PassesOwn.never rfl (pi_list (pv 2)) (pg_name (i := 1) sc_law_bag.nd rfl (Or.inl rfl) (hf := Or.inr rfl)) (pss_one (ps_set (i := 3) sc_law_bag.nd rfl (Or.inl rfl) (pe_op op_mod (pe_callTy call_int1 (by rfl) T.b_int bt_int (pa_cons (pe_op op_add (pe_op op_add (pe_op op_mulW (pv 3) pe_int) (pe_op op_mod (pe_callTy call_int1 (by rfl) T.b_int bt_int (pa_cons (pv 1) pa_nil)) pe_int)) pe_int) pa_nil)) pe_int))))
      (pss_one (ps_ret (pe_lst (pa_cons (pv 2) (pa_cons pe_int (pa_cons pe_int (pa_cons (pv 3) (pa_cons pe_int pa_nil))))))))))), ?_⟩)
  · obtain ⟨a, zs, rfl, _⟩ := h
    rfl
  · obtain ⟨a, zs, rfl, ha, hl, k⟩ := h
    walk_at "go"
    have e63 : (63 : Int) = ((63 : Nat) : Int) := rfl
    rw [e63]
    refine w_slTo ha fun p1 n1 => ?_
    have hq1 : SqL K (upd H p1 (.lst ((zs.take 63).map V.int))) p1 ((zs.take 63).map V.int) := .inl (.inl upd_same)
    have hz : (zs.take 63).length ≤ 1000 := by rw [List.length_take]; omega
    walk_at "go"
    refine lc_val1 (zs.take 63) V.int walk_listM (by omega) (fun H' s => s.seq hq1) ?_ ?_
    · rintro i z v H2 H3 R hi s2 ⟨rfl, z', hz', rfl⟩ k1
      obtain rfl : z' = z := Option.some.inj (hz'.symm.trans hi)
      walk_at "go"
      exact k1 _ (Same.refl _)
    · intro D H2 nD s2 hD
      have hq2 : SqL K H2 D ((zs.take 63).map V.int) := .inl (.inl hD)
      have nD0 : H D = none := (same_new n1).free nD
      have s3 : Same H H2 := (same_new n1).trans s2
      walk_at "go"
      refine for_G (n := (zs.take 63).length) walk_listM (fun i σ H' => H' = H2 ∧ ∃ (u : Option V) (bl : Nat), bl < 2147483563 ∧ σ = [some (.ref a), u, some (.ref D), some (.int (bl : Nat))]) ⟨rfl, _, 12042061, by decide, rfl⟩ (fun i σ H' _ h => by rw [h.1]; exact hq2) ?_ ?_
      · rintro i v σ H3 H4 hi ⟨rfl, u, bl, hbl, rfl⟩ ⟨rfl, z, hz', rfl⟩
        walk_at "go"
        refine w_I (mulW (lg30 (by omega)) (lgI (by decide) (by decide))) ?_
        walk_at "go"
        refine w_modK (by decide) fun b1 h1 => ?_
        walk_at "go"
        refine w_modK (by decide) fun b2 h2 => ?_
        walk_at "go"
        exact ⟨rfl, _, b2, by omega, rfl⟩
      · rintro σ H3 ⟨rfl, u, bl, hbl, rfl⟩
        walk_at "go"
        rename_i p hp
        refine k ⟨p, D, zs.take 63⟩ _ (s3.trans (same_new hp)) (s3.free hp) nD0 ⟨0, 0, 0, bl, upd_same, same_new hp _ _ hD, ne_of_none hD hp, hbl, Nat.le_refl _⟩
abbrev nm_law_draw : List Str := ["_law_bag_here", "_law_many", "_law_cell", "_law_digit", "_law_blend"]
theorem sc_law_draw : FnScope nm_law_draw ["_law_bag_here", "_law_many"] (defScope s_law_draw) := ⟨rfl, rfl, rfl, by decide +kernel, rfl, by decide +kernel, by decide +kernel⟩
abbrev t_law_draw (K : PySem.W.Frag) : TS := (tSeq (tIfS (tAnd (tTest (tOp rEq (tOp (rIxL K) (tVar 0) (tC (.int 2))) (tC (.int 0)))) (tTest (tOp rLtI (tOp (rIxL K) (tVar 0) (tC (.int 1))) (tCB (rLenQ K) (tCons (tOp (rIxL K) (tVar 0) (tC (.int 0))) tNil))))) (tSeq (tAsg (tOp (rIxL K) (tOp (rIxL K) (tVar 0) (tC (.int 0))) (tOp (rIxL K) (tVar 0) (tC (.int 1)))) (gName 2))
    (tSeq (tAsg (tOp rAddI (tOp (rIxL K) (tVar 0) (tC (.int 1))) (tC (.int 1))) (gSub (tVar 0) (tC (.int 1)) rSetL))
    (tIfS (tTest (tOp rGeI (tCB rAbs (tCons (tVar 2) tNil)) (tOp rPowI (tC (.int 10)) (tC (.int 18))))) (tAsg (tCB rAbs (tCons (tVar 2) tNil)) (gSub (tVar 0) (tC (.int 2)) rSetL)) (tAsg (tOp rModI (tCB rIntI (tCons (tOp rAddI (tOp rAddI (tOp rMulW (tOp (rIxL K) (tVar 0) (tC (.int 3))) (tC (.int 27109))) (tOp rModI (tCB rIntI (tCons (tVar 2) tNil)) (tC (.int 2147483477)))) (tC (.int 53))) tNil)) (tC (.int 2147483549))) (gSub (tVar 0) (tC (.int 3)) rSetL))))) tNext)
    (tSeq (tIfS (tTest (tOp rGtI (tOp (rIxL K) (tVar 0) (tC (.int 2))) (tC (.int 0)))) (tSeq (tAsg (tOp rModI (tCB rIntI (tCons (tOp (rIxL K) (tVar 0) (tC (.int 2))) tNil)) (tVar 1)) (gName 3))
    (tSeq (tAsg (tOp rDivW (tCB rIntI (tCons (tOp (rIxL K) (tVar 0) (tC (.int 2))) tNil)) (tVar 1)) (gSub (tVar 0) (tC (.int 2)) rSetL))
    (tRet (tVar 3)))) tNext)
    (tSeq (tAsg (tOp rAddI (tOp (rIxL K) (tVar 0) (tC (.int 4))) (tC (.int 1))) (gSub (tVar 0) (tC (.int 4)) rSetL))
    (tSeq (tAsg (tOp rModI (tCB rIntI (tCons (tOp rAddI (tOp (rIxL K) (tVar 0) (tC (.int 3))) (tOp rMulW (tOp (rIxL K) (tVar 0) (tC (.int 4))) (tC (.int 9241)))) tNil)) (tC (.int 2147483563))) (gName 4))
    (tSeq (tAsg (tOp rModI (tCB rIntI (tCons (tOp rAddI (tOp rAddI (tOp rPowI (tVar 4) (tC (.int 3))) (tOp rMulW (tC (.int 52379)) (tVar 4))) (tC (.int 3313))) tNil)) (tC (.int 2147483563))) (gSub (tVar 0) (tC (.int 3)) rSetL))
    (tRet (tOp rModI (tCB rIntI (tCons (tOp rAddI (tOp rDivW (tOp (rIxL K) (tVar 0) (tC (.int 3))) (tC (.int 71))) (tOp rMulW (tOp rModI (tCB rIntI (tCons (tOp (rIxL K) (tVar 0) (tC (.int 3))) tNil)) (tC (.int 8011))) (tC (.int 43)))) tNil)) (tVar 1))))))))
theorem c_law_draw (T : Tx K mg) : C8.Cal P w K mg base 1 "_law_draw" (sp_law_draw K) [] := by
  refine calG T.f_law_draw (fun _ _ _ _ _ _ us hl => match us, hl with | [_, _], _ => rfl) sc_law_draw (fun vs H Q E h => ?_) (fun f cdv A outer s H vs Q E hr h => have hu := hu_of hr; ⟨t_law_draw K, (pss_cons (ps_if (PW.pt (pw_and (pt_cmpR op_eq (pe_ix ix_list (pv 0) pe_int (fun _ _ => rfl)) pe_int (nomark _)) (pw_and1 (pt_cmpR op_lt (pe_ix ix_list (pv 0) pe_int (fun _ _ => rfl)) (pe_callB call_len_seq (by rfl) T.b_len bt_len (pa_cons (pe_ix ix_list (pv 0) pe_int (fun _ _ => rfl)) pa_nil)) (nomark _))))) (pss_cons (ps_set (i := 2) sc_law_draw.nd rfl (Or.inl rfl) (pe_ix ix_list (pe_ix ix_list (pv 0) pe_int (fun _ _ => rfl)) (pe_ix ix_list (pv 0) pe_int (fun _ _ => rfl)) (fun _ _ => rfl)))
      (pss_cons (ps_asg (pe_op op_add (pe_ix ix_list (pv 0) pe_int (fun _ _ => rfl)) pe_int) (pg_sub (pv 0) pe_int set_list))
      (pss_one (ps_if (pt_cmpR op_ge (pe_callB call_abs (by rfl) T.b_abs bt_abs (pa_cons (pv 2) pa_nil)) (pe_op op_pow pe_int pe_int) (nomark _)) (pss_one (ps_asg (pe_callB call_abs (by rfl) T.b_abs bt_abs (pa_cons (pv 2) pa_nil)) (pg_sub (pv 0) pe_int set_list))) (pss_one (ps_asg (pe_op op_mod (pe_callTy call_int1 (by rfl) T.b_int bt_int (pa_cons (pe_op op_add (pe_op op_add (pe_op op_mulW (pe_ix ix_list (pv 0) pe_int (fun _ _ => rfl)) pe_int) (pe_op op_mod (pe_callTy call_int1 (by rfl) T.b_int bt_int (pa_cons (pv 2) pa_nil)) pe_int)) pe_int) pa_nil)) pe_int) (pg_sub (pv 0) pe_int set_list))))))) pss_nil)
      (pss_cons (ps_if (pt_cmpR op_gt (pe_ix ix_list (pv 0) pe_int (fun _ _ => rfl)) pe_int (nomark _)) (pss_cons (ps_set (i := 3) sc_law_draw.nd rfl (Or.inl rfl) (pe_op op_mod (pe_callTy call_int1 (by rfl) T.b_int bt_int (pa_cons (pe_ix ix_list (pv 0) pe_int (fun _ _ => rfl)) pa_nil)) (pv 1)))
      (pss_cons (ps_asg (pe_op op_fdivW (pe_callTy call_int1 (by rfl) T.b_int bt_int (pa_cons (pe_ix ix_list (pv 0) pe_int (fun _ _ => rfl)) pa_nil)) (pv 1)) (pg_sub (pv 0) pe_int set_list))
      (pss_one (ps_ret (pv 3))))) pss_nil)
      (pss_cons (ps_asg (pe_op op_add (pe_ix ix_list (pv 0) pe_int (fun _ _ => rfl)) pe_int) (pg_sub (pv 0) pe_int set_list))
      (pss_cons (ps_set (i := 4) sc_law_draw.nd rfl (Or.inl rfl) (pe_op op_mod (pe_callTy call_int1 (by rfl) T.b_int bt_int (pa_cons (pe_op op_add (pe_ix ix_list (pv 0) pe_int (fun _ _ => rfl)) (pe_op op_mulW (pe_ix ix_list (pv 0) pe_int (fun _ _ => rfl)) pe_int)) pa_nil)) pe_int))
      (pss_cons (ps_asg (pe_op op_mod (pe_callTy call_int1 (by rfl) T.b_int bt_int (pa_cons (pe_op op_add (pe_op op_add (pe_op op_pow (pv 4) pe_int) (pe_op op_mulW pe_int (pv 4))) pe_int) pa_nil)) pe_int) (pg_sub (pv 0) pe_int set_list))
      (pss_one (ps_ret (pe_op op_mod (pe_callTy call_int1 (by rfl) T.b_int bt_int (pa_cons (pe_op op_add (pe_op op_fdivW (pe_ix ix_list (pv 0) pe_int (fun _ _ => rfl)) pe_int) (pe_op op_mulW (pe_op op_mod (pe_callTy call_int1 (by rfl) T.b_int bt_int (pa_cons (pe_ix ix_list (pv 0) pe_int (fun _ _ => rfl)) pa_nil)) pe_int) pe_int)) pa_nil)) (pv 1))))))))), ?_⟩)
  · obtain ⟨B, m, n, rfl, _⟩ := h
    rfl
  · obtain ⟨B, m, n, rfl, hb, hm, hn, hn2, k⟩ := h
    obtain ⟨i, kk, r, bl, e1, e2, hcb, hbl, hk⟩ := hb
    have q1 : SqL K H B.b [.ref B.c, .int (i : Nat), .int (r : Nat), .int (bl : Nat), .int (kk : Nat)] := .inl (.inl e1)
    have q2 : SqL K H B.c (B.zs.map V.int) := .inl (.inl e2)
    have fin : ∀ (H1 : Hp) (i' r' bl' kk' d : Nat), SBut B.b H H1 → H1 B.b = some (.lst [.ref B.c, .int (i' : Nat), .int (r' : Nat), .int (bl' : Nat), .int (kk' : Nat)]) → bl' < 2147483563 → kk' ≤ m + 1 → d < n → Q (.int (d : Nat)) H1 := fun H1 i' r' bl' kk' d s1 h1 h2 h3 h4 =>
      k d H1 s1 ⟨i', kk', r', bl', h1, s1 _ _ hcb e2, hcb, h2, h3⟩ h4
    have part2 : ∀ (H1 : Hp) (i' r' bl' : Nat) (u2 u3 u4 : Option V), SBut B.b H H1 → H1 B.b = some (.lst [.ref B.c, .int (i' : Nat), .int (r' : Nat), .int (bl' : Nat), .int (kk : Nat)]) → bl' < 2147483563 →
        (tSeq (tIfS (tTest (tOp rGtI (tOp (rIxL K) (tVar 0) (tC (.int 2))) (tC (.int 0)))) (tSeq (tAsg (tOp rModI (tCB rIntI (tCons (tOp (rIxL K) (tVar 0) (tC (.int 2))) tNil)) (tVar 1)) (gName 3))
    (tSeq (tAsg (tOp rDivW (tCB rIntI (tCons (tOp (rIxL K) (tVar 0) (tC (.int 2))) tNil)) (tVar 1)) (gSub (tVar 0) (tC (.int 2)) rSetL))
    (tRet (tVar 3)))) tNext) (tSeq (tAsg (tOp rAddI (tOp (rIxL K) (tVar 0) (tC (.int 4))) (tC (.int 1))) (gSub (tVar 0) (tC (.int 4)) rSetL)) (tSeq (tAsg (tOp rModI (tCB rIntI (tCons (tOp rAddI (tOp (rIxL K) (tVar 0) (tC (.int 3))) (tOp rMulW (tOp (rIxL K) (tVar 0) (tC (.int 4))) (tC (.int 9241)))) tNil)) (tC (.int 2147483563))) (gName 4)) (tSeq (tAsg (tOp rModI (tCB rIntI (tCons (tOp rAddI (tOp rAddI (tOp rPowI (tVar 4) (tC (.int 3))) (tOp rMulW (tC (.int 52379)) (tVar 4))) (tC (.int 3313))) tNil)) (tC (.int 2147483563))) (gSub (tVar 0) (tC (.int 3)) rSetL)) (tRet (tOp rModI (tCB rIntI (tCons (tOp rAddI (tOp rDivW (tOp (rIxL K) (tVar 0) (tC (.int 3))) (tC (.int 71))) (tOp rMulW (tOp rModI (tCB rIntI (tCons (tOp (rIxL K) (tVar 0) (tC (.int 3))) tNil)) (tC (.int 8011))) (tC (.int 43)))) tNil)) (tVar 1))))))) { nx := fun x H' => Q .non H', rt := Q } [some (.ref B.b), some (.int (n : Nat)), u2, u3, u4] H1 := by
      intro H1 i' r' bl' u2 u3 u4 s1 h1 hb1
      walk_at "go"
      refine w_dec (fun e => ?_) (fun e => ?_)
      · walk_at "go"
        refine w_modK (by omega) fun d hd => ?_
        walk_at "go"
        refine w_I ⟨by omega, ?_⟩ ?_
        · rw [Int.natAbs_natCast]
          exact Nat.lt_of_le_of_lt (log2_mono hn2) (by decide +kernel)
        walk_at "go"
        rw [← Int.natCast_ediv]
        walk_at "go"
        exact fin _ i' (r' / n) bl' kk d (s1.trans sbut_upd) upd_same hb1 (by omega) (by omega)
      · walk_at "go"
        refine w_I (mulW (lgI (by omega) (by omega)) (lgI (by decide) (by decide))) ?_
        walk_at "go"
        refine w_modK (by decide) fun b1 hb1' => ?_
        walk_at "go"
        refine w_I ⟨by decide, by decide, ?_⟩ ?_
        · rw [Int.natAbs_natCast]; have : (2147483563 : Nat) < 2 ^ 64 := by decide
          omega
        walk_at "go"
        refine w_I (mulW (lgI (by decide) (by decide)) (lgI (by omega) (by omega))) ?_
        walk_at "go"
        refine w_modK (by decide) fun b2 hb2' => ?_
        walk_at "go"
        refine w_I ⟨by decide, by decide +kernel⟩ ?_
        walk_at "go"
        refine w_modK (by decide) fun b3 hb3' => ?_
        walk_at "go"
        refine w_I (mulW (lgI (by omega) (by omega)) (lgI (by decide) (by decide))) ?_
        walk_at "go"
        refine w_modK (by omega) fun d hd => ?_
        walk_at "go"
        have ek : ((kk : Int) + 1) = ((kk + 1 : Nat) : Int) := by omega
        rw [ek]
        exact fin _ i' r' b2 (kk + 1) d ((s1.trans sbut_upd).trans sbut_upd) upd_same (by omega) (by omega) (by omega)
    refine w_seq ?_
    generalize hN : (tSeq (tIfS (tTest (tOp rGtI (tOp (rIxL K) (tVar 0) (tC (.int 2))) (tC (.int 0)))) (tSeq (tAsg (tOp rModI (tCB rIntI (tCons (tOp (rIxL K) (tVar 0) (tC (.int 2))) tNil)) (tVar 1)) (gName 3))
    (tSeq (tAsg (tOp rDivW (tCB rIntI (tCons (tOp (rIxL K) (tVar 0) (tC (.int 2))) tNil)) (tVar 1)) (gSub (tVar 0) (tC (.int 2)) rSetL))
    (tRet (tVar 3)))) tNext) (tSeq (tAsg (tOp rAddI (tOp (rIxL K) (tVar 0) (tC (.int 4))) (tC (.int 1))) (gSub (tVar 0) (tC (.int 4)) rSetL)) (tSeq (tAsg (tOp rModI (tCB rIntI (tCons (tOp rAddI (tOp (rIxL K) (tVar 0) (tC (.int 3))) (tOp rMulW (tOp (rIxL K) (tVar 0) (tC (.int 4))) (tC (.int 9241)))) tNil)) (tC (.int 2147483563))) (gName 4)) (tSeq (tAsg (tOp rModI (tCB rIntI (tCons (tOp rAddI (tOp rAddI (tOp rPowI (tVar 4) (tC (.int 3))) (tOp rMulW (tC (.int 52379)) (tVar 4))) (tC (.int 3313))) tNil)) (tC (.int 2147483563))) (gSub (tVar 0) (tC (.int 3)) rSetL)) (tRet (tOp rModI (tCB rIntI (tCons (tOp rAddI (tOp rDivW (tOp (rIxL K) (tVar 0) (tC (.int 3))) (tC (.int 71))) (tOp rMulW (tOp rModI (tCB rIntI (tCons (tOp (rIxL K) (tVar 0) (tC (.int 3))) tNil)) (tC (.int 8011))) (tC (.int 43)))) tNil)) (tVar 1))))))) { nx := fun x H' => Q .non H', rt := Q } = N at part2 ⊢
    walk_at "go"
    refine w_dec (fun e0 => ?_) (fun e0 => ?_)
    · walk_at "go"
      refine w_dec (fun e3 => ?_) (fun e3 => ?_)
      · have hi : i < B.zs.length := by omega
        have hz : (B.zs.map V.int)[i]? = some (.int B.zs[i]) := by rw [List.getElem?_map]; simp [hi]
        walk_at "go"
        refine w_ixL' (xs := B.zs.map V.int) ?_ q2 hz
        walk_at "go"
        refine w_I ⟨by decide, by decide, by decide⟩ ?_
        walk_at "go"
        have ei : ((i : Int) + 1) = ((i + 1 : Nat) : Int) := by omega
        rw [ei]
        split
        · walk_at "go"
          exact part2 _ (i + 1) _ bl _ _ _ (sbut_upd.trans sbut_upd) upd_same hbl
        · walk_at "go"
          refine w_I (mulW (lgI (by omega) (by omega)) (lgI (by decide) (by decide))) ?_
          walk_at "go"
          refine w_modK (by decide) fun b1 hb1 => ?_
          walk_at "go"
          refine w_modK (by decide) fun b2 hb2 => ?_
          walk_at "go"
          exact part2 _ (i + 1) r b2 _ _ _ (sbut_upd.trans sbut_upd) upd_same (by omega)
      · walk_at "go"
        exact part2 H i r bl _ _ _ SBut.refl e1 hbl
    · walk_at "go"
      exact part2 H i r bl _ _ _ SBut.refl e1 hbl
end
/-! ## F12 -/
section
set_option maxHeartbeats 2000000
open PySem PySem.Spec PyProof.Rows L2


variable {P : Program} {w : World} {K : PySem.W.Frag} {mg : Str → Option Value} {base : Heap}
abbrev nm_law_of : List Str := ["_law_bag_here", "_law_some"]
theorem sc_law_of : FnScope nm_law_of ["_law_bag_here", "_law_some"] (defScope s_law_of) := ⟨rfl, rfl, rfl, by decide +kernel, rfl, by decide +kernel, by decide +kernel⟩
abbrev t_law_of (K : PySem.W.Frag) : TS := (tRet (tOp (rIxL K) (tVar 1) (tCall (sp_law_draw K) [] E0 (tCons (tVar 0) (tCons (tCB (rLenQ K) (tCons (tVar 1) tNil)) tNil)))))
theorem c_law_of (T : Tx K mg) : C8.Cal P w K mg base 2 "_law_of" (sp_law_of K) [] := by
  refine calG T.f_law_of (fun _ _ _ _ _ _ us hl => match us, hl with | [_, _], _ => rfl) sc_law_of (fun vs H Q E h => ?_) (fun f cdv A outer s H vs Q E hr h => have hu := hu_of hr; ⟨t_law_of K, (pss_one (ps_ret (pe_ix ix_list (pv 1) (C8.pe_c (c_law_draw T) hr (by decide) (by rfl) (pa_cons (pv 0) (pa_cons (pe_callB call_len_seq (by rfl) T.b_len bt_len (pa_cons (pv 1) pa_nil)) pa_nil))) (fun _ _ => rfl)))), ?_⟩)
  · obtain ⟨B, a, m, xs, rfl, _⟩ := h
    rfl
  · obtain ⟨B, a, m, xs, rfl, hb, hm, ha, hab, hne, hl, k⟩ := h
    have hpos : 0 < xs.length := List.length_pos_iff.mpr hne
    have hq : SqL K H a xs := .inl (.inl ha)
    walk_at "go"
    refine ⟨B, m, xs.length, rfl, hb, hm, hpos, by omega, fun d H1 s1 b1 hd => ?_⟩
    have hx : xs[d]? = some xs[d] := by simp [hd]
    refine w_ixL' (xs := xs) ?_ (.inl (.inl (s1 _ _ hab ha))) hx
    exact k _ H1 s1 b1 (List.getElem_mem hd)
abbrev nm_law_ofS : List Str := ["_law_bag_here", "_law_some"]
theorem sc_law_ofS : FnScope nm_law_ofS ["_law_bag_here", "_law_some"] (defScope s_law_ofS) := ⟨rfl, rfl, rfl, by decide +kernel, rfl, by decide +kernel, by decide +kernel⟩
abbrev t_law_ofS (K : PySem.W.Frag) : TS := (tRet (tOp rIxS (tVar 1) (tCall (sp_law_draw K) [] E0 (tCons (tVar 0) (tCons (tCB rLenS (tCons (tVar 1) tNil)) tNil)))))
theorem c_law_ofS (T : Tx K mg) : C8.Cal P w K mg base 2 "_law_of" (sp_law_ofS K) [] := by
  refine calG T.f_law_of (fun _ _ _ _ _ _ us hl => match us, hl with | [_, _], _ => rfl) sc_law_ofS (fun vs H Q E h => ?_) (fun f cdv A outer s H vs Q E hr h => have hu := hu_of hr; ⟨t_law_ofS K, (pss_one (ps_ret (pe_ix ix_str (pv 1) (C8.pe_c (c_law_draw T) hr (by decide) (by rfl) (pa_cons (pv 0) (pa_cons (pe_callB call_len_str (by rfl) T.b_len bt_len (pa_cons (pv 1) pa_nil)) pa_nil))) (fun _ _ => rfl)))), ?_⟩)
  · obtain ⟨B, m, x, rfl, _⟩ := h
    rfl
  · obtain ⟨B, m, x, rfl, hb, hm, hne, hl, k⟩ := h
    have hpos : 0 < x.length := List.length_pos_iff.mpr hne
    walk_at "go"
    refine ⟨B, m, x.length, rfl, hb, hm, hpos, by omega, fun d H1 s1 b1 hd => ?_⟩
    have hx : x[d]? = some x[d] := by simp [hd]
    walk_at "go"
    exact k _ H1 s1 b1 (List.getElem_mem hd)
abbrev nm_law_sign : List Str := ["_law_bag_here", "_law_cells_here", "_law_at"]
theorem sc_law_sign : FnScope nm_law_sign ["_law_bag_here", "_law_cells_here", "_law_at"] (defScope s_law_sign) := ⟨rfl, rfl, rfl, by decide +kernel, rfl, by decide +kernel, by decide +kernel⟩
abbrev t_law_sign (K : PySem.W.Frag) : TS := (tRet (tCB rStrI (tCons (tCall (sp_law_draw K) [] E0 (tCons (tVar 0) (tCons (tOp (rIxT K) (tOp (rIxL K) (tVar 1) (tVar 2)) (tC (.int 1))) tNil))) tNil)))
theorem c_law_sign (T : Tx K mg) : C8.Cal P w K mg base 2 "_law_sign" (sp_law_sign K) [] := by
  refine calG T.f_law_sign (fun _ _ _ _ _ _ us hl => match us, hl with | [_, _, _], _ => rfl) sc_law_sign (fun vs H Q E h => ?_) (fun f cdv A outer s H vs Q E hr h => have hu := hu_of hr; ⟨t_law_sign K, (pss_one (ps_ret (pe_callTy call_str_int (by rfl) T.b_str bt_str (pa_cons (C8.pe_c (c_law_draw T) hr (by decide) (by rfl) (pa_cons (pv 0) (pa_cons (pe_ix ix_tup (pe_ix ix_list (pv 1) (pv 2) (fun _ _ => rfl)) pe_int (fun _ _ => rfl)) pa_nil))) pa_nil)))), ?_⟩)
  · obtain ⟨B, a, m, i, cs, c, rfl, _⟩ := h
    rfl
  · obtain ⟨B, a, m, i, cs, c, rfl, hb, hm, hc, hab, hi, hk1, hk4, k⟩ := h
    have hq : SqL K H a (cs.map fun c => .ref c.p) := .inl (.inl hc.l)
    have hx : (cs.map fun c => V.ref c.p)[i]? = some (.ref c.p) := by rw [List.getElem?_map, hi]; rfl
    have hcp : H c.p = some (.tup [.str (S c.nm), .int (c.k : Nat)]) := hc.c c (List.mem_of_getElem? hi)
    walk_at "go"
    refine w_ixL' ?_ hq hx
    walk_at "go"
    refine ⟨B, m, c.k, rfl, hb, by omega, by omega, by omega, fun d H1 s1 b1 hd => ?_⟩
    walk_at "go"
    refine ⟨d, rfl, ?_, ?_⟩
    · rw [Int.natAbs_natCast]
      exact Nat.lt_of_le_of_lt (log2_mono (show d ≤ 4 by omega)) (by decide)
    have e : toString (d : Int) = toString (d : Int) := rfl
    have h4 : d = 0 ∨ d = 1 ∨ d = 2 ∨ d = 3 := by omega
    have hs : (V.str (toString (d : Int)) : V) = V.str (S [48 + d]) := by
      rcases h4 with h | h | h | h <;> subst h <;> exact congrArg V.str (by decide +kernel)
    have k2 := k (48 + d) H1 s1 b1 (by omega) (by omega)
    rw [← hs] at k2
    exact k2
abbrev nm_law_word : List Str := ["_law_bag_here", "_law_k"]
theorem sc_law_word : FnScope nm_law_word ["_law_bag_here"] (defScope s_law_word) := ⟨rfl, rfl, rfl, by decide +kernel, rfl, by decide +kernel, by decide +kernel⟩
abbrev t_law_word (K : PySem.W.Frag) : TS := (tRet (tM1 (rJoin K) (tC (.str "")) (tLc (iRng1 (tCons (tCall (sp_law_draw K) [] E0 (tCons (tVar 0) (tCons (tC (.int 6)) tNil))) tNil)) (gName 1) tYes (tCall (sp_law_ofS K) [] E0 (tCons (tVar 0) (tCons (tC (.str "abcdefghijklmnopqrstuvwxyz")) tNil))) [1])))
theorem c_law_word (T : Tx K mg) : C8.Cal P w K mg base 3 "_law_word" (sp_law_word K) [] := by
  refine calG T.f_law_word (fun _ _ _ _ _ _ us hl => match us, hl with | [_], _ => rfl) sc_law_word (fun vs H Q E h => ?_) (fun f cdv A outer s H vs Q E hr h => have hu := hu_of hr; ⟨t_law_word K, (pss_one (ps_ret (pe_join pe_str (pe_lc (own := [("_law_k", 1)]) rfl sc_law_word.nd (pi_range1 (by rfl) T.b_range (pa_cons (C8.pe_c (c_law_draw T) hr (by decide) (by rfl) (pa_cons (pv 0) (pa_cons pe_int pa_nil))) pa_nil)) (blkOk_by (own := [("_law_k", 1)]) (N := nm_law_word) (sc := (defScope s_law_word)) (by decide +kernel)) (fun _ _ _ _ _ => (pg_name (i := 1) sc_law_word.nd rfl (Or.inl rfl) (hf := Or.inr rfl))) (fun _ _ _ _ _ => pts_nil) (fun _ _ _ _ _ => (C8.pe_c (c_law_ofS T) hr (by decide) (by rfl) (pa_cons (pv 0) (pa_cons pe_str pa_nil)))))))), ?_⟩)
  · obtain ⟨B, m, rfl, _⟩ := h
    rfl
  · obtain ⟨B, m, rfl, hb, hm, k⟩ := h
    walk_at "go"
    refine ⟨B, m, 6, rfl, hb, by omega, by decide, by decide, fun d H1 s1 b1 hd => ?_⟩
    walk_at "go"
    refine lc_bag (n := d) (c := 1) (m := m + 1) walk_rng (by omega) b1 (fun _ c => 97 ≤ c ∧ c ≤ 122) ?_ ?_
    · rintro i v H2 H3 R hi s2 b2 ⟨rfl, rfl⟩ k1
      walk_at "go"
      rw [lit_abc]
      refine ⟨B, _, _, rfl, b2, by omega, by decide, by decide, fun c H4 s4 b4 hc => ?_⟩
      refine k1 c H4 s4 b4 ?_
      obtain ⟨j, hj, rfl⟩ := List.mem_map.mp hc
      have := List.mem_range.mp hj
      omega
    · intro D H2 ds nD hDb hDc s2 b2 hl hp hD
      refine w_joinR hD (by omega) (k ds H2 (s1.trans s2) (b2.mono (by omega)) (by omega) fun c hc => ?_)
      obtain ⟨j, hj, e⟩ := List.getElem_of_mem hc
      exact hp j c (by rw [← e]; simp [hj])
end
end NT
/-! ## E1 -/
section
set_option maxHeartbeats 2000000
namespace NT
open PySem PySem.Spec PyProof.Rows L2
theorem sbut_mut {b p : Addr} {H H' : Hp} {o : HO} (s : SBut b H H') (n : H p = none) : SBut b H (upd H' p o) := fun a u ha e => by
  rw [upd_ne (ne_of_none e n)]
  exact s a u ha e
theorem sbut_new {b p : Addr} {H : Hp} {o : HO} (n : H p = none) : SBut b H (upd H p o) := same_but (same_new n)
theorem CellOk.sb {B : Bg} {m : Nat} {H H' : Hp} {c : Cell} (h : CellOk H c) (b : BagAt B m H) (s : SBut B.b H H') : CellOk H' c := by
  obtain ⟨xs, hx⟩ := b.someB
  exact s _ _ (ne_of h hx (by intro z; cases z)) h
theorem CellsAt.sb {B : Bg} {m : Nat} {H H' : Hp} {a : Addr} {cs : List Cell} (h : CellsAt H a cs) (b : BagAt B m H) (s : SBut B.b H H') (n : a ≠ B.b) : CellsAt H' a cs := ⟨s _ _ n h.l, fun c hc => (h.c c hc).sb b s⟩
theorem w_popAt {H : Hp} {Q : VK} {p : Addr} {xs : List V} {k : Nat} {y : V} (h : H p = some (.lst xs)) (hk : k < 1000000) (hy : xs[k]? = some y) (q : Q y (upd H p (.lst (xs.eraseIdx k)))) : rPopAt (.ref p) [.int (k : Nat)] H Q := by
  have hlt : k < xs.length := (List.getElem?_eq_some_iff.mp hy).1
  refine ⟨p, xs, k, k, y, rfl, rfl, h, by omega, by omega, ?_, hy, q⟩
  unfold seqIndex?
  simp
  omega
/-- names of one bag: the letter is the first or the last sign -/
def keyN (fr : Nat) (nm : Row) : Option Nat := if fr = 0 then nm.head? else nm.getLast?
/-- the cells so far -/
structure CellsI (fr : Nat) (L : Row) (cs : List Cell) (i : Nat) : Prop where
  len : cs.length = i
  nd : L.Nodup
  ll : L.length = 26 - i
  ab : ∀ c ∈ L, 97 ≤ c ∧ c ≤ 122
  names : ∀ c ∈ cs, NameOk c.nm
  ks : ∀ c ∈ cs, 1 ≤ c.k ∧ c.k ≤ 4
  ndn : (cs.map Cell.nm).Nodup
  key : ∀ c ∈ cs, ∀ l ∈ L, keyN fr c.nm ≠ some l
theorem CellsI.zero (fr : Nat) : CellsI fr ((List.range 26).map (· + 97)) [] 0 :=
  ⟨rfl, by decide, by decide, fun c hc => by
    obtain ⟨j, hj, rfl⟩ := List.mem_map.mp hc
    have := List.mem_range.mp hj
    omega, fun c h => absurd h List.not_mem_nil, fun c h => absurd h List.not_mem_nil, List.nodup_nil, fun c h => absurd h List.not_mem_nil⟩
theorem erase_map {α β : Type} (f : α → β) (l : List α) (j : Nat) : (l.map f).eraseIdx j = (l.eraseIdx j).map f := by
  rw [List.eraseIdx_eq_take_drop_succ, List.eraseIdx_eq_take_drop_succ, List.map_append, List.map_take, List.map_drop]
theorem keyN_new (fr l : Nat) (t : Row) : keyN fr (if fr = 0 then l :: t else t ++ [l]) = some l := by
  unfold keyN
  by_cases h : fr = 0
  · rw [if_pos h, if_pos h]; rfl
  · rw [if_neg h, if_neg h]; simp
theorem CellsI.step {fr : Nat} {L : Row} {cs : List Cell} {i j l : Nat} {t : Row} {c : Cell} (I : CellsI fr L cs i) (hi : i < 6) (hl : L[j]? = some l) (ht : t.length ≤ 5) (hta : ∀ c ∈ t, 97 ≤ c ∧ c ≤ 122) (hn : c.nm = if fr = 0 then l :: t else t ++ [l]) (hk : 1 ≤ c.k ∧ c.k ≤ 4) : CellsI fr (L.eraseIdx j) (cs ++ [c]) (i + 1) := by
  have hlm := List.mem_of_getElem? hl
  have hj : j < L.length := (List.getElem?_eq_some_iff.mp hl).1
  have hnew : NameOk c.nm := by
    rw [hn]
    have hla := I.ab l hlm
    by_cases h : fr = 0
    · rw [if_pos h]
      refine ⟨by simp, by simp; omega, fun x hx => ?_⟩
      rcases List.mem_cons.mp hx with e | e
      · rw [e]; exact hla
      · exact hta x e
    · rw [if_neg h]
      refine ⟨by simp, by simp; omega, fun x hx => ?_⟩
      rcases List.mem_append.mp hx with e | e
      · exact hta x e
      · rw [List.mem_singleton.mp e]; exact hla
  have hno : ∀ l' ∈ L.eraseIdx j, l' ≠ l := fun l' hm e => by
    subst e
    have hsplit : L = L.take j ++ L[j] :: L.drop (j + 1) := by rw [List.getElem_cons_drop, List.take_append_drop]
    have hel : L[j] = l' := (List.getElem?_eq_some_iff.mp hl).2
    rw [List.eraseIdx_eq_take_drop_succ] at hm
    have nd := I.nd
    rw [hsplit, hel] at nd
    obtain ⟨n1, n2, n3⟩ := List.nodup_append.mp nd
    rcases List.mem_append.mp hm with z | z
    · exact n3 l' z l' List.mem_cons_self rfl
    · exact (List.nodup_cons.mp n2).1 z
  refine ⟨by rw [List.length_append, I.len]; rfl, I.nd.sublist (List.eraseIdx_sublist ..), ?_, fun x hx => I.ab x (List.mem_of_mem_eraseIdx hx), ?_, ?_, ?_, ?_⟩
  · rw [List.length_eraseIdx_of_lt hj, I.ll]; omega
  · intro x hx
    rcases List.mem_append.mp hx with e | e
    · exact I.names x e
    · rw [List.mem_singleton.mp e]; exact hnew
  · intro x hx
    rcases List.mem_append.mp hx with e | e
    · exact I.ks x e
    · rw [List.mem_singleton.mp e]; exact hk
  · rw [List.map_append]
    refine List.nodup_append.mpr ⟨I.ndn, List.nodup_cons.mpr ⟨List.not_mem_nil, List.nodup_nil⟩, fun x hx y hy e => ?_⟩
    obtain ⟨c', hc', rfl⟩ := List.mem_map.mp hx
    rw [List.map_cons, List.map_nil, List.mem_singleton] at hy
    refine I.key c' hc' l hlm ?_
    rw [e, hy, hn]
    exact keyN_new fr l t
  · intro x hx l' hl'
    rcases List.mem_append.mp hx with e | e
    · exact I.key x e l' (List.mem_of_mem_eraseIdx hl')
    · rw [List.mem_singleton.mp e, hn, keyN_new]
      intro z
      exact hno l' hl' (Option.some.inj z).symm
theorem w_catS {H : Hp} {Q : VK} {x y : Row} (q : Q (.str (S (x ++ y))) H) (h : x.length + y.length ≤ 1000) : rCatS (.str (S x)) (.str (S y)) H Q := by
  refine ⟨S x, S y, rfl, rfl, ?_, ?_⟩
  · rw [show (S x).length = x.length from S_size x, show (S y).length = y.length from S_size y]; exact sl1000 h
  · have e : (S x ++ S y : Str) = S (x ++ y) := by
      show Str.mk _ = Str.mk _
      congr 1
      show x.toArray ++ y.toArray = (x ++ y).toArray
      simp
    rw [e]; exact q
def sp_law_cells (K : PySem.W.Frag) : Sp := fun vs H Q _ => ∃ B, ∃ m : Nat, vs = [.ref B.b] ∧ BagAt B m H ∧ m ≤ 80000 ∧ ∀ p (H' : Hp) (cs : List Cell), SBut B.b H H' → BagAt B (m + 200) H' → H p = none → p ≠ B.b → p ≠ B.c → CellsAt H' p cs → CellsOk cs → Q (.ref p) H'
end NT
end
namespace NT
open PySem PySem.Spec PyProof.Rows L2
local macro_rules | `(tactic| walk_at "g1") => `(tactic| first
  | ((with_reducible refine w_var (v := ?vv) ?_ ?hh); (case hh => exact rfl))
  | (with_reducible refine w_c ?_)
  | (with_reducible refine w_op ?_)
  | (with_reducible refine w_un ?_)
  | (with_reducible refine w_I0 ?_)
  | (with_reducible refine w_U ?_)
  | (with_reducible refine w_dot ?_)
  | (with_reducible refine w_ndot ?_)
  | (with_reducible refine w_plusS ?_)
  | (with_reducible refine w_it ?_)
  | (with_reducible refine w_if0 ?_)
  | ((with_reducible refine w_wp ?_ ?hh); (case hh => exact rfl))
  | (with_reducible refine w_eqI ?_)
  | (with_reducible refine w_neI ?_)
  | (with_reducible refine w_eqS ?_)
  | (with_reducible refine w_neS ?_)
  | ((with_reducible refine w_eq ?_ ?hh); (case hh => exact rfl))
  | ((with_reducible refine w_ne ?_ ?hh); (case hh => exact rfl))
  | (with_reducible refine w_isN ?_)
  | (with_reducible refine w_notN ?_)
  | (with_reducible refine w_inS ?_)
  | (with_reducible refine w_notInS ?_)
  | (with_reducible refine w_test ?_)
  | (with_reducible refine w_tB ?_)
  | (with_reducible refine w_bl ?_)
  | (with_reducible refine w_not ?_)
  | (with_reducible refine w_and ?_)
  | (with_reducible refine w_or ?_)
  | (with_reducible refine w_tru ?_)
  | (with_reducible refine w_andV ?_)
  | (with_reducible refine w_orV ?_)
  | (with_reducible refine w_notV ?_)
  | (with_reducible refine w_if ?_)
  | (with_reducible refine w_nil ?_)
  | (with_reducible refine w_cons ?_)
  | (with_reducible refine w_CB ?_)
  | (with_reducible refine w_call ?_)
  | (with_reducible refine w_seq ?_)
  | (with_reducible refine w_asg ?_)
  | (with_reducible refine w_name ?_)
  | (with_reducible refine w_ret ?_)
  | (with_reducible refine w_ifs ?_)
  | (with_reducible refine w_nx ?_)
  | (with_reducible refine w_drop ?_)
  | (with_reducible refine w_par ?_)
  | (with_reducible refine w_par2 ?_)
  | (with_reducible refine w_par3 ?_)
  | (with_reducible refine w_par33 ?_)
  | (with_reducible refine w_lc ?_)
  | (with_reducible refine w_SS ?_)
  | (with_reducible refine w_SS2 ?_)
  | (with_reducible refine w_iStr ?_)
  | (with_reducible refine w_str ?_)
  | (with_reducible refine w_iList ?_)
  | (with_reducible refine w_rng ?_)
  | (with_reducible refine w_for ?_)
  | (with_reducible refine w_enum ?_)
  | ((with_reducible refine w_aref (xs := ?xx) ?hh ?_); (case hh => walk_at "sq"))
  | ((with_reducible refine w_aref2 (xs := ?xx) ?hh ?_); (case hh => walk_at "sq"))
  | (with_reducible refine w_gt2 ?_)
  | (with_reducible refine w_yes ?_)
  | (with_reducible refine w_M1 ?_)
  | (with_reducible refine w_and2 ?_)
  | (with_reducible refine w_abs ?_)
  | (with_reducible refine w_int ?_)
  | ((with_reducible refine w_t0 (x := ?vv) (xs := ?ww) ?_ ?hh); (case hh => walk_at "at"))
  | ((with_reducible refine w_t1 (x := ?vv) (y := ?uu) (xs := ?ww) ?_ ?hh); (case hh => walk_at "at"))
  | ((with_reducible refine w_ixS (c := ?cc) ?_ ?hh ?hl); (case hh => assumption); (case hl => walk_at "om"))
  | ((with_reducible refine w_lenS ?_ ?hl); (case hl => walk_at "om"))
  | ((with_reducible refine w_lenM (α := ?aa) (l := ?ll) (f := ?ff) ?_ ?hh); (case hh => walk_at "sq"))
  | ((with_reducible refine w_lenT (xs := ?xx) ?_ ?hh); (case hh => walk_at "at"))
  | ((with_reducible refine w_lenL (xs := ?xx) ?_ ?hh); (case hh => walk_at "sq"))
  | ((with_reducible refine w_dots ?_ ?hh); (case hh => walk_at "om"))
  | (with_reducible refine w_countD ?_)
  | (with_reducible refine w_count ?_)
  | ((with_reducible refine w_rng2 ?_ ?hh); (case hh => walk_at "om"))
  | (with_reducible refine w_str ?_)
  | (with_reducible refine w_chain ?_)
  | (with_reducible refine w_ifnT ?_)
  | (with_reducible refine w_ifnF ?_)
  | (with_reducible refine w_isi_ss ?_)
  | (with_reducible refine w_isi_ii ?_)
  | (with_reducible refine w_isi_ib ?_)
  | ((with_reducible refine w_isi_tt (xs := ?xx) ?hh ?_); (case hh => walk_at "at"))
  | ((with_reducible refine w_isT_l (xs := ?xx) ?h1 ?h2 ?_); (case h1 => walk_at "at"); (case h2 => walk_at "at"))
  | ((with_reducible refine w_decT ?hh ?_); (case hh => walk_at "ar"))
  | ((with_reducible refine w_decF ?hh ?_); (case hh => walk_at "ar"))
  | ((with_reducible refine w_ndecT ?hh ?_); (case hh => walk_at "ar"))
  | ((with_reducible refine w_ndecF ?hh ?_); (case hh => walk_at "ar"))
  | ((with_reducible refine w_inL (l := ?ll) ?hh ?_); (case hh => walk_at "sq"))
  | ((with_reducible refine w_ninL (l := ?ll) ?hh ?_); (case hh => walk_at "sq"))
  | ((with_reducible refine w_pnew ?_ ?hh); (case hh => exact rfl); (intro p hp))
  | (with_reducible refine w_SL ?_)
  | ((with_reducible refine w_SL2 (xs := ?xx) ?hh ?_); (case hh => walk_at "sq"))
  | (with_reducible refine w_sl ?_)
  | (with_reducible refine w_nopart ?_)
  | (with_reducible refine w_part ?_)
  | (with_reducible refine w_part2 ?_)
  | ((with_reducible refine w_gt2T (x := ?xx) (y := ?yy) ?hh ?_); (case hh => walk_at "at"))
  | ((with_reducible refine w_gt3T (x := ?xx) (y := ?yy) (z := ?zz) ?hh ?_); (case hh => walk_at "at"))
  | (with_reducible refine w_bm ?_)
  | (with_reducible refine w_bm0 ?_)
  | ((with_reducible refine w_tyL (xs := ?xx) ?hh ?_); (case hh => walk_at "at"))
  | ((with_reducible refine w_dnew ?_); intro p hp)
  | (with_reducible refine w_lkeys ?_)
  | (with_reducible refine w_lvals ?_)
  | (with_reducible refine w_svals ?_)
  | ((with_reducible refine w_disp ?_); intro p hp)
  | ((with_reducible refine w_dend ?hh ?_); (case hh => walk_at "at"))
  | ((with_reducible refine w_l0 (x0 := ?x0) (x1 := ?x1) (x2 := ?x2) (x3 := ?x3) (x4 := ?x4) ?_ ?hh); (case hh => walk_at "at"))
  | ((with_reducible refine w_l1 (x0 := ?x0) (x1 := ?x1) (x2 := ?x2) (x3 := ?x3) (x4 := ?x4) ?_ ?hh); (case hh => walk_at "at"))
  | ((with_reducible refine w_l2 (x0 := ?x0) (x1 := ?x1) (x2 := ?x2) (x3 := ?x3) (x4 := ?x4) ?_ ?hh); (case hh => walk_at "at"))
  | ((with_reducible refine w_l3 (x0 := ?x0) (x1 := ?x1) (x2 := ?x2) (x3 := ?x3) (x4 := ?x4) ?_ ?hh); (case hh => walk_at "at"))
  | ((with_reducible refine w_l4 (x0 := ?x0) (x1 := ?x1) (x2 := ?x2) (x3 := ?x3) (x4 := ?x4) ?_ ?hh); (case hh => walk_at "at"))
  | ((with_reducible refine w_s1 (x0 := ?x0) (x1 := ?x1) (x2 := ?x2) (x3 := ?x3) (x4 := ?x4) ?_ ?hh); (case hh => walk_at "at"))
  | ((with_reducible refine w_s2 (x0 := ?x0) (x1 := ?x1) (x2 := ?x2) (x3 := ?x3) (x4 := ?x4) ?_ ?hh); (case hh => walk_at "at"))
  | ((with_reducible refine w_s3 (x0 := ?x0) (x1 := ?x1) (x2 := ?x2) (x3 := ?x3) (x4 := ?x4) ?_ ?hh); (case hh => walk_at "at"))
  | ((with_reducible refine w_s4 (x0 := ?x0) (x1 := ?x1) (x2 := ?x2) (x3 := ?x3) (x4 := ?x4) ?_ ?hh); (case hh => walk_at "at"))
  | (with_reducible refine w_gsub ?_)
  | (with_reducible refine w_fld1 ?_)
  | ((with_reducible refine w_fld2 (C := ?CC) (dx := ?dx) (fs := ?fs) (v := ?vv) ?h1 ?h2 ?h3 ?h4 ?_); (case h1 => walk_at "at"); (case h2 => assumption); (case h3 => assumption); (case h4 => assumption))
  | (with_reducible refine w_meth ?_)
  | ((with_reducible refine w_meth2 (dx := ?dx) (fs := ?fs) ?h1 ?h2 ?_); (case h1 => walk_at "at"); (case h2 => assumption))
  | (with_reducible refine w_prop ?_)
  | ((with_reducible refine w_prop2 (dx := ?dx) (fs := ?fs) ?h1 ?_); (case h1 => walk_at "at"))
  | (with_reducible refine w_sfld ?_)
  | (with_reducible refine w_make ?_)
  | (with_reducible refine w_dc ?_)
  | (with_reducible refine w_dget ?_)
  | (with_reducible refine w_dget2 ?_)
  | (with_reducible refine w_din ?_)
  | (with_reducible refine w_dnin ?_)
  | (with_reducible refine w_dput ?_)
  | (with_reducible refine w_items ?_)
  | (with_reducible refine w_vals ?_)
  | (with_reducible refine w_keysM ?_)
  | (with_reducible refine w_keys ?_)
  | ((with_reducible refine w_frz (od := ?oo) (kvs := ?kk) ?hh ?_); (case hh => walk_at "at"))
  | ((with_reducible refine w_frzK (od := ?oo) (kvs := ?kk) ?hh ?_); (case hh => walk_at "at"))
  | ((with_reducible refine w_sortLots ?_); intro fkey)
  | (with_reducible refine w_tup ?_)
  | (with_reducible refine w_lst ?_))
local macro_rules | `(tactic| walk_at "ar") => `(tactic| first | omega | exact rfl)
local macro_rules | `(tactic| walk_at "om") => `(tactic| first | assumption | omega)
local macro_rules | `(tactic| walk_at "go") => `(tactic| repeat (walk_at "g1"))
local macro_rules | `(tactic| walk_at "sm") => `(tactic| first
  | exact Same.refl _
  | assumption
  | exact same_new (by assumption)
  | (refine Same.trans ?_ (same_new (by assumption)); walk_at "sm")
  | (refine same_mut ?_ (by assumption); walk_at "sm")
  | (refine Same.trans ?_ (by assumption); walk_at "sm"))
local macro_rules | `(tactic| walk_at "sq") => `(tactic| first
  | assumption
  | ((refine Same.seq ?_ (by assumption)); walk_at "sm"))
local macro_rules | `(tactic| walk_at "at") => `(tactic| first
  | assumption
  | exact upd_same
  | exact (by assumption : Same _ _) _ _ (by assumption)
  | ((refine (?ss : Same _ _) _ _ (by assumption)); (case ss => walk_at "sm")))
local macro_rules | `(tactic| walk_at "lg") => `(tactic| first | assumption | (rw [Int.natAbs_natCast]; omega))
local macro_rules | `(tactic| walk_at "sb") => `(tactic| first
  | exact SBut.refl
  | assumption
  | exact same_but (by assumption)
  | exact sbut_new (by assumption)
  | (refine SBut.trans ?_ (sbut_new (by assumption)); walk_at "sb")
  | (refine sbut_mut ?_ (by assumption); walk_at "sb")
  | (refine SBut.trans ?_ (by assumption); walk_at "sb")
  | (refine SBut.trans ?_ (same_but (by assumption)); walk_at "sb"))
/-! ## F13 -/
section
set_option maxHeartbeats 2000000
open PySem PySem.Spec PyProof.Rows L2


variable {P : Program} {w : World} {K : PySem.W.Frag} {mg : Str → Option Value} {base : Heap}
abbrev nm_law_cells : List Str := ["_law_bag_here", "_law_pool", "_law_found", "_law_front", "_law_tail", "_law_high", "_law_k", "_law_letter", "_law_many"]
theorem sc_law_cells : FnScope nm_law_cells ["_law_bag_here"] (defScope s_law_cells) := ⟨rfl, rfl, rfl, by decide +kernel, rfl, by decide +kernel, by decide +kernel⟩
abbrev t_law_cells (K : PySem.W.Frag) : TS := (tSeq (tPar 1 2 (tCons (tCB rListS (tCons (tC (.str "abcdefghijklmnopqrstuvwxyz")) tNil)) (tCons (tLst tNil) tNil)))
    (tSeq (tPar3 3 4 5 (tCons (tCall (sp_law_draw K) [] E0 (tCons (tVar 0) (tCons (tC (.int 2)) tNil))) (tCons (tCall (sp_law_word K) [] E0 (tCons (tVar 0) tNil)) (tCons (tCall (sp_law_of K) [] E0 (tCons (tVar 0) (tCons (tLst (tCons (tC (.int 2)) (tCons (tC (.int 3)) (tCons (tC (.int 2)) (tCons (tC (.int 3)) (tCons (tC (.int 4)) tNil)))))) tNil))) tNil))))
    (tSeq (tFor (iRng1 (tCons (tCall (sp_law_of K) [] E0 (tCons (tVar 0) (tCons (tLst (tCons (tC (.int 3)) (tCons (tC (.int 4)) (tCons (tC (.int 3)) (tCons (tC (.int 2)) (tCons (tC (.int 4)) (tCons (tC (.int 5)) (tCons (tC (.int 3)) (tCons (tC (.int 2)) (tCons (tC (.int 1)) (tCons (tC (.int 4)) (tCons (tC (.int 5)) (tCons (tC (.int 6)) tNil))))))))))))) tNil))) tNil)) (gName 6) (tSeq (tAsg (tBM K "list" rPopAt (tVar 1) (tCons (tCall (sp_law_draw K) [] E0 (tCons (tVar 0) (tCons (tCB (rLenQ K) (tCons (tVar 1) tNil)) tNil))) tNil)) (gName 7))
    (tSeq (tIfS (tTest (tOp rEq (tCall (sp_law_draw K) [] E0 (tCons (tVar 0) (tCons (tC (.int 2)) tNil))) (tC (.int 0)))) (tAsg (tCall (sp_law_word K) [] E0 (tCons (tVar 0) tNil)) (gName 4)) tNext)
    (tSeq (tAsg (tIf (tTest (tOp rGtI (tCall (sp_law_draw K) [] E0 (tCons (tVar 0) (tCons (tC (.int 3)) tNil))) (tC (.int 0)))) (tVar 5) (tOp rAddI (tC (.int 1)) (tCall (sp_law_draw K) [] E0 (tCons (tVar 0) (tCons (tVar 5) tNil))))) (gName 8))
    (tDrop (tBM K "list" rAppend (tVar 2) (tCons (tTup (tCons (tIf (tTest (tOp rEq (tVar 3) (tC (.int 0)))) (tOp rCatS (tVar 7) (tVar 4)) (tOp rCatS (tVar 4) (tVar 7))) (tCons (tVar 8) tNil))) tNil)))))))
    (tRet (tVar 2)))))
theorem c_law_cells (T : Tx K mg) : C8.Cal P w K mg base 4 "_law_cells" (sp_law_cells K) [] := by
  refine calG T.f_law_cells (fun _ _ _ _ _ _ us hl => match us, hl with | [_], _ => rfl) sc_law_cells (fun vs H Q E h => ?_) (fun f cdv A outer s H vs Q E hr h => have hu := hu_of hr; ⟨t_law_cells K, (pss_cons (ps_par (i := 1) (j := 2) (by rfl) sc_law_cells.nd rfl rfl (by decide) rfl rfl (pa_cons (pe_callTy (call_list_strS rfl) (by rfl) T.b_list bt_list (pa_cons pe_str pa_nil)) (pa_cons (pe_lst pa_nil) pa_nil)) (by rfl))
      (pss_cons (ps_par3 (i := 3) (j := 4) (l := 5) (by rfl) sc_law_cells.nd rfl rfl rfl (by decide) (by decide) (by decide) rfl rfl rfl (pa_cons (C8.pe_c (c_law_draw T) hr (by decide) (by rfl) (pa_cons (pv 0) (pa_cons pe_int pa_nil))) (pa_cons (C8.pe_c (c_law_word T) hr (by decide) (by rfl) (pa_cons (pv 0) pa_nil)) (pa_cons (C8.pe_c (c_law_of T) hr (by decide) (by rfl) (pa_cons (pv 0) (pa_cons (pe_lst (pa_cons pe_int (pa_cons pe_int (pa_cons pe_int (pa_cons pe_int (pa_cons pe_int pa_nil)))))) pa_nil))) pa_nil))) (by rfl))
      (pss_cons (ps_for PassesOwn.never rfl (pi_range1 (by rfl) T.b_range (pa_cons (C8.pe_c (c_law_of T) hr (by decide) (by rfl) (pa_cons (pv 0) (pa_cons (pe_lst (pa_cons pe_int (pa_cons pe_int (pa_cons pe_int (pa_cons pe_int (pa_cons pe_int (pa_cons pe_int (pa_cons pe_int (pa_cons pe_int (pa_cons pe_int (pa_cons pe_int (pa_cons pe_int (pa_cons pe_int pa_nil))))))))))))) pa_nil))) pa_nil)) (pg_name (i := 6) sc_law_cells.nd rfl (Or.inl rfl) (hf := Or.inr rfl)) (pss_cons (ps_set (i := 7) sc_law_cells.nd rfl (Or.inl rfl) (pe_bm PySem.F.plainAttrs_list PySem.F.slot_list_pop PySem.F.type_list_pop mt_popAt (pv 1) (pa_cons (C8.pe_c (c_law_draw T) hr (by decide) (by rfl) (pa_cons (pv 0) (pa_cons (pe_callB call_len_seq (by rfl) T.b_len bt_len (pa_cons (pv 1) pa_nil)) pa_nil))) pa_nil)))
      (pss_cons (ps_if (pt_cmpR op_eq (C8.pe_c (c_law_draw T) hr (by decide) (by rfl) (pa_cons (pv 0) (pa_cons pe_int pa_nil))) pe_int (nomark _)) (pss_one (ps_set (i := 4) sc_law_cells.nd rfl (Or.inl rfl) (C8.pe_c (c_law_word T) hr (by decide) (by rfl) (pa_cons (pv 0) pa_nil)))) pss_nil)
      (pss_cons (ps_set (i := 8) sc_law_cells.nd rfl (Or.inl rfl) (pe_ifExp (pt_cmpR op_gt (C8.pe_c (c_law_draw T) hr (by decide) (by rfl) (pa_cons (pv 0) (pa_cons pe_int pa_nil))) pe_int (nomark _)) (pv 5) (pe_op op_add pe_int (C8.pe_c (c_law_draw T) hr (by decide) (by rfl) (pa_cons (pv 0) (pa_cons (pv 5) pa_nil))))))
      (pss_one (ps_expr (pe_bm PySem.F.plainAttrs_list PySem.F.slot_list_append PySem.F.type_list_append mt_append (pv 2) (pa_cons (pe_tup (pa_cons (pe_ifExp (pt_cmpR op_eq (pv 3) pe_int (nomark _)) (pe_op op_add_str (pv 7) (pv 4)) (pe_op op_add_str (pv 4) (pv 7))) (pa_cons (pv 8) pa_nil))) pa_nil))))))))
      (pss_one (ps_ret (pv 2)))))), ?_⟩)
  · obtain ⟨B, m, rfl, _⟩ := h
    rfl
  · obtain ⟨B, m, rfl, hb, hm, k⟩ := h
    walk_at "go"
    rw [lit_abc]
    refine ⟨(List.range 26).map (· + 97), rfl, by decide, fun pp np => ?_⟩
    walk_at "go"
    rename_i pf nf
    have hb1 : BagAt B m (upd H pp (.lst (((List.range 26).map (· + 97)).map fun c => .str (S [c])))) := hb.same (same_new np)
    have hb2 := hb1.same (same_new nf (o := .lst []))
    have hpp := hb.new np
    have hpf := hb1.new nf
    have npf : H pf = none := (same_new np).free nf
    have hpq : pp ≠ pf := fun e => by rw [e, upd_same] at nf; cases nf
    refine ⟨B, m, 2, rfl, hb2, by omega, by decide, by decide, fun fr H1 s1 b1 hfr => ?_⟩
    walk_at "go"
    refine ⟨B, m + 1, rfl, b1, by omega, fun t0 H2 s2 b2 ht0 hta0 => ?_⟩
    walk_at "go"
    rename_i q1 nq1
    have hq1 := b2.new nq1
    refine ⟨B, q1, m + 1 + 6, _, rfl, b2.same (same_new nq1), by omega, upd_same, hq1.1, List.cons_ne_nil _ _, by simp, fun v H3 s3 b3 hv => ?_⟩
    have hhigh : ∃ hg : Nat, v = .int hg ∧ 2 ≤ hg ∧ hg ≤ 4 := by
      simp only [List.mem_cons, List.not_mem_nil, or_false] at hv
      rcases hv with h | h | h | h | h <;> first | exact ⟨2, h, by decide, by decide⟩ | exact ⟨3, h, by decide, by decide⟩ | exact ⟨4, h, by decide, by decide⟩
    obtain ⟨hg, rfl, hg2, hg4⟩ := hhigh
    walk_at "go"
    rename_i q2 nq2
    have hq2 := b3.new nq2
    refine ⟨B, q2, m + 1 + 6 + 1, _, rfl, b3.same (same_new nq2), by omega, upd_same, hq2.1, List.cons_ne_nil _ _, by simp, fun v H4 s4 b4 hv => ?_⟩
    have hcnt : ∃ n : Nat, v = .int n ∧ 1 ≤ n ∧ n ≤ 6 := by
      simp only [List.mem_cons, List.not_mem_nil, or_false] at hv
      rcases hv with h | h | h | h | h | h | h | h | h | h | h | h <;> first | exact ⟨1, h, by decide, by decide⟩ | exact ⟨2, h, by decide, by decide⟩ | exact ⟨3, h, by decide, by decide⟩ | exact ⟨4, h, by decide, by decide⟩ | exact ⟨5, h, by decide, by decide⟩ | exact ⟨6, h, by decide, by decide⟩
    obtain ⟨n, rfl, hn1, hn6⟩ := hcnt
    have sA : SBut B.b (upd (upd H pp (.lst (((List.range 26).map (· + 97)).map fun c => .str (S [c])))) pf (.lst [])) H4 := by walk_at "sb"
    have sH : SBut B.b H H4 := ((sbut_new np).trans (sbut_new nf)).trans sA
    have hP4 : H4 pp = some (.lst (((List.range 26).map (· + 97)).map fun c => .str (S [c]))) := sA _ _ hpp.1 (by rw [upd_ne hpq]; exact upd_same)
    have hF4 : H4 pf = some (.lst []) := sA _ _ hpf.1 upd_same
    walk_at "go"
    refine for_G (n := n) walk_rng (fun i σ H' => ∃ (L : Row) (cs : List Cell) (t : Row) (u6 u7 u8 : Option V), CellsI fr L cs i ∧ SBut B.b H H' ∧ BagAt B (m + 10 + i * 20) H' ∧ H' pp = some (.lst (L.map fun c => .str (S [c]))) ∧ CellsAt H' pf cs ∧ t.length ≤ 5 ∧ (∀ c ∈ t, 97 ≤ c ∧ c ≤ 122) ∧
        σ = [some (.ref B.b), some (.ref pp), some (.ref pf), some (.int (fr : Nat)), some (.str (S t)), some (.int (hg : Nat)), u6, u7, u8])
      ⟨(List.range 26).map (· + 97), [], t0, _, _, _, CellsI.zero fr, sH, b4.mono (by omega), hP4, ⟨hF4, fun c h => absurd h List.not_mem_nil⟩, ht0, hta0, rfl⟩ (fun _ _ _ _ _ => trivial) ?_ ?_
    · rintro i x σ H5 H5' hi ⟨L, cs, t, u6, u7, u8, I, s5, b5, hP5, hC5, ht, hta, rfl⟩ ⟨rfl, rfl⟩
      have hll := I.ll
      have hqp : SqL K H5' pp (L.map fun c => .str (S [c])) := .inl (.inl hP5)
      walk_at "go"
      refine ⟨B, m + 10 + i * 20, L.length, rfl, b5, by omega, by omega, by omega, fun j H6 s6 b6 hj => ?_⟩
      have hP6 := s6 _ _ hpp.1 hP5
      have hC6 := hC5.sb b5 s6 hpf.1
      obtain ⟨l, hl⟩ : ∃ l, L[j]? = some l := ⟨L[j], by simp [hj]⟩
      refine w_popAt hP6 (by omega) (y := .str (S [l])) (by rw [List.getElem?_map, hl]; rfl) ?_
      have b6' : BagAt B (m + 10 + i * 20 + 1) (upd H6 pp (.lst ((L.map fun c => V.str (S [c])).eraseIdx j))) := b6.upd hpp.1 hpp.2
      have hC6' : CellsAt (upd H6 pp (.lst ((L.map fun c => V.str (S [c])).eraseIdx j))) pf cs := ⟨by rw [upd_ne hpq.symm]; exact hC6.l, fun c hc => by
        have h1 := hC6.c c hc
        unfold CellOk at h1 ⊢
        rw [upd_ne (ne_of h1 hP6 (by intro z; cases z))]; exact h1⟩
      have s6' : SBut B.b H (upd H6 pp (.lst ((L.map fun c => V.str (S [c])).eraseIdx j))) := sbut_mut (s5.trans s6) np
      have hP6' : upd H6 pp (.lst ((L.map fun c => V.str (S [c])).eraseIdx j)) pp = some (.lst ((L.eraseIdx j).map fun c => .str (S [c]))) := by rw [upd_same, erase_map]
      generalize upd H6 pp (.lst ((L.map fun c => V.str (S [c])).eraseIdx j)) = H7 at b6' hC6' s6' hP6'
      walk_at "go"
      have after : ∀ (t : Row) (H9 : Hp) (D : Ends), SBut B.b H7 H9 → BagAt B (m + 10 + i * 20 + 1 + 1 + 6) H9 → t.length ≤ 5 → (∀ c ∈ t, 97 ≤ c ∧ c ≤ 122) →
          (∀ (c : Cell) (H10 : Hp) (u8 : V), SBut B.b H H10 → BagAt B (m + 10 + i * 20 + 20) H10 → H10 pp = some (.lst ((L.eraseIdx j).map fun c => .str (S [c]))) → CellsAt H10 pf (cs ++ [c]) → (c.nm = if fr = 0 then l :: t else t ++ [l]) → 1 ≤ c.k ∧ c.k ≤ 4 →
            D.nx [some (.ref B.b), some (.ref pp), some (.ref pf), some (.int (fr : Nat)), some (.str (S t)), some (.int (hg : Nat)), some (.int (i : Nat)), some (.str (S [l])), some u8] H10) →
          (tSeq (tAsg (tIf (tTest (tOp rGtI (tCall (sp_law_draw K) [] E0 (tCons (tVar 0) (tCons (tC (.int 3)) tNil))) (tC (.int 0)))) (tVar 5) (tOp rAddI (tC (.int 1)) (tCall (sp_law_draw K) [] E0 (tCons (tVar 0) (tCons (tVar 5) tNil))))) (gName 8)) (tDrop (tBM K "list" rAppend (tVar 2) (tCons (tTup (tCons (tIf (tTest (tOp rEq (tVar 3) (tC (.int 0)))) (tOp rCatS (tVar 7) (tVar 4)) (tOp rCatS (tVar 4) (tVar 7))) (tCons (tVar 8) tNil))) tNil)))) D [some (.ref B.b), some (.ref pp), some (.ref pf), some (.int (fr : Nat)), some (.str (S t)), some (.int (hg : Nat)), some (.int (i : Nat)), some (.str (S [l])), u8] H9 := by
        intro t H9 D s9 b9 ht hta kk
        have fin : ∀ (mk : Nat) (H10 : Hp), 1 ≤ mk ∧ mk ≤ 4 → SBut B.b H7 H10 → BagAt B (m + 10 + i * 20 + 20) H10 →
            (tDrop (tBM K "list" rAppend (tVar 2) (tCons (tTup (tCons (tIf (tTest (tOp rEq (tVar 3) (tC (.int 0)))) (tOp rCatS (tVar 7) (tVar 4)) (tOp rCatS (tVar 4) (tVar 7))) (tCons (tVar 8) tNil))) tNil))) D [some (.ref B.b), some (.ref pp), some (.ref pf), some (.int (fr : Nat)), some (.str (S t)), some (.int (hg : Nat)), some (.int (i : Nat)), some (.str (S [l])), some (.int (mk : Nat))] H10 := by
          intro mk H10 hmk s10 b10
          have hC10 := hC6'.sb b6' s10 hpf.1
          have hP10 := s10 _ _ hpp.1 hP6'
          have hcl := I.len
          have hC10l := hC10.l
          have key : ∀ (nm : Row) (T : Addr), H10 T = none → (nm = if fr = 0 then l :: t else t ++ [l]) →
              D.nx [some (.ref B.b), some (.ref pp), some (.ref pf), some (.int (fr : Nat)), some (.str (S t)), some (.int (hg : Nat)), some (.int (i : Nat)), some (.str (S [l])), some (.int (mk : Nat))]
                (upd (upd H10 T (.tup [.str (S nm), .int (mk : Nat)])) pf (.lst ((cs.map fun c => V.ref c.p) ++ [.ref T]))) := by
            intro nm T hT hnm
            have hTp := b10.new hT
            have hTf : T ≠ pf := (ne_of_none hC10.l hT).symm
            have hTpp : T ≠ pp := (ne_of_none hP10 hT).symm
            refine kk ⟨T, nm, mk⟩ _ _ ?_ ((b10.same (same_new hT)).upd hpf.1 hpf.2) ?_ ⟨?_, ?_⟩ hnm hmk
            · exact sbut_mut ((s6'.trans s10).trans (sbut_new hT)) npf
            · rw [upd_ne hpq, upd_ne hTpp.symm]; exact hP10
            · rw [upd_same, List.map_append]; rfl
            · intro c hc
              unfold CellOk
              rcases List.mem_append.mp hc with e | e
              · have h1 := hC10.c c e
                unfold CellOk at h1
                rw [upd_ne (ne_of h1 hC10.l (by intro z; cases z)), upd_ne (ne_of_none h1 hT)]; exact h1
              · rw [List.mem_singleton.mp e, upd_ne hTf, upd_same]
          walk_at "go"
          refine w_dec (fun e => ?_) (fun e => ?_)
          · have e0 : fr = 0 := by omega
            walk_at "go"
            refine w_catS ?_ (by simp; omega)
            walk_at "go"
            rename_i T hT
            refine w_app (same_new hT _ _ hC10.l) (by rw [List.length_map]; omega) ?_
            exact key ([l] ++ t) T hT (by rw [if_pos e0]; rfl)
          · have e0 : ¬ fr = 0 := by omega
            walk_at "go"
            refine w_catS ?_ (by simp; omega)
            walk_at "go"
            rename_i T hT
            refine w_app (same_new hT _ _ hC10.l) (by rw [List.length_map]; omega) ?_
            exact key (t ++ [l]) T hT (by rw [if_neg e0])
        refine w_seq ?_
        generalize hN : (tDrop (tBM K "list" rAppend (tVar 2) (tCons (tTup (tCons (tIf (tTest (tOp rEq (tVar 3) (tC (.int 0)))) (tOp rCatS (tVar 7) (tVar 4)) (tOp rCatS (tVar 4) (tVar 7))) (tCons (tVar 8) tNil))) tNil))) D = N at fin ⊢
        walk_at "go"
        refine ⟨B, _, 3, rfl, b9, by omega, by decide, by decide, fun d1 H10 s10 b10 hd1 => ?_⟩
        walk_at "go"
        refine w_dec (fun e => ?_) (fun e => ?_)
        · walk_at "go"
          exact fin hg H10 ⟨by omega, hg4⟩ (s9.trans s10) (b10.mono (by omega))
        · walk_at "go"
          refine ⟨B, _, hg, rfl, b10, by omega, by omega, by omega, fun d2 H11 s11 b11 hd2 => ?_⟩
          walk_at "go"
          have e1 : ((1 : Int) + (d2 : Nat)) = ((1 + d2 : Nat) : Int) := by omega
          rw [e1]
          exact fin (1 + d2) H11 ⟨by omega, by omega⟩ ((s9.trans s10).trans s11) (b11.mono (by omega))
      have dn : ∀ (t : Row) (c : Cell) (H10 : Hp) (u8 : V), t.length ≤ 5 → (∀ c ∈ t, 97 ≤ c ∧ c ≤ 122) → SBut B.b H H10 → BagAt B (m + 10 + i * 20 + 20) H10 → H10 pp = some (.lst ((L.eraseIdx j).map fun c => .str (S [c]))) → CellsAt H10 pf (cs ++ [c]) → (c.nm = if fr = 0 then l :: t else t ++ [l]) → 1 ≤ c.k ∧ c.k ≤ 4 →
          ∃ (L : Row) (cs : List Cell) (t' : Row) (u6' u7' u8' : Option V), CellsI fr L cs (i + 1) ∧ SBut B.b H H10 ∧ BagAt B (m + 10 + (i + 1) * 20) H10 ∧ H10 pp = some (.lst (L.map fun c => .str (S [c]))) ∧ CellsAt H10 pf cs ∧ t'.length ≤ 5 ∧ (∀ c ∈ t', 97 ≤ c ∧ c ≤ 122) ∧
            [some (.ref B.b), some (.ref pp), some (.ref pf), some (.int (fr : Nat)), some (.str (S t)), some (.int (hg : Nat)), some (.int (i : Nat)), some (.str (S [l])), some u8] = [some (.ref B.b), some (.ref pp), some (.ref pf), some (.int (fr : Nat)), some (.str (S t')), some (.int (hg : Nat)), u6', u7', u8'] :=
        fun t c H10 u8 ht hta s10 b10 p10 c10 hnm hk => ⟨_, _, t, _, _, _, I.step (by omega) hl ht hta hnm hk, s10, b10.mono (by omega), p10, c10, ht, hta, rfl⟩
      refine ⟨B, _, 2, rfl, b6', by omega, by decide, by decide, fun d8 H8 s8 b8 hd8 => ?_⟩
      generalize hN : (tSeq (tAsg (tIf (tTest (tOp rGtI (tCall (sp_law_draw K) [] E0 (tCons (tVar 0) (tCons (tC (.int 3)) tNil))) (tC (.int 0)))) (tVar 5) (tOp rAddI (tC (.int 1)) (tCall (sp_law_draw K) [] E0 (tCons (tVar 0) (tCons (tVar 5) tNil))))) (gName 8)) (tDrop (tBM K "list" rAppend (tVar 2) (tCons (tTup (tCons (tIf (tTest (tOp rEq (tVar 3) (tC (.int 0)))) (tOp rCatS (tVar 7) (tVar 4)) (tOp rCatS (tVar 4) (tVar 7))) (tCons (tVar 8) tNil))) tNil)))) = N at after ⊢
      walk_at "go"
      refine w_dec (fun e => ?_) (fun e => ?_)
      · walk_at "go"
        refine ⟨B, _, rfl, b8, by omega, fun t' H9 s9 b9 ht' hta' => ?_⟩
        walk_at "go"
        exact after t' H9 _ (s8.trans s9) b9 ht' hta' fun c H10 u8 h1 h2 h3 h4 h5 h6 => dn t' c H10 u8 ht' hta' h1 h2 h3 h4 h5 h6
      · walk_at "go"
        exact after t H8 _ s8 (b8.mono (by omega)) ht hta fun c H10 u8 h1 h2 h3 h4 h5 h6 => dn t c H10 u8 ht hta h1 h2 h3 h4 h5 h6
    · rintro σ H5 ⟨L, cs, t, u6, u7, u8, I, s5, b5, hP5, hC5, ht, hta, rfl⟩
      walk_at "go"
      exact k pf H5 cs s5 (b5.mono (by omega)) npf hpf.1 hpf.2 hC5 ⟨by rw [I.len]; exact hn1, by rw [I.len]; exact hn6, I.names, I.ks, I.ndn⟩
end
/-! ## E2 -/
section
set_option maxHeartbeats 2000000
open PySem PySem.Spec PyProof.Rows L2
theorem w_setN {H : Hp} {p : Addr} {xs : List V} {j : Nat} {v : V} {R : Hp → Prop} (h : H p = some (.lst xs)) (hj : j < xs.length) (q : R (upd H p (.lst (xs.set j v)))) : rSetL (.ref p) (.int (j : Nat)) v H R := by
  refine ⟨p, xs, j, j, rfl, rfl, h, ?_, q⟩
  unfold ixN
  simp
  omega
/-- a row of the cells, sign by sign -/
def SignOk (cs : List Cell) (i d : Nat) : Prop := d = 46 ∨ ∃ c, cs[i]? = some c ∧ 48 ≤ d ∧ d < 48 + c.k
theorem fits_of {cs : List Cell} {x : Row} (hl : x.length = cs.length) (h : ∀ (i d : Nat), x[i]? = some d → SignOk cs i d) : Fits cs x := by
  refine ⟨hl, fun i c k h1 h2 => ?_⟩
  obtain ⟨cc, h3, rfl⟩ := Option.map_eq_some_iff.mp h2
  rcases h i c h1 with e | ⟨c2, e1, e2⟩
  · exact .inl e
  · obtain rfl := Option.some.inj (e1.symm.trans h3)
    exact .inr e2
theorem fits_sign {cs : List Cell} {x : Row} (h : Fits cs x) {i d : Nat} (hi : x[i]? = some d) : SignOk cs i d := by
  have hlt : i < cs.length := by rw [← h.1]; exact (List.getElem?_eq_some_iff.mp hi).1
  have hc : cs[i]? = some cs[i] := by simp [hlt]
  rcases h.2 i d (cs[i]).k hi (by rw [hc]; rfl) with e | e
  · exact .inl e
  · exact .inr ⟨cs[i], hc, e⟩
/-- the seeds so far -/
structure SeedsI (cs : List Cell) (ss : List Row) (i at_ : Nat) : Prop where
  few : ss.length ≤ i
  fit : ∀ s ∈ ss, Fits cs s
  nb : ∀ s ∈ ss, s ≠ List.replicate cs.length 46
  nd : ss.Nodup
  cov : ∀ j, j < at_ → ∃ s ∈ ss, s[j]? ≠ some 46
theorem nblank {n j d : Nat} {x : Row} (h : x[j]? = some d) (hd : d ≠ 46) : x ≠ List.replicate n 46 := by
  intro e
  rw [e, List.getElem?_replicate] at h
  split at h
  · exact hd (Option.some.inj h).symm
  · cases h
theorem SeedsI.add {cs : List Cell} {ss : List Row} {i : Nat} {x : Row} (I : SeedsI cs ss i 0) (hf : Fits cs x) (hb : x ≠ List.replicate cs.length 46) (hn : x ∉ ss) : SeedsI cs (ss ++ [x]) (i + 1) 0 := by
  refine ⟨by rw [List.length_append]; exact Nat.succ_le_succ I.few, fun s hs => ?_, fun s hs => ?_, ?_, fun j h => absurd h (Nat.not_lt_zero _)⟩
  · rcases List.mem_append.mp hs with e | e
    · exact I.fit s e
    · rw [List.mem_singleton.mp e]; exact hf
  · rcases List.mem_append.mp hs with e | e
    · exact I.nb s e
    · rw [List.mem_singleton.mp e]; exact hb
  · exact List.nodup_append.mpr ⟨I.nd, List.nodup_cons.mpr ⟨List.not_mem_nil, List.nodup_nil⟩, fun a ha b hb e => hn (by rw [← List.mem_singleton.mp hb, ← e]; exact ha)⟩
/-- the last one gets a sign at a cell that none tells -/
theorem SeedsI.cover {cs : List Cell} {ss : List Row} {i at_ d : Nat} {x : Row} (I : SeedsI cs (ss ++ [x]) i at_) (hat : at_ < cs.length) (h46 : ∀ s ∈ ss ++ [x], s[at_]? = some 46) (hd : ∃ c, cs[at_]? = some c ∧ 48 ≤ d ∧ d < 48 + c.k) :
    SeedsI cs (ss ++ [x.take at_ ++ [d] ++ x.drop (at_ + 1)]) i (at_ + 1) := by
  have hx := I.fit x (List.mem_append_right _ (List.mem_singleton.mpr rfl))
  have hxl := hx.1
  have hd46 : d ≠ 46 := by obtain ⟨c, _, h1, _⟩ := hd; omega
  have hget : ∀ j : Nat, (x.take at_ ++ [d] ++ x.drop (at_ + 1))[j]? = if j = at_ then some d else x[j]? := by
    intro j
    rw [List.append_assoc]
    by_cases h1 : j < at_
    · rw [if_neg (by omega), List.getElem?_append_left (by rw [List.length_take]; omega), List.getElem?_take, if_pos h1]
    · rw [List.getElem?_append_right (by rw [List.length_take]; omega), List.length_take, Nat.min_eq_left (by omega)]
      by_cases h2 : j = at_
      · subst h2; simp
      · rw [if_neg h2, List.getElem?_append_right (by simp; omega), List.getElem?_drop]
        congr 1
        simp
        omega
  have hlen : (x.take at_ ++ [d] ++ x.drop (at_ + 1)).length = cs.length := by
    simp only [List.length_append, List.length_take, List.length_drop, List.length_cons, List.length_nil]
    omega
  have hnewat : (x.take at_ ++ [d] ++ x.drop (at_ + 1))[at_]? = some d := by rw [hget, if_pos rfl]
  obtain ⟨nd1, nd2, nd3⟩ := List.nodup_append.mp I.nd
  refine ⟨by have := I.few; rw [List.length_append] at this ⊢; exact this, fun s hs => ?_, fun s hs => ?_, ?_, fun j hj => ?_⟩
  · rcases List.mem_append.mp hs with e | e
    · exact I.fit s (List.mem_append_left _ e)
    · rw [List.mem_singleton.mp e]
      refine fits_of hlen fun j d' hj => ?_
      rw [hget] at hj
      split at hj
      · rename_i e2
        obtain rfl := Option.some.inj hj
        rw [e2]; exact .inr hd
      · exact fits_sign hx hj
  · rcases List.mem_append.mp hs with e | e
    · exact I.nb s (List.mem_append_left _ e)
    · rw [List.mem_singleton.mp e]
      exact nblank hnewat hd46
  · refine List.nodup_append.mpr ⟨nd1, List.nodup_cons.mpr ⟨List.not_mem_nil, List.nodup_nil⟩, fun a ha b hb e => ?_⟩
    rw [List.mem_singleton.mp hb] at e
    have := h46 a (List.mem_append_left _ ha)
    rw [e, hnewat] at this
    exact hd46 (Option.some.inj this)
  · rcases Nat.lt_succ_iff_lt_or_eq.mp hj with h | h
    · obtain ⟨s, hs, hne⟩ := I.cov j h
      rcases List.mem_append.mp hs with e | e
      · exact ⟨s, List.mem_append_left _ e, hne⟩
      · refine ⟨_, List.mem_append_right _ (List.mem_singleton.mpr rfl), ?_⟩
        rw [hget, if_neg (by omega), ← List.mem_singleton.mp e]; exact hne
    · subst h
      refine ⟨_, List.mem_append_right _ (List.mem_singleton.mpr rfl), ?_⟩
      rw [hnewat]
      intro z; exact hd46 (Option.some.inj z)
theorem SeedsI.next {cs : List Cell} {ss : List Row} {i at_ : Nat} (I : SeedsI cs ss i at_) (h : ∃ s ∈ ss, s[at_]? ≠ some 46) : SeedsI cs ss i (at_ + 1) :=
  ⟨I.few, I.fit, I.nb, I.nd, fun j hj => by
    rcases Nat.lt_succ_iff_lt_or_eq.mp hj with z | z
    · exact I.cov j z
    · rw [z]; exact h⟩
def sp_law_seeds (K : PySem.W.Frag) : Sp := fun vs H Q _ => ∃ B a, ∃ m : Nat, ∃ cs : List Cell, vs = [.ref B.b, .ref a] ∧ BagAt B m H ∧ m ≤ 70000 ∧ CellsAt H a cs ∧ CellsOk cs ∧ a ≠ B.b ∧
  ∀ p (H' : Hp) (ss : List Row), SBut B.b H H' → BagAt B (m + 500) H' → H p = none → p ≠ B.b → p ≠ B.c → H' p = some (.lst (rowL ss)) → SeedsOk cs ss → ss ≠ [] → Q (.ref p) H'
end
/-! ## F14 -/
section
set_option maxHeartbeats 2000000
open PySem PySem.Spec PyProof.Rows L2


variable {P : Program} {w : World} {K : PySem.W.Frag} {mg : Str → Option Value} {base : Heap}
abbrev nm_law_seeds : List Str := ["_law_bag_here", "_law_cells_here", "_law_thin", "_law_found", "_law_k", "_law_at", "_law_signs", "_law_last", "_law_sign_here", "_law_seed"]
theorem sc_law_seeds : FnScope nm_law_seeds ["_law_bag_here", "_law_cells_here"] (defScope s_law_seeds) := ⟨rfl, rfl, rfl, by decide +kernel, rfl, by decide +kernel, by decide +kernel⟩
abbrev t_law_seeds (K : PySem.W.Frag) : TS := (tSeq (tAsg (tTup (tCons (tCall (sp_law_of K) [] E0 (tCons (tVar 0) (tCons (tLst (tCons (tC (.int 3)) (tCons (tC (.int 2)) (tCons (tC (.int 3)) (tCons (tC (.int 4)) (tCons (tC (.int 2)) (tCons (tC (.int 3)) (tCons (tC (.int 1)) (tCons (tC (.int 3)) (tCons (tC (.int 0)) (tCons (tC (.int 3)) tNil))))))))))) tNil))) (tCons (tLst tNil) tNil))) (gTup K 2 (gCons (gName 2) (gCons (gName 3) gNil))))
    (tSeq (tFor (iRng1 (tCons (tCall (sp_law_of K) [] E0 (tCons (tVar 0) (tCons (tLst (tCons (tC (.int 4)) (tCons (tC (.int 3)) (tCons (tC (.int 5)) (tCons (tC (.int 4)) (tCons (tC (.int 2)) (tCons (tC (.int 3)) (tCons (tC (.int 6)) (tCons (tC (.int 5)) tNil))))))))) tNil))) tNil)) (gName 4) (tSeq (tAsg (tLc (iRng1 (tCons (tCB (rLenQ K) (tCons (tVar 1) tNil)) tNil)) (gName 5) tYes (tIf (tTest (tOp rLtI (tCall (sp_law_draw K) [] E0 (tCons (tVar 0) (tCons (tC (.int 5)) tNil))) (tVar 2))) (tC (.str ".")) (tCall (sp_law_sign K) [] E0 (tCons (tVar 0) (tCons (tVar 1) (tCons (tVar 5) tNil))))) [5]) (gName 6))
    (tSeq (tIfS (tB (tCB (rAll K) (tCons (tLc (iList K (tVar 6)) (gName 8) tYes (tOp rEq (tVar 8) (tC (.str "."))) [8]) tNil))) (tSeq (tAsg (tCall (sp_law_draw K) [] E0 (tCons (tVar 0) (tCons (tCB (rLenQ K) (tCons (tVar 1) tNil)) tNil))) (gName 5))
    (tAsg (tCall (sp_law_sign K) [] E0 (tCons (tVar 0) (tCons (tVar 1) (tCons (tVar 5) tNil)))) (gSub (tVar 6) (tVar 5) rSetL))) tNext)
    (tIfS (tTest (tOp (rIn K true) (tM1 (rJoin K) (tC (.str "")) (tVar 6)) (tVar 3))) (tDrop (tBM K "list" rAppend (tVar 3) (tCons (tM1 (rJoin K) (tC (.str "")) (tVar 6)) tNil))) tNext))))
    (tSeq (tFor (iRng1 (tCons (tCB (rLenQ K) (tCons (tVar 1) tNil)) tNil)) (gName 5) (tIfS (tB (tCB (rAll K) (tCons (tLc (iList K (tVar 3)) (gName 9) tYes (tOp rEq (tOp rIxS (tVar 9) (tVar 5)) (tC (.str "."))) [9]) tNil))) (tSeq (tAsg (tBM0 K "list" rPop (tVar 3)) (gName 7))
    (tDrop (tBM K "list" rAppend (tVar 3) (tCons (tOp rCatS (tOp rCatS (tSl C8.rSlX (tVar 7) tNoPart (tPart (tVar 5))) (tCall (sp_law_sign K) [] E0 (tCons (tVar 0) (tCons (tVar 1) (tCons (tVar 5) tNil))))) (tSl C8.rSlX (tVar 7) (tPart (tOp rAddI (tVar 5) (tC (.int 1)))) tNoPart)) tNil)))) tNext))
    (tRet (tVar 3)))))
theorem c_law_seeds (T : Tx K mg) : C8.Cal P w K mg base 4 "_law_seeds" (sp_law_seeds K) [] := by
  refine calG T.f_law_seeds (fun _ _ _ _ _ _ us hl => match us, hl with | [_, _], _ => rfl) sc_law_seeds (fun vs H Q E h => ?_) (fun f cdv A outer s H vs Q E hr h => have hu := hu_of hr; ⟨t_law_seeds K, (pss_cons (ps_asg (pe_tup (pa_cons (C8.pe_c (c_law_of T) hr (by decide) (by rfl) (pa_cons (pv 0) (pa_cons (pe_lst (pa_cons pe_int (pa_cons pe_int (pa_cons pe_int (pa_cons pe_int (pa_cons pe_int (pa_cons pe_int (pa_cons pe_int (pa_cons pe_int (pa_cons pe_int (pa_cons pe_int pa_nil))))))))))) pa_nil))) (pa_cons (pe_lst pa_nil) pa_nil))) (pg_tup rfl (pgs_cons (pg_name (i := 2) sc_law_seeds.nd rfl (Or.inr rfl) (hf := Or.inl rfl)) (pgs_cons (pg_name (i := 3) sc_law_seeds.nd rfl (Or.inl rfl) (hf := Or.inr rfl)) pgs_nil))))
      (pss_cons (ps_for PassesOwn.never rfl (pi_range1 (by rfl) T.b_range (pa_cons (C8.pe_c (c_law_of T) hr (by decide) (by rfl) (pa_cons (pv 0) (pa_cons (pe_lst (pa_cons pe_int (pa_cons pe_int (pa_cons pe_int (pa_cons pe_int (pa_cons pe_int (pa_cons pe_int (pa_cons pe_int (pa_cons pe_int pa_nil))))))))) pa_nil))) pa_nil)) (pg_name (i := 4) sc_law_seeds.nd rfl (Or.inl rfl) (hf := Or.inr rfl)) (pss_cons (ps_setLc (i := 6) (own := [("_law_at", 5)]) rfl sc_law_seeds.nd rfl rfl (sw_true rfl rfl rfl (by decide +kernel)) (pi_range1 (by rfl) T.b_range (pa_cons (pe_callB call_len_seq (by rfl) T.b_len bt_len (pa_cons (pv 1) pa_nil)) pa_nil)) (blkOk_by (own := [("_law_at", 5)]) (N := nm_law_seeds) (sc := (defScope s_law_seeds)) (by decide +kernel)) (fun _ _ _ _ _ => (pg_name (i := 5) sc_law_seeds.nd rfl (Or.inl rfl) (hf := Or.inr rfl))) (fun _ _ _ _ _ => pts_nil) (fun _ _ _ _ _ => (pe_ifExp (pt_cmpR op_lt (C8.pe_c (c_law_draw T) hr (by decide) (by rfl) (pa_cons (pv 0) (pa_cons pe_int pa_nil))) (pv 2) (nomark _)) pe_str (C8.pe_c (c_law_sign T) hr (by decide) (by rfl) (pa_cons (pv 0) (pa_cons (pv 1) (pa_cons (pv 5) pa_nil)))))))
      (pss_cons (ps_if (pt_val (pe_callB (cr_all rfl) (by rfl) T.b_all bt_all (pa_cons (pe_lc (own := [("_law_sign_here", 8)]) rfl sc_law_seeds.nd (pi_list (pv 6)) (blkOk_by (own := [("_law_sign_here", 8)]) (N := nm_law_seeds) (sc := (defScope s_law_seeds)) (by decide +kernel)) (fun _ _ _ _ _ => (pg_name (i := 8) sc_law_seeds.nd rfl (Or.inl rfl) (hf := Or.inr rfl))) (fun _ _ _ _ _ => pts_nil) (fun _ _ _ _ _ => (pe_cmpR op_eq (pv 8) pe_str (nomark _)))) pa_nil))) (pss_cons (ps_set (i := 5) sc_law_seeds.nd rfl (Or.inr rfl) (C8.pe_c (c_law_draw T) hr (by decide) (by rfl) (pa_cons (pv 0) (pa_cons (pe_callB call_len_seq (by rfl) T.b_len bt_len (pa_cons (pv 1) pa_nil)) pa_nil))))
      (pss_one (ps_asg (C8.pe_c (c_law_sign T) hr (by decide) (by rfl) (pa_cons (pv 0) (pa_cons (pv 1) (pa_cons (pv 5) pa_nil)))) (pg_sub (pv 6) (pv 5) set_list)))) pss_nil)
      (pss_one (ps_if (pt_cmpR op_notIn_seq (pe_join pe_str (pv 6)) (pv 3) rfl) (pss_one (ps_expr (pe_bm PySem.F.plainAttrs_list PySem.F.slot_list_append PySem.F.type_list_append mt_append (pv 3) (pa_cons (pe_join pe_str (pv 6)) pa_nil)))) pss_nil)))))
      (pss_cons (ps_for PassesOwn.never rfl (pi_range1 (by rfl) T.b_range (pa_cons (pe_callB call_len_seq (by rfl) T.b_len bt_len (pa_cons (pv 1) pa_nil)) pa_nil)) (pg_name (i := 5) sc_law_seeds.nd rfl (Or.inr rfl) (hf := Or.inl rfl)) (pss_one (ps_if (pt_val (pe_callB (cr_all rfl) (by rfl) T.b_all bt_all (pa_cons (pe_lc (own := [("_law_seed", 9)]) rfl sc_law_seeds.nd (pi_list (pv 3)) (blkOk_by (own := [("_law_seed", 9)]) (N := nm_law_seeds) (sc := (defScope s_law_seeds)) (by decide +kernel)) (fun _ _ _ _ _ => (pg_name (i := 9) sc_law_seeds.nd rfl (Or.inl rfl) (hf := Or.inr rfl))) (fun _ _ _ _ _ => pts_nil) (fun _ _ _ _ _ => (pe_cmpR op_eq (pe_ix ix_str (pv 9) (pv 5) (fun _ _ => rfl)) pe_str (nomark _)))) pa_nil))) (pss_cons (ps_set (i := 7) sc_law_seeds.nd rfl (Or.inl rfl) (pe_bm0 PySem.F.plainAttrs_list PySem.F.slot_list_pop PySem.F.type_list_pop mt_pop (pv 3)))
      (pss_one (ps_expr (pe_bm PySem.F.plainAttrs_list PySem.F.slot_list_append PySem.F.type_list_append mt_append (pv 3) (pa_cons (pe_op op_add_str (pe_op op_add_str (pe_slice C8.sl_txt (pv 7) po_none (po_some (pv 5))) (C8.pe_c (c_law_sign T) hr (by decide) (by rfl) (pa_cons (pv 0) (pa_cons (pv 1) (pa_cons (pv 5) pa_nil))))) (pe_slice C8.sl_txt (pv 7) (po_some (pe_op op_add (pv 5) pe_int)) po_none)) pa_nil))))) pss_nil)))
      (pss_one (ps_ret (pv 3)))))), ?_⟩)
  · obtain ⟨B, a, m, cs, rfl, _⟩ := h
    rfl
  · obtain ⟨B, a, m, cs, rfl, hb, hm, hC, hk, hab, k⟩ := h
    have hn1 := hk.one
    have hn6 := hk.few
    walk_at "go"
    rename_i q1 nq1
    have hq1 := hb.new nq1
    refine ⟨B, q1, m, _, rfl, hb.same (same_new nq1), by omega, upd_same, hq1.1, List.cons_ne_nil _ _, by simp, fun v H1 s1 b1 hv => ?_⟩
    have hthin : ∃ th : Nat, v = .int th := by
      simp only [List.mem_cons, List.not_mem_nil, or_false] at hv
      rcases hv with h | h | h | h | h | h | h | h | h | h <;> first | exact ⟨0, h⟩ | exact ⟨1, h⟩ | exact ⟨2, h⟩ | exact ⟨3, h⟩ | exact ⟨4, h⟩
    obtain ⟨th, rfl⟩ := hthin
    walk_at "go"
    rename_i pf npf' T nT q2 nq2
    have npf : H pf = none := ((sbut_new nq1).trans s1).free b1 npf' |>.2
    have hpf := b1.new npf'
    have b2 := (b1.same (same_new npf' (o := .lst []))).same (same_new nT (o := .tup [.int (th : Nat), .ref pf]))
    have hq2 := b2.new nq2
    refine ⟨B, q2, m + 1, _, rfl, b2.same (same_new nq2), by omega, upd_same, hq2.1, List.cons_ne_nil _ _, by simp, fun v H3 s3 b3 hv => ?_⟩
    have hcnt : ∃ n : Nat, v = .int n ∧ 1 ≤ n ∧ n ≤ 6 := by
      simp only [List.mem_cons, List.not_mem_nil, or_false] at hv
      rcases hv with h | h | h | h | h | h | h | h <;> first | exact ⟨2, h, by decide, by decide⟩ | exact ⟨3, h, by decide, by decide⟩ | exact ⟨4, h, by decide, by decide⟩ | exact ⟨5, h, by decide, by decide⟩ | exact ⟨6, h, by decide, by decide⟩
    obtain ⟨n, rfl, hcn1, hcn6⟩ := hcnt
    have hfT : pf ≠ T := ne_of_none upd_same nT
    have hF3 : H3 pf = some (.lst (rowL [])) := s3 _ _ hpf.1 (same_new nq2 _ _ (same_new nT _ _ upd_same))
    have sH : SBut B.b H H3 := by
      refine SBut.trans ?_ s3
      refine SBut.trans ?_ (sbut_new nq2)
      refine SBut.trans ?_ (sbut_new nT)
      exact sbut_mut ((sbut_new nq1).trans s1) npf
    walk_at "go"
    refine for_G (n := n) walk_rng (fun i σ H' => ∃ (ss : List Row) (u4 u5 u6 : Option V), SeedsI cs ss i 0 ∧ (0 < i → ss ≠ []) ∧ SBut B.b H H' ∧ BagAt B (m + 10 + i * 30) H' ∧ H' pf = some (.lst (rowL ss)) ∧
        σ = [some (.ref B.b), some (.ref a), some (.int (th : Nat)), some (.ref pf), u4, u5, u6, none, none, none])
      ⟨[], _, _, _, ⟨Nat.le_refl _, fun s h => absurd h List.not_mem_nil, fun s h => absurd h List.not_mem_nil, List.nodup_nil, fun j h => absurd h (Nat.not_lt_zero _)⟩, fun h => absurd h (Nat.lt_irrefl _), sH, b3.mono (by omega), hF3, rfl⟩ (fun _ _ _ _ _ => trivial) ?_ ?_
    · rintro i x σ H5 H5' hi ⟨ss, u4, u5, u6, I, hne, s5, b5, hF5, rfl⟩ ⟨rfl, rfl⟩
      have hC5 := hC.sb hb s5 hab
      have hq5 : SqL K H5' a (cs.map fun c => .ref c.p) := .inl (.inl hC5.l)
      walk_at "go"
      refine lc_bag (n := cs.length) (c := 2) (m := m + 10 + i * 30) walk_rng (by omega) b5 (SignOk cs) ?_ ?_
      · rintro j v H6 H6' R hj s6 b6 ⟨rfl, rfl⟩ k1
        have hC6 := hC5.sb b5 s6 hab
        have hcj : cs[j]? = some cs[j] := by simp [hj]
        have hkj := hk.ks _ (List.getElem_mem hj)
        have hjm : j * 2 ≤ 12 := by omega
        walk_at "go"
        refine ⟨B, _, 5, rfl, b6, by omega, by decide, by decide, fun d H7 s7 b7 hd => ?_⟩
        walk_at "go"
        refine w_dec (fun e => ?_) (fun e => ?_)
        · walk_at "go"
          rw [lit_dot]
          exact k1 46 H7 s7 (b7.mono (by omega)) (.inl rfl)
        · walk_at "go"
          refine ⟨B, a, _, j, cs, cs[j], rfl, b7, by omega, hC6.sb b6 s7 hab, hab, hcj, hkj.1, hkj.2, fun d' H8 s8 b8 h48 h48' => ?_⟩
          exact k1 d' H8 (s7.trans s8) (b8.mono (by omega)) (.inr ⟨cs[j], hcj, h48, h48'⟩)
      · intro ps H6 ds nps hpsb hpsc s6 b6 hdl hdp hD
        have nps0 : H ps = none := (s5.free b5 nps).2
        have hpf6 := s6 _ _ hpf.1 hF5
        have hpp : ps ≠ pf := fun z => by rw [z, hF5] at nps; cases nps
        have hq6 : SqL K H6 ps (ds.map fun d => .str (S [d])) := .inl (.inl hD)
        have hC6 := hC5.sb b5 s6 hab
        have hjm : cs.length * 2 ≤ 12 := by omega
        -- the rest: the row is joined, and appended if it is new
        have fin : ∀ (ds : Row) (H9 : Hp) (D : Ends) (u5 u8 : Option V), ds.length = cs.length → (∀ (i d : Nat), ds[i]? = some d → SignOk cs i d) → ds ≠ List.replicate cs.length 46 → SBut B.b H H9 → BagAt B (m + 10 + i * 30 + 30) H9 → H9 pf = some (.lst (rowL ss)) → H9 ps = some (.lst (ds.map fun d => .str (S [d]))) →
            (∀ (ss' : List Row) (H10 : Hp), SeedsI cs ss' (i + 1) 0 → ss' ≠ [] → SBut B.b H H10 → BagAt B (m + 10 + i * 30 + 30) H10 → H10 pf = some (.lst (rowL ss')) →
              D.nx [some (.ref B.b), some (.ref a), some (.int (th : Nat)), some (.ref pf), some (.int (i : Nat)), u5, some (.ref ps), none, u8, none] H10) →
            (tIfS (tTest (tOp (rIn K true) (tM1 (rJoin K) (tC (.str "")) (tVar 6)) (tVar 3))) (tDrop (tBM K "list" rAppend (tVar 3) (tCons (tM1 (rJoin K) (tC (.str "")) (tVar 6)) tNil))) tNext) D [some (.ref B.b), some (.ref a), some (.int (th : Nat)), some (.ref pf), some (.int (i : Nat)), u5, some (.ref ps), none, u8, none] H9 := by
          intro ds H9 D u5 u8 hdl hdp hdn s9 b9 hF9 hD9 kk
          have hfit := fits_of hdl hdp
          have hqf : SqL K H9 pf (ss.map fun r => .str (S r)) := .inl (.inl hF9)
          have hfew := I.few
          walk_at "go"
          refine w_joinR (l := ds) hD9 (by omega) ?_
          walk_at "go"
          refine w_ndec (fun e => ?_) (fun e => ?_)
          · walk_at "go"
            refine w_joinR (l := ds) hD9 (by omega) ?_
            walk_at "go"
            refine w_app hF9 (by rw [List.length_map]; omega) ?_
            refine kk (ss ++ [ds]) _ (I.add hfit hdn e) (by simp) (sbut_mut s9 npf) (b9.upd hpf.1 hpf.2) ?_
            rw [upd_same]; show _ = some (HO.lst (List.map _ _)); rw [List.map_append]; rfl
          · walk_at "go"
            refine kk ss H9 ⟨Nat.le_succ_of_le I.few, I.fit, I.nb, I.nd, I.cov⟩ (fun z => ?_) s9 b9 hF9
            rw [z] at e; cases e
        generalize hN : (tIfS (tTest (tOp (rIn K true) (tM1 (rJoin K) (tC (.str "")) (tVar 6)) (tVar 3))) (tDrop (tBM K "list" rAppend (tVar 3) (tCons (tM1 (rJoin K) (tC (.str "")) (tVar 6)) tNil))) tNext) = N at fin ⊢
        have hC6 := hC5.sb b5 s6 hab
        walk_at "go"
        refine lc_val1 ds (fun d => .bl (decide (d = 46))) walk_listM (by omega) (fun H' s => s.seq hq6) ?_ ?_
        · rintro j d v H7 H8 R hj s7 ⟨rfl, d', hd', rfl⟩ k1
          obtain rfl : d' = d := Option.some.inj (hd'.symm.trans hj)
          walk_at "go"
          exact k1 _ (Same.refl _)
        · intro D7 H7 nD7 s7 hD7
          have b7 := b6.same s7
          have hC7 := hC6.same s7
          have hq7 : SqL K H7 a (cs.map fun c => .ref c.p) := .inl (.inl hC7.l)
          have s07 : SBut B.b H H7 := (s5.trans s6).trans (same_but s7)
          have kk : ∀ (u5 u8 : Option V) (ss' : List Row) (H10 : Hp), SeedsI cs ss' (i + 1) 0 → ss' ≠ [] → SBut B.b H H10 → BagAt B (m + 10 + i * 30 + 30) H10 → H10 pf = some (.lst (rowL ss')) →
              ∃ (ss2 : List Row) (u4' u5' u6' : Option V), SeedsI cs ss2 (i + 1) 0 ∧ (0 < i + 1 → ss2 ≠ []) ∧ SBut B.b H H10 ∧ BagAt B (m + 10 + (i + 1) * 30) H10 ∧ H10 pf = some (.lst (rowL ss2)) ∧
                [some (.ref B.b), some (.ref a), some (.int (th : Nat)), some (.ref pf), some (.int (i : Nat)), u5, some (.ref ps), none, none, none] = [some (.ref B.b), some (.ref a), some (.int (th : Nat)), some (.ref pf), u4', u5', u6', none, none, none] :=
            fun u5 u8 ss' H10 I' n' s10 b10 h10 => ⟨ss', _, _, _, I', fun _ => n', s10, b10.mono (by omega), h10, rfl⟩
          walk_at "go"
          refine w_all (f := fun d => decide (d = 46)) hD7 ?_
          cases e : ds.all (fun d => decide (d = 46)) with
          | true =>
            walk_at "go"
            refine ⟨B, _, cs.length, rfl, b7, by omega, by omega, by omega, fun at_ H8 s8 b8 hat => ?_⟩
            have hcat : cs[at_]? = some cs[at_] := by simp [hat]
            have hkat := hk.ks _ (List.getElem_mem hat)
            walk_at "go"
            refine ⟨B, a, _, at_, cs, cs[at_], rfl, b8, by omega, hC7.sb b7 s8 hab, hab, hcat, hkat.1, hkat.2, fun d H9 s9 b9 h48 h48' => ?_⟩
            walk_at "go"
            have hps9 : H9 ps = some (.lst (ds.map fun d => .str (S [d]))) := s9 _ _ hpsb (s8 _ _ hpsb (s7 _ _ hD))
            refine w_setN hps9 (by rw [List.length_map]; omega) ?_
            refine fin (ds.set at_ d) _ _ _ _ (by rw [List.length_set]; exact hdl) (fun j d' hj => ?_) (nblank (j := at_) (d := d) (by rw [List.getElem?_set_self (by omega)]) (by omega)) (sbut_mut ((s07.trans s8).trans s9) nps0) ((b9.upd hpsb hpsc).mono (by omega)) ?_ ?_ (kk _ none)
            · by_cases hj2 : at_ = j
              · subst hj2
                rw [List.getElem?_set_self (by omega)] at hj
                obtain rfl := Option.some.inj hj
                exact .inr ⟨cs[at_], hcat, h48, h48'⟩
              · rw [List.getElem?_set_ne hj2] at hj
                exact hdp j d' hj
            · rw [upd_ne hpp.symm]
              exact s9 _ _ hpf.1 (s8 _ _ hpf.1 (s7 _ _ hpf6))
            · rw [upd_same, List.map_set]
          | false =>
            walk_at "go"
            refine fin ds H7 _ _ _ hdl hdp ?_ s07 (b7.mono (by omega)) (s7 _ _ hpf6) (s7 _ _ hD) (kk _ none)
            intro z
            rw [z] at e
            rw [List.all_eq_false] at e
            obtain ⟨x, hx, hx2⟩ := e
            rw [List.eq_of_mem_replicate hx] at hx2
            exact hx2 rfl
    · rintro σ H5 ⟨ss, u4, u5, u6, I, hne, s5, b5, hF5, rfl⟩
      have hC5 := hC.sb hb s5 hab
      have hq5 : SqL K H5 a (cs.map fun c => .ref c.p) := .inl (.inl hC5.l)
      walk_at "go"
      refine for_G (n := cs.length) walk_rng (fun j σ H' => ∃ (ss : List Row) (u5 u6 u7 : Option V), SeedsI cs ss n j ∧ ss ≠ [] ∧ SBut B.b H H' ∧ BagAt B (m + 10 + n * 30 + j * 2) H' ∧ H' pf = some (.lst (rowL ss)) ∧
          σ = [some (.ref B.b), some (.ref a), some (.int (th : Nat)), some (.ref pf), u4, u5, u6, u7, none, none])
        ⟨ss, u5, u6, none, I, hne (by omega), s5, b5, hF5, rfl⟩ (fun _ _ _ _ _ => trivial) ?_ ?_
      · rintro j x σ H6 H6' hj ⟨ss, u5, u6, u7, I, hne, s6, b6, hF6, rfl⟩ ⟨rfl, rfl⟩
        have hfew := I.few
        have hq6 : SqL K H6' pf (ss.map fun r => .str (S r)) := .inl (.inl hF6)
        have hC6 := hC.sb hb s6 hab
        walk_at "go"
        refine lc_val1 ss (fun s => .bl (s[j]? == some 46)) walk_listM (by omega) (fun H' s => s.seq hq6) ?_ ?_
        · rintro i2 r v H7 H8 R hi2 s7 ⟨rfl, r', hr', rfl⟩ k1
          obtain rfl : r' = r := Option.some.inj (hr'.symm.trans hi2)
          have hrl := (I.fit r' (List.mem_of_getElem? hi2)).1
          have h1 : r'[j]? = some (r'[j]'(by omega)) := by simp [hrl, hj]
          have h2 : r'.length ≤ 1000 := by omega
          walk_at "go"
          rw [h1] at k1
          have e : ((some (r'[j]'(by omega)) : Option Nat) == some 46) = decide (r'[j]'(by omega) = 46) := some_dec
          rw [e] at k1
          exact k1 _ (Same.refl _)
        · intro D7 H7 nD7 s7 hD7
          have b7 := b6.same s7
          have hC7 := hC6.same s7
          have hF7 := s7 _ _ hF6
          have s07 : SBut B.b H H7 := s6.trans (same_but s7)
          walk_at "go"
          refine w_all hD7 ?_
          cases e : ss.all (fun s => s[j]? == some 46) with
          | true =>
            have h46 : ∀ s ∈ ss, s[j]? = some 46 := fun s hs => by simpa using List.all_eq_true.mp e s hs
            obtain ⟨ini, x, rfl⟩ : ∃ ini x, ss = ini ++ [x] := ⟨ss.dropLast, ss.getLast hne, (List.dropLast_concat_getLast hne).symm⟩
            have hxl := (I.fit x (List.mem_append_right _ (List.mem_singleton.mpr rfl))).1
            have hcj : cs[j]? = some cs[j] := by simp [hj]
            have hkj := hk.ks _ (List.getElem_mem hj)
            rw [List.length_append] at hfew
            walk_at "go"
            refine ⟨pf, rowL (ini ++ [x]), .str (S x), rfl, rfl, hF7, by show (List.map _ _)[_]? = _; rw [List.map_append]; simp, ?_⟩
            have hF8 : (upd H7 pf (.lst (rowL (ini ++ [x])).dropLast)) pf = some (.lst (rowL ini)) := by
              rw [upd_same]
              show some (HO.lst (List.map _ _).dropLast) = _
              rw [List.map_append]
              simp
            have s08 : SBut B.b H (upd H7 pf (.lst (rowL (ini ++ [x])).dropLast)) := sbut_mut s07 npf
            have b8 : BagAt B (m + 10 + n * 30 + j * 2) (upd H7 pf (.lst (rowL (ini ++ [x])).dropLast)) := b7.upd hpf.1 hpf.2
            have hC8 := hC.sb hb s08 hab
            generalize upd H7 pf (.lst (rowL (ini ++ [x])).dropLast) = H8 at hF8 s08 b8 hC8
            walk_at "go"
            refine w_slX (by rw [show (S x).length = x.length from S_size x]; omega) ?_
            rw [SX.slice_to (by omega), Int.toNat_natCast]
            walk_at "go"
            refine ⟨B, a, _, j, cs, cs[j], rfl, b8, by omega, hC8, hab, hcj, hkj.1, hkj.2, fun d H9 s9 b9 h48 h48' => ?_⟩
            refine w_catS ?_ (by simp; omega)
            walk_at "go"
            refine w_slX (by rw [show (S x).length = x.length from S_size x]; omega) ?_
            rw [show ((j : Int) + 1) = ((j + 1 : Nat) : Int) by omega, SX.slice_from (by omega), Int.toNat_natCast]
            refine w_catS ?_ (by simp; omega)
            walk_at "go"
            have hF9 := s9 _ _ hpf.1 hF8
            refine w_app hF9 (by rw [List.length_map]; omega) ?_
            refine ⟨ini ++ [x.take j ++ [d] ++ x.drop (j + 1)], _, _, _, I.cover hj h46 ⟨cs[j], hcj, h48, h48'⟩, by simp, sbut_mut (s08.trans s9) npf, (b9.upd hpf.1 hpf.2).mono (by omega), ?_, rfl⟩
            rw [upd_same]; show _ = some (HO.lst (List.map _ _)); rw [List.map_append]; rfl
          | false =>
            walk_at "go"
            refine ⟨ss, _, _, _, I.next ?_, hne, s07, b7.mono (by omega), hF7, rfl⟩
            rw [List.all_eq_false] at e
            obtain ⟨s, hs, hs2⟩ := e
            exact ⟨s, hs, by simpa using hs2⟩
      · rintro σ H6 ⟨ss, u5, u6, u7, I, hne, s6, b6, hF6, rfl⟩
        walk_at "go"
        exact k pf H6 ss s6 (b6.mono (by omega)) npf hpf.1 hpf.2 hF6 ⟨Nat.le_trans I.few hcn6, I.fit, I.nb, I.nd, I.cov⟩ hne
end
/-! ## E3 -/
section
set_option maxHeartbeats 2000000
open PySem PySem.Spec PyProof.Rows L2
theorem fits_blank (cs : List Cell) : Fits cs (List.replicate cs.length 46) := ⟨by simp, fun i c k h _ => by
  rw [List.getElem?_replicate] at h
  split at h
  · exact .inl (Option.some.inj h).symm
  · cases h⟩
theorem fits_ov {cs : List Cell} {x y : Row} (hx : Fits cs x) (hy : Fits cs y) : Fits cs (ov x y) := by
  refine ⟨by rw [ov_len, hx.1, hy.1, Nat.min_self], fun i c k h hk => ?_⟩
  rw [ov_get] at h
  obtain ⟨a, ha, h⟩ := Option.bind_eq_some_iff.mp h
  obtain ⟨b, hb, h⟩ := Option.map_eq_some_iff.mp h
  have h : (if a = 46 then b else a) = c := h
  split at h
  · subst h; exact hy.2 i b k hb hk
  · subst h; exact hx.2 i a k ha hk
theorem Prd.fits {cs : List Cell} {ss : List Row} (hs : ∀ s ∈ ss, Fits cs s) {r : Row} (h : Prd cs.length ss r) : Fits cs r := by
  induction h with
  | nil => exact fits_blank cs
  | step h _ ih => exact fits_ov (hs _ h) ih
theorem one_cell {cs : List Cell} {ss rs : List Row} (hk : CellsOk cs) (h1 : cs.length ≤ 1) (hs : ∀ s ∈ ss, Fits cs s) (nd : rs.Nodup) (hp : ∀ r ∈ rs, Prd cs.length ss r) : rs.length ≤ 5 := by
  have hone := hk.one
  refine nodup_len rs [[46], [48], [49], [50], [51]] nd fun r hr => ?_
  have hf := (hp r hr).fits hs
  have hl := hf.1
  have hc : ∃ c, cs[0]? = some c ∧ c ∈ cs := ⟨cs[0], by simp [show 0 < cs.length by omega], List.getElem_mem _⟩
  obtain ⟨c, hc0, hcm⟩ := hc
  have hck := hk.ks c hcm
  match r, hl with
  | [d], _ =>
    have := hf.2 0 d c.k rfl (by rw [hc0]; rfl)
    have h5 : d = 46 ∨ d = 48 ∨ d = 49 ∨ d = 50 ∨ d = 51 := by omega
    rcases h5 with e | e | e | e | e <;> subst e <;> simp
  | [], h => simp at h; omega
  | _ :: _ :: _, h => simp at h; omega
/-- the rows of a band -/
structure RowsOk (n : Nat) (ss rs : List Row) : Prop where
  nd : rs.Nodup
  sr : Srt rs
  few : rs.length ≤ 20
  mem : ∀ r, r ∈ rs ↔ Prd n ss r
/-- the last cell goes -/
theorem cells_cut {cs : List Cell} (h : CellsOk cs) (h2 : 2 ≤ cs.length) : CellsOk cs.dropLast :=
  ⟨by rw [List.length_dropLast]; omega, by have := h.few; rw [List.length_dropLast]; omega, fun c hc => h.names c ((List.dropLast_sublist _).subset hc), fun c hc => h.ks c ((List.dropLast_sublist _).subset hc), by rw [List.map_dropLast]; exact h.nd.sublist (List.dropLast_sublist _)⟩
theorem fits_cut {cs : List Cell} {x : Row} (h : Fits cs x) : Fits cs.dropLast x.dropLast := by
  refine ⟨by rw [List.length_dropLast, List.length_dropLast, h.1], fun i c k hi hk => ?_⟩
  rw [List.dropLast_eq_take, List.getElem?_take] at hi
  rw [List.dropLast_eq_take, List.getElem?_take] at hk
  split at hi
  · split at hk
    · exact h.2 i c k hi hk
    · cases hk
  · cases hi
/-- the seeds that are left, so far -/
structure ShortI (cs : List Cell) (ss sh : List Row) (i : Nat) : Prop where
  few : sh.length ≤ i
  fit : ∀ s ∈ sh, Fits cs.dropLast s
  nb : ∀ s ∈ sh, s ≠ List.replicate cs.dropLast.length 46
  nd : sh.Nodup
  all : ∀ (j : Nat) (s : Row), j < i → ss[j]? = some s → s.dropLast ≠ List.replicate cs.dropLast.length 46 → s.dropLast ∈ sh
theorem ShortI.seeds {cs : List Cell} {ss sh : List Row} (hs : SeedsOk cs ss) (I : ShortI cs ss sh ss.length) : SeedsOk cs.dropLast sh := by
  refine ⟨Nat.le_trans I.few hs.few, I.fit, I.nb, I.nd, fun i hi => ?_⟩
  rw [List.length_dropLast] at hi
  obtain ⟨s, hsm, hne⟩ := hs.cov i (by omega)
  have hf := hs.fit s hsm
  have hl := hf.1
  have hget : s.dropLast[i]? = s[i]? := by rw [List.dropLast_eq_take, List.getElem?_take, if_pos (by omega)]
  refine ⟨s.dropLast, ?_, by rw [hget]; exact hne⟩
  obtain ⟨j, hj, e⟩ := List.getElem_of_mem hsm
  refine I.all j s hj (by rw [← e]; simp [hj]) fun z => hne ?_
  rw [← hget, z, List.getElem?_replicate, if_pos (by rw [List.length_dropLast]; omega)]
theorem SeedsOk.ne {cs : List Cell} {ss : List Row} (h : SeedsOk cs ss) (h1 : 1 ≤ cs.length) : ss ≠ [] := by
  obtain ⟨s, hs, _⟩ := h.cov 0 (by omega)
  intro e; rw [e] at hs; cases hs
def sp_law_band (K : PySem.W.Frag) : Sp := fun vs H Q _ => ∃ B, ∃ m : Nat, vs = [.ref B.b, .int 20] ∧ BagAt B m H ∧ m ≤ 60000 ∧
  ∀ p (H' : Hp) (a b c : Addr) (cs : List Cell) (ss rs : List Row), SBut B.b H H' → BagAt B (m + 1000) H' → H' p = some (.tup [.ref a, .ref b, .ref c]) → a ≠ B.b → b ≠ B.b → c ≠ B.b → CellsAt H' a cs → CellsOk cs → H' b = some (.lst (rowL ss)) → SeedsOk cs ss → H' c = some (.lst (rowL rs)) → RowsOk cs.length ss rs → Q (.ref p) H'
end
/-! ## F15 -/
section
set_option maxHeartbeats 2000000
open PySem PySem.Spec PyProof.Rows L2


variable {P : Program} {w : World} {K : PySem.W.Frag} {mg : Str → Option Value} {base : Heap}
abbrev nm_law_band : List Str := ["_law_bag_here", "_law_cap", "_law_cells_here", "_law_some", "_law_rows_here", "_law_k", "_law_short", "_law_seed"]
theorem sc_law_band : FnScope nm_law_band ["_law_bag_here", "_law_cap"] (defScope s_law_band) := ⟨rfl, rfl, rfl, by decide +kernel, rfl, by decide +kernel, by decide +kernel⟩
abbrev t_law_band (K : PySem.W.Frag) : TS := (tSeq (tAsg (tCall (sp_law_cells K) [] E0 (tCons (tVar 0) tNil)) (gName 2))
    (tSeq (tAsg (tCall (sp_law_seeds K) [] E0 (tCons (tVar 0) (tCons (tVar 2) tNil))) (gName 3))
    (tSeq (tAsg (tCall (sp_law_rows K) [] E0 (tCons (tVar 3) (tCons (tVar 1) tNil))) (gName 4))
    (tSeq (tFor (iRng1 (tCons (tC (.int 5)) tNil)) (gName 5) (tIfS (tTest (tOp rGtI (tCB (rLenQ K) (tCons (tVar 4) tNil)) (tVar 1))) (tSeq (tPar 2 6 (tCons (tSl (rSlL K) (tVar 2) tNoPart (tPart (tUn rNegI (tC (.int 1))))) (tCons (tLst tNil) tNil)))
    (tSeq (tFor (iList K (tVar 3)) (gName 7) (tIfS (tAnd (tTest (tOp (rIn K true) (tSl C8.rSlX (tVar 7) tNoPart (tPart (tUn rNegI (tC (.int 1))))) (tVar 6))) (tTest (tOp rNe (tSl C8.rSlX (tVar 7) tNoPart (tPart (tUn rNegI (tC (.int 1))))) (tOp rMulS (tC (.str ".")) (tCB (rLenQ K) (tCons (tVar 2) tNil)))))) (tDrop (tBM K "list" rAppend (tVar 6) (tCons (tSl C8.rSlX (tVar 7) tNoPart (tPart (tUn rNegI (tC (.int 1))))) tNil))) tNext))
    (tSeq (tAsg (tVar 6) (gName 3))
    (tAsg (tCall (sp_law_rows K) [] E0 (tCons (tVar 3) (tCons (tVar 1) tNil))) (gName 4))))) tNext))
    (tRet (tTup (tCons (tVar 2) (tCons (tVar 3) (tCons (tVar 4) tNil)))))))))
theorem c_law_band (T : Tx K mg) : C8.Cal P w K mg base 5 "_law_band" (sp_law_band K) [] := by
  refine calG T.f_law_band (fun _ _ _ _ _ _ us hl => match us, hl with | [_, _], _ => rfl) sc_law_band (fun vs H Q E h => ?_) (fun f cdv A outer s H vs Q E hr h => have hu := hu_of hr; ⟨t_law_band K, (pss_cons (ps_set (i := 2) sc_law_band.nd rfl (Or.inl rfl) (C8.pe_c (c_law_cells T) hr (by decide) (by rfl) (pa_cons (pv 0) pa_nil)))
      (pss_cons (ps_set (i := 3) sc_law_band.nd rfl (Or.inl rfl) (C8.pe_c (c_law_seeds T) hr (by decide) (by rfl) (pa_cons (pv 0) (pa_cons (pv 2) pa_nil))))
      (pss_cons (ps_set (i := 4) sc_law_band.nd rfl (Or.inl rfl) (C8.pe_c (c_law_rows T) hr (by decide) (by rfl) (pa_cons (pv 3) (pa_cons (pv 1) pa_nil))))
      (pss_cons (ps_for PassesOwn.never rfl (pi_range1 (by rfl) T.b_range (pa_cons pe_int pa_nil)) (pg_name (i := 5) sc_law_band.nd rfl (Or.inl rfl) (hf := Or.inr rfl)) (pss_one (ps_if (pt_cmpR op_gt (pe_callB call_len_seq (by rfl) T.b_len bt_len (pa_cons (pv 4) pa_nil)) (pv 1) (nomark _)) (pss_cons (ps_par (i := 2) (j := 6) (by rfl) sc_law_band.nd rfl rfl (by decide) rfl rfl (pa_cons (pe_slice sl_list (pv 2) po_none (po_some (pe_un un_neg pe_int))) (pa_cons (pe_lst pa_nil) pa_nil)) (by rfl))
      (pss_cons (ps_for PassesOwn.never rfl (pi_list (pv 3)) (pg_name (i := 7) sc_law_band.nd rfl (Or.inl rfl) (hf := Or.inr rfl)) (pss_one (ps_if (PW.pt (pw_and (pt_cmpR op_notIn_seq (pe_slice C8.sl_txt (pv 7) po_none (po_some (pe_un un_neg pe_int))) (pv 6) rfl) (pw_and1 (pt_cmpR op_ne (pe_slice C8.sl_txt (pv 7) po_none (po_some (pe_un un_neg pe_int))) (pe_op op_mul_str pe_str (pe_callB call_len_seq (by rfl) T.b_len bt_len (pa_cons (pv 2) pa_nil))) (nomark _))))) (pss_one (ps_expr (pe_bm PySem.F.plainAttrs_list PySem.F.slot_list_append PySem.F.type_list_append mt_append (pv 6) (pa_cons (pe_slice C8.sl_txt (pv 7) po_none (po_some (pe_un un_neg pe_int))) pa_nil)))) pss_nil)))
      (pss_cons (ps_set (i := 3) sc_law_band.nd rfl (Or.inl rfl) (pv 6))
      (pss_one (ps_set (i := 4) sc_law_band.nd rfl (Or.inl rfl) (C8.pe_c (c_law_rows T) hr (by decide) (by rfl) (pa_cons (pv 3) (pa_cons (pv 1) pa_nil)))))))) pss_nil)))
      (pss_one (ps_ret (pe_tup (pa_cons (pv 2) (pa_cons (pv 3) (pa_cons (pv 4) pa_nil)))))))))), ?_⟩)
  · obtain ⟨B, m, rfl, _⟩ := h
    rfl
  · obtain ⟨B, m, rfl, hb, hm, k⟩ := h
    walk_at "go"
    refine ⟨B, m, rfl, hb, by omega, fun a H1 cs s1 b1 na ha hac hC hk => ?_⟩
    walk_at "go"
    refine ⟨B, a, _, cs, rfl, b1, by omega, hC, hk, ha, fun b H2 ss s2 b2 nb hbb hbc hB hS hSn => ?_⟩
    walk_at "go"
    refine ⟨b, ss, cs.length, rfl, hB, by have := hk.few; omega, hSn, by have := hS.few; omega, fun s hs => (hS.fit s hs).1, fun c H3 rs s3 nc hR rnd rsr rfew rp rb rcl => ?_⟩
    have s03 : SBut B.b H H3 := (s1.trans s2).trans (same_but s3)
    have b3 := (b2.same s3)
    have hcb : c ≠ B.b := (b2.new nc).1
    have hC3 := (hC.sb b1 s2 ha).same s3
    walk_at "go"
    refine ⟨5, rfl, by decide, by decide, ?_⟩
    refine for_G (n := 5) walk_rng (fun i σ H' => ∃ (a b c : Addr) (cs : List Cell) (ss rs : List Row) (u5 u6 u7 : Option V), SBut B.b H H' ∧ BagAt B (m + 1000) H' ∧ a ≠ B.b ∧ b ≠ B.b ∧ c ≠ B.b ∧ CellsAt H' a cs ∧ CellsOk cs ∧ H' b = some (.lst (rowL ss)) ∧ SeedsOk cs ss ∧ H' c = some (.lst (rowL rs)) ∧
        rs.Nodup ∧ Srt rs ∧ rs.length ≤ 21 ∧ (∀ r ∈ rs, Prd cs.length ss r) ∧ (rs.length ≤ 20 → ∀ r, Prd cs.length ss r → r ∈ rs) ∧ (rs.length ≤ 20 ∨ cs.length + i ≤ 6) ∧
        σ = [some (.ref B.b), some (.int 20), some (.ref a), some (.ref b), some (.ref c), u5, u6, u7])
      ⟨a, b, c, cs, ss, rs, _, _, _, s03, b3.mono (by omega), ha, hbb, hcb, hC3, hk, s3 _ _ hB, hS, hR, rnd, rsr, rfew, rp, rcl, .inr hk.few, rfl⟩ (fun _ _ _ _ _ => trivial) ?_ ?_
    · rintro i x σ H4 H4' hi ⟨a, b, c, cs, ss, rs, u5, u6, u7, s4, b4, ha, hbb, hcb, hC, hk, hB, hS, hR, rnd, rsr, rfew, rp, rcl, hor, rfl⟩ ⟨rfl, rfl⟩
      have hqr : SqL K H4' c (rs.map fun r => .str (S r)) := .inl (.inl hR)
      have hqa : SqL K H4' a (cs.map fun c => .ref c.p) := .inl (.inl hC.l)
      walk_at "go"
      refine w_dec (fun e => ?_) (fun e => ?_)
      · have hrl : ¬ rs.length ≤ 20 := by omega
        have h2 : 2 ≤ cs.length := by
          have := hk.one
          by_cases h : cs.length ≤ 1
          · have := one_cell hk h hS.fit rnd rp
            omega
          · omega
        have h6 := hk.few
        have hsf := hS.few
        walk_at "go"
        refine w_slBut hqa fun a2 na2 => ?_
        walk_at "go"
        rename_i sh nsh'
        have nsh : H4' sh = none := (same_new na2).free nsh'
        have hash : a2 ≠ sh := ne_of_none upd_same nsh'
        have hqs : SqL K (upd (upd H4' a2 (.lst (cs.dropLast.map fun c => .ref c.p))) sh (.lst [])) b (ss.map fun r => .str (S r)) := (by walk_at "sm" : Same H4' _).seq (.inl (.inl hB))
        walk_at "go"
        refine for_G (n := ss.length) walk_listM (fun j σ H' => ∃ (shl : List Row) (u7 : Option V), ShortI cs ss shl j ∧ Same H4' H' ∧ H' a2 = some (.lst (cs.dropLast.map fun c => .ref c.p)) ∧ H' sh = some (.lst (rowL shl)) ∧
            σ = [some (.ref B.b), some (.int 20), some (.ref a2), some (.ref b), some (.ref c), some (.int (i : Nat)), some (.ref sh), u7])
          ⟨[], _, ⟨Nat.le_refl _, fun s h => absurd h List.not_mem_nil, fun s h => absurd h List.not_mem_nil, List.nodup_nil, fun j s h => absurd h (Nat.not_lt_zero _)⟩, by walk_at "sm", by rw [upd_ne hash]; exact upd_same, upd_same, rfl⟩ (fun j σ H' _ h => let ⟨_, _, _, s, _⟩ := h; s.seq (.inl (.inl hB))) ?_ ?_
        · rintro j x σ H5 H5' hj ⟨shl, u7, I, s5, ha5, hsh5, rfl⟩ ⟨rfl, s, hss, rfl⟩
          have hsm := List.mem_of_getElem? hss
          have hfs := hS.fit s hsm
          have hsl := hfs.1
          have hsne : s ≠ [] := by intro z; rw [z] at hsl; simp at hsl; omega
          have hqsh : SqL K H5' sh (shl.map fun r => .str (S r)) := .inl (.inl hsh5)
          have hqa5 : SqL K H5' a2 (cs.dropLast.map fun c => V.ref c.p) := .inl (.inl ha5)
          have hsfew := I.few
          have hsz : (S s).length ≤ 1000 := by rw [show (S s).length = s.length from S_size s]; omega
          have hcut : Txt.slice (S s) none (some (-1)) = S s.dropLast := by rw [SX.slice_butlast hsne, List.dropLast_eq_take]
          have hcd : cs.dropLast.length = cs.length - 1 := List.length_dropLast
          walk_at "go"
          refine w_slX hsz ?_
          rw [show (-1 : Int) = -1 from rfl, hcut]
          walk_at "go"
          refine w_ndec (fun e1 => ?_) (fun e1 => ?_)
          · walk_at "go"
            refine w_slX hsz ?_
            rw [hcut]
            walk_at "go"
            refine w_ndec (fun e2 => ?_) (fun e2 => ?_)
            · walk_at "go"
              refine w_slX hsz ?_
              rw [hcut]
              walk_at "go"
              refine w_app hsh5 (by rw [List.length_map]; omega) ?_
              refine ⟨shl ++ [s.dropLast], _, ⟨by rw [List.length_append]; exact Nat.succ_le_succ I.few, fun x hx => ?_, fun x hx => ?_, ?_, fun j' s' hj' hs' hn' => ?_⟩, same_mut s5 nsh, by rw [upd_ne hash]; exact ha5, ?_, rfl⟩
              · rcases List.mem_append.mp hx with z | z
                · exact I.fit x z
                · rw [List.mem_singleton.mp z]; exact fits_cut hfs
              · rcases List.mem_append.mp hx with z | z
                · exact I.nb x z
                · rw [List.mem_singleton.mp z]; exact e2
              · exact List.nodup_append.mpr ⟨I.nd, List.nodup_cons.mpr ⟨List.not_mem_nil, List.nodup_nil⟩, fun x hx y hy z => e1 (by rw [← List.mem_singleton.mp hy, ← z]; exact hx)⟩
              · rcases Nat.lt_succ_iff_lt_or_eq.mp hj' with z | z
                · exact List.mem_append_left _ (I.all j' s' z hs' hn')
                · subst z
                  obtain rfl : s' = s := Option.some.inj (hs'.symm.trans hss)
                  exact List.mem_append_right _ (List.mem_singleton.mpr rfl)
              · rw [upd_same]; show _ = some (HO.lst (List.map _ _)); rw [List.map_append]; rfl
            · walk_at "go"
              refine ⟨shl, _, ⟨Nat.le_succ_of_le I.few, I.fit, I.nb, I.nd, fun j' s' hj' hs' hn' => ?_⟩, s5, ha5, hsh5, rfl⟩
              rcases Nat.lt_succ_iff_lt_or_eq.mp hj' with z | z
              · exact I.all j' s' z hs' hn'
              · subst z
                obtain rfl : s' = s := Option.some.inj (hs'.symm.trans hss)
                exact absurd e2 hn'
          · walk_at "go"
            refine ⟨shl, _, ⟨Nat.le_succ_of_le I.few, I.fit, I.nb, I.nd, fun j' s' hj' hs' hn' => ?_⟩, s5, ha5, hsh5, rfl⟩
            rcases Nat.lt_succ_iff_lt_or_eq.mp hj' with z | z
            · exact I.all j' s' z hs' hn'
            · subst z
              obtain rfl : s' = s := Option.some.inj (hs'.symm.trans hss)
              exact e1
        · rintro σ H5 ⟨shl, u7, I, s5, ha5, hsh5, rfl⟩
          have hS2 := I.seeds hS
          have hk2 := cells_cut hk h2
          have hne2 := hS2.ne hk2.one
          have b5 := b4.same s5
          walk_at "go"
          refine ⟨sh, shl, cs.dropLast.length, rfl, hsh5, by have := hk2.few; omega, hne2, by have := hS2.few; omega, fun s hs => (hS2.fit s hs).1, fun c2 H6 rs2 s6 nc2 hR2 rnd2 rsr2 rfew2 rp2 rb2 rcl2 => ?_⟩
          have hcd : cs.dropLast.length = cs.length - 1 := List.length_dropLast
          refine ⟨a2, sh, c2, cs.dropLast, shl, rs2, _, _, _, (s4.trans (same_but s5)).trans (same_but s6), b5.same s6, (b4.new na2).1, (b4.new nsh).1, (b5.new nc2).1, ⟨s6 _ _ ha5, fun c hc => ((hC.c c ((List.dropLast_sublist _).subset hc)).same s5).same s6⟩, hk2, s6 _ _ hsh5, hS2, hR2, rnd2, rsr2, rfew2, rp2, rcl2, ?_, rfl⟩
          rcases hor with z | z
          · exact absurd z hrl
          · right; omega
      · have hrl : rs.length ≤ 20 := by omega
        walk_at "go"
        exact ⟨a, b, c, cs, ss, rs, _, _, _, s4, b4, ha, hbb, hcb, hC, hk, hB, hS, hR, rnd, rsr, rfew, rp, rcl, .inl hrl, rfl⟩
    · rintro σ H4 ⟨a, b, c, cs, ss, rs, u5, u6, u7, s4, b4, ha, hbb, hcb, hC, hk, hB, hS, hR, rnd, rsr, rfew, rp, rcl, hor, rfl⟩
      have h20 : rs.length ≤ 20 := by
        rcases hor with z | z
        · exact z
        · have := one_cell hk (by omega) hS.fit rnd rp
          omega
      walk_at "go"
      rename_i p np
      exact k p _ a b c cs ss rs (s4.trans (sbut_new np)) (b4.same (same_new np)) upd_same ha hbb hcb (hC.same (same_new np)) hk (same_new np _ _ hB) hS (same_new np _ _ hR) ⟨rnd, rsr, h20, fun r => ⟨rp r, rcl h20 r⟩⟩
end
/-! ## E4 -/
section
set_option maxHeartbeats 2000000
open PySem PySem.Spec PyProof.Rows L2
theorem putA_keys {α : Type} (l : List (Row × α)) (r : Row) (v : α) : (putA l r v).map (·.1) = if r ∈ l.map (·.1) then l.map (·.1) else l.map (·.1) ++ [r] := by
  unfold putA
  by_cases h : (l.any fun a => decide (a.1 = r)) = true
  · have h2 : r ∈ l.map (·.1) := by
      obtain ⟨a, ha, e⟩ := List.any_eq_true.mp h
      exact List.mem_map.mpr ⟨a, ha, of_decide_eq_true e⟩
    rw [if_pos h, if_pos h2, List.map_map]
    apply List.map_congr_left
    intro a _
    show (if a.1 = r then (a.1, v) else a).1 = a.1
    split <;> rfl
  · have h2 : r ∉ l.map (·.1) := fun z => by
      obtain ⟨a, ha, e⟩ := List.mem_map.mp z
      exact h (List.any_eq_true.mpr ⟨a, ha, decide_eq_true e⟩)
    rw [if_neg h, if_neg h2, List.map_append]
    rfl
theorem putA_mem {α : Type} {l : List (Row × α)} {r : Row} {v : α} {a : Row × α} (h : a ∈ putA l r v) : a ∈ l ∨ a = (r, v) := by
  unfold putA at h
  split at h
  · obtain ⟨b, hb, e⟩ := List.mem_map.mp h
    split at e
    · rename_i e2
      right; rw [← e, e2]
    · left; rw [← e]; exact hb
  · rcases List.mem_append.mp h with z | z
    · exact .inl z
    · exact .inr (List.mem_singleton.mp z)
theorem _root_.List.set_getElem_self_of {α : Type} {l : List α} {j : Nat} {x : α} (h : l[j]? = some x) : l.set j x = l := by
  apply List.ext_getElem?
  intro i
  obtain ⟨hlt, hel⟩ := List.getElem?_eq_some_iff.mp h
  by_cases hij : j = i
  · subst hij; rw [List.getElem?_set_self hlt, h]
  · rw [List.getElem?_set_ne hij]
theorem seq_cut {t u : TS} {D : Ends} {σ : L2.St} {H : Hp} (N : L2.St → Hp → Prop) (hN : u D = N) (h : t { D with nx := N } σ H) : tSeq t u D σ H := by subst hN; exact h
/-- a load so far -/
structure LoadI (rs : List Row) (hi : Nat) (ws : Ws) : Prop where
  nd : (ws.map (·.1)).Nodup
  sub : ∀ a ∈ ws, a.1 ∈ rs
  val : ∀ a ∈ ws, 1 ≤ a.2 ∧ a.2 ≤ hi
theorem LoadI.len {rs : List Row} {hi : Nat} {ws : Ws} (I : LoadI rs hi ws) : ws.length ≤ rs.length := by
  have := nodup_len (ws.map (·.1)) rs I.nd fun x hx => by
    obtain ⟨a, ha, rfl⟩ := List.mem_map.mp hx
    exact I.sub a ha
  rwa [List.length_map] at this
theorem LoadI.put {rs : List Row} {hi n : Nat} {ws : Ws} {r : Row} (I : LoadI rs hi ws) (hr : r ∈ rs) (h1 : 1 ≤ n) (h2 : n ≤ hi) : LoadI rs hi (putA ws r n) ∧ putA ws r n ≠ [] := by
  refine ⟨⟨?_, fun a ha => ?_, fun a ha => ?_⟩, ?_⟩
  · rw [putA_keys]
    split
    · exact I.nd
    · rename_i h
      exact List.nodup_append.mpr ⟨I.nd, List.nodup_cons.mpr ⟨List.not_mem_nil, List.nodup_nil⟩, fun x hx y hy z => h (by rw [← List.mem_singleton.mp hy, ← z]; exact hx)⟩
  · rcases putA_mem ha with z | z
    · exact I.sub a z
    · rw [z]; exact hr
  · rcases putA_mem ha with z | z
    · exact I.val a z
    · rw [z]; exact ⟨h1, h2⟩
  · intro z
    have := putA_keys ws r n
    rw [z] at this
    split at this
    · rename_i h; rw [← this] at h; cases h
    · simp at this
theorem putA_at {α : Type} : ∀ {l : List (Row × α)} {j : Nat} {r : Row} {v0 v : α}, (l.map (·.1)).Nodup → l[j]? = some (r, v0) → putA l r v = l.set j (r, v) := by
  intro l j r v0 v nd hj
  have hm : (r, v0) ∈ l := List.mem_of_getElem? hj
  unfold putA
  rw [if_pos (List.any_eq_true.mpr ⟨_, hm, decide_eq_true rfl⟩)]
  apply List.ext_getElem?
  intro i
  rw [List.getElem?_map]
  obtain ⟨hlt, hel⟩ := List.getElem?_eq_some_iff.mp hj
  by_cases hij : i = j
  · subst hij
    rw [hj, List.getElem?_set_self hlt]
    simp
  · rw [List.getElem?_set_ne (fun z => hij z.symm)]
    cases e : l[i]? with
    | none => rfl
    | some a =>
      have hne : a.1 ≠ r := by
        intro z
        obtain ⟨hlt2, hel2⟩ := List.getElem?_eq_some_iff.mp e
        have := List.pairwise_iff_getElem.mp nd
        rcases Nat.lt_or_gt_of_ne hij with h | h
        · exact this i j (by rw [List.length_map]; exact hlt2) (by rw [List.length_map]; exact hlt) h (by rw [List.getElem_map, List.getElem_map, hel2, hel, z])
        · exact this j i (by rw [List.length_map]; exact hlt) (by rw [List.length_map]; exact hlt2) h (by rw [List.getElem_map, List.getElem_map, hel2, hel, z])
      simp [hne]
def sp_law_load (K : PySem.W.Frag) : Sp := fun vs H Q _ => ∃ B r s, ∃ m : Nat, ∃ (wh : Bool) (cs : List Cell) (ss rs : List Row), vs = [.ref B.b, .ref r, .ref s, .bl wh] ∧ BagAt B m H ∧ m ≤ 50000 ∧ H r = some (.lst (rowL rs)) ∧ r ≠ B.b ∧ H s = some (.lst (rowL ss)) ∧ s ≠ B.b ∧ CellsOk cs ∧ SeedsOk cs ss ∧ RowsOk cs.length ss rs ∧
  ∀ d (H' : Hp) (ws : Ws), SBut B.b H H' → BagAt B (m + 1000) H' → H d = none → d ≠ B.b → d ≠ B.c → H' d = some (.dK (WD ws)) → LoadI rs 999 ws → ws ≠ [] → Q (.ref d) H'
end
/-! ## F16 -/
section
set_option maxHeartbeats 2000000
open PySem PySem.Spec PyProof.Rows L2


variable {P : Program} {w : World} {K : PySem.W.Frag} {mg : Str → Option Value} {base : Heap}
abbrev nm_law_load : List Str := ["_law_bag_here", "_law_rows_here", "_law_some", "_law_whole", "_law_found", "_law_high", "_law_k", "_law_row", "_law_at", "_law_times", "_law_seed"]
theorem sc_law_load : FnScope nm_law_load ["_law_bag_here", "_law_rows_here", "_law_some", "_law_whole"] (defScope s_law_load) := ⟨rfl, rfl, rfl, by decide +kernel, rfl, by decide +kernel, by decide +kernel⟩
abbrev t_law_load (K : PySem.W.Frag) : TS := (tSeq (tPar 4 5 (tCons tDNewK (tCons (tCall (sp_law_of K) [] E0 (tCons (tVar 0) (tCons (tLst (tCons (tC (.int 4)) (tCons (tC (.int 9)) (tCons (tC (.int 3)) (tCons (tC (.int 1)) (tCons (tC (.int 6)) (tCons (tC (.int 30)) (tCons (tC (.int 9)) (tCons (tC (.int 999)) tNil))))))))) tNil))) tNil)))
    (tSeq (tFor (iRng1 (tCons (tOp rAddI (tC (.int 1)) (tCall (sp_law_draw K) [] E0 (tCons (tVar 0) (tCons (tC (.int 5)) tNil)))) tNil)) (gName 6) (tSeq (tAsg (tIf (tTest (tOp rGtI (tCall (sp_law_draw K) [] E0 (tCons (tVar 0) (tCons (tC (.int 3)) tNil))) (tC (.int 0)))) (tCall (sp_law_of K) [] E0 (tCons (tVar 0) (tCons (tVar 2) tNil))) (tCall (sp_law_of K) [] E0 (tCons (tVar 0) (tCons (tVar 1) tNil)))) (gName 7))
    (sDPut (tVar 4) (tVar 7) (tOp rAddI (tC (.int 1)) (tCall (sp_law_draw K) [] E0 (tCons (tVar 0) (tCons (tVar 5) tNil)))))))
    (tSeq (tIfS (tB (tVar 3)) (tFor (iRng1 (tCons (tCB rLenS (tCons (tOp (rIxL K) (tVar 1) (tC (.int 0))) tNil)) tNil)) (gName 8) (tIfS (tB (tCB (rAll K) (tCons (tLockE (tLc (iKeysM (tVar 4)) (gName 7) tYes (tOp rEq (tOp rIxS (tVar 7) (tVar 8)) (tC (.str "."))) [7])) tNil))) (tSeq (tAsg (tCall (sp_law_of K) [] E0 (tCons (tVar 0) (tCons (tLc (iList K (tVar 2)) (gName 10) (tTest (tOp rNe (tOp rIxS (tVar 10) (tVar 8)) (tC (.str ".")))) (tVar 10) [10]) tNil))) (gName 7))
    (sDPut (tVar 4) (tVar 7) (tOp rAddI (tC (.int 1)) (tCall (sp_law_draw K) [] E0 (tCons (tVar 0) (tCons (tVar 5) tNil)))))) tNext)) tNext)
    (tSeq (tAsg (tIf (tAnd (tTest (tOp rEq (tCall (sp_law_draw K) [] E0 (tCons (tVar 0) (tCons (tC (.int 4)) tNil))) (tC (.int 0)))) (tTest (tOp rLtI (tVar 5) (tC (.int 31))))) (tOp rAddI (tC (.int 2)) (tCall (sp_law_draw K) [] E0 (tCons (tVar 0) (tCons (tC (.int 9)) tNil)))) (tC (.int 1))) (gName 9))
    (tSeq (tFor (iList K (tListKeys (tVar 4))) (gName 7) (sDPut (tVar 4) (tVar 7) (tOp rMulW (tDGet (tVar 4) (tVar 7)) (tVar 9))))
    (tRet (tVar 4)))))))
theorem c_law_load (T : Tx K mg) : C8.Cal P w K mg base 4 "_law_load" (sp_law_load K) [] := by
  refine calG T.f_law_load (fun _ _ _ _ _ _ us hl => match us, hl with | [_, _, _, _], _ => rfl) sc_law_load (fun vs H Q E h => ?_) (fun f cdv A outer s H vs Q E hr h => have hu := hu_of hr; ⟨t_law_load K, (pss_cons (ps_par (i := 4) (j := 5) (by rfl) sc_law_load.nd rfl rfl (by decide) rfl rfl (pa_cons pe_dnewK (pa_cons (C8.pe_c (c_law_of T) hr (by decide) (by rfl) (pa_cons (pv 0) (pa_cons (pe_lst (pa_cons pe_int (pa_cons pe_int (pa_cons pe_int (pa_cons pe_int (pa_cons pe_int (pa_cons pe_int (pa_cons pe_int (pa_cons pe_int pa_nil))))))))) pa_nil))) pa_nil)) (by rfl))
      (pss_cons (ps_for PassesOwn.never rfl (pi_range1 (by rfl) T.b_range (pa_cons (pe_op op_add pe_int (C8.pe_c (c_law_draw T) hr (by decide) (by rfl) (pa_cons (pv 0) (pa_cons pe_int pa_nil)))) pa_nil)) (pg_name (i := 6) sc_law_load.nd rfl (Or.inl rfl) (hf := Or.inr rfl)) (pss_cons (ps_set (i := 7) sc_law_load.nd rfl (Or.inl rfl) (pe_ifExp (pt_cmpR op_gt (C8.pe_c (c_law_draw T) hr (by decide) (by rfl) (pa_cons (pv 0) (pa_cons pe_int pa_nil))) pe_int (nomark _)) (C8.pe_c (c_law_of T) hr (by decide) (by rfl) (pa_cons (pv 0) (pa_cons (pv 2) pa_nil))) (C8.pe_c (c_law_of T) hr (by decide) (by rfl) (pa_cons (pv 0) (pa_cons (pv 1) pa_nil)))))
      (pss_one (ps_dput hu (pv 4) (pv 7) (pe_op op_add pe_int (C8.pe_c (c_law_draw T) hr (by decide) (by rfl) (pa_cons (pv 0) (pa_cons (pv 5) pa_nil)))) rfl))))
      (pss_cons (ps_if (pt_val (pv 3)) (pss_one (ps_for PassesOwn.never rfl (pi_range1 (by rfl) T.b_range (pa_cons (pe_callB call_len_str (by rfl) T.b_len bt_len (pa_cons (pe_ix ix_list (pv 1) pe_int (fun _ _ => rfl)) pa_nil)) pa_nil)) (pg_name (i := 8) sc_law_load.nd rfl (Or.inr rfl) (hf := Or.inl rfl)) (pss_one (ps_if (pt_val (pe_callB (cr_all rfl) (by rfl) T.b_all bt_all (pa_cons (pe_lock (pe_lc (own := [("_law_row", 7)]) rfl sc_law_load.nd (pi_keysM (pv 4)) (blkOk_by (own := [("_law_row", 7)]) (N := nm_law_load) (sc := (defScope s_law_load)) (by decide +kernel)) (fun _ _ _ _ _ => (pg_name (i := 7) sc_law_load.nd rfl (Or.inl rfl) (hf := Or.inr rfl))) (fun _ _ _ _ _ => pts_nil) (fun _ _ _ _ _ => (pe_cmpR op_eq (pe_ix ix_str (pv 7) (pv 8) (fun _ _ => rfl)) pe_str (nomark _))))) pa_nil))) (pss_cons (ps_set (i := 7) sc_law_load.nd rfl (Or.inl rfl) (C8.pe_c (c_law_of T) hr (by decide) (by rfl) (pa_cons (pv 0) (pa_cons (pe_lc (own := [("_law_seed", 10)]) rfl sc_law_load.nd (pi_list (pv 2)) (blkOk_by (own := [("_law_seed", 10)]) (N := nm_law_load) (sc := (defScope s_law_load)) (by decide +kernel)) (fun _ _ _ _ _ => (pg_name (i := 10) sc_law_load.nd rfl (Or.inl rfl) (hf := Or.inr rfl))) (fun _ _ _ _ _ => (pts_one (pt_cmpR op_ne (pe_ix ix_str (pv 10) (pv 8) (fun _ _ => rfl)) pe_str (nomark _)))) (fun _ _ _ _ _ => (pv 10))) pa_nil))))
      (pss_one (ps_dput hu (pv 4) (pv 7) (pe_op op_add pe_int (C8.pe_c (c_law_draw T) hr (by decide) (by rfl) (pa_cons (pv 0) (pa_cons (pv 5) pa_nil)))) rfl))) pss_nil)))) pss_nil)
      (pss_cons (ps_set (i := 9) sc_law_load.nd rfl (Or.inl rfl) (pe_ifExp (PW.pt (pw_and (pt_cmpR op_eq (C8.pe_c (c_law_draw T) hr (by decide) (by rfl) (pa_cons (pv 0) (pa_cons pe_int pa_nil))) pe_int (nomark _)) (pw_and1 (pt_cmpR op_lt (pv 5) pe_int (nomark _))))) (pe_op op_add pe_int (C8.pe_c (c_law_draw T) hr (by decide) (by rfl) (pa_cons (pv 0) (pa_cons pe_int pa_nil)))) pe_int))
      (pss_cons (ps_for PassesOwn.never rfl (pi_list (pe_listKeys rfl (by rfl) T.b_list (pv 4))) (pg_name (i := 7) sc_law_load.nd rfl (Or.inl rfl) (hf := Or.inr rfl)) (pss_one (ps_dput hu (pv 4) (pv 7) (pe_op op_mulW (pe_dget hu (pv 4) (pv 7) (fun _ _ => rfl)) (pv 9)) rfl)))
      (pss_one (ps_ret (pv 4)))))))), ?_⟩)
  · obtain ⟨B, r, s, m, wh, cs, ss, rs, rfl, _⟩ := h
    rfl
  · obtain ⟨B, r, s, m, wh, cs, ss, rs, rfl, hb, hm, hr0, hrb, hs0, hsb, hk, hS, hR, k⟩ := h
    have hn6 := hk.few
    have hrf := hR.few
    have hsf := hS.few
    have hlen : ∀ x ∈ rs, x.length = cs.length := fun x hx => ((hR.mem x).mp hx).len fun s hs => (hS.fit s hs).1
    have hssr : ∀ x ∈ ss, x ∈ rs := fun x hx => (hR.mem x).mpr (Prd.seed (fun s hs => (hS.fit s hs).1) hx)
    have hrne : rs ≠ [] := fun z => by
      have := (hR.mem _).mpr (Prd.nil (n := cs.length) (ss := ss))
      rw [z] at this; cases this
    have hsne := hS.ne hk.one
    walk_at "go"
    rename_i pd npd q1 nq1
    have hpd := hb.new npd
    have hb1 := hb.same (same_new npd (o := .dK []))
    have hq1 := hb1.new nq1
    refine ⟨B, q1, m, _, rfl, hb1.same (same_new nq1), by omega, upd_same, hq1.1, List.cons_ne_nil _ _, by simp, fun v H1 s1 b1 hv => ?_⟩
    have hhi : ∃ hg : Nat, v = .int hg ∧ 1 ≤ hg ∧ hg ≤ 999 := by
      simp only [List.mem_cons, List.not_mem_nil, or_false] at hv
      rcases hv with h | h | h | h | h | h | h | h <;> first | exact ⟨4, h, by decide, by decide⟩ | exact ⟨9, h, by decide, by decide⟩ | exact ⟨3, h, by decide, by decide⟩ | exact ⟨1, h, by decide, by decide⟩ | exact ⟨6, h, by decide, by decide⟩ | exact ⟨30, h, by decide, by decide⟩ | exact ⟨999, h, by decide, by decide⟩
    obtain ⟨hg, rfl, hg1, hg9⟩ := hhi
    have hd1 : H1 pd = some (.dK (WD [])) := s1 _ _ hpd.1 (same_new nq1 _ _ upd_same)
    have sH : SBut B.b H H1 := ((sbut_new npd).trans (sbut_new nq1)).trans s1
    walk_at "go"
    refine ⟨B, m + 1, 5, rfl, b1, by omega, by decide, by decide, fun d1 H2 s2 b2 hd1' => ?_⟩
    walk_at "go"
    have en : ((1 : Int) + (d1 : Nat)) = ((1 + d1 : Nat) : Int) := by omega
    rw [en]
    walk_at "go"
    have put : ∀ (ws : Ws) (row : Row) (H4 : Hp) (D : Ends) (m4 : Nat) (u6 u8 u9 u10 : Option V), LoadI rs hg ws → H4 pd = some (.dK (WD ws)) → row ∈ rs → SBut B.b H H4 → BagAt B m4 H4 → m4 ≤ 90000 →
        (∀ (ws' : Ws) (H5 : Hp), LoadI rs hg ws' → ws' ≠ [] → SBut B.b H H5 → BagAt B (m4 + 1) H5 → H5 pd = some (.dK (WD ws')) →
          D.nx [some (.ref B.b), some (.ref r), some (.ref s), some (.bl wh), some (.ref pd), some (.int (hg : Nat)), u6, some (.str (S row)), u8, u9, u10] H5) →
        (sDPut (tVar 4) (tVar 7) (tOp rAddI (tC (.int 1)) (tCall (sp_law_draw K) [] E0 (tCons (tVar 0) (tCons (tVar 5) tNil))))) D [some (.ref B.b), some (.ref r), some (.ref s), some (.bl wh), some (.ref pd), some (.int (hg : Nat)), u6, some (.str (S row)), u8, u9, u10] H4 := by
      intro ws row H4 D m4 u6 u8 u9 u10 I hd4 hrow s4 b4 hm4 kk
      have hwl := I.len
      walk_at "go"
      refine ⟨B, m4, hg, rfl, b4, by omega, by omega, by omega, fun d H5 s5 b5 hd => ?_⟩
      walk_at "go"
      have e1 : ((1 : Int) + (d : Nat)) = ((1 + d : Nat) : Int) := by omega
      rw [e1]
      refine w_dputR (f := fun n : Nat => V.int n) (v := 1 + d) (s5 _ _ hpd.1 hd4) (by omega) ?_
      obtain ⟨I2, n2⟩ := I.put (n := 1 + d) hrow (by omega) (by omega)
      exact kk _ _ I2 n2 (sbut_mut (s4.trans s5) npd) (b5.upd hpd.1 hpd.2) upd_same
    refine for_G (n := 1 + d1) walk_rng (fun i σ H' => ∃ (ws : Ws) (u6 u7 : Option V), LoadI rs hg ws ∧ (0 < i → ws ≠ []) ∧ SBut B.b H H' ∧ BagAt B (m + 10 + i * 10) H' ∧ H' pd = some (.dK (WD ws)) ∧
        σ = [some (.ref B.b), some (.ref r), some (.ref s), some (.bl wh), some (.ref pd), some (.int (hg : Nat)), u6, u7, none, none, none])
      ⟨[], _, _, ⟨List.nodup_nil, fun a h => absurd h List.not_mem_nil, fun a h => absurd h List.not_mem_nil⟩, fun h => absurd h (Nat.lt_irrefl _), sH.trans s2, b2.mono (by omega), s2 _ _ hpd.1 hd1, rfl⟩ (fun _ _ _ _ _ => trivial) ?_ ?_
    · rintro i x σ H3 H3' hi ⟨ws, u6, u7, I, hne, s3, b3, hd3, rfl⟩ ⟨rfl, rfl⟩
      generalize hN : (sDPut (tVar 4) (tVar 7) (tOp rAddI (tC (.int 1)) (tCall (sp_law_draw K) [] E0 (tCons (tVar 0) (tCons (tVar 5) tNil))))) = N at put ⊢
      have dn : ∀ (row : Row) (ws' : Ws) (H5 : Hp), LoadI rs hg ws' → ws' ≠ [] → SBut B.b H H5 → BagAt B (m + 10 + i * 10 + 1 + 1 + 1) H5 → H5 pd = some (.dK (WD ws')) →
          ∃ (ws : Ws) (u6' u7' : Option V), LoadI rs hg ws ∧ (0 < i + 1 → ws ≠ []) ∧ SBut B.b H H5 ∧ BagAt B (m + 10 + (i + 1) * 10) H5 ∧ H5 pd = some (.dK (WD ws)) ∧
            [some (.ref B.b), some (.ref r), some (.ref s), some (.bl wh), some (.ref pd), some (.int (hg : Nat)), some (.int (i : Nat)), some (.str (S row)), none, none, none] = [some (.ref B.b), some (.ref r), some (.ref s), some (.bl wh), some (.ref pd), some (.int (hg : Nat)), u6', u7', none, none, none] :=
        fun row ws' H5 I' n' s' b' h' => ⟨ws', _, _, I', fun _ => n', s', b'.mono (by omega), h', rfl⟩
      walk_at "go"
      refine ⟨B, _, 3, rfl, b3, by omega, by decide, by decide, fun d H4 s4 b4 hd => ?_⟩
      walk_at "go"
      refine w_dec (fun e => ?_) (fun e => ?_)
      · walk_at "go"
        refine ⟨B, s, _, rowL ss, rfl, b4, by omega, s4 _ _ hsb (s3 _ _ hsb hs0), hsb, by simpa using hsne, by rw [List.length_map]; omega, fun v H5 s5 b5 hv => ?_⟩
        obtain ⟨row, hrow, rfl⟩ := List.mem_map.mp hv
        walk_at "go"
        exact put ws row H5 _ _ _ _ _ _ I (s5 _ _ hpd.1 (s4 _ _ hpd.1 hd3)) (hssr row hrow) ((s3.trans s4).trans s5) b5 (by omega) (dn row)
      · walk_at "go"
        refine ⟨B, r, _, rowL rs, rfl, b4, by omega, s4 _ _ hrb (s3 _ _ hrb hr0), hrb, by simpa using hrne, by rw [List.length_map]; omega, fun v H5 s5 b5 hv => ?_⟩
        obtain ⟨row, hrow, rfl⟩ := List.mem_map.mp hv
        walk_at "go"
        exact put ws row H5 _ _ _ _ _ _ I (s5 _ _ hpd.1 (s4 _ _ hpd.1 hd3)) hrow ((s3.trans s4).trans s5) b5 (by omega) (dn row)
    · rintro σ H3 ⟨ws, u6, u7, I, hne, s3, b3, hd3, rfl⟩
      have hne := hne (by omega)
      have b3 : BagAt B (m + 60) H3 := b3.mono (by omega)
      -- the end: the load is multiplied
      have fin : ∀ (ws : Ws) (H4 : Hp) (u6 u7 u8 : Option V), LoadI rs hg ws → ws ≠ [] → SBut B.b H H4 → BagAt B (m + 100) H4 → H4 pd = some (.dK (WD ws)) →
          (tSeq (tAsg (tIf (tAnd (tTest (tOp rEq (tCall (sp_law_draw K) [] E0 (tCons (tVar 0) (tCons (tC (.int 4)) tNil))) (tC (.int 0)))) (tTest (tOp rLtI (tVar 5) (tC (.int 31))))) (tOp rAddI (tC (.int 2)) (tCall (sp_law_draw K) [] E0 (tCons (tVar 0) (tCons (tC (.int 9)) tNil)))) (tC (.int 1))) (gName 9)) (tSeq (tFor (iList K (tListKeys (tVar 4))) (gName 7) (sDPut (tVar 4) (tVar 7) (tOp rMulW (tDGet (tVar 4) (tVar 7)) (tVar 9)))) (tRet (tVar 4)))) { nx := fun x H' => Q .non H', rt := Q } [some (.ref B.b), some (.ref r), some (.ref s), some (.bl wh), some (.ref pd), some (.int (hg : Nat)), u6, u7, u8, none, none] H4 := by
        intro ws H4 u6 u7 u8 I hne s4 b4 hd4
        have mul : ∀ (tm : Nat) (H5 : Hp), 1 ≤ tm ∧ tm ≤ 10 → (tm = 1 ∨ hg < 31) → SBut B.b H H5 → BagAt B (m + 200) H5 → H5 pd = some (.dK (WD ws)) →
            (tSeq (tFor (iList K (tListKeys (tVar 4))) (gName 7) (sDPut (tVar 4) (tVar 7) (tOp rMulW (tDGet (tVar 4) (tVar 7)) (tVar 9)))) (tRet (tVar 4))) { nx := fun x H' => Q .non H', rt := Q } [some (.ref B.b), some (.ref r), some (.ref s), some (.bl wh), some (.ref pd), some (.int (hg : Nat)), u6, u7, u8, some (.int (tm : Nat)), none] H5 := by
          intro tm H5 htm hor s5 b5 hd5
          have hwl := I.len
          walk_at "go"
          refine ⟨pd, WD ws, rfl, .inl hd5, fun p1 n1 => ?_⟩
          have e1 : (WD ws).map (fun kv => kV kv.1) = rowL (ws.map (·.1)) := by unfold WD KD rowL; rw [List.map_map, List.map_map]; rfl
          rw [e1]
          have hq1 : SqL K (upd H5 p1 (.lst (rowL (ws.map (·.1))))) p1 (rowL (ws.map (·.1))) := .inl (.inl upd_same)
          have np1 : H p1 = none := (s5.free b5 n1).2
          have hpp1 : p1 ≠ pd := (ne_of_none hd5 n1).symm
          walk_at "go"
          refine for_G (n := (ws.map (·.1)).length) walk_listM (fun j σ H' => ∃ (ws' : Ws) (u7 : Option V), ws'.map (·.1) = ws.map (·.1) ∧ (∀ (i : Nat) (a : Row × Nat), ws'[i]? = some a → 1 ≤ a.2 ∧ a.2 ≤ 999 ∧ (j ≤ i → a.2 ≤ hg)) ∧ SBut B.b H H' ∧ BagAt B (m + 200) H' ∧ H' p1 = some (.lst (rowL (ws.map (·.1)))) ∧ H' pd = some (.dK (WD ws')) ∧
              σ = [some (.ref B.b), some (.ref r), some (.ref s), some (.bl wh), some (.ref pd), some (.int (hg : Nat)), u6, u7, u8, some (.int (tm : Nat)), none])
            ⟨ws, _, rfl, fun i a ha => by
              have := I.val a (List.mem_of_getElem? ha)
              exact ⟨this.1, by omega, fun _ => this.2⟩, s5.trans (sbut_new n1), b5.same (same_new n1), upd_same, by rw [upd_ne hpp1.symm]; exact hd5, rfl⟩ (fun j σ H' _ h => let ⟨_, _, _, _, _, _, h, _⟩ := h; .inl (.inl h)) ?_ ?_
          · rintro j x σ H6 H6' hj ⟨ws', u7, hk', hv', s6, b6, hp6, hd6, rfl⟩ ⟨rfl, row, hrow, rfl⟩
            have hj2 : ws'[j]?.map (·.1) = some row := by rw [← List.getElem?_map, hk']; exact hrow
            obtain ⟨a, ha, rfl⟩ := Option.map_eq_some_iff.mp hj2
            have ham := List.mem_of_getElem? ha
            have nd' : (ws'.map (·.1)).Nodup := by rw [hk']; exact I.nd
            have hav := hv' j a ha
            have hah := hav.2.2 (Nat.le_refl _)
            have hwl' : ws'.length ≤ 20 := by
              have := congrArg List.length hk'
              rw [List.length_map, List.length_map] at this
              omega
            walk_at "go"
            refine w_dgetR (l := ws') (f := fun n : Nat => V.int n) (.inl hd6) (look_mem nd' ham) ?_
            walk_at "go"
            refine w_I (mulW (lgI (by omega) (by omega)) (lgI (by omega) (by omega))) ?_
            walk_at "go"
            rw [← Int.natCast_mul]
            refine w_dputR (f := fun n : Nat => V.int n) (v := a.2 * tm) hd6 (by omega) ?_
            have hbd : 1 ≤ a.2 * tm ∧ a.2 * tm ≤ 999 := by
              refine ⟨Nat.mul_pos (by omega) (by omega), ?_⟩
              rcases hor with z | z
              · rw [z]; omega
              · have : a.2 * tm ≤ 30 * 10 := Nat.mul_le_mul (by omega) htm.2
                omega
            have hput : putA ws' a.1 (a.2 * tm) = ws'.set j (a.1, a.2 * tm) := putA_at (v0 := a.2) nd' ha
            refine ⟨ws'.set j (a.1, a.2 * tm), _, ?_, fun i b hb => ?_, sbut_mut s6 npd, b6.upd hpd.1 hpd.2, by rw [upd_ne hpp1]; exact hp6, by rw [upd_same, hput], rfl⟩
            · rw [List.map_set]
              have h3 : (ws'.map (·.1))[j]? = some a.1 := by rw [List.getElem?_map, ha]; rfl
              rw [← hk']
              exact List.set_getElem_self_of h3
            · by_cases hij : j = i
              · subst hij
                rw [List.getElem?_set_self (List.getElem?_eq_some_iff.mp ha).1] at hb
                obtain rfl := Option.some.inj hb
                exact ⟨hbd.1, hbd.2, fun h => absurd h (by omega)⟩
              · rw [List.getElem?_set_ne hij] at hb
                have := hv' i b hb
                exact ⟨this.1, this.2.1, fun h => this.2.2 (by omega)⟩
          · rintro σ H6 ⟨ws', u7, hk', hv', s6, b6, hp6, hd6, rfl⟩
            walk_at "go"
            refine k pd H6 ws' s6 (b6.mono (by omega)) npd hpd.1 hpd.2 hd6 ⟨by rw [hk']; exact I.nd, fun a ha => ?_, fun a ha => ?_⟩ (fun z => ?_)
            · have : a.1 ∈ ws.map (·.1) := by rw [← hk']; exact List.mem_map.mpr ⟨a, ha, rfl⟩
              obtain ⟨b, hb, e⟩ := List.mem_map.mp this
              rw [← e]; exact I.sub b hb
            · obtain ⟨j, hj, e⟩ := List.getElem_of_mem ha
              have := hv' j a (by rw [← e]; simp [hj])
              exact ⟨this.1, this.2.1⟩
            · rw [z] at hk'
              exact hne (List.map_eq_nil_iff.mp hk'.symm)
        generalize hN : (tSeq (tFor (iList K (tListKeys (tVar 4))) (gName 7) (sDPut (tVar 4) (tVar 7) (tOp rMulW (tDGet (tVar 4) (tVar 7)) (tVar 9)))) (tRet (tVar 4))) { nx := fun x H' => Q .non H', rt := Q } = N at mul
        refine w_seq ?_
        rw [hN]
        walk_at "go"
        refine ⟨B, _, 4, rfl, b4, by omega, by decide, by decide, fun d H5 s5 b5 hd => ?_⟩
        walk_at "go"
        refine w_dec (fun e => ?_) (fun e => ?_)
        · walk_at "go"
          refine w_dec (fun e2 => ?_) (fun e2 => ?_)
          · walk_at "go"
            refine ⟨B, _, 9, rfl, b5, by omega, by decide, by decide, fun d2 H6 s6 b6 hd2 => ?_⟩
            walk_at "go"
            have e3 : ((2 : Int) + (d2 : Nat)) = ((2 + d2 : Nat) : Int) := by omega
            rw [e3]
            exact mul (2 + d2) H6 ⟨by omega, by omega⟩ (.inr (by omega)) ((s4.trans s5).trans s6) (b6.mono (by omega)) (s6 _ _ hpd.1 (s5 _ _ hpd.1 hd4))
          · walk_at "go"
            exact mul 1 H5 ⟨by decide, by decide⟩ (.inl rfl) (s4.trans s5) (b5.mono (by omega)) (s5 _ _ hpd.1 hd4)
        · walk_at "go"
          exact mul 1 H5 ⟨by decide, by decide⟩ (.inl rfl) (s4.trans s5) (b5.mono (by omega)) (s5 _ _ hpd.1 hd4)
      obtain ⟨N, hN⟩ : ∃ N : L2.St → Hp → Prop, N = (tSeq (tAsg (tIf (tAnd (tTest (tOp rEq (tCall (sp_law_draw K) [] E0 (tCons (tVar 0) (tCons (tC (.int 4)) tNil))) (tC (.int 0)))) (tTest (tOp rLtI (tVar 5) (tC (.int 31))))) (tOp rAddI (tC (.int 2)) (tCall (sp_law_draw K) [] E0 (tCons (tVar 0) (tCons (tC (.int 9)) tNil)))) (tC (.int 1))) (gName 9)) (tSeq (tFor (iList K (tListKeys (tVar 4))) (gName 7) (sDPut (tVar 4) (tVar 7) (tOp rMulW (tDGet (tVar 4) (tVar 7)) (tVar 9)))) (tRet (tVar 4)))) { nx := fun x H' => Q .non H', rt := Q } := ⟨_, rfl⟩
      rw [← hN] at fin
      dsimp only
      with_reducible refine seq_cut N ?_ ?_
      · exact hN.symm
      obtain ⟨x0, hx0, hx0l⟩ : ∃ x0, rs[0]? = some x0 ∧ x0.length = cs.length := by
        obtain ⟨y, hy⟩ := List.exists_mem_of_ne_nil rs hrne
        have : 0 < rs.length := List.length_pos_iff.mpr hrne
        exact ⟨rs[0], by simp [this], hlen _ (List.getElem_mem _)⟩
      have hr3 : H3 r = some (.lst (rowL rs)) := s3 _ _ hrb hr0
      have hx0' : (rowL rs)[0]? = some (.str (S x0)) := by show (List.map _ _)[0]? = _; rw [List.getElem?_map, hx0]; rfl
      walk_at "go"
      cases wh with
      | false => walk_at "go"; exact fin ws H3 _ _ _ I hne s3 (b3.mono (by omega)) hd3
      | true =>
        walk_at "go"
        refine w_ixL (i := 0) (.inl (.inl hr3)) hx0' ?_
        walk_at "go"
        rw [hx0l]
        refine for_G (n := cs.length) walk_rng (fun j σ H' => ∃ (ws : Ws) (u6 u7 u8 : Option V), LoadI rs hg ws ∧ ws ≠ [] ∧ SBut B.b H H' ∧ BagAt B (m + 60 + j * 2) H' ∧ H' pd = some (.dK (WD ws)) ∧
            σ = [some (.ref B.b), some (.ref r), some (.ref s), some (.bl true), some (.ref pd), some (.int (hg : Nat)), u6, u7, u8, none, none])
          ⟨ws, _, _, _, I, hne, s3, b3, hd3, rfl⟩ (fun _ _ _ _ _ => trivial) ?_ ?_
        · rintro j x σ H4 H4' hj ⟨ws, u6, u7, u8, I, hne, s4, b4, hd4, rfl⟩ ⟨rfl, rfl⟩
          have hwl := I.len
          generalize hN : (sDPut (tVar 4) (tVar 7) (tOp rAddI (tC (.int 1)) (tCall (sp_law_draw K) [] E0 (tCons (tVar 0) (tCons (tVar 5) tNil))))) = N2 at put ⊢
          walk_at "go"
          refine w_lockE hd4 fun od => ?_
          walk_at "go"
          refine lc_val1 ws (fun a => .bl (a.1[j]? == some 46)) walk_keysKD (by omega) (fun H' s => s _ _ upd_same) ?_ ?_
          · rintro i2 a v H5 H6 R hi2 s5 ⟨rfl, a', ha', rfl⟩ k1
            obtain rfl : a' = a := Option.some.inj (ha'.symm.trans hi2)
            have hrl := hlen _ (I.sub _ (List.mem_of_getElem? hi2))
            have h1 : a'.1[j]? = some (a'.1[j]'(by omega)) := by simp [hrl, hj]
            have h2 : a'.1.length ≤ 1000 := by omega
            walk_at "go"
            rw [h1] at k1
            have e : ((some (a'.1[j]'(by omega)) : Option Nat) == some 46) = decide (a'.1[j]'(by omega) = 46) := some_dec
            rw [e] at k1
            exact k1 _ (Same.refl _)
          · intro D7 H5 nD7 s5 hD7
            have hd5 : H5 pd = some (.frz od (.dK (WD ws))) := s5 _ _ upd_same
            refine ⟨hd5, ?_⟩
            obtain ⟨nD0, nDd⟩ := none_lock nD7
            have s5' := same_unlock hd4 s5
            have hD8 : upd H5 pd (.dK (WD ws)) D7 = some (.lst (ws.map fun a => V.bl (a.1[j]? == some 46))) := by rw [upd_ne nDd]; exact hD7
            have b5 := b4.same s5'
            have hd6 : upd H5 pd (.dK (WD ws)) pd = some (.dK (WD ws)) := upd_same
            have s06 : SBut B.b H (upd H5 pd (.dK (WD ws))) := s4.trans (same_but s5')
            generalize upd H5 pd (.dK (WD ws)) = H6 at hD8 b5 hd6 s06
            walk_at "go"
            refine w_all hD8 ?_
            cases e : ws.all (fun a => a.1[j]? == some 46) with
            | false =>
              walk_at "go"
              exact ⟨ws, _, _, _, I, hne, s06, b5.mono (by omega), hd6, rfl⟩
            | true =>
              have hs6 : H6 s = some (.lst (rowL ss)) := s06 _ _ hsb hs0
              have hqs : SqL K H6 s (ss.map fun r => .str (S r)) := .inl (.inl hs6)
              walk_at "go"
              refine lc_valL ss (fun s => .str (S s)) (fun s => !(s[j]? == some 46)) walk_listM (by omega) (fun H' s => s.seq hqs) ?_ ?_
              · rintro i2 x v H7 H8 R R0 hi2 s7 ⟨rfl, x', hx', rfl⟩ k1 k2
                obtain rfl : x' = x := Option.some.inj (hx'.symm.trans hi2)
                have hrl := (hS.fit x' (List.mem_of_getElem? hi2)).1
                have h1 : x'[j]? = some (x'[j]'(by omega)) := by simp [hrl, hj]
                have h2 : x'.length ≤ 1000 := by omega
                walk_at "go"
                rw [h1] at k1 k2
                have e3 : ((some (x'[j]'(by omega)) : Option Nat) == some 46) = decide (x'[j]'(by omega) = 46) := some_dec
                rw [e3] at k1 k2
                refine w_ndec (fun e4 => ?_) (fun e4 => ?_)
                · walk_at "go"
                  exact k1 _ (by simp [e4]) (Same.refl _)
                · exact k2 _ (by simp [e4]) (Same.refl _)
              · intro D9 H7 nD9 s7 hD9
                have b7 := b5.same s7
                have hD9b := (b5.new nD9).1
                have hfl := List.length_filter_le (fun s : Row => !(s[j]? == some 46)) ss
                obtain ⟨sw, hsw, hswn⟩ := hS.cov j hj
                walk_at "go"
                refine ⟨B, D9, _, _, rfl, b7, by omega, hD9, hD9b, ?_, by rw [List.length_map]; omega, fun v H8 s8 b8 hv => ?_⟩
                · intro z
                  have : sw ∈ ss.filter (fun s => !(s[j]? == some 46)) := List.mem_filter.mpr ⟨hsw, by simpa using hswn⟩
                  rw [List.map_eq_nil_iff.mp z] at this
                  cases this
                · obtain ⟨row, hrow, rfl⟩ := List.mem_map.mp hv
                  have hrow2 := (List.mem_filter.mp hrow).1
                  walk_at "go"
                  refine put ws row H8 _ _ _ _ _ _ I (s8 _ _ hpd.1 (s7 _ _ hd6)) (hssr row hrow2) ((s06.trans (same_but s7)).trans s8) b8 (by omega) fun ws' H9 I' n' s9 b9 h9 => ?_
                  exact ⟨ws', _, _, _, I', n', s9, b9.mono (by omega), h9, rfl⟩
        · rintro σ H4 ⟨ws, u6, u7, u8, I, hne, s4, b4, hd4, rfl⟩
          exact fin ws H4 _ _ _ I hne s4 (b4.mono (by omega)) hd4
end
end NT
/-! ## G1 -/
section
set_option maxHeartbeats 2000000
namespace NT
open PySem PySem.Spec PyProof.Rows L2
section
variable {P : Program} {w : World} {K : PySem.W.Frag} {mg : Str → Option Value} {base : Heap}
/-! ### properties, classes -/
structure PropC (P : Program) (w : World) (K : PySem.W.Frag) (mg : Str → Option Value) (base : Heap) (k : Nat) (C : Addr) (f : Str) (sp : Sp) : Prop where
  ex : ∃ (p g : Addr) (fd : FuncData) (ps : List Str), Cls K C ∧ PropOf K C f p g ∧ FnOk P w K mg base C8.CX0 k g fd ps sp ∧ Binds K fd ps []
theorem pe_prop_c {X : Cx} {j k : Nat} {C : Addr} {f : Str} {sp : Sp} {e : Expr} {ta : TE} {pos : Pos} (c : PropC X.prog X.w X.K X.mg X.base k C f sp) (hr : Room j X.A) (hk : k + 1 ≤ j) (he : PE X e ta)
    (hab : attributeBase e f X.env (eval e X.env) = eval e X.env := by rfl) : PE X (.Attribute e f pos) (tProp C sp [] C8.E0 ta) := by
  obtain ⟨p, g, fd, ps, cl, hp, F, b⟩ := c.ex
  exact pe_prop he cl hp F (hr.mono hk) b .nil C8.pass0 hab
theorem propG {c m q : Str} {st : Stmt} {N ps : List Str} {k : Nat} {sp : Sp} (cl : Cls K (He.ga K c)) (D : DefP K c m q st) (b : Bnd ps st m q) (S : FnScope N ps (defScope st)) (len : ∀ vs H Q E, sp vs H Q E → vs.length = ps.length)
    (hbody : ∀ (f : Addr) (cdv : Value) (A : Around) (outer : List Env) (s : Shared) (H : Hp) (vs : List V) (Q : VK) (E : XK), Room k (A.deeper (envOfC q (defScope st) s.heap.objs.size f cdv)) → sp vs H Q E →
      ∃ t, PSs (cxOf C8.CX0 P w K mg base N q (defScope st) f cdv A outer s H E).nox (defBody st) t ∧ t { nx := fun _ H' => Q .non H', rt := Q } (start N vs) H) : PropC P w K mg base (k + 1) (He.ga K c) m sp := by
  obtain ⟨p, g, fd, hp, F⟩ := D
  refine ⟨p, g, fd, ps, cl, hp, F.ok S len fun cdv A outer s H vs Q E hr h => ?_, F.bindsN b⟩
  obtain ⟨t, h1, h2⟩ := hbody _ cdv A outer s H vs Q E hr h
  exact ⟨t, h1.nox, h2⟩
/-- a class made by its name, no defaults -/
theorem makG {c q : Str} {st : Stmt} {N ps : List Str} {k : Nat} {sp : Sp} (hm : mg c = some (.ref (He.ga K c))) (M : Mk K (He.ga K c) (He.ma K (He.ga K c) "__init__")) (D : DefM K c "__init__" q st [] []) (b : Bnd ps st "__init__" q) (S : FnScope N ps (defScope st)) (len : ∀ vs H Q E, sp vs H Q E → vs.length = ps.length)
    (hbody : ∀ (f : Addr) (cdv : Value) (A : Around) (outer : List Env) (s : Shared) (H : Hp) (vs : List V) (Q : VK) (E : XK), Room k (A.deeper (envOfC q (defScope st) s.heap.objs.size f cdv)) → sp vs H Q E →
      ∃ t, PSs (cxOf C8.CX0 P w K mg base N q (defScope st) f cdv A outer s H E).nox (defBody st) t ∧ t { nx := fun _ H' => Q .non H', rt := Q } (start N vs) H) : C8.Mak P w K mg base (k + 1) c (He.ga K c) sp [] := by
  obtain ⟨fd, F⟩ := D
  refine ⟨_, fd, ps, [], M, F.ok S len fun cdv A outer s H vs Q E hr h => ?_, hm, F.bindsN b, .nil⟩
  obtain ⟨t, h1, h2⟩ := hbody _ cdv A outer s H vs Q E hr h
  exact ⟨t, h1.nox, h2⟩
/-- .. with keyword-only defaults -/
theorem makK {c q : Str} {st : Stmt} {N ps : List Str} {kws : List (Str × V)} {k n : Nat} {sp : Sp} (hm : mg c = some (.ref (He.ga K c))) (M : Mk K (He.ga K c) (He.ma K (He.ga K c) "__init__")) (D : DefM K c "__init__" q st [] kws) (hk : kws ≠ []) (hn : n + kws.length = ps.length)
    (b : ∀ (D : Addr) (doc pm : Value) (an : Option Addr) (cdv ct : Value) (us ks : List Value), us.length = n → ks.length = kws.length →
      KwChain D ((kws.map (·.1)).zip ks) (bindArgs (PySem.W.fnOf "__init__" q (defArgs st) (defBody st) (defScope st) .none (.ref D) doc pm an cdv ct) ⟨us, []⟩) (ps.zip (us ++ ks)))
    (S : FnScope N ps (defScope st)) (len : ∀ vs H Q E, sp vs H Q E → vs.length = ps.length)
    (hbody : ∀ (f : Addr) (cdv : Value) (A : Around) (outer : List Env) (s : Shared) (H : Hp) (vs : List V) (Q : VK) (E : XK), Room k (A.deeper (envOfC q (defScope st) s.heap.objs.size f cdv)) → sp vs H Q E →
      ∃ t, PSs (cxOf C8.CX0 P w K mg base N q (defScope st) f cdv A outer s H E).nox (defBody st) t ∧ t { nx := fun _ H' => Q .non H', rt := Q } (start N vs) H) : C8.Mak P w K mg base (k + 1) c (He.ga K c) sp (kws.map (·.2)) := by
  obtain ⟨fd, F⟩ := D
  obtain ⟨ds, h1, h2⟩ := F.binds0 n hk hn b
  refine ⟨_, fd, ps, ds, M, F.ok S len fun cdv A outer s H vs Q E hr h => ?_, hm, h2, h1⟩
  obtain ⟨t, h1, h2⟩ := hbody _ cdv A outer s H vs Q E hr h
  exact ⟨t, h1.nox, h2⟩
end
section
variable {K : PySem.W.Frag} {H H' : Hp} {Q : VK} {σ : L2.St} {p : Addr} {ta te : TE} {v : V}
theorem w_fld1 {f : Str} (h : ta σ H fun x H1 => ∃ a C dx fs v, x = .ref a ∧ H1 a = some (.ins C dx fs) ∧ Cls K C ∧ NoAttr K C f ∧ fs.lookup f = some v ∧ Q v H1) : tFld K ta f σ H Q := h
theorem w_fld2 {C dx : Addr} {fs : List (Str × V)} {f : Str} {R : V → Prop} (e : H p = some (.ins C dx fs)) (c : Cls K C) (n : NoAttr K C f) (l : fs.lookup f = some v) (q : R v) : ∃ a C dx fs v, V.ref p = .ref a ∧ H a = some (.ins C dx fs) ∧ Cls K C ∧ NoAttr K C f ∧ fs.lookup f = some v ∧ R v :=
  ⟨p, C, dx, fs, v, rfl, e, c, n, l, q⟩
theorem w_meth {C : Addr} {m : Str} {sp : Sp} {dvs : List V} {E : XK} {t : TA} (h : ta σ H fun x H1 => ∃ a dx fs, x = .ref a ∧ H1 a = some (.ins C dx fs) ∧ fs.lookup m = none ∧ t σ H1 fun vs H2 => sp (x :: (vs ++ dvs)) H2 Q E) : tMeth C m sp dvs E ta t σ H Q := h
theorem w_meth2 {C dx : Addr} {fs : List (Str × V)} {m : Str} {A : Prop} (e : H p = some (.ins C dx fs)) (l : fs.lookup m = none) (q : A) : ∃ a dx fs, V.ref p = .ref a ∧ H a = some (.ins C dx fs) ∧ fs.lookup m = none ∧ A := ⟨p, dx, fs, rfl, e, l, q⟩
theorem w_prop {C : Addr} {sp : Sp} {dvs : List V} {E : XK} (h : ta σ H fun x H1 => ∃ a dx fs, x = .ref a ∧ H1 a = some (.ins C dx fs) ∧ sp (.ref a :: dvs) H1 Q E) : tProp C sp dvs E ta σ H Q := h
theorem w_prop2 {C dx : Addr} {fs : List (Str × V)} {R : Addr → Prop} (e : H p = some (.ins C dx fs)) (q : R p) : ∃ a dx fs, V.ref p = .ref a ∧ H a = some (.ins C dx fs) ∧ R a := ⟨p, dx, fs, rfl, e, q⟩
end
/-! ### bands and books -/
def BandAt (K : PySem.W.Frag) (H : Hp) (p : Addr) (cs : List Cell) (ss rs : List Row) : Prop := ∃ (dx : Addr) (fs : List (Str × V)) (a b k : Addr), H p = some (.ins (He.ga K "Band") dx fs) ∧ fs.lookup ("cell_list" : Str) = some (.ref a) ∧ fs.lookup ("seed_list" : Str) = some (.ref b) ∧ fs.lookup ("known_rows" : Str) = some (.ref k) ∧
  CellsAt H a cs ∧ H b = some (.lst (rowL ss)) ∧ H k = some (.dK (KD (fun b : Bool => V.bl b) (knownD rs))) ∧ fs.lookup ("names" : Str) = none ∧ fs.lookup ("blank_row" : Str) = none ∧ fs.lookup ("onto" : Str) = none
theorem BandAt.same {K : PySem.W.Frag} {H H' : Hp} {p : Addr} {cs : List Cell} {ss rs : List Row} (h : BandAt K H p cs ss rs) (s : Same H H') : BandAt K H' p cs ss rs := by
  obtain ⟨dx, fs, a, b, k, h1, h2, h3, h4, h5, h6, h7, h8⟩ := h
  exact ⟨dx, fs, a, b, k, s _ _ h1, h2, h3, h4, h5.same s, s _ _ h6, s _ _ h7, h8⟩
def BookAt (K : PySem.W.Frag) (H : Hp) (p bp : Addr) (ws : Ws) : Prop := ∃ (dx : Addr) (fs : List (Str × V)) (d : Addr), H p = some (.ins (He.ga K "Book") dx fs) ∧ fs.lookup ("band" : Str) = some (.ref bp) ∧ fs.lookup ("weight_table" : Str) = some (.ref d) ∧ H d = some (.dK (WD ws)) ∧ fs.lookup ("weights" : Str) = none ∧ fs.lookup ("untold" : Str) = none ∧ fs.lookup ("onto" : Str) = none ∧ fs.length < 900
theorem BookAt.same {K : PySem.W.Frag} {H H' : Hp} {p bp : Addr} {ws : Ws} (h : BookAt K H p bp ws) (s : Same H H') : BookAt K H' p bp ws := by
  obtain ⟨dx, fs, d, h1, h2, h3, h4, h5⟩ := h
  exact ⟨dx, fs, d, s _ _ h1, h2, h3, s _ _ h4, h5⟩
def sp_Band_names (K : PySem.W.Frag) : Sp := fun vs H Q _ => ∃ p cs ss rs, vs = [.ref p] ∧ BandAt K H p cs ss rs ∧ cs.length ≤ 6 ∧ ∀ (q : Addr) (H' : Hp), Same H H' → H q = none → H' q = some (.lst (rowL (cs.map Cell.nm))) → Q (.ref q) H'
def sp_Band_size (K : PySem.W.Frag) : Sp := fun vs H Q _ => ∃ p cs ss rs, vs = [.ref p] ∧ BandAt K H p cs ss rs ∧ ∀ H', Same H H' → Q (.int cs.length) H'
def sp_Band_blank_row (K : PySem.W.Frag) : Sp := fun vs H Q _ => ∃ p cs ss rs, vs = [.ref p] ∧ BandAt K H p cs ss rs ∧ cs.length ≤ 6 ∧ ∀ H', Same H H' → Q (.str (S (List.replicate cs.length 46))) H'
def sp_Band_contains (K : PySem.W.Frag) : Sp := fun vs H Q _ => ∃ p cs ss rs x, vs = [.ref p, .str (S x)] ∧ BandAt K H p cs ss rs ∧ x ∈ rs ∧ ∀ H', Same H H' → Q (.bl true) H'
def sp_Book_weights (K : PySem.W.Frag) : Sp := fun vs H Q _ => ∃ p bp ws, vs = [.ref p] ∧ BookAt K H p bp ws ∧ ∀ (d : Addr) (H' : Hp), Same H H' → H d = none → H' d = some (.dK (WD ws)) → Q (.ref d) H'
def sp_Book_faces (K : PySem.W.Frag) : Sp := fun vs H Q _ => ∃ p bp ws, vs = [.ref p] ∧ BookAt K H p bp ws ∧ ∀ H', Same H H' → Q (.int ((ws.map (·.2)).sum : Nat)) H'
/-- places that no row tells -/
def untoldP (n : Nat) (ws : Ws) : List Nat := (List.range n).filter fun i => ws.all fun a => a.1[i]? == some 46
def nameAt (cs : List Cell) (i : Nat) : Row := ((cs.map Cell.nm)[i]?).getD []
def untoldN (cs : List Cell) (ws : Ws) : List Row := (untoldP cs.length ws).map (nameAt cs)
def sp_Book_untold (K : PySem.W.Frag) : Sp := fun vs H Q _ => ∃ p bp ws cs ss rs, vs = [.ref p] ∧ BookAt K H p bp ws ∧ BandAt K H bp cs ss rs ∧ cs.length ≤ 6 ∧ ws.length ≤ 40 ∧ (∀ a ∈ ws, a.1.length = cs.length) ∧ ∀ (q : Addr) (H' : Hp), Same H H' → H q = none → H' q = some (.lst (rowL (untoldN cs ws))) → Q (.ref q) H'
def sp_law_untold (K : PySem.W.Frag) : Sp := fun vs H Q _ => ∃ d a ws cs, vs = [.ref d, .ref a] ∧ H d = some (.dK (WD ws)) ∧ CellsAt H a cs ∧ cs.length ≤ 6 ∧ ws.length ≤ 40 ∧ (∀ a ∈ ws, a.1.length = cs.length) ∧ ∀ (q : Addr) (H' : Hp), Same H H' → H q = none → H' q = some (.lst (rowL (untoldN cs ws))) → Q (.ref q) H'
end NT
end
namespace NT
open PySem PySem.Spec PyProof.Rows L2
local macro_rules | `(tactic| walk_at "g1") => `(tactic| first
  | ((with_reducible refine w_var (v := ?vv) ?_ ?hh); (case hh => exact rfl))
  | (with_reducible refine w_c ?_)
  | (with_reducible refine w_op ?_)
  | (with_reducible refine w_un ?_)
  | (with_reducible refine w_I0 ?_)
  | (with_reducible refine w_U ?_)
  | (with_reducible refine w_dot ?_)
  | (with_reducible refine w_ndot ?_)
  | (with_reducible refine w_plusS ?_)
  | (with_reducible refine w_it ?_)
  | (with_reducible refine w_if0 ?_)
  | ((with_reducible refine w_wp ?_ ?hh); (case hh => exact rfl))
  | (with_reducible refine w_eqI ?_)
  | (with_reducible refine w_neI ?_)
  | (with_reducible refine w_eqS ?_)
  | (with_reducible refine w_neS ?_)
  | ((with_reducible refine w_eq ?_ ?hh); (case hh => exact rfl))
  | ((with_reducible refine w_ne ?_ ?hh); (case hh => exact rfl))
  | (with_reducible refine w_isN ?_)
  | (with_reducible refine w_notN ?_)
  | (with_reducible refine w_inS ?_)
  | (with_reducible refine w_notInS ?_)
  | (with_reducible refine w_test ?_)
  | (with_reducible refine w_tB ?_)
  | (with_reducible refine w_bl ?_)
  | (with_reducible refine w_not ?_)
  | (with_reducible refine w_and ?_)
  | (with_reducible refine w_or ?_)
  | (with_reducible refine w_tru ?_)
  | (with_reducible refine w_andV ?_)
  | (with_reducible refine w_orV ?_)
  | (with_reducible refine w_notV ?_)
  | (with_reducible refine w_if ?_)
  | (with_reducible refine w_nil ?_)
  | (with_reducible refine w_cons ?_)
  | (with_reducible refine w_CB ?_)
  | (with_reducible refine w_call ?_)
  | (with_reducible refine w_seq ?_)
  | (with_reducible refine w_asg ?_)
  | (with_reducible refine w_name ?_)
  | (with_reducible refine w_ret ?_)
  | (with_reducible refine w_ifs ?_)
  | (with_reducible refine w_nx ?_)
  | (with_reducible refine w_drop ?_)
  | (with_reducible refine w_par ?_)
  | (with_reducible refine w_par2 ?_)
  | (with_reducible refine w_par3 ?_)
  | (with_reducible refine w_par33 ?_)
  | (with_reducible refine w_lc ?_)
  | (with_reducible refine w_SS ?_)
  | (with_reducible refine w_SS2 ?_)
  | (with_reducible refine w_iStr ?_)
  | (with_reducible refine w_str ?_)
  | (with_reducible refine w_iList ?_)
  | (with_reducible refine w_rng ?_)
  | (with_reducible refine w_for ?_)
  | (with_reducible refine w_enum ?_)
  | ((with_reducible refine w_aref (xs := ?xx) ?hh ?_); (case hh => walk_at "sq"))
  | ((with_reducible refine w_aref2 (xs := ?xx) ?hh ?_); (case hh => walk_at "sq"))
  | (with_reducible refine w_gt2 ?_)
  | (with_reducible refine w_yes ?_)
  | (with_reducible refine w_M1 ?_)
  | (with_reducible refine w_and2 ?_)
  | (with_reducible refine w_abs ?_)
  | (with_reducible refine w_int ?_)
  | ((with_reducible refine w_t0 (x := ?vv) (xs := ?ww) ?_ ?hh); (case hh => walk_at "at"))
  | ((with_reducible refine w_t1 (x := ?vv) (y := ?uu) (xs := ?ww) ?_ ?hh); (case hh => walk_at "at"))
  | ((with_reducible refine w_ixS (c := ?cc) ?_ ?hh ?hl); (case hh => assumption); (case hl => walk_at "om"))
  | ((with_reducible refine w_lenS ?_ ?hl); (case hl => walk_at "om"))
  | ((with_reducible refine w_lenM (α := ?aa) (l := ?ll) (f := ?ff) ?_ ?hh); (case hh => walk_at "sq"))
  | ((with_reducible refine w_lenT (xs := ?xx) ?_ ?hh); (case hh => walk_at "at"))
  | ((with_reducible refine w_lenL (xs := ?xx) ?_ ?hh); (case hh => walk_at "sq"))
  | ((with_reducible refine w_dots ?_ ?hh); (case hh => walk_at "om"))
  | (with_reducible refine w_countD ?_)
  | (with_reducible refine w_count ?_)
  | ((with_reducible refine w_rng2 ?_ ?hh); (case hh => walk_at "om"))
  | (with_reducible refine w_str ?_)
  | (with_reducible refine w_chain ?_)
  | (with_reducible refine w_ifnT ?_)
  | (with_reducible refine w_ifnF ?_)
  | (with_reducible refine w_isi_ss ?_)
  | (with_reducible refine w_isi_ii ?_)
  | (with_reducible refine w_isi_ib ?_)
  | ((with_reducible refine w_isi_tt (xs := ?xx) ?hh ?_); (case hh => walk_at "at"))
  | ((with_reducible refine w_isT_l (xs := ?xx) ?h1 ?h2 ?_); (case h1 => walk_at "at"); (case h2 => walk_at "at"))
  | ((with_reducible refine w_decT ?hh ?_); (case hh => walk_at "ar"))
  | ((with_reducible refine w_decF ?hh ?_); (case hh => walk_at "ar"))
  | ((with_reducible refine w_ndecT ?hh ?_); (case hh => walk_at "ar"))
  | ((with_reducible refine w_ndecF ?hh ?_); (case hh => walk_at "ar"))
  | ((with_reducible refine w_inL (l := ?ll) ?hh ?_); (case hh => walk_at "sq"))
  | ((with_reducible refine w_ninL (l := ?ll) ?hh ?_); (case hh => walk_at "sq"))
  | ((with_reducible refine w_pnew ?_ ?hh); (case hh => exact rfl); (intro p hp))
  | (with_reducible refine w_SL ?_)
  | ((with_reducible refine w_SL2 (xs := ?xx) ?hh ?_); (case hh => walk_at "sq"))
  | (with_reducible refine w_sl ?_)
  | (with_reducible refine w_nopart ?_)
  | (with_reducible refine w_part ?_)
  | (with_reducible refine w_part2 ?_)
  | ((with_reducible refine w_gt2T (x := ?xx) (y := ?yy) ?hh ?_); (case hh => walk_at "at"))
  | ((with_reducible refine w_gt3T (x := ?xx) (y := ?yy) (z := ?zz) ?hh ?_); (case hh => walk_at "at"))
  | (with_reducible refine w_bm ?_)
  | (with_reducible refine w_bm0 ?_)
  | ((with_reducible refine w_tyL (xs := ?xx) ?hh ?_); (case hh => walk_at "at"))
  | ((with_reducible refine w_dnew ?_); intro p hp)
  | (with_reducible refine w_lkeys ?_)
  | (with_reducible refine w_lvals ?_)
  | (with_reducible refine w_svals ?_)
  | ((with_reducible refine w_disp ?_); intro p hp)
  | ((with_reducible refine w_dend ?hh ?_); (case hh => walk_at "at"))
  | ((with_reducible refine w_l0 (x0 := ?x0) (x1 := ?x1) (x2 := ?x2) (x3 := ?x3) (x4 := ?x4) ?_ ?hh); (case hh => walk_at "at"))
  | ((with_reducible refine w_l1 (x0 := ?x0) (x1 := ?x1) (x2 := ?x2) (x3 := ?x3) (x4 := ?x4) ?_ ?hh); (case hh => walk_at "at"))
  | ((with_reducible refine w_l2 (x0 := ?x0) (x1 := ?x1) (x2 := ?x2) (x3 := ?x3) (x4 := ?x4) ?_ ?hh); (case hh => walk_at "at"))
  | ((with_reducible refine w_l3 (x0 := ?x0) (x1 := ?x1) (x2 := ?x2) (x3 := ?x3) (x4 := ?x4) ?_ ?hh); (case hh => walk_at "at"))
  | ((with_reducible refine w_l4 (x0 := ?x0) (x1 := ?x1) (x2 := ?x2) (x3 := ?x3) (x4 := ?x4) ?_ ?hh); (case hh => walk_at "at"))
  | ((with_reducible refine w_s1 (x0 := ?x0) (x1 := ?x1) (x2 := ?x2) (x3 := ?x3) (x4 := ?x4) ?_ ?hh); (case hh => walk_at "at"))
  | ((with_reducible refine w_s2 (x0 := ?x0) (x1 := ?x1) (x2 := ?x2) (x3 := ?x3) (x4 := ?x4) ?_ ?hh); (case hh => walk_at "at"))
  | ((with_reducible refine w_s3 (x0 := ?x0) (x1 := ?x1) (x2 := ?x2) (x3 := ?x3) (x4 := ?x4) ?_ ?hh); (case hh => walk_at "at"))
  | ((with_reducible refine w_s4 (x0 := ?x0) (x1 := ?x1) (x2 := ?x2) (x3 := ?x3) (x4 := ?x4) ?_ ?hh); (case hh => walk_at "at"))
  | (with_reducible refine w_gsub ?_)
  | (with_reducible refine w_fld1 ?_)
  | ((with_reducible refine w_fld2 (C := ?CC) (dx := ?dx) (fs := ?fs) (v := ?vv) ?h1 ?h2 ?h3 ?h4 ?_); (case h1 => walk_at "at"); (case h2 => assumption); (case h3 => assumption); (case h4 => assumption))
  | (with_reducible refine w_meth ?_)
  | ((with_reducible refine w_meth2 (dx := ?dx) (fs := ?fs) ?h1 ?h2 ?_); (case h1 => walk_at "at"); (case h2 => assumption))
  | (with_reducible refine w_prop ?_)
  | ((with_reducible refine w_prop2 (dx := ?dx) (fs := ?fs) ?h1 ?_); (case h1 => walk_at "at"))
  | (with_reducible refine w_sfld ?_)
  | (with_reducible refine w_make ?_)
  | (with_reducible refine w_dc ?_)
  | (with_reducible refine w_dget ?_)
  | (with_reducible refine w_dget2 ?_)
  | (with_reducible refine w_din ?_)
  | (with_reducible refine w_dnin ?_)
  | (with_reducible refine w_dput ?_)
  | (with_reducible refine w_items ?_)
  | (with_reducible refine w_vals ?_)
  | (with_reducible refine w_keysM ?_)
  | (with_reducible refine w_keys ?_)
  | ((with_reducible refine w_frz (od := ?oo) (kvs := ?kk) ?hh ?_); (case hh => walk_at "at"))
  | ((with_reducible refine w_frzK (od := ?oo) (kvs := ?kk) ?hh ?_); (case hh => walk_at "at"))
  | ((with_reducible refine w_sortLots ?_); intro fkey)
  | (with_reducible refine w_tup ?_)
  | (with_reducible refine w_lst ?_))
local macro_rules | `(tactic| walk_at "ar") => `(tactic| first | omega | exact rfl)
local macro_rules | `(tactic| walk_at "om") => `(tactic| first | assumption | omega)
local macro_rules | `(tactic| walk_at "go") => `(tactic| repeat (walk_at "g1"))
local macro_rules | `(tactic| walk_at "sm") => `(tactic| first
  | exact Same.refl _
  | assumption
  | exact same_new (by assumption)
  | (refine Same.trans ?_ (same_new (by assumption)); walk_at "sm")
  | (refine same_mut ?_ (by assumption); walk_at "sm")
  | (refine Same.trans ?_ (by assumption); walk_at "sm"))
local macro_rules | `(tactic| walk_at "sq") => `(tactic| first
  | assumption
  | ((refine Same.seq ?_ (by assumption)); walk_at "sm"))
local macro_rules | `(tactic| walk_at "at") => `(tactic| first
  | assumption
  | exact upd_same
  | exact (by assumption : Same _ _) _ _ (by assumption)
  | ((refine (?ss : Same _ _) _ _ (by assumption)); (case ss => walk_at "sm")))
local macro_rules | `(tactic| walk_at "lg") => `(tactic| first | assumption | (rw [Int.natAbs_natCast]; omega))
local macro_rules | `(tactic| walk_at "sb") => `(tactic| first
  | exact SBut.refl
  | assumption
  | exact same_but (by assumption)
  | exact sbut_new (by assumption)
  | (refine SBut.trans ?_ (sbut_new (by assumption)); walk_at "sb")
  | (refine sbut_mut ?_ (by assumption); walk_at "sb")
  | (refine SBut.trans ?_ (by assumption); walk_at "sb")
  | (refine SBut.trans ?_ (same_but (by assumption)); walk_at "sb"))
/-! ## F17 -/
section
set_option maxHeartbeats 2000000
open PySem PySem.Spec PyProof.Rows L2


variable {P : Program} {w : World} {K : PySem.W.Frag} {mg : Str → Option Value} {base : Heap}
abbrev nm_Band_names : List Str := ["self", "cell"]
theorem sc_Band_names : FnScope nm_Band_names ["self"] (defScope s_Band_names) := ⟨rfl, rfl, rfl, by decide +kernel, rfl, by decide +kernel, by decide +kernel⟩
abbrev t_Band_names (K : PySem.W.Frag) : TS := (tRet (tLc (iList K (tFld K (tVar 0) "cell_list")) (gName 1) tYes (tOp (rIxT K) (tVar 1) (tC (.int 0))) [1]))
theorem m_Band_names (T : Tx K mg) : C8.Met P w K mg base 1 (He.ga K "Band") "names" (sp_Band_names K) [] := by
  refine metG T.cl_Band T.me_Band_names T.f_Band_names (fun _ _ _ _ _ _ us hl => match us, hl with | [_], _ => rfl) sc_Band_names (fun vs H Q E h => ?_) (fun f cdv A outer s H vs Q E hr h => have hu := hu_of hr; ⟨t_Band_names K, (pss_one (ps_ret (pe_lc (own := [("cell", 1)]) rfl sc_Band_names.nd (pi_list (pe_fld (pv 0) rfl)) (blkOk_by (own := [("cell", 1)]) (N := nm_Band_names) (sc := (defScope s_Band_names)) (by decide +kernel)) (fun _ _ _ _ _ => (pg_name (i := 1) sc_Band_names.nd rfl (Or.inl rfl) (hf := Or.inr rfl))) (fun _ _ _ _ _ => pts_nil) (fun _ _ _ _ _ => (pe_ix ix_tup (pv 1) pe_int (fun _ _ => rfl)))))), ?_⟩)
  · obtain ⟨p, cs, ss, rs, rfl, _⟩ := h
    rfl
  · obtain ⟨p, cs, ss, rs, rfl, hB, hl, k⟩ := h
    obtain ⟨dx, fs, a, b, kk, h1, h2, h3, h4, h5, h6, h7, h8, h9, h10⟩ := hB
    have c1 := T.cl_Band
    have n1 := T.na_Band_cell_list
    have n2 := T.na_Band_seed_list
    have n3 := T.na_Band_known_rows
    have hq : SqL K H a (cs.map fun c => .ref c.p) := .inl (.inl h5.l)
    walk_at "go"
    refine lc_val1 cs (fun c => .str (S c.nm)) walk_listM (by omega) (fun H' s => s.seq hq) ?_ ?_
    · rintro i c v H2 H3 R hi s2 ⟨rfl, c', hc', rfl⟩ k1
      obtain rfl : c' = c := Option.some.inj (hc'.symm.trans hi)
      have hcp : H3 c'.p = some (.tup [.str (S c'.nm), .int (c'.k : Nat)]) := s2 _ _ (h5.c c' (List.mem_of_getElem? hi))
      walk_at "go"
      exact k1 _ (Same.refl _)
    · intro D H2 nD s2 hD
      exact k D H2 s2 nD (by rw [hD]; unfold rowL; rw [List.map_map]; rfl)
abbrev nm_Band_size : List Str := ["self"]
theorem sc_Band_size : FnScope nm_Band_size ["self"] (defScope s_Band_size) := ⟨rfl, rfl, rfl, by decide +kernel, rfl, by decide +kernel, by decide +kernel⟩
abbrev t_Band_size (K : PySem.W.Frag) : TS := (tRet (tCB (rLenQ K) (tCons (tFld K (tVar 0) "cell_list") tNil)))
theorem p_Band_size (T : Tx K mg) : PropC P w K mg base 1 (He.ga K "Band") "size" (sp_Band_size K) := by
  refine propG T.cl_Band T.f_Band_size (fun _ _ _ _ _ _ us hl => match us, hl with | [_], _ => rfl) sc_Band_size (fun vs H Q E h => ?_) (fun f cdv A outer s H vs Q E hr h => have hu := hu_of hr; ⟨t_Band_size K, (pss_one (ps_ret (pe_callB call_len_seq (by rfl) T.b_len bt_len (pa_cons (pe_fld (pv 0) rfl) pa_nil)))), ?_⟩)
  · obtain ⟨p, cs, ss, rs, rfl, _⟩ := h
    rfl
  · obtain ⟨p, cs, ss, rs, rfl, hB, k⟩ := h
    obtain ⟨dx, fs, a, b, kk, h1, h2, h3, h4, h5, h6, h7, h8, h9, h10⟩ := hB
    have c1 := T.cl_Band
    have n1 := T.na_Band_cell_list
    have n2 := T.na_Band_seed_list
    have n3 := T.na_Band_known_rows
    have hq : SqL K H a (cs.map fun c => .ref c.p) := .inl (.inl h5.l)
    walk_at "go"
    exact k H (Same.refl _)
abbrev nm_Band_blank_row : List Str := ["self"]
theorem sc_Band_blank_row : FnScope nm_Band_blank_row ["self"] (defScope s_Band_blank_row) := ⟨rfl, rfl, rfl, by decide +kernel, rfl, by decide +kernel, by decide +kernel⟩
abbrev t_Band_blank_row (K : PySem.W.Frag) : TS := (tRet (tCall (sp_blank K) [] E0 (tCons (tCB (rLenQ K) (tCons (tFld K (tVar 0) "cell_list") tNil)) tNil)))
theorem m_Band_blank_row (T : Tx K mg) : C8.Met P w K mg base 2 (He.ga K "Band") "blank_row" (sp_Band_blank_row K) [] := by
  refine metG T.cl_Band T.me_Band_blank_row T.f_Band_blank_row (fun _ _ _ _ _ _ us hl => match us, hl with | [_], _ => rfl) sc_Band_blank_row (fun vs H Q E h => ?_) (fun f cdv A outer s H vs Q E hr h => have hu := hu_of hr; ⟨t_Band_blank_row K, (pss_one (ps_ret (C8.pe_c (c_blank T) hr (by decide) (by rfl) (pa_cons (pe_callB call_len_seq (by rfl) T.b_len bt_len (pa_cons (pe_fld (pv 0) rfl) pa_nil)) pa_nil)))), ?_⟩)
  · obtain ⟨p, cs, ss, rs, rfl, _⟩ := h
    rfl
  · obtain ⟨p, cs, ss, rs, rfl, hB, hl, k⟩ := h
    obtain ⟨dx, fs, a, b, kk, h1, h2, h3, h4, h5, h6, h7, h8, h9, h10⟩ := hB
    have c1 := T.cl_Band
    have n1 := T.na_Band_cell_list
    have n2 := T.na_Band_seed_list
    have n3 := T.na_Band_known_rows
    have hq : SqL K H a (cs.map fun c => .ref c.p) := .inl (.inl h5.l)
    walk_at "go"
    refine ⟨cs.length, rfl, by omega, fun H1 s1 => ?_⟩
    exact k H1 s1
abbrev nm_Band_contains : List Str := ["self", "row"]
theorem sc_Band_contains : FnScope nm_Band_contains ["self", "row"] (defScope s_Band_contains) := ⟨rfl, rfl, rfl, by decide +kernel, rfl, by decide +kernel, by decide +kernel⟩
abbrev t_Band_contains (K : PySem.W.Frag) : TS := (tRet (tAndV (tCB (rIsi K) (tCons (tVar 1) (tCons (tC (.ty "str")) tNil))) (tDIn (tVar 1) (tFld K (tVar 0) "known_rows"))))
theorem m_Band_contains (T : Tx K mg) : C8.Met P w K mg base 1 (He.ga K "Band") "__contains__" (sp_Band_contains K) [] := by
  refine metG T.cl_Band T.me_Band_contains T.f_Band_contains (fun _ _ _ _ _ _ us hl => match us, hl with | [_, _], _ => rfl) sc_Band_contains (fun vs H Q E h => ?_) (fun f cdv A outer s H vs Q E hr h => have hu := hu_of hr; ⟨t_Band_contains K, (pss_one (ps_ret (pe_and (pe_callB call_isi (by rfl) T.b_isinstance bt_isinstance (pa_cons (pv 1) (pa_cons (pe_bltn (by rfl) T.b_str bt_str rfl) pa_nil))) (pe_one (pe_cmp (pc_din hu (pv 1) (pe_fld (pv 0) rfl)) (by rfl)))))), ?_⟩)
  · obtain ⟨p, cs, ss, rs, x, rfl, _⟩ := h
    rfl
  · obtain ⟨p, cs, ss, rs, x, rfl, hB, hx, k⟩ := h
    obtain ⟨dx, fs, a, b, kk, h1, h2, h3, h4, h5, h6, h7, h8, h9, h10⟩ := hB
    have c1 := T.cl_Band
    have n1 := T.na_Band_cell_list
    have n2 := T.na_Band_seed_list
    have n3 := T.na_Band_known_rows
    have hq : SqL K H a (cs.map fun c => .ref c.p) := .inl (.inl h5.l)
    walk_at "go"
    refine ⟨kk, _, rfl, .inl ⟨_, kR x, .inl h7, rfl, rfl⟩, ?_⟩
    rw [valV_KD, Option.isSome_map, look_known, decide_eq_true hx]
    exact k H (Same.refl _)
abbrev nm_Book_weights : List Str := ["self"]
theorem sc_Book_weights : FnScope nm_Book_weights ["self"] (defScope s_Book_weights) := ⟨rfl, rfl, rfl, by decide +kernel, rfl, by decide +kernel, by decide +kernel⟩
abbrev t_Book_weights (K : PySem.W.Frag) : TS := (tRet (tCB rDictD (tCons (tFld K (tVar 0) "weight_table") tNil)))
theorem m_Book_weights (T : Tx K mg) : C8.Met P w K mg base 1 (He.ga K "Book") "weights" (sp_Book_weights K) [] := by
  refine metG T.cl_Book T.me_Book_weights T.f_Book_weights (fun _ _ _ _ _ _ us hl => match us, hl with | [_], _ => rfl) sc_Book_weights (fun vs H Q E h => ?_) (fun f cdv A outer s H vs Q E hr h => have hu := hu_of hr; ⟨t_Book_weights K, (pss_one (ps_ret (pe_callTy call_dictD (by rfl) T.b_dict bt_dict (pa_cons (pe_fld (pv 0) rfl) pa_nil)))), ?_⟩)
  · obtain ⟨p, bp, ws, rfl, _⟩ := h
    rfl
  · obtain ⟨p, bp, ws, rfl, hB, k⟩ := h
    obtain ⟨dx, fs, d, h1, h2, h3, h4, h5, h6, h7⟩ := hB
    have c1 := T.cl_Book
    have n1 := T.na_Book_band
    have n2 := T.na_Book_weight_table
    walk_at "go"
    refine ⟨d, WD ws, rfl, .inl h4, fun q hq => ?_⟩
    exact k q _ (same_new hq) hq upd_same
abbrev nm_Book_faces : List Str := ["self"]
theorem sc_Book_faces : FnScope nm_Book_faces ["self"] (defScope s_Book_faces) := ⟨rfl, rfl, rfl, by decide +kernel, rfl, by decide +kernel, by decide +kernel⟩
abbrev t_Book_faces (K : PySem.W.Frag) : TS := (tRet (tCB (rSum K) (tCons (tListVals (tFld K (tVar 0) "weight_table")) tNil)))
theorem p_Book_faces (T : Tx K mg) : PropC P w K mg base 1 (He.ga K "Book") "faces" (sp_Book_faces K) := by
  refine propG T.cl_Book T.f_Book_faces (fun _ _ _ _ _ _ us hl => match us, hl with | [_], _ => rfl) sc_Book_faces (fun vs H Q E h => ?_) (fun f cdv A outer s H vs Q E hr h => have hu := hu_of hr; ⟨t_Book_faces K, (pss_one (ps_ret (pe_callB (cr_sum rfl) (by rfl) T.b_sum bt_sum (pa_cons (pe_listVals rfl (by rfl) T.b_list (pe_fld (pv 0) rfl)) pa_nil)))), ?_⟩)
  · obtain ⟨p, bp, ws, rfl, _⟩ := h
    rfl
  · obtain ⟨p, bp, ws, rfl, hB, k⟩ := h
    obtain ⟨dx, fs, d, h1, h2, h3, h4, h5, h6, h7⟩ := hB
    have c1 := T.cl_Book
    have n1 := T.na_Book_band
    have n2 := T.na_Book_weight_table
    walk_at "go"
    refine ⟨d, WD ws, rfl, .inl h4, fun q hq => ?_⟩
    have e1 : (WD ws).map (·.2) = ws.map fun a => V.int ((a.2 : Nat) : Int) := by unfold WD KD; rw [List.map_map]; rfl
    rw [e1]
    walk_at "go"
    refine w_sum (f := fun a : Row × Nat => ((a.2 : Nat) : Int)) (upd_same) ?_
    rw [sum_cast]
    exact k _ (same_new hq)
end
/-! ## G2 -/
section
set_option maxHeartbeats 2000000
open PySem PySem.Spec PyProof.Rows L2
/-! ### x in an own object -/
def rInB (K : PySem.W.Frag) (neg : Bool) : R2 := fun x y H Q => ∃ z p dx fs, x = .str z ∧ y = .ref p ∧ H p = some (.ins (He.ga K "Band") dx fs) ∧ sp_Band_contains K [.ref p, .str z] H (fun v H' => ∃ b, v = .bl b ∧ Q (.bl (if neg then !b else b)) H') C8.E0
section
variable {X : Cx} {j k : Nat}
theorem contains_own {pins : List (Addr × Obj)} {σ : L2.St} {H : Hp} {s : Shared} {z : Str} {t : Tok} {p dx : Addr} {fs : List (Str × V)} {R : Bool → Shared → Prop} (c : C8.Met X.prog X.w X.K X.mg X.base k (He.ga X.K "Band") "__contains__" (sp_Band_contains X.K) []) (hr : Room j X.A) (hk : k ≤ j)
    (I : Inv X pins σ H s) (ea : H p = some (.ins (He.ga X.K "Band") dx fs)) {Q : VK} (q : sp_Band_contains X.K [.ref p, .str z] H Q C8.E0) (fin : ∀ v H' u s', Inv X pins σ H' s' → L2.RelV v u → Q v H' → ∃ b, v = .bl b ∧ R b s') :
    wpAny (model X.prog X.w) X.A (contains (.ref p) (.str z t)) R X.xe s := by
  obtain ⟨f, fd, ps, ds, hc, hm, F, hb, hd⟩ := c.ex
  obtain ⟨mA, O, _, _, _, _⟩ := ins_get I.hok ea
  obtain ⟨od, J, _⟩ := O.look
  unfold contains
  refine wpAny_holding ?_
  have sp : ∀ {A : Around} {Q' : Option Value → Shared → Prop}, Q' (some (.ref f)) s → wpAny (model X.prog X.w) A (specialOf (.ref p) (Str.ofString "__contains__")) Q' X.xe s := fun {A Q'} h => by
    unfold specialOf
    exact wpAny_bind (J.type.here ((PySem.W.looks_findIn I.kIn hm.at_).here h))
  show wpAny _ _ (specialOf (.ref p) (Str.ofString "__contains__") >>= _) _ _ s
  refine wpAny_bind (sp ?_)
  have hne : ((some (Value.ref f)) == some Value.none) = false := by rfl
  rw [hne]
  simp only [Bool.false_eq_true, if_false]
  refine wpAny_bind ?_
  unfold callSpecialUnlessNone?
  refine wpAny_bind (sp ?_)
  dsimp only
  refine wpAny_holding (wpAny_bind ((PySem.W.bind_fn I.kIn _ (beq_iff_eq.mp hm.fn)).here ?_))
  dsimp only
  have hne2 : (Value.ref f == Value.none) = false := by rfl
  rw [hne2]
  simp only [Bool.false_eq_true, if_false]
  refine wpAny_bind ?_
  have hl : ([Value.ref p, Value.str z t] ++ ds).length = ps.length := by
    rw [← F.len _ _ _ _ q]
    have := hd.length
    simp only [List.length_nil] at this
    simp [← this]
  have hd0 : ds = [] := by cases hd; rfl
  subst hd0
  refine wpAny_call (codeAny_mono (F.run X.A X.stack s H ⟨[.ref p, .str z t], []⟩ [.ref p, .str z t] [.ref p, .str z] Q C8.E0 (hr.mono hk) I.env0 (by have := hb s [.ref p, .str z t] I.kIn (by simpa using hl); simpa using this) (.cons rfl (.cons ⟨t, rfl⟩ .nil)) q) fun r s' hq => ?_)
  cases r with
  | error er => exact False.elim hq
  | ok fl =>
    cases fl with
    | ret u =>
      obtain ⟨v, H', I3, rv, q3⟩ := I.after hq
      obtain ⟨b, rfl, hR⟩ := fin v H' u s' I3 rv q3
      obtain rfl : u = Value.bool b := rv
      refine wpAny_pure ?_
      dsimp only
      exact wpAny_truthy_bool hR
    | next => exact False.elim hq
    | brk => exact False.elim hq
    | cont => exact False.elim hq
theorem op_inBand (c : C8.Met X.prog X.w X.K X.mg X.base k (He.ga X.K "Band") "__contains__" (sp_Band_contains X.K) []) (hr : Room j X.A) (hk : k ≤ j) : OpR X (compareOp .In) (rInB X.K false) := by
  intro pins s σ H x y v u Q I rx ry h
  obtain ⟨z, p, dx, fs, rfl, rfl, ea, q⟩ := h
  obtain ⟨t, rfl⟩ := rx
  cases (show u = Value.ref p from ry)
  show wpAny _ _ (do return Value.bool (← contains (.ref p) (.str z t))) _ _ s
  refine wpAny_bind (contains_own c hr hk I ea q fun v H' u s' I' rv hq => ?_)
  obtain ⟨b, rfl, hq⟩ := hq
  exact ⟨b, rfl, wpAny_pure ⟨.bl b, H', I', rfl, hq⟩⟩
theorem op_notInBand (c : C8.Met X.prog X.w X.K X.mg X.base k (He.ga X.K "Band") "__contains__" (sp_Band_contains X.K) []) (hr : Room j X.A) (hk : k ≤ j) : OpR X (compareOp .NotIn) (rInB X.K true) := by
  intro pins s σ H x y v u Q I rx ry h
  obtain ⟨z, p, dx, fs, rfl, rfl, ea, q⟩ := h
  obtain ⟨t, rfl⟩ := rx
  cases (show u = Value.ref p from ry)
  show wpAny _ _ (do return Value.bool (!(← contains (.ref p) (.str z t)))) _ _ s
  refine wpAny_bind (contains_own c hr hk I ea q fun v H' u s' I' rv hq => ?_)
  obtain ⟨b, rfl, hq⟩ := hq
  exact ⟨b, rfl, wpAny_pure ⟨.bl (!b), H', I', rfl, hq⟩⟩
end
end
end NT
/-! ## G3 -/
section
set_option maxHeartbeats 2000000
namespace NT
open PySem PySem.Spec PyProof.Rows L2
theorem same_of {x : Addr} {H H' : Hp} {o : HO} {dx : Addr} {u : HO} (nx : H x = none) (nd : H dx = none) (hne : dx ≠ x) (s : SBut x (upd (upd H dx u) x o) H') : Same H H' := fun b w e => by
  have h1 := ne_of_none e nx
  have h2 := ne_of_none e nd
  exact s b w h1 (by rw [upd_ne h1, upd_ne h2]; exact e)
theorem w_sfld {K : PySem.W.Frag} {ta tv : TE} {f : Str} {D : Ends} {σ : L2.St} {H : Hp} (h : tv σ H fun y H1 => ta σ H1 fun x H2 => ∃ a C dx fs, x = .ref a ∧ H2 a = some (.ins C dx fs) ∧ Cls K C ∧ NoAttr K C f ∧ fs.length < 1000 ∧ D.nx σ (upd H2 a (.ins C dx (putF f y fs)))) : sFld K ta tv f D σ H := h
theorem w_sfld2 {K : PySem.W.Frag} {p C dx : Addr} {fs : List (Str × V)} {f : Str} {H : Hp} {R : Addr → Addr → Addr → List (Str × V) → Prop} (e : H p = some (.ins C dx fs)) (c : Cls K C) (n : NoAttr K C f) (l : fs.length < 1000) (q : R p C dx fs) : ∃ a C dx fs, V.ref p = .ref a ∧ H a = some (.ins C dx fs) ∧ Cls K C ∧ NoAttr K C f ∧ fs.length < 1000 ∧ R a C dx fs :=
  ⟨p, C, dx, fs, rfl, e, c, n, l, q⟩
theorem w_make {C : Addr} {sp : Sp} {dvs : List V} {E : XK} {t : TA} {σ : L2.St} {H : Hp} {Q : VK} (h : t σ H fun vs H1 => ∀ x dx, H1 x = none → H1 dx = none → dx ≠ x → sp (.ref x :: (vs ++ dvs)) (upd (upd H1 dx (.own x)) x (.ins C dx [])) (fun v H2 => v = .non ∧ Q (.ref x) H2) E) : tMake C sp dvs E t σ H Q := h
theorem known_ne {rs : List Row} {ws : Ws} (h : ws ≠ []) : HO.dK (KD (fun b : Bool => V.bl b) (knownD rs)) ≠ HO.dK (WD ws) := by
  intro z
  cases ws with
  | nil => exact h rfl
  | cons a l =>
    cases rs with
    | nil => injection z with z; cases z
    | cons r rs =>
      injection z with z
      have z2 := (List.cons.inj z).1
      have z3 : V.bl true = V.int ((a.2 : Nat) : Int) := congrArg Prod.snd z2
      cases z3
theorem BandAt.frz {K : PySem.W.Frag} {H : Hp} {d bp : Addr} {od : Obj} {cs : List Cell} {ss rs : List Row} {ws : Ws} (hB : BandAt K H bp cs ss rs) (hd : H d = some (.dK (WD ws))) (hne : ws ≠ []) : BandAt K (upd H d (.frz od (.dK (WD ws)))) bp cs ss rs := by
  obtain ⟨dx, fs, a, b, kk, h1, h2, h3, h4, h5, h6, h7, h8⟩ := hB
  refine ⟨dx, fs, a, b, kk, frz_ne hd h1 (by intro z; cases z), h2, h3, h4, ⟨frz_ne hd h5.l (by intro z; cases z), fun c hc => ?_⟩, frz_ne hd h6 (by intro z; cases z), frz_ne hd h7 (known_ne hne), h8⟩
  have := h5.c c hc
  unfold CellOk at this ⊢
  exact frz_ne hd this (by intro z; cases z)
def sp_Band_init (K : PySem.W.Frag) : Sp := fun vs H Q _ => ∃ x dx a b cs ss, vs = [.ref x, .ref a, .ref b, .int 800] ∧ H x = some (.ins (He.ga K "Band") dx []) ∧ CellsAt H a cs ∧ CellsOk cs ∧ H b = some (.lst (rowL ss)) ∧ SeedsOk cs ss ∧ Few cs.length ss ∧
  ∀ (H' : Hp) (rs : List Row), SBut x H H' → BandAt K H' x cs ss rs → (∀ r, r ∈ rs ↔ Prd cs.length ss r) → Q .non H'
def sp_Book_init (K : PySem.W.Frag) : Sp := fun vs H Q _ => ∃ x dx bp d cs ss rs ws, vs = [.ref x, .ref bp, .ref d] ∧ H x = some (.ins (He.ga K "Book") dx []) ∧ BandAt K H bp cs ss rs ∧ H d = some (.dK (WD ws)) ∧ ws ≠ [] ∧ ws.length ≤ 40 ∧ LoadI rs 999 ws ∧
  ∀ (H' : Hp) (l : List Row), SBut x H H' → l.Perm (ws.map (·.1)) → Srt l → BookAt K H' x bp (lowOf l ws) → Q .non H'
def sp_book_of_weights (K : PySem.W.Frag) : Sp := fun vs H Q _ => ∃ bp d cs ss rs ws, vs = [.ref bp, .ref d] ∧ BandAt K H bp cs ss rs ∧ cs.length ≤ 6 ∧ List.replicate cs.length 46 ∈ rs ∧ H d = some (.dK (WD ws)) ∧ ws ≠ [] ∧ ws.length ≤ 40 ∧ (ws.map (·.1)).Nodup ∧ (∀ a ∈ ws, 1 ≤ a.2 ∧ a.2 < 1000000) ∧
  ∀ (p : Addr) (H' : Hp) (l : List Row), Same H H' → H p = none → l.Perm (ws.map (·.1)) → Srt l → BookAt K H' p bp (lowOf l ws) → Q (.ref p) H'
end NT
end
namespace NT
open PySem PySem.Spec PyProof.Rows L2
local macro_rules | `(tactic| walk_at "g1") => `(tactic| first
  | ((with_reducible refine w_var (v := ?vv) ?_ ?hh); (case hh => exact rfl))
  | (with_reducible refine w_c ?_)
  | (with_reducible refine w_op ?_)
  | (with_reducible refine w_un ?_)
  | (with_reducible refine w_I0 ?_)
  | (with_reducible refine w_U ?_)
  | (with_reducible refine w_dot ?_)
  | (with_reducible refine w_ndot ?_)
  | (with_reducible refine w_plusS ?_)
  | (with_reducible refine w_it ?_)
  | (with_reducible refine w_if0 ?_)
  | ((with_reducible refine w_wp ?_ ?hh); (case hh => exact rfl))
  | (with_reducible refine w_eqI ?_)
  | (with_reducible refine w_neI ?_)
  | (with_reducible refine w_eqS ?_)
  | (with_reducible refine w_neS ?_)
  | ((with_reducible refine w_eq ?_ ?hh); (case hh => exact rfl))
  | ((with_reducible refine w_ne ?_ ?hh); (case hh => exact rfl))
  | (with_reducible refine w_isN ?_)
  | (with_reducible refine w_notN ?_)
  | (with_reducible refine w_inS ?_)
  | (with_reducible refine w_notInS ?_)
  | (with_reducible refine w_test ?_)
  | (with_reducible refine w_tB ?_)
  | (with_reducible refine w_bl ?_)
  | (with_reducible refine w_not ?_)
  | (with_reducible refine w_and ?_)
  | (with_reducible refine w_or ?_)
  | (with_reducible refine w_tru ?_)
  | (with_reducible refine w_andV ?_)
  | (with_reducible refine w_orV ?_)
  | (with_reducible refine w_notV ?_)
  | (with_reducible refine w_if ?_)
  | (with_reducible refine w_nil ?_)
  | (with_reducible refine w_cons ?_)
  | (with_reducible refine w_CB ?_)
  | (with_reducible refine w_call ?_)
  | (with_reducible refine w_seq ?_)
  | (with_reducible refine w_asg ?_)
  | (with_reducible refine w_name ?_)
  | (with_reducible refine w_ret ?_)
  | (with_reducible refine w_ifs ?_)
  | (with_reducible refine w_nx ?_)
  | (with_reducible refine w_drop ?_)
  | (with_reducible refine w_par ?_)
  | (with_reducible refine w_par2 ?_)
  | (with_reducible refine w_par3 ?_)
  | (with_reducible refine w_par33 ?_)
  | (with_reducible refine w_lc ?_)
  | (with_reducible refine w_SS ?_)
  | (with_reducible refine w_SS2 ?_)
  | (with_reducible refine w_iStr ?_)
  | (with_reducible refine w_str ?_)
  | (with_reducible refine w_iList ?_)
  | (with_reducible refine w_rng ?_)
  | (with_reducible refine w_for ?_)
  | (with_reducible refine w_enum ?_)
  | ((with_reducible refine w_aref (xs := ?xx) ?hh ?_); (case hh => walk_at "sq"))
  | ((with_reducible refine w_aref2 (xs := ?xx) ?hh ?_); (case hh => walk_at "sq"))
  | (with_reducible refine w_gt2 ?_)
  | (with_reducible refine w_yes ?_)
  | (with_reducible refine w_M1 ?_)
  | (with_reducible refine w_and2 ?_)
  | (with_reducible refine w_abs ?_)
  | (with_reducible refine w_int ?_)
  | ((with_reducible refine w_t0 (x := ?vv) (xs := ?ww) ?_ ?hh); (case hh => walk_at "at"))
  | ((with_reducible refine w_t1 (x := ?vv) (y := ?uu) (xs := ?ww) ?_ ?hh); (case hh => walk_at "at"))
  | ((with_reducible refine w_ixS (c := ?cc) ?_ ?hh ?hl); (case hh => assumption); (case hl => walk_at "om"))
  | ((with_reducible refine w_lenS ?_ ?hl); (case hl => walk_at "om"))
  | ((with_reducible refine w_lenM (α := ?aa) (l := ?ll) (f := ?ff) ?_ ?hh); (case hh => walk_at "sq"))
  | ((with_reducible refine w_lenT (xs := ?xx) ?_ ?hh); (case hh => walk_at "at"))
  | ((with_reducible refine w_lenL (xs := ?xx) ?_ ?hh); (case hh => walk_at "sq"))
  | ((with_reducible refine w_dots ?_ ?hh); (case hh => walk_at "om"))
  | (with_reducible refine w_countD ?_)
  | (with_reducible refine w_count ?_)
  | ((with_reducible refine w_rng2 ?_ ?hh); (case hh => walk_at "om"))
  | (with_reducible refine w_str ?_)
  | (with_reducible refine w_chain ?_)
  | (with_reducible refine w_ifnT ?_)
  | (with_reducible refine w_ifnF ?_)
  | (with_reducible refine w_isi_ss ?_)
  | (with_reducible refine w_isi_ii ?_)
  | (with_reducible refine w_isi_ib ?_)
  | ((with_reducible refine w_isi_tt (xs := ?xx) ?hh ?_); (case hh => walk_at "at"))
  | ((with_reducible refine w_isT_l (xs := ?xx) ?h1 ?h2 ?_); (case h1 => walk_at "at"); (case h2 => walk_at "at"))
  | ((with_reducible refine w_decT ?hh ?_); (case hh => walk_at "ar"))
  | ((with_reducible refine w_decF ?hh ?_); (case hh => walk_at "ar"))
  | ((with_reducible refine w_ndecT ?hh ?_); (case hh => walk_at "ar"))
  | ((with_reducible refine w_ndecF ?hh ?_); (case hh => walk_at "ar"))
  | ((with_reducible refine w_inL (l := ?ll) ?hh ?_); (case hh => walk_at "sq"))
  | ((with_reducible refine w_ninL (l := ?ll) ?hh ?_); (case hh => walk_at "sq"))
  | ((with_reducible refine w_pnew ?_ ?hh); (case hh => exact rfl); (intro p hp))
  | (with_reducible refine w_SL ?_)
  | ((with_reducible refine w_SL2 (xs := ?xx) ?hh ?_); (case hh => walk_at "sq"))
  | (with_reducible refine w_sl ?_)
  | (with_reducible refine w_nopart ?_)
  | (with_reducible refine w_part ?_)
  | (with_reducible refine w_part2 ?_)
  | ((with_reducible refine w_gt2T (x := ?xx) (y := ?yy) ?hh ?_); (case hh => walk_at "at"))
  | ((with_reducible refine w_gt3T (x := ?xx) (y := ?yy) (z := ?zz) ?hh ?_); (case hh => walk_at "at"))
  | (with_reducible refine w_bm ?_)
  | (with_reducible refine w_bm0 ?_)
  | ((with_reducible refine w_tyL (xs := ?xx) ?hh ?_); (case hh => walk_at "at"))
  | ((with_reducible refine w_dnew ?_); intro p hp)
  | (with_reducible refine w_lkeys ?_)
  | (with_reducible refine w_lvals ?_)
  | (with_reducible refine w_svals ?_)
  | ((with_reducible refine w_disp ?_); intro p hp)
  | ((with_reducible refine w_dend ?hh ?_); (case hh => walk_at "at"))
  | ((with_reducible refine w_l0 (x0 := ?x0) (x1 := ?x1) (x2 := ?x2) (x3 := ?x3) (x4 := ?x4) ?_ ?hh); (case hh => walk_at "at"))
  | ((with_reducible refine w_l1 (x0 := ?x0) (x1 := ?x1) (x2 := ?x2) (x3 := ?x3) (x4 := ?x4) ?_ ?hh); (case hh => walk_at "at"))
  | ((with_reducible refine w_l2 (x0 := ?x0) (x1 := ?x1) (x2 := ?x2) (x3 := ?x3) (x4 := ?x4) ?_ ?hh); (case hh => walk_at "at"))
  | ((with_reducible refine w_l3 (x0 := ?x0) (x1 := ?x1) (x2 := ?x2) (x3 := ?x3) (x4 := ?x4) ?_ ?hh); (case hh => walk_at "at"))
  | ((with_reducible refine w_l4 (x0 := ?x0) (x1 := ?x1) (x2 := ?x2) (x3 := ?x3) (x4 := ?x4) ?_ ?hh); (case hh => walk_at "at"))
  | ((with_reducible refine w_s1 (x0 := ?x0) (x1 := ?x1) (x2 := ?x2) (x3 := ?x3) (x4 := ?x4) ?_ ?hh); (case hh => walk_at "at"))
  | ((with_reducible refine w_s2 (x0 := ?x0) (x1 := ?x1) (x2 := ?x2) (x3 := ?x3) (x4 := ?x4) ?_ ?hh); (case hh => walk_at "at"))
  | ((with_reducible refine w_s3 (x0 := ?x0) (x1 := ?x1) (x2 := ?x2) (x3 := ?x3) (x4 := ?x4) ?_ ?hh); (case hh => walk_at "at"))
  | ((with_reducible refine w_s4 (x0 := ?x0) (x1 := ?x1) (x2 := ?x2) (x3 := ?x3) (x4 := ?x4) ?_ ?hh); (case hh => walk_at "at"))
  | (with_reducible refine w_gsub ?_)
  | (with_reducible refine w_fld1 ?_)
  | ((with_reducible refine w_fld2 (C := ?CC) (dx := ?dx) (fs := ?fs) (v := ?vv) ?h1 ?h2 ?h3 ?h4 ?_); (case h1 => walk_at "at"); (case h2 => assumption); (case h3 => assumption); (case h4 => assumption))
  | (with_reducible refine w_meth ?_)
  | ((with_reducible refine w_meth2 (dx := ?dx) (fs := ?fs) ?h1 ?h2 ?_); (case h1 => walk_at "at"); (case h2 => assumption))
  | (with_reducible refine w_prop ?_)
  | ((with_reducible refine w_prop2 (dx := ?dx) (fs := ?fs) ?h1 ?_); (case h1 => walk_at "at"))
  | (with_reducible refine w_sfld ?_)
  | (with_reducible refine w_make ?_)
  | (with_reducible refine w_dc ?_)
  | (with_reducible refine w_dget ?_)
  | (with_reducible refine w_dget2 ?_)
  | (with_reducible refine w_din ?_)
  | (with_reducible refine w_dnin ?_)
  | (with_reducible refine w_dput ?_)
  | (with_reducible refine w_items ?_)
  | (with_reducible refine w_vals ?_)
  | (with_reducible refine w_keysM ?_)
  | (with_reducible refine w_keys ?_)
  | ((with_reducible refine w_frz (od := ?oo) (kvs := ?kk) ?hh ?_); (case hh => walk_at "at"))
  | ((with_reducible refine w_frzK (od := ?oo) (kvs := ?kk) ?hh ?_); (case hh => walk_at "at"))
  | ((with_reducible refine w_sortLots ?_); intro fkey)
  | (with_reducible refine w_tup ?_)
  | (with_reducible refine w_lst ?_))
local macro_rules | `(tactic| walk_at "ar") => `(tactic| first | omega | exact rfl)
local macro_rules | `(tactic| walk_at "om") => `(tactic| first | assumption | omega)
local macro_rules | `(tactic| walk_at "go") => `(tactic| repeat (walk_at "g1"))
local macro_rules | `(tactic| walk_at "sm") => `(tactic| first
  | exact Same.refl _
  | assumption
  | exact same_new (by assumption)
  | (refine Same.trans ?_ (same_new (by assumption)); walk_at "sm")
  | (refine same_mut ?_ (by assumption); walk_at "sm")
  | (refine Same.trans ?_ (by assumption); walk_at "sm"))
local macro_rules | `(tactic| walk_at "sq") => `(tactic| first
  | assumption
  | ((refine Same.seq ?_ (by assumption)); walk_at "sm"))
local macro_rules | `(tactic| walk_at "at") => `(tactic| first
  | assumption
  | exact upd_same
  | exact (by assumption : Same _ _) _ _ (by assumption)
  | ((refine (?ss : Same _ _) _ _ (by assumption)); (case ss => walk_at "sm")))
local macro_rules | `(tactic| walk_at "lg") => `(tactic| first | assumption | (rw [Int.natAbs_natCast]; omega))
local macro_rules | `(tactic| walk_at "sb") => `(tactic| first
  | exact SBut.refl
  | assumption
  | exact same_but (by assumption)
  | exact sbut_new (by assumption)
  | (refine SBut.trans ?_ (sbut_new (by assumption)); walk_at "sb")
  | (refine sbut_mut ?_ (by assumption); walk_at "sb")
  | (refine SBut.trans ?_ (by assumption); walk_at "sb")
  | (refine SBut.trans ?_ (same_but (by assumption)); walk_at "sb"))
/-! ## F18 -/
section
set_option maxHeartbeats 2000000
open PySem PySem.Spec PyProof.Rows L2


variable {P : Program} {w : World} {K : PySem.W.Frag} {mg : Str → Option Value} {base : Heap}
abbrev nm_Book_init : List Str := ["self", "band", "weights", "row", "weight"]
theorem sc_Book_init : FnScope nm_Book_init ["self", "band", "weights"] (defScope s_Book_init) := ⟨rfl, rfl, rfl, by decide +kernel, rfl, by decide +kernel, by decide +kernel⟩
abbrev t_Book_init (K : PySem.W.Frag) : TS := (tSeq (tIfS (tOr (tNot (tB (tCB (rIsi K) (tCons (tVar 2) (tCons (tC (.ty "dict")) tNil))))) (tNot (tTru K (tVar 2)))) tNever tNext)
    (tSeq (tLock (tFor (iItems (tVar 2)) (gTup K 2 (gCons (gName 3) (gCons (gName 4) gNil))) (tIfS (tOr (tTest (tOp (rInB K true) (tVar 3) (tVar 1))) (tNot (tB (tCall (sp_is_number K) [] E0 (tCons (tVar 4) (tCons (tC (.int 1)) (tCons (tC (.int 999)) tNil))))))) tNever tNext)))
    (tSeq (sFld K (tVar 0) (tVar 1) "band")
    (sFld K (tVar 0) (tCall (sp_lowest_weights K) [] E0 (tCons (tVar 2) tNil)) "weight_table"))))
theorem k_Book (T : Tx K mg) : C8.Mak P w K mg base 4 "Book" (He.ga K "Book") (sp_Book_init K) [] := by
  refine makG T.g_Book T.mk_Book T.f_Book_init (fun _ _ _ _ _ _ us hl => match us, hl with | [_, _, _], _ => rfl) sc_Book_init (fun vs H Q E h => ?_) (fun f cdv A outer s H vs Q E hr h => have hu := hu_of hr; ⟨t_Book_init K, (pss_cons (ps_if (PW.pt (pw_or (pt_not (pt_val (pe_callB call_isi (by rfl) T.b_isinstance bt_isinstance (pa_cons (pv 2) (pa_cons (pe_bltn (by rfl) T.b_dict bt_dict rfl) pa_nil))))) (pw_or1 (pt_not (pt_truth (pv 2) (by intro _; rfl)))))) pss_never pss_nil)
      (pss_cons (ps_lock (ps_for PassesOwn.never rfl (pi_items (pv 2)) (pg_tup rfl (pgs_cons (pg_name (i := 3) sc_Book_init.nd rfl (Or.inl rfl) (hf := Or.inr rfl)) (pgs_cons (pg_name (i := 4) sc_Book_init.nd rfl (Or.inl rfl) (hf := Or.inr rfl)) pgs_nil))) (pss_one (ps_if (PW.pt (pw_or (pt_cmpR (op_notInBand (m_Band_contains T) hr (by decide)) (pv 3) (pv 1) rfl) (pw_or1 (pt_not (pt_val (C8.pe_c (c_is_number T) hr (by decide) (by rfl) (pa_cons (pv 4) (pa_cons pe_int (pa_cons (pe_gint (by rfl) T.c_MOST_WEIGHT) pa_nil))))))))) pss_never pss_nil))))
      (pss_cons (ps_fld (pv 0) (pv 1) rfl)
      (pss_one (ps_fld (pv 0) (C8.pe_c (c_lowest_weights T) hr (by decide) (by rfl) (pa_cons (pv 2) pa_nil)) rfl))))), ?_⟩)
  · obtain ⟨x, dx, bp, d, cs, ss, rs, ws, rfl, _⟩ := h
    rfl
  · obtain ⟨x, dx, bp, d, cs, ss, rs, ws, rfl, hx, hB, hd, hne, hl, hL, k⟩ := h
    have c1 := T.cl_Book
    have n1 := T.na_Book_band
    have n2 := T.na_Book_weight_table
    walk_at "go"
    refine w_isi_dd hd ?_
    walk_at "go"
    refine ⟨true, .inr (.inr ⟨_, hd, ?_⟩), ?_⟩
    · cases ws with
      | nil => exact absurd rfl hne
      | cons a l => rfl
    walk_at "go"
    refine w_lock hd fun od => ?_
    walk_at "go"
    refine for_G (n := ws.length) walk_itemsKD (fun i σ H' => Same (upd H d (.frz od (.dK (WD ws)))) H' ∧ ∃ u3 u4, σ = [some (.ref x), some (.ref bp), some (.ref d), u3, u4]) ⟨Same.refl _, _, _, rfl⟩ (fun i σ H' _ h => h.1 _ _ upd_same) ?_ ?_
    · rintro i v σ H2 H3 hi ⟨s2, u3, u4, rfl⟩ ⟨T', a, rfl, hT, rfl, ha⟩
      have ham := List.mem_of_getElem? ha
      have hv := hL.val a ham
      have hBf := hB.frz (od := od) hd hne
      have hB3 := (hBf.same s2).same (same_new hT (o := .tup [.str (S a.1), .int (a.2 : Nat)]))
      obtain ⟨dx3, fs3, _, _, _, hb3, _⟩ := id hB3
      walk_at "go"
      refine ⟨S a.1, bp, dx3, fs3, rfl, rfl, hb3, bp, cs, ss, rs, a.1, rfl, hB3, hL.sub a ham, fun H4 s4 => ⟨true, rfl, ?_⟩⟩
      simp only [if_true, Bool.not_true]
      walk_at "go"
      refine ⟨_, _, _, rfl, by omega, by omega, fun H5 s5 => ?_⟩
      walk_at "go"
      exact ⟨((s2.trans (same_new hT)).trans s4).trans s5, _, _, rfl⟩
    · rintro σ H2 ⟨s2, u3, u4, rfl⟩
      have hd2 : H2 d = some (.frz od (.dK (WD ws))) := s2 _ _ upd_same
      refine ⟨hd2, ?_⟩
      have s3 := same_unlock hd s2
      have hd3 : upd H2 d (.dK (WD ws)) d = some (.dK (WD ws)) := upd_same
      generalize upd H2 d (.dK (WD ws)) = H3 at s3 hd3
      walk_at "go"
      refine w_sfld2 (s3 _ _ hx) c1 n1 (by decide) ?_
      have s4 : SBut x H (upd H3 x (.ins (He.ga K "Book") dx (putF "band" (.ref bp) []))) := (same_but s3).trans sbut_upd
      have hx4 : upd H3 x (.ins (He.ga K "Book") dx (putF "band" (.ref bp) [])) x = some (.ins (He.ga K "Book") dx (putF "band" (.ref bp) [])) := upd_same
      have hd4 : upd H3 x (.ins (He.ga K "Book") dx (putF "band" (.ref bp) [])) d = some (.dK (WD ws)) := by
        rw [upd_ne (ne_of hd hx (by intro z; cases z))]; exact hd3
      generalize upd H3 x (.ins (He.ga K "Book") dx (putF "band" (.ref bp) [])) = H4 at s4 hx4 hd4
      walk_at "go"
      refine ⟨d, ws, rfl, hd4, by omega, hL.nd, hne, fun a ha => ?_, fun q H5 l s5 nq pm sr hq => ?_⟩
      · have := hL.val a ha; omega
      walk_at "go"
      refine w_sfld2 (s5 _ _ hx4) c1 n2 (by show 1 < 1000; decide) ?_
      have hqx : q ≠ x := (ne_of_none hx4 nq).symm
      refine k _ l ((s4.trans (same_but s5)).trans sbut_upd) pm sr ⟨dx, _, q, upd_same, ?_, ?_, by rw [upd_ne hqx]; exact hq, ?_, ?_, ?_, by show 2 < 900; decide⟩ <;> (rw [lookup_putF, lookup_putF]; rfl)
end
/-! ## F19 -/
section
set_option maxHeartbeats 2000000
open PySem PySem.Spec PyProof.Rows L2


variable {P : Program} {w : World} {K : PySem.W.Frag} {mg : Str → Option Value} {base : Heap}
theorem ws_at {n i : Nat} {ws : Ws} (h : ∀ a ∈ ws, a.1.length = n) (hi : i < n) {j : Nat} {a : Row × Nat} (ha : ws[j]? = some a) : a.1[i]? = some (a.1[i]'(by rw [h a (List.mem_of_getElem? ha)]; exact hi)) := by simp
theorem if_all {b : Bool} {A B : Prop} (h : b = true → A) (k : b = false → B) : if b = true then A else B := by
  cases b with
  | true => rw [if_pos rfl]; exact h rfl
  | false => rw [if_neg Bool.false_ne_true]; exact k rfl
abbrev nm_law_untold : List Str := ["_law_w", "_law_cells_here", "_law_at", "_law_row"]
theorem sc_law_untold : FnScope nm_law_untold ["_law_w", "_law_cells_here"] (defScope s_law_untold) := ⟨rfl, rfl, rfl, by decide +kernel, rfl, by decide +kernel, by decide +kernel⟩
abbrev t_law_untold (K : PySem.W.Frag) : TS := (tRet (tLc (iRng1 (tCons (tCB (rLenQ K) (tCons (tVar 1) tNil)) tNil)) (gName 2) (tB (tCB (rAll K) (tCons (tLockE (tLc (iKeysM (tVar 0)) (gName 3) tYes (tOp rEq (tOp rIxS (tVar 3) (tVar 2)) (tC (.str "."))) [3])) tNil))) (tOp (rIxT K) (tOp (rIxL K) (tVar 1) (tVar 2)) (tC (.int 0))) [2]))
theorem c_law_untold (T : Tx K mg) : C8.Cal P w K mg base 1 "_law_untold" (sp_law_untold K) [] := by
  refine calG T.f_law_untold (fun _ _ _ _ _ _ us hl => match us, hl with | [_, _], _ => rfl) sc_law_untold (fun vs H Q E h => ?_) (fun f cdv A outer s H vs Q E hr h => have hu := hu_of hr; ⟨t_law_untold K, (pss_one (ps_ret (pe_lc (own := [("_law_at", 2)]) rfl sc_law_untold.nd (pi_range1 (by rfl) T.b_range (pa_cons (pe_callB call_len_seq (by rfl) T.b_len bt_len (pa_cons (pv 1) pa_nil)) pa_nil)) (blkOk_by (own := [("_law_at", 2)]) (N := nm_law_untold) (sc := (defScope s_law_untold)) (by decide +kernel)) (fun _ _ _ _ _ => (pg_name (i := 2) sc_law_untold.nd rfl (Or.inr rfl) (hf := Or.inl rfl))) (fun _ _ _ _ _ => (pts_one (pt_val (pe_callB (cr_all rfl) (by rfl) T.b_all bt_all (pa_cons (pe_lock (pe_lc (own := [("_law_row", 3)]) rfl sc_law_untold.nd (pi_keysM (pv 0)) (blkOk_by (own := [("_law_row", 3)]) (N := nm_law_untold) (sc := (relS ({ kind := .function, names := [(".0", .local), ("_law_at", .cell), ("all", .globalImplicit), ("_law_cells_here", .free), ("_law_w", .free)], isGenerator := false, isCoroutine := false } : Scope) (defScope s_law_untold))) (by decide +kernel)) (fun _ _ _ _ _ => (pg_name (i := 3) sc_law_untold.nd rfl (Or.inl rfl) (hf := Or.inr rfl))) (fun _ _ _ _ _ => pts_nil) (fun _ _ _ _ _ => (pe_cmpR op_eq (pe_ix ix_str (pv 3) (pv 2) (fun _ _ => rfl)) pe_str (nomark _))))) pa_nil))))) (fun _ _ _ _ _ => (pe_ix ix_tup (pe_ix ix_list (pv 1) (pv 2) (fun _ _ => rfl)) pe_int (fun _ _ => rfl)))))), ?_⟩)
  · obtain ⟨d, a, ws, cs, rfl, _⟩ := h
    rfl
  · obtain ⟨d, a, ws, cs, rfl, hd, hC, hn, hw, hl, k⟩ := h
    have hCq : SqL K H a (cs.map fun c => .ref c.p) := .inl (.inl hC.l)
    walk_at "go"
    refine lc_valL (List.range cs.length) (fun i => .str (S (nameAt cs i))) (fun i => ws.all fun a => a.1[i]? == some 46) (by rw [List.length_range]; exact walk_rng) (by rw [List.length_range]; omega) (fun _ _ => trivial) ?_ ?_
    · rintro i c v H2 H3 R R0 hc s2 ⟨rfl, rfl⟩ k1 k2
      obtain ⟨hi, rfl⟩ := range_some hc
      have hd2 := s2 _ _ hd
      walk_at "go"
      refine w_lockE hd2 fun od => ?_
      walk_at "go"
      refine lc_val1 ws (fun a => .bl (a.1[c]? == some 46)) walk_keysKD (by omega) (fun H' s => s _ _ upd_same) ?_ ?_
      · rintro i2 a' v H5 H6 R hi2 s5 ⟨rfl, a2, ha2, rfl⟩ k1
        obtain rfl : a2 = a' := Option.some.inj (ha2.symm.trans hi2)
        have h1 := ws_at hl hi hi2
        have h2 : a2.1.length ≤ 1000 := by rw [hl a2 (List.mem_of_getElem? hi2)]; omega
        walk_at "go"
        rw [h1] at k1
        rw [some_dec] at k1
        exact k1 _ (Same.refl _)
      · intro D7 H5 nD7 s5 hD7
        have hd5 := s5 _ _ upd_same
        refine ⟨hd5, ?_⟩
        obtain ⟨nD0, nDd⟩ := none_lock nD7
        have s5' := same_unlock hd2 s5
        have hD8 : upd H5 d (.dK (WD ws)) D7 = some (.lst (ws.map fun a => V.bl (a.1[c]? == some 46))) := by rw [upd_ne nDd]; exact hD7
        generalize upd H5 d (.dK (WD ws)) = H6 at s5' hD8
        walk_at "go"
        refine w_all hD8 ?_
        walk_at "go"
        have hc1 : cs[c]? = some cs[c] := by simp [hi]
        have hcn : nameAt cs c = cs[c].nm := by unfold nameAt; rw [List.getElem?_map, hc1]; rfl
        rw [hcn] at k1
        refine if_all (fun e => ?_) (fun e => ?_)
        · walk_at "go"
          refine w_ixL (xs := cs.map fun c => .ref c.p) (.inl (.inl (s5' _ _ (s2 _ _ hC.l)))) (by rw [List.getElem?_map, hc1]; rfl) ?_
          have h4 := ((hC.c cs[c] (List.getElem_mem _)).same s2).same s5'
          unfold CellOk at h4
          walk_at "go"
          exact k1 _ e s5'
        · exact k2 _ e s5'
    · intro D H2 nD s2 hD
      refine k D H2 s2 nD ?_
      rw [hD]
      unfold untoldN untoldP
      show _ = some (HO.lst (List.map _ _))
      rw [List.map_map]
      rfl
abbrev nm_Book_untold : List Str := ["self", "found", "at", "name", "deed"]
theorem sc_Book_untold : FnScope nm_Book_untold ["self"] (defScope s_Book_untold) := ⟨rfl, rfl, rfl, by decide +kernel, rfl, by decide +kernel, by decide +kernel⟩
abbrev t_Book_untold (K : PySem.W.Frag) : TS := (tSeq (tAsg (tLst tNil) (gName 1))
    (tSeq (tFor (iEnum K (tCons (tMeth (He.ga K "Band") "names" (sp_Band_names K) [] E0 (tFld K (tVar 0) "band") tNil) tNil)) (gTup K 2 (gCons (gName 2) (gCons (gName 3) gNil))) (tIfS (tB (tCB (rAll K) (tCons (tLockE (tLc (iKeys (tFld K (tVar 0) "weight_table")) (gName 4) tYes (tOp rEq (tOp rIxS (tVar 4) (tVar 2)) (tC (.str "."))) [4])) tNil))) (tDrop (tBM K "list" rAppend (tVar 1) (tCons (tVar 3) tNil))) tNext))
    (tRet (tVar 1))))
theorem m_Book_untold (T : Tx K mg) : C8.Met P w K mg base 2 (He.ga K "Book") "untold" (sp_Book_untold K) [] := by
  refine metG T.cl_Book T.me_Book_untold T.f_Book_untold (fun _ _ _ _ _ _ us hl => match us, hl with | [_], _ => rfl) sc_Book_untold (fun vs H Q E h => ?_) (fun f cdv A outer s H vs Q E hr h => have hu := hu_of hr; ⟨t_Book_untold K, (pss_cons (ps_set (i := 1) sc_Book_untold.nd rfl (Or.inl rfl) (pe_lst pa_nil))
      (pss_cons (ps_for PassesOwn.never rfl (pi_enum (by rfl) T.b_enumerate (pa_cons (C8.pe_mt0 (m_Band_names T) hr (by decide) (pe_fld (pv 0) rfl)) pa_nil)) (pg_tup rfl (pgs_cons (pg_name (i := 2) sc_Book_untold.nd rfl (Or.inr rfl) (hf := Or.inl rfl)) (pgs_cons (pg_name (i := 3) sc_Book_untold.nd rfl (Or.inl rfl) (hf := Or.inr rfl)) pgs_nil))) (pss_one (ps_if (pt_val (pe_callB (cr_all rfl) (by rfl) T.b_all bt_all (pa_cons (pe_lock (pe_lc (own := [("deed", 4)]) rfl sc_Book_untold.nd (pi_keys (pe_fld (pv 0) rfl)) (blkOk_by (own := [("deed", 4)]) (N := nm_Book_untold) (sc := (defScope s_Book_untold)) (by decide +kernel)) (fun _ _ _ _ _ => (pg_name (i := 4) sc_Book_untold.nd rfl (Or.inl rfl) (hf := Or.inr rfl))) (fun _ _ _ _ _ => pts_nil) (fun _ _ _ _ _ => (pe_cmpR op_eq (pe_ix ix_str (pv 4) (pv 2) (fun _ _ => rfl)) pe_str (nomark _))))) pa_nil))) (pss_one (ps_expr (pe_bm PySem.F.plainAttrs_list PySem.F.slot_list_append PySem.F.type_list_append mt_append (pv 1) (pa_cons (pv 3) pa_nil)))) pss_nil)))
      (pss_one (ps_ret (pv 1))))), ?_⟩)
  · obtain ⟨p, bp, ws, cs, ss, rs, rfl, _⟩ := h
    rfl
  · obtain ⟨p, bp, ws, cs, ss, rs, rfl, hB, hN, hn, hw, hl, k⟩ := h
    obtain ⟨dx, fs, d, h1, h2, h3, hd, h5, h6, h7⟩ := hB
    have c1 := T.cl_Book
    have n1 := T.na_Book_band
    have n2 := T.na_Book_weight_table
    have hNb := hN
    obtain ⟨dxb, fsb, ab, bb, kb, g1, g2, g3, g4, g5, g6, g7, g8, g9, g10⟩ := hN
    walk_at "go"
    rename_i q0 nq0
    refine ⟨bp, cs, ss, rs, rfl, hNb.same (same_new nq0), hn, fun q H1 s1 nq hq => ?_⟩
    have hsq : SqL K H1 q (rowL (cs.map Cell.nm)) := .inl (.inl hq)
    have hqq : q0 ≠ q := ne_of_none upd_same nq
    walk_at "go"
    refine for_G (n := (cs.map Cell.nm).length) walk_enumM (fun i σ H' => Same H H' ∧ H' q = some (.lst (rowL (cs.map Cell.nm))) ∧ H' q0 = some (.lst (rowL (((List.range i).filter fun i => ws.all fun a => a.1[i]? == some 46).map (nameAt cs)))) ∧ ∃ u2 u3, σ = [some (.ref p), some (.ref q0), u2, u3, none])
      ⟨(same_new nq0).trans s1, hq, s1 _ _ upd_same, _, _, rfl⟩ (fun i σ H' _ h => .inl (.inl h.2.1)) ?_ ?_
    · rintro i v σ H2 H3 hi ⟨s2, hq2, hq02, u2, u3, rfl⟩ ⟨T', nm, rfl, hT, rfl, ha⟩
      have hi2 : i < cs.length := by simpa using hi
      have hnm : nameAt cs i = nm := by unfold nameAt; rw [ha]; rfl
      have hd2 := same_new (o := .tup [.int (i : Nat), .str (S nm)]) hT _ _ (s2 _ _ hd)
      have h1' := same_new (o := .tup [.int (i : Nat), .str (S nm)]) hT _ _ (s2 _ _ h1)
      have hq03 : upd H2 T' (.tup [.int (i : Nat), .str (S nm)]) q0 = _ := same_new hT _ _ hq02
      have hq3 : upd H2 T' (.tup [.int (i : Nat), .str (S nm)]) q = _ := same_new hT _ _ hq2
      have s3 := s2.trans (same_new (o := .tup [.int (i : Nat), .str (S nm)]) hT)
      walk_at "go"
      generalize upd H2 T' (.tup [.int (i : Nat), .str (S nm)]) = H3 at hd2 h1' hq03 hq3 s3 ⊢
      refine w_lockE hd2 fun od => ?_
      have h1f : upd H3 d (.frz od (.dK (WD ws))) p = _ := frz_ne hd2 h1' (by intro z; cases z)
      walk_at "go"
      refine lc_val1 ws (fun a => .bl (a.1[i]? == some 46)) walk_keysKD (by omega) (fun H' s => s _ _ upd_same) ?_ ?_
      · rintro i2 a' v H5 H6 R hi2' s5 ⟨rfl, a2, ha2, rfl⟩ k1
        obtain rfl : a2 = a' := Option.some.inj (ha2.symm.trans hi2')
        have h1 := ws_at hl hi2 hi2'
        have h2 : a2.1.length ≤ 1000 := by rw [hl a2 (List.mem_of_getElem? hi2')]; omega
        walk_at "go"
        rw [h1] at k1
        rw [some_dec] at k1
        exact k1 _ (Same.refl _)
      · intro D7 H5 nD7 s5 hD7
        have hd5 := s5 _ _ upd_same
        refine ⟨hd5, ?_⟩
        obtain ⟨nD0, nDd⟩ := none_lock nD7
        have s5' := same_unlock hd2 s5
        have hD8 : upd H5 d (.dK (WD ws)) D7 = some (.lst (ws.map fun a => V.bl (a.1[i]? == some 46))) := by rw [upd_ne nDd]; exact hD7
        generalize upd H5 d (.dK (WD ws)) = H6 at s5' hD8
        walk_at "go"
        refine w_all hD8 ?_
        walk_at "go"
        have hq4 := s5' _ _ hq3
        have hq04 := s5' _ _ hq03
        rw [show (List.range (i + 1)) = List.range i ++ [i] from List.range_succ, List.filter_append, List.map_append]
        refine if_all (fun e => ?_) (fun e => ?_)
        · walk_at "go"
          have hlen : (((List.range i).filter fun i => ws.all fun a => a.1[i]? == some 46).map (nameAt cs)).length ≤ 6 := by
            have := List.length_filter_le (fun i => ws.all fun a => a.1[i]? == some 46) (List.range i)
            rw [List.length_range] at this
            rw [List.length_map]
            omega
          refine w_app hq04 (by rw [List.length_map]; omega) ?_
          refine ⟨same_mut (s3.trans s5') nq0, by rw [upd_ne hqq.symm]; exact hq4, ?_, _, _, rfl⟩
          rw [upd_same, List.filter_cons, if_pos e, List.filter_nil, List.map_cons, List.map_nil, hnm]
          show _ = some (HO.lst (List.map _ _))
          rw [List.map_append]
          rfl
        · walk_at "go"
          rw [List.filter_cons, if_neg (by rw [e]; exact Bool.false_ne_true), List.filter_nil, List.map_nil, List.append_nil]
          exact ⟨s3.trans s5', hq4, hq04, _, _, rfl⟩
    · rintro σ H2 ⟨s2, hq2, hq02, u2, u3, rfl⟩
      walk_at "go"
      rw [List.length_map] at hq02
      exact k q0 H2 s2 nq0 hq02
end
/-! ## K0 -/
section
set_option maxHeartbeats 2000000
open PySem PySem.Spec PyProof.Rows L2
open PySem.W (AllAlike Sortable dataLe EachIs keyedOut_each KeyedOut keyH_end KeepsBut dataKind SortsAt sorted_of_sort sortVals sortingHeap sortingHeap_old copyHeap copyHeap_old copyHeap_at each_snoc)
/-! ### sorted(xs, key=f), f a def -/
/-- the value y is the key k, and stays it -/
def KeyIs (P : Program) (w : World) (y : V) (k : PyData) (H : Hp) : Prop := ∀ (H' : Hp) (h : Heap) (u : Value), Same H H' → HOk P w H' h → L2.RelV y u → Reads h u k []
theorem KeyIs.same {P : Program} {w : World} {y : V} {k : PyData} {H H' : Hp} (h : KeyIs P w y k H) (s : Same H H') : KeyIs P w y k H' := fun H2 g u s2 => h H2 g u (s.trans s2)
theorem freed_get (h : Heap) (a : Addr) : (h.update a fun o => { o with data := .freed }).get? a = none := TI.get?_update_freed h a
section
variable {X : Cx} {pins : List (Addr × Obj)} {σ : L2.St} {H : Hp} {s : Shared} {β : Type}
/-- an untracked record and one that is tracked now have changed -/
theorem inv_two {t' : Nat} {kS a : Addr} {o : HO} {h' : Heap} (I : Inv X pins σ H s) (k : ∀ b u, b ≠ a → b ≠ kS → s.heap.get? b = some u → h'.get? b = some u) (nk : H kS = none) (na : H a = none) (hka : kS ≠ a)
    (hch : ∀ b, b = kS ∨ b = a → X.s_0.heap.objs.size ≤ b ∧ b ≠ X.env.locals ∧ (∀ x c, X.env.cells.lookup x = some c → c ≠ b) ∧ ∀ p ∈ X.pn ++ pins, p.1 ≠ b) (new : ObjOk X.prog X.w (upd H a o) h' a o) :
    Inv X pins σ (upd H a o) { s with heap := h', toks := t' } := by
  have na' : ∀ b u, H b = some u → b ≠ a := fun b u e z => by rw [z, na] at e; cases e
  have nk' : ∀ b u, H b = some u → b ≠ kS := fun b u e z => by rw [z, nk] at e; cases e
  have nin : ∀ b, b ∉ [kS, a] → b ≠ a ∧ b ≠ kS := fun b hb => ⟨fun z => hb (by simp [z]), fun z => hb (by simp [z])⟩
  refine I.step (g' := s.gens) (d' := s.drawn) (ch := [kS, a]) (fun b hb => ?_) (fun b o _ _ hc e _ => k b o (nin b hc).1 (nin b hc).2 e) (fun b o _ _ hc e _ => ⟨o.slots, k b o (nin b hc).1 (nin b hc).2 e⟩) (fun b o hc e n => by rw [upd_ne (nin b hc).1]; exact n)
    (fun b o hc e => ⟨o, k b o (nin b hc).1 (nin b hc).2 e⟩) (fun b _ e => by rw [upd_ne (na' _ _ e)]; exact e) (fun b _ _ e => by rw [upd_ne (na' _ _ e)]; exact e) (fun b ps e => ⟨#[], by rw [upd_ne (na' _ _ e), e]; simp⟩) (fun m hm => ?_) (fun b u e => ?_) I.bare
  · have e : b = kS ∨ b = a := by simpa using hb
    have := hch b e
    exact ⟨.inr this.1, this.2⟩
  · obtain ⟨o, es, ep, ho, r⟩ := hm
    exact ⟨o, es, ep, k _ o (fun z => (hch a (.inr rfl)).2.1 z.symm) (fun z => (hch kS (.inl rfl)).2.1 z.symm) ho, r⟩
  · by_cases hb : b = a
    · subst hb
      rw [upd_same] at e
      obtain rfl := Option.some.inj e
      exact new
    · rw [upd_ne hb] at e
      refine (I.hok b u e).stay (fun c v hc q => ?_) (fun c q => ?_) fun c xs q => ?_
      · rcases hc with z | z
        · rw [z] at q ⊢; exact k b v hb (nk' b u e) q
        · exact k c v (na' c _ z) (nk' c _ z) q
      · rw [upd_ne (na' c _ q)]; exact q
      · rw [upd_ne (na' c _ q)]; exact q
theorem pins_cons {p : Addr × Obj} (I : Inv X pins σ H s) (h : s.heap.get? p.1 = some p.2 ∧ H p.1 = none ∧ p.1 ≠ X.env.locals ∧ p.1 ∉ X.fs ∧ ∀ v, p.2.data ≠ .cell v) : Inv X (p :: pins) σ H s :=
  I.pins_of fun q hq => by
    rcases List.mem_cons.mp hq with z | z
    · subst z; exact h
    · exact I.pin q (List.mem_append_right _ z)
theorem pins_tail {p : Addr × Obj} (I : Inv X (p :: pins) σ H s) : Inv X pins σ H s := I.pins_of fun q hq => I.pin q (List.mem_append_right _ (List.mem_cons_of_mem _ hq))
theorem vals_snoc {xs : List V} {us : List Value} {x : V} {u : Value} : Vals xs us → L2.RelV x u → Vals (xs ++ [x]) (us ++ [u])
  | .nil, h => .cons h .nil
  | .cons r t, h => .cons r (vals_snoc t h)
/-- the loop and the end -/
theorem sortk_rest {a kS : Addr} {e1 : Nat} {f : Value} {bs : List β} {vs : List Value} {Q : Value → Shared → Prop} {E : Value → Shared → Prop} (val : β → V) (k : β → PyData) {A : Around}
    (I : Inv X ((kS, seqObj "list" #[] 0) :: (a, seqObj "list" #[] e1) :: pins) σ H s) (hka : kS ≠ a) (hvs : EachIs (fun u x => L2.RelV (val x) u) vs bs) (hL : bs.length ≤ 1000) (hal : AllAlike (bs.map k)) (hk : Sortable (bs.map k)) (hu : ∀ x, x ∈ bs → A.units + (k x).depth < cLine)
    (hch : ∀ b, b = kS ∨ b = a → X.s_0.heap.objs.size ≤ b ∧ b ≠ X.env.locals ∧ (∀ x c, X.env.cells.lookup x = some c → c ≠ b) ∧ ∀ p ∈ X.pn ++ pins, p.1 ≠ b)
    (turn : ∀ (ps : List (Addr × Obj)) (H' : Hp) (s' : Shared) (x : β) (u : Value), x ∈ bs → (∀ p ∈ pins, p ∈ ps) → Inv X ps σ H' s' → Same H H' → L2.RelV (val x) u →
      wpAny (model X.prog X.w) A (call f [u]) (fun r s2 => ∃ y H2, Inv X ps σ H2 s2 ∧ Same H' H2 ∧ L2.RelV y r ∧ KeyIs X.prog X.w y (k x) H2) (fun _ _ => False) s')
    (fin : ∀ (H' : Hp) (s' : Shared), Same H H' → H' a = none → Inv X pins σ (upd H' a (.lst ((bs.mergeSort (dataLe false k)).map val))) s' → Q (.ref a) s') :
    wpAny (model X.prog X.w) A (ksk_rest a f false vs.toArray e1 (.ref kS)) (fun f s' => f = .done (.ret .none) ∧ Q (.ref a) s') E s := by
  have hlen := hvs.length
  have hsl : (1000 : Nat) < sizeLine := by decide
  unfold ksk_rest
  refine wpAny_bind (wpAny_rule ?_)
  first
    | rw [List.forIn_toArray]
    | (rw [← Array.forIn_toList]; simp only [List.toList_toArray])
    | rw [← Array.forIn_toList]
  refine wpAny_bind (ksk_fold (fun i s' => ∃ H' kA e, Inv X ((kS, seqObj "list" kA e) :: (a, seqObj "list" #[] e1) :: pins) σ H' s' ∧ Same H H' ∧ EachIs (fun (u : Value) (d : PyData) => ∃ y, L2.RelV y u ∧ KeyIs X.prog X.w y d H') kA.toList ((bs.map k).take i)) vs 0 s
    ⟨H, #[], 0, I, Same.refl _, by rw [List.take_zero]; exact EachIs.nil⟩ ?step ?done)
  case step =>
    rintro j u s' hj ⟨H', kA, e, I', sm, hz⟩
    simp only [Nat.zero_add] at hz ⊢
    have hjl : j < vs.length := (List.getElem?_eq_some_iff.mp hj).1
    obtain ⟨x, hx⟩ : ∃ x, bs[j]? = some x := ⟨_, List.getElem?_eq_getElem (by omega)⟩
    have hxu : L2.RelV (val x) u := hvs.zip (u, x) (List.mem_of_getElem? (i := j) (by rw [List.getElem?_zip_eq_some]; exact ⟨hj, hx⟩))
    have hkz : kA.size ≤ 1000 := by
      have h1 := hz.length
      rw [Array.length_toList, List.length_take] at h1
      omega
    refine wpAny_bind (wpAny_attempt (wpAny_mono (turn _ H' s' x u (List.mem_of_getElem? hx) (fun p hp => List.mem_cons_of_mem _ (List.mem_cons_of_mem _ hp)) I' sm hxu) (fun r s2 he => ?_) fun _ _ hF => hF.elim))
    obtain ⟨y, H2, I2, s2', hy, hK⟩ := he
    try dsimp only
    have pk := I2.pin (kS, seqObj "list" kA e) (List.mem_append_right _ List.mem_cons_self)
    have nk2 : s2.heap.get? kS = some (seqObj "list" kA e) := pk.1
    have s1 := Heap.SameBut.update s2.heap kS (Obj.mapSeq (·.push r))
    obtain ⟨c2, hc2⟩ : ∃ c2, (s2.heap.update kS (Obj.mapSeq (·.push r))).get? kS = some (seqObj "list" (kA.push r) c2) := ⟨_, get?_update_seq nk2 (·.push r)⟩
    have ek : (bs.map k).take (j + 1) = (bs.map k).take j ++ [k x] := by rw [List.take_add_one, List.getElem?_map, hx]; rfl
    have ea : (kA.push r).toList = kA.toList ++ [r] := by simp
    refine wpAny_bind (listUpdate_at nk2 rfl ?_ (by omega) (Nat.le_trans (Nat.le_of_eq (Array.size_push ..)) (by omega)))
    have I3 : Inv X ((a, seqObj "list" #[] e1) :: pins) σ H2 { s2 with heap := s2.heap.update kS (Obj.mapSeq (·.push r)) } := (pins_tail I2).turned (it := kS) (t' := s2.toks) (fun b o hb e => (s1.2 b hb).trans e) pk.2.1 pk.2.2.1 (.inr (hch kS (.inl rfl)).1) (hch kS (.inl rfl)).2.2.1 (fun p hp => by
      rcases List.mem_append.mp hp with z | z
      · exact (hch kS (.inl rfl)).2.2.2 p (List.mem_append_left _ z)
      · rcases List.mem_cons.mp z with z | z
        · rw [z]; exact hka.symm
        · exact (hch kS (.inl rfl)).2.2.2 p (List.mem_append_right _ z))
    have I4 := pins_cons (p := (kS, seqObj "list" (kA.push r) c2)) I3 ⟨hc2, pk.2.1, pk.2.2.1, pk.2.2.2.1, fun v z => by cases z⟩
    refine wpAny_pure ⟨rfl, H2, kA.push r, c2, I4, sm.trans s2', ?_⟩
    rw [ea, ek]
    exact each_snoc ⟨y, hy, hK⟩ (hz.mono fun _ _ ⟨y, h1, h2⟩ => ⟨y, h1, h2.same s2'⟩)
  case done =>
    rintro s' ⟨H', kA, e, I', sm, hz⟩
    have e3 : (bs.map k).take (0 + vs.length) = bs.map k := List.take_of_length_le (by rw [List.length_map]; omega)
    rw [e3] at hz
    have hz2 : EachIs (fun v d => ∃ as, Reads s'.heap v d as) kA.toList (bs.map k) := hz.mono fun _ _ ⟨y, h1, h2⟩ => ⟨[], h2 H' s'.heap _ (Same.refl _) I'.hok h1⟩
    have hsz : kA.size = vs.length := by
      have h1 := hz2.length
      rw [Array.length_toList, List.length_map] at h1
      omega
    have pk := I'.pin (kS, seqObj "list" kA e) (List.mem_append_right _ List.mem_cons_self)
    have pa := I'.pin (a, seqObj "list" #[] e1) (List.mem_append_right _ (List.mem_cons_of_mem _ List.mem_cons_self))
    try dsimp only
    refine wpAny_bind (listItems_at pk.1 rfl ?_)
    refine keyH_end (κ := dataKind s'.heap (bs.map k)) (h₁ := s'.heap.update kS fun o => { o with data := .freed }) (fun b o hb q => ?_) (freed_get _ _) pk.1 pa.1 hka (SortsAt.data hz2 hal hk fun d hd => ?_) hsz (by omega) fun h3 tk3 c k3 n3 => ⟨rfl, ?_⟩
    · by_cases hbk : b = kS
      · rw [hbk, freed_get] at q; cases q
      · rw [Heap.get?_update_ne _ _ _ _ hbk] at q; exact q
    · obtain ⟨x, hx, rfl⟩ := List.mem_map.mp hd
      exact hu x hx
    · have ko : KeyedOut false (bs.map k) vs (sortVals (dataKind s'.heap (bs.map k)) false kA.toList vs) := ⟨s'.heap, kA.toList, hal, rfl, hz2⟩
      have eo := keyedOut_each k ko hvs
      generalize sortVals (dataKind s'.heap (bs.map k)) false kA.toList vs = out at n3 eo
      have hvo : Vals ((bs.mergeSort (dataLe false k)).map val) out := by
        generalize bs.mergeSort (dataLe false k) = ms at eo
        clear n3
        induction eo with
        | nil => exact .nil
        | cons r _ ih => exact .cons r ih
      have hln : ((bs.mergeSort (dataLe false k)).map val).length ≤ sizeLine := by rw [List.length_map, List.length_mergeSort]; omega
      exact fin H' _ sm pa.2.1 (inv_two (pins_tail (pins_tail I')) (fun b u h1 h2 q => k3 b u h1 (by rw [Heap.get?_update_ne _ _ _ _ h2]; exact q)) pk.2.1 pa.2.1 hka hch ⟨hln, out, c, hvo, n3⟩)
theorem isv {val : β → V} : ∀ {bs : List β} {us : List Value}, Vals (bs.map val) us → EachIs (fun u x => L2.RelV (val x) u) us bs
  | [], _, .nil => .nil
  | _ :: _, _, .cons r t => .cons r (isv t)
theorem sortk {l : Addr} {f : Addr} {bs : List β} {Q : Value → Shared → Prop} {E : Value → Shared → Prop} (val : β → V) (k : β → PyData) (I : Inv X pins σ H s) (hl : H l = some (.lst (bs.map val))) (hL : bs.length ≤ 1000) (hal : AllAlike (bs.map k)) (hk : Sortable (bs.map k)) (hu : ∀ x, x ∈ bs → X.A.units + 2 + (k x).depth < cLine)
    (turn : ∀ (ps : List (Addr × Obj)) (H' : Hp) (s' : Shared) (x : β) (u : Value), x ∈ bs → (∀ p ∈ pins, p ∈ ps) → Inv X ps σ H' s' → Same H H' → L2.RelV (val x) u →
      wpAny (model X.prog X.w) X.A.in1.in1 (call (.ref f) [u]) (fun r s2 => ∃ y H2, Inv X ps σ H2 s2 ∧ Same H' H2 ∧ L2.RelV y r ∧ KeyIs X.prog X.w y (k x) H2) (fun _ _ => False) s')
    (fin : ∀ (H' : Hp) (s' : Shared) (a : Addr), Same H H' → H' a = none → Inv X pins σ (upd H' a (.lst ((bs.mergeSort (dataLe false k)).map val))) s' → Q (.ref a) s') :
    wpAny (model X.prog X.w) X.A (call (.builtin "sorted") [.ref l] [(Str.ofString "key", .ref f)]) Q E s := by
  obtain ⟨hz, vs, n0, hvs, hoL⟩ : ObjOk X.prog X.w H s.heap l (.lst (bs.map val)) := I.hok l _ hl
  have hvs := isv hvs
  have hsl : (1000 : Nat) < sizeLine := by decide
  have hlen := hvs.length
  have hlk : s.heap.IsList l vs.toArray := ⟨_, hoL, rfl, n0, rfl⟩
  refine sorted_of_sort hlk (by omega) (ksk_s1 _ _) (fun _ => ksk_l1 _ _) fun E' => ?_
  rw [ksk_t1]
  have ho := copyHeap_at s.heap vs
  have hsz : (copyHeap s.heap vs).objs.size = s.heap.objs.size + 2 := by
    unfold copyHeap
    rw [size_push', Heap.size_update, size_push']
  generalize ha : s.heap.objs.size + 1 = a at ho ⊢
  obtain ⟨e1, ho1⟩ : ∃ e1, ((copyHeap s.heap vs).update a (Obj.mapSeq fun _ => (#[] : Array Value))).get? a = some (seqObj "list" #[] e1) := ⟨_, get?_update_seq ho fun _ => #[]⟩
  have hkS : (((copyHeap s.heap vs).update a (Obj.mapSeq fun _ => (#[] : Array Value))).push (seqObj "tuple" vs.toArray 0)).objs.size = s.heap.objs.size + 3 := by rw [size_push', Heap.size_update, hsz]
  unfold ksk_tree
  refine wpAny_bind (listItems_at ho rfl ?_)
  refine wpAny_bind (listUpdate_at ho rfl ?_ (by rw [List.size_toArray]; omega) (Nat.zero_le _))
  refine wpAny_bind (seqEpoch_at ho1 rfl ?_)
  refine wpAny_bind (wpAny_newTuple ?_ (by show vs.length ≤ _; omega))
  refine wpAny_bind (wpAny_newList ?_ (Nat.zero_le _))
  refine wpAny_holding ?_
  have kk : ∀ b o, s.heap.get? b = some o → (sortingHeap (copyHeap s.heap vs) a vs).get? b = some o := fun b o q => sortingHeap_old (by rw [← ha]; exact Nat.ne_of_lt (Nat.lt_succ_of_lt (Heap.lt_size q))) (copyHeap_old q)
  have I1 : Inv X pins σ H { s with heap := sortingHeap (copyHeap s.heap vs) a vs } := I.kept (t' := s.toks) kk
  have hnew : ∀ b, b = (((copyHeap s.heap vs).update a (Obj.mapSeq fun _ => (#[] : Array Value))).push (seqObj "tuple" vs.toArray 0)).objs.size ∨ b = a → s.heap.objs.size ≤ b := fun b hb => by
    rcases hb with z | z
    · rw [z, hkS]; omega
    · rw [z, ← ha]; omega
  have hch : ∀ b, s.heap.objs.size ≤ b → X.s_0.heap.objs.size ≤ b ∧ b ≠ X.env.locals ∧ (∀ x c, X.env.cells.lookup x = some c → c ≠ b) ∧ ∀ p ∈ X.pn ++ pins, p.1 ≠ b := fun b hb => by
    refine ⟨Nat.le_trans I.sz hb, fun z => ?_, fun x c e z => ?_, fun p hp z => ?_⟩
    · exact absurd I.lt (Nat.not_lt.mpr (z ▸ hb))
    · obtain ⟨v, o, h1, _⟩ := I.cell x c e
      exact absurd (Heap.lt_size h1) (Nat.not_lt.mpr (z ▸ hb))
    · exact absurd (Heap.lt_size (I.pin p hp).1) (Nat.not_lt.mpr (z ▸ hb))
  have Ia := pins_cons (p := (a, seqObj "list" #[] e1)) I1 ⟨?_, I.hok.fresh (hnew a (.inr rfl)), (hch a (hnew a (.inr rfl))).2.1, I.nofs (hnew a (.inr rfl)), fun v z => by cases z⟩
  have Ik := pins_cons (p := ((((copyHeap s.heap vs).update a (Obj.mapSeq fun _ => (#[] : Array Value))).push (seqObj "tuple" vs.toArray 0)).objs.size, seqObj "list" #[] 0)) Ia ⟨Heap.get?_push_size _ rfl, I.hok.fresh (hnew _ (.inl rfl)), (hch _ (hnew _ (.inl rfl))).2.1, I.nofs (hnew _ (.inl rfl)), fun v z => by cases z⟩
  · refine sortk_rest (A := X.A.in1.in1) (bs := bs) val k Ik (by rw [hkS, ← ha]; exact Nat.ne_of_gt (Nat.lt_succ_of_lt (Nat.lt_succ_self _))) hvs hL hal hk hu (fun b hb => hch b (hnew b hb)) turn (fun H' s' sm na I' => ?_)
    exact fin H' s' a sm na I'
  · exact Heap.get?_push_of_some _ (Heap.get?_push_of_some _ ho1)
end
end
end NT
/-! ## K1 -/
section
set_option maxHeartbeats 2000000
namespace NT
open PySem PySem.Spec PyProof.Rows L2
open PySem.W (AllAlike Sortable dataLe)
theorem keyInt {P : Program} {w : World} {i : Int} {H : Hp} : KeyIs P w (.int i) (.int i) H := fun H' h u _ _ r => by
  obtain ⟨t, rfl⟩ := r
  exact .int i t
/-- a call of a def within, its answer -/
theorem run_in2 {X : Cx} {pins : List (Addr × Obj)} {σ : L2.St} {H : Hp} {s : Shared} {k : Nat} {f : Addr} {fd : FuncData} {ps : List Str} {ds : List Value} {dvs : List V} {sp : Sp} {us : List Value} {vs : List V} {Q : VK} (F : FnOk X.prog X.w X.K X.mg X.base C8.CX0 k f fd ps sp) (hr : Room k X.A.in1.in1) (hb : Binds X.K fd ps ds) (hd : Vals dvs ds)
    (I : Inv X pins σ H s) (r : Vals vs us) (h : sp (vs ++ dvs) H Q C8.E0) : wpAny (model X.prog X.w) X.A.in1.in1 (call (.ref f) us) (fun r s2 => ∃ y H2, Inv X pins σ H2 s2 ∧ L2.RelV y r ∧ Q y H2) (fun _ _ => False) s := by
  have r2 : Vals (vs ++ dvs) (us ++ ds) := r.append hd
  have hl : (us ++ ds).length = ps.length := by rw [← r2.length]; exact F.len _ _ _ _ h
  refine wpAny_call (codeAny_mono (F.run X.A.in1.in1 X.stack s H ⟨us, []⟩ (us ++ ds) (vs ++ dvs) Q C8.E0 hr I.env0.in1.in1 (hb s us I.kIn hl) r2 h) fun r s' hq => ?_)
  cases r with
  | error e => exact False.elim hq
  | ok fl =>
    cases fl with
    | ret u =>
      obtain ⟨v, H', I3, rv, q3⟩ := I.after hq
      exact ⟨v, H', I3, rv, q3⟩
    | next => exact False.elim hq
    | brk => exact False.elim hq
    | cont => exact False.elim hq
/-- sorted(rows, key=lot_size): the rows, in some order -/
def rSortLots (f : Addr) : List V → List V → Hp → VK → Prop := fun vs zs H Q => ∃ (a : Addr) (rs : List Row), vs = [.ref a] ∧ zs = [.ref f] ∧ H a = some (.lst (rowL rs)) ∧ rs.length ≤ 1000 ∧ ∀ (p : Addr) (H' : Hp) (l : List Row), Same H H' → H' p = none → Q (.ref p) (upd H' p (.lst (rowL l)))
def tSortLots (te : TE) : TE := fun σ H Q => ∀ f : Addr, tCKw (rSortLots f) (tCons te tNil) (tCons (tC (.ref f)) tNil) σ H Q
theorem w_sortLots {te : TE} {σ : L2.St} {H : Hp} {Q : VK} (h : ∀ f : Addr, te σ H fun x H1 => rSortLots f [x] [.ref f] H1 Q) : tSortLots te σ H Q := h
theorem w_sortLots2 {f a : Addr} {rs : List Row} {H : Hp} {Q : VK} (ha : H a = some (.lst (rowL rs))) (hl : rs.length ≤ 1000) (q : ∀ (p : Addr) (H' : Hp) (l : List Row), Same H H' → H' p = none → Q (.ref p) (upd H' p (.lst (rowL l)))) : rSortLots f [.ref a] [.ref f] H Q := ⟨a, rs, rfl, rfl, ha, hl, q⟩
theorem alike_int (l : List Row) (g : Row → Int) : AllAlike (l.map fun r => PyData.int (g r)) := AllAlike.of fun _ _ => by simp [PySem.W.alike]
theorem cr_sortLots {X : Cx} {j k : Nat} {f : Addr} {fd : FuncData} {ps : List Str} {ds : List Value} (F : FnOk X.prog X.w X.K X.mg X.base C8.CX0 k f fd ps (sp_lot_size X.K)) (hr : Room j X.A) (hk : k + 2 ≤ j) (hb : Binds X.K fd ps ds) (hd : Vals [] ds) : CallRK X (.builtin "sorted") [Str.ofString "key"] (rSortLots f) := by
  intro pins s σ H vs zs us ws Q I r rz h
  obtain ⟨a, rs, rfl, rfl, ha, hl, q⟩ := h
  obtain rfl := Vals.ref1 r
  obtain rfl := Vals.ref1 rz
  have hr2 : Room k X.A.in1.in1 := (hr.mono hk).in1.in1
  refine sortk (fun r : Row => V.str (S r)) (fun r => .int (r.count 43 : Nat)) I ha hl (alike_int rs _) (Sortable.others fun _ => ⟨(fun z => by cases z), (fun _ z => by cases z)⟩) (fun x _ => ?_) (fun ps' H' s' x u hx _ I' sm hu => ?_) (fun H' s' p sm np I' => ?_)
  · have := hr.un
    have e : (PyData.int (x.count 43 : Nat)).depth = 0 := by simp [PyData.depth]
    omega
  · refine wpAny_mono (run_in2 (vs := [.str (S x)]) (dvs := []) (Q := fun v H2 => Same H' H2 ∧ v = .int (x.count 43 : Nat)) F hr2 hb hd I' (.cons hu .nil) ⟨x, rfl, fun H2 s2 => ⟨s2, rfl⟩⟩) (fun r s2 hq => ?_) fun _ _ e => e
    obtain ⟨y, H2, I2, ry, s2', rfl⟩ := hq
    exact ⟨_, H2, I2, s2', ry, keyInt⟩
  · exact ⟨.ref p, _, I', rfl, q p H' _ sm np⟩
theorem pe_sortLots {X : Cx} {j k : Nat} {p pos np kp : Pos} {e : Expr} {te : TE} (c : C8.Cal X.prog X.w X.K X.mg X.base k "lot_size" (sp_lot_size X.K) []) (hr : Room j X.A) (hk : k + 2 ≤ j) (hg : Gl X "sorted") (hm : X.mg "sorted" = none) (hg2 : Gl X "lot_size") (he : PE X e te)
    (h0 : starEach [e] X.env = (false, eval e X.env) :: starEach [] X.env := by rfl) (h1 : backTo pos (starEach [e] X.env) = (false, eval e X.env) :: backTo pos (starEach [] X.env) := by rfl) (h2 : (backTo pos (starEach [e] X.env)).any (·.1) = false := by rfl)
    (h3 : (backToKw pos (keywordEach [⟨some "key", .Name "lot_size" np, kp⟩] X.env)).all (·.1.isSome) = true := by rfl) (h4 : (backToKw pos (keywordEach [⟨some "key", .Name "lot_size" np, kp⟩] X.env)).any (·.1.isNone) = false := by rfl) (h5 : (backToKw pos (keywordEach [⟨some "key", .Name "lot_size" np, kp⟩] X.env)).filterMap (·.1) = [Str.ofString "key"] := by rfl) :
    PE X (.Call (.Name "sorted" p) [e] [⟨some "key", .Name "lot_size" np, kp⟩] pos) (tSortLots te) := by
  refine ⟨fun pins s σ H Q I h => ?_⟩
  obtain ⟨f, fd, ps, ds, F, hf, hkp, hb, hd⟩ := c.ex
  have := pe_callBK (cr_sortLots F hr hk hb hd) hg hm (by decide +kernel) (pa_cons he pa_nil h0) (pk_cons (nm := some "key") (kpos := kp) (pe_glob hg2 hf (v := .ref f) rfl) pk_nil) (p := p) (pos := pos) (by decide) (by decide) h1 h2 h3 h4 h5
  exact this.run pins s σ H Q I (h f)
end NT
end
/-! ## G11 -/
section
set_option maxHeartbeats 2000000
namespace NT
open PySem PySem.Spec PyProof.Rows L2
open PySem.W (AllAlike Sortable dataLe)
/-! ### a lambda of parameters, no closure: called -/
section
variable {X : Cx} {pins : List (Addr × Obj)} {σ : L2.St} {H : Hp} {s : Shared}
theorem lam_run {A : Around} {k : Nat} {f c' : Addr} {name qual : Str} {params : Arguments} {body : Expr} {scope : Scope} {pm ctv : Value} {N ps : List Str} {us : List Value} {vs : List V} {Q : VK} {tb : TE}
    (of1 : s.heap.get? f = some (PySem.W.kla_obj name qual params body scope [] pm c' ctv)) (hc : H c' = some (LamX.CodeO c' qual)) (S : FnScope N ps scope) (hr : Room (k + 1) A) (e0 : Env0 X.prog X.w X.K X.mg X.base A X.stack s H)
    (hbind : bindArgs (PySem.W.kla_fn name qual params body scope [] pm (.ref c') ctv) ⟨us, []⟩ = pure (ps.zip us)) (I : Inv X pins σ H s) (r : Vals vs us) (hl : vs.length = ps.length)
    (hbody : ∀ (A : Around) (outer : List Env) (s : Shared) (H : Hp), Room k (A.deeper (envOfC qual scope s.heap.objs.size f (.ref c'))) → PE (cxOf C8.CX0 X.prog X.w X.K X.mg X.base N qual scope f (.ref c') A outer s H C8.E0) body tb)
    (h : tb (L2.start N vs) H Q) :
    wpAny (model X.prog X.w) A (call (.ref f) us) (fun r s2 => ∃ y H2, Inv X pins σ H2 s2 ∧ L2.RelV y r ∧ Q y H2) (fun _ _ => False) s := by
  obtain ⟨⟨oc, ws, t, hoc, hdc, hvc⟩, _, _⟩ := I.hok c' _ hc
  have lim : s.heap.NoLimit := e0.mod.nolimit.keeps fun b o e => (e0.bs b o e).1
  have hkind : ∀ y ∈ ps.zip us, scope.names.lookup y.1 = some .local ∨ (scope.names.lookup y.1 = some .cell ∧ ((cellsFrom (s.heap.objs.size + 1) scope.names []).lookup y.1).isSome = true) := fun y hy => by
    obtain ⟨n, v⟩ := y
    have q := S.par n (List.of_mem_zip hy).1
    rcases q with q | q
    · left; exact q
    · right; exact ⟨q, PySem.W.cellsFrom_some _ _ _ (.inl q)⟩
  have rc : codeAny (model X.prog X.w) A (.call (.ref f) ⟨us, []⟩) (CR C8.CX0 X.stack X.prog X.w H s Q C8.E0) s := by
    refine PySem.W.kla_callFunE hr.depth of1 rfl S.co S.gen rfl ⟨c', oc, ws, t, rfl, hoc, hdc, hvc⟩ ?_
    rw [hbind]
    refine wpAny_pure (wpAny_newFunctionEnv_cells S.kind hkind fun env he s1 x => ?_)
    subst he
    refine ⟨lim.keeps x.toInCall.keep, ?_⟩
    have J : Inv (cxOf C8.CX0 X.prog X.w X.K X.mg X.base N qual scope f (.ref c') A X.stack s H C8.E0) [] (L2.start N vs) H s1 := inv_start S hr.hd e0 hl r x
    refine PySem.W.kla_codeExpr (wpAny_mono ((hbody A X.stack s H (hr.deeper _)).run [] s1 _ H Q J h) (fun v s' hq => ?_) fun e s' hq => hq)
    obtain ⟨y, H', J', rv, q⟩ := hq
    exact ⟨y, H', J'.os, J'.bare, J'.base, J'.hok, rv, q⟩
  refine wpAny_call (codeAny_mono rc fun r s' hq => ?_)
  cases r with
  | error e => exact False.elim hq
  | ok fl =>
    cases fl with
    | ret u =>
      obtain ⟨v, H', I3, rv, q3⟩ := I.after hq
      exact ⟨v, H', I3, rv, q3⟩
    | next => exact False.elim hq
    | brk => exact False.elim hq
    | cont => exact False.elim hq
/-- the order of the key (told, row) -/
def keySz (r : Row) : PyData := .tuple [.int (told r : Nat), .str (S r)]
theorem keySz_le : dataLe false keySz = fun a b => decide (told a < told b ∨ (told a = told b ∧ a ≤ b)) := by
  funext a b
  rw [PySem.W.dataLe_eq]
  show (!PySem.W.dataLt (keySz b) (keySz a)) = _
  unfold keySz
  rw [PySem.W.dataLt_pair (by simp [PySem.W.alike]) (by simp [PySem.W.alike]), PySem.W.dataLt_int, PySem.W.dataLt_str]
  rw [show (S b).cps.toList = b from S_list b, show (S a).cps.toList = a from S_list a]
  have e2 : (PyData.eqv (.str (S b)) (.str (S a))) = decide (b = a) := by
    show ((S b : Str) == S a) = _
    by_cases h : b = a
    · subst h; simp
    · rw [decide_eq_false h, beq_eq_false_iff_ne]
      intro z; exact h (S_inj z)
  have e1 : (PyData.eqv (.int (told b : Nat)) (.int (told a : Nat))) = decide (told b = told a) := by
    show (((told b : Nat) : Int) == ((told a : Nat) : Int)) = _
    by_cases h : told b = told a
    · rw [h]; simp
    · rw [decide_eq_false h, beq_eq_false_iff_ne]
      intro z; exact h (by exact_mod_cast z)
  rw [e1, e2]
  by_cases h : told b = told a
  · rw [decide_eq_true h, if_pos rfl]
    by_cases k : b = a
    · rw [decide_eq_true k, if_pos rfl, Bool.not_false]
      symm
      rw [decide_eq_true_iff]
      right; exact ⟨h.symm, by rw [k]; exact List.le_refl a⟩
    · rw [decide_eq_false k, if_neg Bool.false_ne_true]
      by_cases z : b < a
      · have : ¬ a ≤ b := fun q => (List.not_lt.mpr q) z
        simp [z, h, this]
      · have : a ≤ b := List.not_lt.mp z
        simp [z, h, this]
  · rw [decide_eq_false h, if_neg Bool.false_ne_true]
    by_cases z : told b < told a
    · have : ¬ told a < told b := by omega
      have h2 : ¬ told a = told b := by omega
      have h3 : ((told b : Nat) : Int) < ((told a : Nat) : Int) := by omega
      simp [h3, this, h2]
    · have : told a < told b := by omega
      have h3 : ¬ ((told b : Nat) : Int) < ((told a : Nat) : Int) := by omega
      simp [h3, this]
theorem keySz_sort (rs : List Row) : (rs.mergeSort (dataLe false keySz)).Perm rs ∧ (rs.mergeSort (dataLe false keySz)).Pairwise fun a b => told a ≤ told b := by
  refine ⟨List.mergeSort_perm _ _, ?_⟩
  rw [keySz_le]
  have h := List.pairwise_mergeSort (le := fun a b : Row => decide (told a < told b ∨ (told a = told b ∧ a ≤ b))) (fun a b c h1 h2 => ?_) (fun a b => ?_) rs
  · refine h.imp fun {a b} z => ?_
    have z := of_decide_eq_true z
    omega
  · have h1 := of_decide_eq_true h1
    have h2 := of_decide_eq_true h2
    apply decide_eq_true
    rcases h1 with h1 | ⟨h1, h3⟩
    · left; omega
    · rcases h2 with h2 | ⟨h2, h4⟩
      · left; omega
      · right; exact ⟨by omega, List.le_trans h3 h4⟩
  · rw [Bool.or_eq_true, decide_eq_true_iff, decide_eq_true_iff]
    by_cases h1 : told a < told b
    · left; left; exact h1
    · by_cases h2 : told b < told a
      · right; left; exact h2
      · have e : told a = told b := by omega
        rcases List.le_total a b with z | z
        · left; right; exact ⟨e, z⟩
        · right; right; exact ⟨e.symm, z⟩
theorem keyTup {P : Program} {w : World} {t : Addr} {i : Int} {z : Str} {H : Hp} (h : H t = some (.tup [.int i, .str z])) : KeyIs P w (.ref t) (.tuple [.int i, .str z]) H := fun H' g u sm ok r => by
  obtain rfl : u = Value.ref t := r
  obtain ⟨_, vs, rv, ob, e1, e2, n, e3⟩ : ObjOk P w H' g t (.tup [.int i, .str z]) := ok t _ (sm _ _ h)
  cases rv with
  | cons r1 rr =>
    cases rr with
    | cons r2 rr =>
      cases rr
      obtain ⟨t1, rfl⟩ := r1
      obtain ⟨t2, rfl⟩ := r2
      exact Reads.tuple e1 e2 e3 (ReadsAll.cons (as := []) (bs := []) (.int i t1) (ReadsAll.cons (as := []) (bs := []) (.str z t2) .nil))
end
end NT
end
namespace NT
open PySem PySem.Spec PyProof.Rows L2
local macro_rules | `(tactic| walk_at "g1") => `(tactic| first
  | ((with_reducible refine w_var (v := ?vv) ?_ ?hh); (case hh => exact rfl))
  | (with_reducible refine w_c ?_)
  | (with_reducible refine w_op ?_)
  | (with_reducible refine w_un ?_)
  | (with_reducible refine w_I0 ?_)
  | (with_reducible refine w_U ?_)
  | (with_reducible refine w_dot ?_)
  | (with_reducible refine w_ndot ?_)
  | (with_reducible refine w_plusS ?_)
  | (with_reducible refine w_it ?_)
  | (with_reducible refine w_if0 ?_)
  | ((with_reducible refine w_wp ?_ ?hh); (case hh => exact rfl))
  | (with_reducible refine w_eqI ?_)
  | (with_reducible refine w_neI ?_)
  | (with_reducible refine w_eqS ?_)
  | (with_reducible refine w_neS ?_)
  | ((with_reducible refine w_eq ?_ ?hh); (case hh => exact rfl))
  | ((with_reducible refine w_ne ?_ ?hh); (case hh => exact rfl))
  | (with_reducible refine w_isN ?_)
  | (with_reducible refine w_notN ?_)
  | (with_reducible refine w_inS ?_)
  | (with_reducible refine w_notInS ?_)
  | (with_reducible refine w_test ?_)
  | (with_reducible refine w_tB ?_)
  | (with_reducible refine w_bl ?_)
  | (with_reducible refine w_not ?_)
  | (with_reducible refine w_and ?_)
  | (with_reducible refine w_or ?_)
  | (with_reducible refine w_tru ?_)
  | (with_reducible refine w_andV ?_)
  | (with_reducible refine w_orV ?_)
  | (with_reducible refine w_notV ?_)
  | (with_reducible refine w_if ?_)
  | (with_reducible refine w_nil ?_)
  | (with_reducible refine w_cons ?_)
  | (with_reducible refine w_CB ?_)
  | (with_reducible refine w_call ?_)
  | (with_reducible refine w_seq ?_)
  | (with_reducible refine w_asg ?_)
  | (with_reducible refine w_name ?_)
  | (with_reducible refine w_ret ?_)
  | (with_reducible refine w_ifs ?_)
  | (with_reducible refine w_nx ?_)
  | (with_reducible refine w_drop ?_)
  | (with_reducible refine w_par ?_)
  | (with_reducible refine w_par2 ?_)
  | (with_reducible refine w_par3 ?_)
  | (with_reducible refine w_par33 ?_)
  | (with_reducible refine w_lc ?_)
  | (with_reducible refine w_SS ?_)
  | (with_reducible refine w_SS2 ?_)
  | (with_reducible refine w_iStr ?_)
  | (with_reducible refine w_str ?_)
  | (with_reducible refine w_iList ?_)
  | (with_reducible refine w_rng ?_)
  | (with_reducible refine w_for ?_)
  | (with_reducible refine w_enum ?_)
  | ((with_reducible refine w_aref (xs := ?xx) ?hh ?_); (case hh => walk_at "sq"))
  | ((with_reducible refine w_aref2 (xs := ?xx) ?hh ?_); (case hh => walk_at "sq"))
  | (with_reducible refine w_gt2 ?_)
  | (with_reducible refine w_yes ?_)
  | (with_reducible refine w_M1 ?_)
  | (with_reducible refine w_and2 ?_)
  | (with_reducible refine w_abs ?_)
  | (with_reducible refine w_int ?_)
  | ((with_reducible refine w_t0 (x := ?vv) (xs := ?ww) ?_ ?hh); (case hh => walk_at "at"))
  | ((with_reducible refine w_t1 (x := ?vv) (y := ?uu) (xs := ?ww) ?_ ?hh); (case hh => walk_at "at"))
  | ((with_reducible refine w_ixS (c := ?cc) ?_ ?hh ?hl); (case hh => assumption); (case hl => walk_at "om"))
  | ((with_reducible refine w_lenS ?_ ?hl); (case hl => walk_at "om"))
  | ((with_reducible refine w_lenM (α := ?aa) (l := ?ll) (f := ?ff) ?_ ?hh); (case hh => walk_at "sq"))
  | ((with_reducible refine w_lenT (xs := ?xx) ?_ ?hh); (case hh => walk_at "at"))
  | ((with_reducible refine w_lenL (xs := ?xx) ?_ ?hh); (case hh => walk_at "sq"))
  | ((with_reducible refine w_dots ?_ ?hh); (case hh => walk_at "om"))
  | (with_reducible refine w_countD ?_)
  | (with_reducible refine w_count ?_)
  | ((with_reducible refine w_rng2 ?_ ?hh); (case hh => walk_at "om"))
  | (with_reducible refine w_str ?_)
  | (with_reducible refine w_chain ?_)
  | (with_reducible refine w_ifnT ?_)
  | (with_reducible refine w_ifnF ?_)
  | (with_reducible refine w_isi_ss ?_)
  | (with_reducible refine w_isi_ii ?_)
  | (with_reducible refine w_isi_ib ?_)
  | ((with_reducible refine w_isi_tt (xs := ?xx) ?hh ?_); (case hh => walk_at "at"))
  | ((with_reducible refine w_isT_l (xs := ?xx) ?h1 ?h2 ?_); (case h1 => walk_at "at"); (case h2 => walk_at "at"))
  | ((with_reducible refine w_decT ?hh ?_); (case hh => walk_at "ar"))
  | ((with_reducible refine w_decF ?hh ?_); (case hh => walk_at "ar"))
  | ((with_reducible refine w_ndecT ?hh ?_); (case hh => walk_at "ar"))
  | ((with_reducible refine w_ndecF ?hh ?_); (case hh => walk_at "ar"))
  | ((with_reducible refine w_inL (l := ?ll) ?hh ?_); (case hh => walk_at "sq"))
  | ((with_reducible refine w_ninL (l := ?ll) ?hh ?_); (case hh => walk_at "sq"))
  | ((with_reducible refine w_pnew ?_ ?hh); (case hh => exact rfl); (intro p hp))
  | (with_reducible refine w_SL ?_)
  | ((with_reducible refine w_SL2 (xs := ?xx) ?hh ?_); (case hh => walk_at "sq"))
  | (with_reducible refine w_sl ?_)
  | (with_reducible refine w_nopart ?_)
  | (with_reducible refine w_part ?_)
  | (with_reducible refine w_part2 ?_)
  | ((with_reducible refine w_gt2T (x := ?xx) (y := ?yy) ?hh ?_); (case hh => walk_at "at"))
  | ((with_reducible refine w_gt3T (x := ?xx) (y := ?yy) (z := ?zz) ?hh ?_); (case hh => walk_at "at"))
  | (with_reducible refine w_bm ?_)
  | (with_reducible refine w_bm0 ?_)
  | ((with_reducible refine w_tyL (xs := ?xx) ?hh ?_); (case hh => walk_at "at"))
  | ((with_reducible refine w_dnew ?_); intro p hp)
  | (with_reducible refine w_lkeys ?_)
  | (with_reducible refine w_lvals ?_)
  | (with_reducible refine w_svals ?_)
  | ((with_reducible refine w_disp ?_); intro p hp)
  | ((with_reducible refine w_dend ?hh ?_); (case hh => walk_at "at"))
  | ((with_reducible refine w_l0 (x0 := ?x0) (x1 := ?x1) (x2 := ?x2) (x3 := ?x3) (x4 := ?x4) ?_ ?hh); (case hh => walk_at "at"))
  | ((with_reducible refine w_l1 (x0 := ?x0) (x1 := ?x1) (x2 := ?x2) (x3 := ?x3) (x4 := ?x4) ?_ ?hh); (case hh => walk_at "at"))
  | ((with_reducible refine w_l2 (x0 := ?x0) (x1 := ?x1) (x2 := ?x2) (x3 := ?x3) (x4 := ?x4) ?_ ?hh); (case hh => walk_at "at"))
  | ((with_reducible refine w_l3 (x0 := ?x0) (x1 := ?x1) (x2 := ?x2) (x3 := ?x3) (x4 := ?x4) ?_ ?hh); (case hh => walk_at "at"))
  | ((with_reducible refine w_l4 (x0 := ?x0) (x1 := ?x1) (x2 := ?x2) (x3 := ?x3) (x4 := ?x4) ?_ ?hh); (case hh => walk_at "at"))
  | ((with_reducible refine w_s1 (x0 := ?x0) (x1 := ?x1) (x2 := ?x2) (x3 := ?x3) (x4 := ?x4) ?_ ?hh); (case hh => walk_at "at"))
  | ((with_reducible refine w_s2 (x0 := ?x0) (x1 := ?x1) (x2 := ?x2) (x3 := ?x3) (x4 := ?x4) ?_ ?hh); (case hh => walk_at "at"))
  | ((with_reducible refine w_s3 (x0 := ?x0) (x1 := ?x1) (x2 := ?x2) (x3 := ?x3) (x4 := ?x4) ?_ ?hh); (case hh => walk_at "at"))
  | ((with_reducible refine w_s4 (x0 := ?x0) (x1 := ?x1) (x2 := ?x2) (x3 := ?x3) (x4 := ?x4) ?_ ?hh); (case hh => walk_at "at"))
  | (with_reducible refine w_gsub ?_)
  | (with_reducible refine w_fld1 ?_)
  | ((with_reducible refine w_fld2 (C := ?CC) (dx := ?dx) (fs := ?fs) (v := ?vv) ?h1 ?h2 ?h3 ?h4 ?_); (case h1 => walk_at "at"); (case h2 => assumption); (case h3 => assumption); (case h4 => assumption))
  | (with_reducible refine w_meth ?_)
  | ((with_reducible refine w_meth2 (dx := ?dx) (fs := ?fs) ?h1 ?h2 ?_); (case h1 => walk_at "at"); (case h2 => assumption))
  | (with_reducible refine w_prop ?_)
  | ((with_reducible refine w_prop2 (dx := ?dx) (fs := ?fs) ?h1 ?_); (case h1 => walk_at "at"))
  | (with_reducible refine w_sfld ?_)
  | (with_reducible refine w_make ?_)
  | (with_reducible refine w_dc ?_)
  | (with_reducible refine w_dget ?_)
  | (with_reducible refine w_dget2 ?_)
  | (with_reducible refine w_din ?_)
  | (with_reducible refine w_dnin ?_)
  | (with_reducible refine w_dput ?_)
  | (with_reducible refine w_items ?_)
  | (with_reducible refine w_vals ?_)
  | (with_reducible refine w_keysM ?_)
  | (with_reducible refine w_keys ?_)
  | ((with_reducible refine w_frz (od := ?oo) (kvs := ?kk) ?hh ?_); (case hh => walk_at "at"))
  | ((with_reducible refine w_frzK (od := ?oo) (kvs := ?kk) ?hh ?_); (case hh => walk_at "at"))
  | ((with_reducible refine w_sortLots ?_); intro fkey)
  | (with_reducible refine w_tup ?_)
  | (with_reducible refine w_lst ?_))
local macro_rules | `(tactic| walk_at "ar") => `(tactic| first | omega | exact rfl)
local macro_rules | `(tactic| walk_at "om") => `(tactic| first | assumption | omega)
local macro_rules | `(tactic| walk_at "go") => `(tactic| repeat (walk_at "g1"))
local macro_rules | `(tactic| walk_at "sm") => `(tactic| first
  | exact Same.refl _
  | assumption
  | exact same_new (by assumption)
  | (refine Same.trans ?_ (same_new (by assumption)); walk_at "sm")
  | (refine same_mut ?_ (by assumption); walk_at "sm")
  | (refine Same.trans ?_ (by assumption); walk_at "sm"))
local macro_rules | `(tactic| walk_at "sq") => `(tactic| first
  | assumption
  | ((refine Same.seq ?_ (by assumption)); walk_at "sm"))
local macro_rules | `(tactic| walk_at "at") => `(tactic| first
  | assumption
  | exact upd_same
  | exact (by assumption : Same _ _) _ _ (by assumption)
  | ((refine (?ss : Same _ _) _ _ (by assumption)); (case ss => walk_at "sm")))
local macro_rules | `(tactic| walk_at "lg") => `(tactic| first | assumption | (rw [Int.natAbs_natCast]; omega))
local macro_rules | `(tactic| walk_at "sb") => `(tactic| first
  | exact SBut.refl
  | assumption
  | exact same_but (by assumption)
  | exact sbut_new (by assumption)
  | (refine SBut.trans ?_ (sbut_new (by assumption)); walk_at "sb")
  | (refine sbut_mut ?_ (by assumption); walk_at "sb")
  | (refine SBut.trans ?_ (by assumption); walk_at "sb")
  | (refine SBut.trans ?_ (same_but (by assumption)); walk_at "sb"))
/-! ## F20 -/
section
set_option maxHeartbeats 2000000
open PySem PySem.Spec PyProof.Rows L2


variable {P : Program} {w : World} {K : PySem.W.Frag} {mg : Str → Option Value} {base : Heap}
def sp_ordered_lots (K : PySem.W.Frag) : Sp := fun vs H Q _ => ∃ a rs, vs = [.ref a] ∧ H a = some (.lst (rowL rs)) ∧ rs.length < 64 ∧ ∀ (p : Addr) (H' : Hp) (l : List Row), Same H H' → H p = none → H' p = some (.lst (rowL l)) → Q (.ref p) H'
theorem rowL_of (ys : List Str) : ys.map V.str = rowL (ys.map fun y => y.cps.toList) := by
  unfold rowL
  rw [List.map_map]
  rfl
abbrev nm_ordered_lots : List Str := ["lots"]
theorem sc_ordered_lots : FnScope nm_ordered_lots ["lots"] (defScope s_ordered_lots) := ⟨rfl, rfl, rfl, by decide +kernel, rfl, by decide +kernel, by decide +kernel⟩
abbrev t_ordered_lots (K : PySem.W.Frag) (P : Program) (w : World) : TS := (tRet (tSortLots (tCB (rSortTx P w) (tCons (tCB (rSetTx K P w) (tCons (tVar 0) tNil)) tNil))))
theorem c_ordered_lots (T : Tx K mg) : C8.Cal P w K mg base 4 "ordered_lots" (sp_ordered_lots K) [] := by
  refine calG T.f_ordered_lots (fun _ _ _ _ _ _ us hl => match us, hl with | [_], _ => rfl) sc_ordered_lots (fun vs H Q E h => ?_) (fun f cdv A outer s H vs Q E hr h => have hu := hu_of hr; ⟨t_ordered_lots K P w, (pss_one (ps_ret (pe_sortLots (c_lot_size T) hr (by decide) (by rfl) T.b_sorted (by rfl) (pe_callB (cr_sortTx rfl) (by rfl) T.b_sorted bt_sorted (pa_cons (pe_callTy (cr_setTx rfl) (by rfl) T.b_set bt_set (pa_cons (pv 0) pa_nil)) pa_nil))))), ?_⟩)
  · obtain ⟨a, rs, rfl, _⟩ := h
    rfl
  · obtain ⟨a, rs, rfl, ha, hl, k⟩ := h
    walk_at "go"
    refine ⟨a, rs.map S, rfl, .inl (.inl (by rw [ha]; show _ = some (HO.lst (List.map _ _)); rw [List.map_map]; rfl)), by rw [List.length_map]; exact hl, fun l p np hl1 hl2 => ?_⟩
    walk_at "go"
    refine ⟨p, l, rfl, upd_same, hl2, fun ys p2 hy hy2 np2 => ?_⟩
    rw [rowL_of]
    refine w_sortLots2 upd_same (by rw [List.length_map]; omega) fun p3 H' l3 s3 np3 => ?_
    have s1 := (same_new (o := TxO P w p l) np).trans (same_new (o := .lst (rowL (ys.map fun y => y.cps.toList))) np2)
    have n3 : H p3 = none := by
      cases e : H p3 with
      | none => rfl
      | some o => have := s3 _ _ (s1 _ _ e); rw [np3] at this; cases this
    exact k p3 _ l3 ((s1.trans s3).trans (same_new np3)) n3 upd_same
end
/-! ## F21 -/
section
set_option maxHeartbeats 2000000
open PySem PySem.Spec PyProof.Rows L2


variable {P : Program} {w : World} {K : PySem.W.Frag} {mg : Str → Option Value} {base : Heap}
abbrev nm_Band_init : List Str := ["self", "cells", "seeds", "most", "rows", "row"]
theorem sc_Band_init : FnScope nm_Band_init ["self", "cells", "seeds", "most"] (defScope s_Band_init) := ⟨rfl, rfl, rfl, by decide +kernel, rfl, by decide +kernel, by decide +kernel⟩
abbrev t_Band_init (K : PySem.W.Frag) : TS := (tSeq (tDrop (tCall (sp_check_cells K) [] E0 (tCons (tVar 1) tNil)))
    (tSeq (tDrop (tCall (sp_check_seeds K) [] E0 (tCons (tVar 1) (tCons (tVar 2) tNil))))
    (tSeq (tIfS (tNot (tB (tCall (sp_is_number K) [] E0 (tCons (tVar 3) (tCons (tC (.int 1)) (tCons (tC (.int 800)) tNil)))))) tNever tNext)
    (tSeq (tAsg (tCall (sp_grown_rows K) [] E0 (tCons (tVar 2) (tCons (tCall (sp_blank K) [] E0 (tCons (tCB (rLenQ K) (tCons (tVar 1) tNil)) tNil)) (tCons (tVar 3) tNil)))) (gName 4))
    (tSeq (tIfS (tTest (tOp rGtI (tCB (rLenQ K) (tCons (tVar 4) tNil)) (tVar 3))) tNever tNext)
    (tSeq (sFld K (tVar 0) (tCB (rListQ K) (tCons (tVar 1) tNil)) "cell_list")
    (tSeq (sFld K (tVar 0) (tCB (rListQ K) (tCons (tVar 2) tNil)) "seed_list")
    (tSeq (sFld K (tVar 0) (tCB (rSortedS K) (tCons (tVar 4) tNil)) "row_list")
    (tSeq (sFld K (tVar 0) (tDc (iList K (tVar 4)) (gName 5) tYes (tVar 5) (tC (.bl true)) [5]) "known_rows")
    (sFld K (tVar 0) (tCall (sp_ordered_lots K) [] E0 (tCons (tLc (iList K (tVar 4)) (gName 5) tYes (tCall (sp_lot_of K) [] E0 (tCons (tVar 5) tNil)) [5]) tNil)) "lot_list"))))))))))
theorem k_Band (T : Tx K mg) : C8.Mak P w K mg base 6 "Band" (He.ga K "Band") (sp_Band_init K) [.int 800] := by
  refine makK (n := 3) (kws := [("most", .int 800)]) T.g_Band T.mk_Band T.f_Band_init (List.cons_ne_nil _ _) rfl ?_ sc_Band_init (fun vs H Q E h => ?_) (fun f cdv A outer s H vs Q E hr h => have hu := hu_of hr; ⟨t_Band_init K, (pss_cons (ps_expr (C8.pe_c (c_check_cells T) hr (by decide) (by rfl) (pa_cons (pv 1) pa_nil)))
      (pss_cons (ps_expr (C8.pe_c (c_check_seeds T) hr (by decide) (by rfl) (pa_cons (pv 1) (pa_cons (pv 2) pa_nil))))
      (pss_cons (ps_if (pt_not (pt_val (C8.pe_c (c_is_number T) hr (by decide) (by rfl) (pa_cons (pv 3) (pa_cons pe_int (pa_cons (pe_gint (by rfl) T.c_MOST_ROWS) pa_nil)))))) pss_never pss_nil)
      (pss_cons (ps_set (i := 4) sc_Band_init.nd rfl (Or.inl rfl) (C8.pe_c (c_grown_rows T) hr (by decide) (by rfl) (pa_cons (pv 2) (pa_cons (C8.pe_c (c_blank T) hr (by decide) (by rfl) (pa_cons (pe_callB call_len_seq (by rfl) T.b_len bt_len (pa_cons (pv 1) pa_nil)) pa_nil)) (pa_cons (pv 3) pa_nil)))))
      (pss_cons (ps_if (pt_cmpR op_gt (pe_callB call_len_seq (by rfl) T.b_len bt_len (pa_cons (pv 4) pa_nil)) (pv 3) (nomark _)) pss_never pss_nil)
      (pss_cons (ps_fld (pv 0) (pe_callTy call_list_of (by rfl) T.b_list bt_list (pa_cons (pv 1) pa_nil)) rfl)
      (pss_cons (ps_fld (pv 0) (pe_callTy call_list_of (by rfl) T.b_list bt_list (pa_cons (pv 2) pa_nil)) rfl)
      (pss_cons (ps_fld (pv 0) (pe_callB cr_sortedS (by rfl) T.b_sorted bt_sorted (pa_cons (pv 4) pa_nil)) rfl)
      (pss_cons (ps_fld (pv 0) (pe_dc (own := [("row", 5)]) rfl sc_Band_init.nd (pi_list (pv 4)) (blkOk_by (own := [("row", 5)]) (N := nm_Band_init) (sc := (defScope s_Band_init)) (by decide +kernel)) (fun _ _ _ _ _ => (pg_name (i := 5) sc_Band_init.nd rfl (Or.inl rfl) (hf := Or.inr rfl))) (fun _ _ _ _ _ => pts_nil) (fun _ _ _ _ _ => (pv 5)) (fun _ _ _ _ _ => pe_bl)) rfl)
      (pss_one (ps_fld (pv 0) (C8.pe_c (c_ordered_lots T) hr (by decide) (by rfl) (pa_cons (pe_lc (own := [("row", 5)]) rfl sc_Band_init.nd (pi_list (pv 4)) (blkOk_by (own := [("row", 5)]) (N := nm_Band_init) (sc := (defScope s_Band_init)) (by decide +kernel)) (fun _ _ _ _ _ => (pg_name (i := 5) sc_Band_init.nd rfl (Or.inl rfl) (hf := Or.inr rfl))) (fun _ _ _ _ _ => pts_nil) (fun _ _ _ _ _ => (C8.pe_c (c_lot_of T) hr (by decide) (by rfl) (pa_cons (pv 5) pa_nil)))) pa_nil)) rfl))))))))))), ?_⟩)
  · intro D doc pm an cdv ct us ks h1 h2
    match us, ks, h1, h2 with
    | [a, b, c], [d], _, _ => exact ⟨_, _, _, _, _, _, rfl, rfl, rfl⟩
  · obtain ⟨x, dx, a, b, cs, ss, rfl, _⟩ := h
    rfl
  · obtain ⟨x, dx, a, b, cs, ss, rfl, hx, hC, hk, hB, hS, hF, k⟩ := h
    have c1 := T.cl_Band
    have n1 := T.na_Band_cell_list
    have n2 := T.na_Band_seed_list
    have n3 := T.na_Band_row_list
    have n4 := T.na_Band_known_rows
    have n5 := T.na_Band_lot_list
    walk_at "go"
    refine ⟨a, cs, rfl, hC, hk, fun H1 s1 => ?_⟩
    walk_at "go"
    refine ⟨a, b, cs, ss, rfl, hC.same s1, hk, s1 _ _ hB, hS, fun H2 s2 => ?_⟩
    walk_at "go"
    refine ⟨_, _, _, rfl, by decide, by decide, fun H3 s3 => ?_⟩
    have hn6 := hk.few
    have sH3 := (s1.trans s2).trans s3
    have hCq : SqL K H3 a (cs.map fun c => .ref c.p) := .inl (.inl (sH3 _ _ hC.l))
    walk_at "go"
    refine ⟨cs.length, rfl, by omega, fun H4 s4 => ?_⟩
    walk_at "go"
    have sH4 := sH3.trans s4
    refine ⟨b, ss, cs.length, rfl, sH4 _ _ hB, by omega, by have := hS.few; omega, fun s hs => (hS.fit s hs).1, hF, fun pr H5 rs s5 npr hr rnd rfew rm => ?_⟩
    have sH5 := sH4.trans s5
    have hrq : SqL K H5 pr (rowL rs) := .inl (.inl hr)
    walk_at "go"
    have hx5 := sH5 _ _ hx
    have hprx : pr ≠ x := (ne_of_none (sH4 _ _ hx) npr).symm
    refine ⟨a, _, rfl, .inl (.inl (.inl (sH5 _ _ hC.l))), fun l1 nl1 => ?_⟩
    have hl1x : l1 ≠ x := (ne_of_none hx5 nl1).symm
    walk_at "go"
    refine w_sfld2 (same_new nl1 _ _ hx5) c1 n1 (by show 0 < 1000; decide) ?_
    have S6 : SBut x H (upd (upd H5 l1 (.lst (cs.map fun c => .ref c.p))) x (.ins (He.ga K "Band") dx (putF "cell_list" (.ref l1) []))) := (same_but (sH5.trans (same_new nl1))).trans sbut_upd
    have hx6 : (upd (upd H5 l1 (.lst (cs.map fun c => .ref c.p))) x (.ins (He.ga K "Band") dx (putF "cell_list" (.ref l1) []))) x = _ := upd_same
    have hl16 : (upd (upd H5 l1 (.lst (cs.map fun c => .ref c.p))) x (.ins (He.ga K "Band") dx (putF "cell_list" (.ref l1) []))) l1 = some (.lst (cs.map fun c => .ref c.p)) := by rw [upd_ne hl1x]; exact upd_same
    have hpr6 : (upd (upd H5 l1 (.lst (cs.map fun c => .ref c.p))) x (.ins (He.ga K "Band") dx (putF "cell_list" (.ref l1) []))) pr = some (.lst (rowL rs)) := by rw [upd_ne hprx]; exact same_new nl1 _ _ hr
    generalize upd (upd H5 l1 (.lst (cs.map fun c => .ref c.p))) x (.ins (He.ga K "Band") dx (putF "cell_list" (.ref l1) [])) = H6 at S6 hx6 hl16 hpr6 ⊢
    walk_at "go"
    have hbx : b ≠ x := ne_of hB hx (by intro z; cases z)
    refine ⟨b, _, rfl, .inl (.inl (.inl (S6 _ _ hbx hB))), fun l2 nl2 => ?_⟩
    have hl2x : l2 ≠ x := (ne_of_none hx6 nl2).symm
    walk_at "go"
    refine w_sfld2 (same_new nl2 _ _ hx6) c1 n2 (by show 1 < 1000; decide) ?_
    have S7 : SBut x H6 (upd (upd H6 l2 (.lst (rowL ss))) x (.ins (He.ga K "Band") dx (putF "seed_list" (.ref l2) (putF "cell_list" (.ref l1) [])))) := (same_but (same_new nl2)).trans sbut_upd
    have hx7 : upd (upd H6 l2 (.lst (rowL ss))) x (.ins (He.ga K "Band") dx (putF "seed_list" (.ref l2) (putF "cell_list" (.ref l1) []))) x = _ := upd_same
    have hl27 : upd (upd H6 l2 (.lst (rowL ss))) x (.ins (He.ga K "Band") dx (putF "seed_list" (.ref l2) (putF "cell_list" (.ref l1) []))) l2 = some (.lst (rowL ss)) := by rw [upd_ne hl2x]; exact upd_same
    generalize upd (upd H6 l2 (.lst (rowL ss))) x (.ins (He.ga K "Band") dx (putF "seed_list" (.ref l2) (putF "cell_list" (.ref l1) []))) = H7 at S7 hx7 hl27 ⊢
    have hl17 := S7 _ _ hl1x hl16
    have hpr7 := S7 _ _ hprx hpr6
    have S7 := S6.trans S7
    walk_at "go"
    refine w_sortedR (l := rs) (.inl (.inl hpr7)) (by omega) fun l' l3 _ _ nl3 => ?_
    have hl3x : l3 ≠ x := (ne_of_none hx7 nl3).symm
    walk_at "go"
    refine w_sfld2 (same_new nl3 _ _ hx7) c1 n3 (by show 2 < 1000; decide) ?_
    have S8 : SBut x H7 (upd (upd H7 l3 (.lst (l'.map fun r => .str (S r)))) x (.ins (He.ga K "Band") dx (putF "row_list" (.ref l3) (putF "seed_list" (.ref l2) (putF "cell_list" (.ref l1) []))))) := (same_but (same_new nl3)).trans sbut_upd
    have hx8 : (upd (upd H7 l3 (.lst (l'.map fun r => .str (S r)))) x (.ins (He.ga K "Band") dx (putF "row_list" (.ref l3) (putF "seed_list" (.ref l2) (putF "cell_list" (.ref l1) []))))) x = _ := upd_same
    generalize (upd (upd H7 l3 (.lst (l'.map fun r => .str (S r)))) x (.ins (He.ga K "Band") dx (putF "row_list" (.ref l3) (putF "seed_list" (.ref l2) (putF "cell_list" (.ref l1) []))))) = H8 at S8 hx8 ⊢
    have hl18 := S8 _ _ hl1x hl17
    have hl28 := S8 _ _ hl2x hl27
    have hpr8 := S8 _ _ hprx hpr7
    have S8 := S7.trans S8
    clear S7 S6
    have hq8 : SqL K H8 pr (rowL rs) := .inl (.inl hpr8)
    walk_at "go"
    refine dc_val1 rs (fun r => r) (fun _ => .bl true) walk_listM (by omega) (by rw [List.map_id']; exact rnd) (fun H' s => .inl (.inl (s _ _ hpr8))) ?_ ?_
    · rintro i r v H2 H3 R hi s ⟨rfl, r', hr', rfl⟩ k1
      obtain rfl : r' = r := Option.some.inj (hr'.symm.trans hi)
      walk_at "go"
      exact k1 _ (Same.refl _)
    · intro D H9 nD s9 hD
      have hDx : D ≠ x := (ne_of_none hx8 nD).symm
      walk_at "go"
      refine w_sfld2 (s9 _ _ hx8) c1 n4 (by show 3 < 1000; decide) ?_
      have S9 : SBut x H8 (upd H9 x (.ins (He.ga K "Band") dx (putF "known_rows" (.ref D) (putF "row_list" (.ref l3) (putF "seed_list" (.ref l2) (putF "cell_list" (.ref l1) [])))))) := (same_but s9).trans sbut_upd
      have hx9 : (upd H9 x (.ins (He.ga K "Band") dx (putF "known_rows" (.ref D) (putF "row_list" (.ref l3) (putF "seed_list" (.ref l2) (putF "cell_list" (.ref l1) [])))))) x = _ := upd_same
      have hD9 : (upd H9 x (.ins (He.ga K "Band") dx (putF "known_rows" (.ref D) (putF "row_list" (.ref l3) (putF "seed_list" (.ref l2) (putF "cell_list" (.ref l1) [])))))) D = some (.dK (KD (fun b : Bool => V.bl b) (knownD rs))) := by
        rw [upd_ne hDx, hD]
        unfold KD
        rw [List.map_map]
        rfl
      generalize (upd H9 x (.ins (He.ga K "Band") dx (putF "known_rows" (.ref D) (putF "row_list" (.ref l3) (putF "seed_list" (.ref l2) (putF "cell_list" (.ref l1) [])))))) = H10 at S9 hx9 hD9 ⊢
      have hl110 := S9 _ _ hl1x hl18
      have hl210 := S9 _ _ hl2x hl28
      have hpr10 := S9 _ _ hprx hpr8
      have S10 := S8.trans S9
      have hq10 : SqL K H10 pr (rowL rs) := .inl (.inl hpr10)
      walk_at "go"
      refine lc_val1 rs (fun r => .str (S (lot r))) walk_listM (by omega) (fun H' s => .inl (.inl (s _ _ hpr10))) ?_ ?_
      · rintro i r v H2 H3 R hi s ⟨rfl, r', hr', rfl⟩ k1
        obtain rfl : r' = r := Option.some.inj (hr'.symm.trans hi)
        have hlen : r'.length = cs.length := ((rm r').mp (List.mem_of_getElem? hi)).len fun s hs => (hS.fit s hs).1
        walk_at "go"
        exact ⟨r', rfl, by omega, fun H4 s4 => k1 _ s4⟩
      · intro D2 H11 nD2 s11 hD2
        walk_at "go"
        refine ⟨D2, rs.map lot, rfl, by rw [hD2]; show _ = some (HO.lst (List.map _ _)); rw [List.map_map]; rfl, by rw [List.length_map]; omega, fun p H12 l s12 np hp => ?_⟩
        have s12 := s11.trans s12
        walk_at "go"
        refine w_sfld2 (s12 _ _ hx9) c1 n5 (by show 4 < 1000; decide) ?_
        refine k _ rs (S10.trans ((same_but s12).trans sbut_upd)) ⟨dx, _, l1, l2, D, upd_same, ?_, ?_, ?_, ⟨?_, fun c hc => ?_⟩, ?_, ?_, ?_, ?_, ?_⟩ rm
        · repeat rw [lookup_putF]
          rfl
        · repeat rw [lookup_putF]
          rfl
        · repeat rw [lookup_putF]
          rfl
        · rw [upd_ne hl1x]; exact s12 _ _ hl110
        · have h1 := hC.c c hc
          have h2 : c.p ≠ x := ne_of h1 hx (by intro z; cases z)
          unfold CellOk at h1 ⊢
          rw [upd_ne h2]
          exact s12 _ _ (S10 _ _ h2 h1)
        · rw [upd_ne hl2x]; exact s12 _ _ hl210
        · rw [upd_ne hDx]; exact s12 _ _ hD9
        · repeat rw [lookup_putF]
          rfl
        · repeat rw [lookup_putF]
          rfl
        · repeat rw [lookup_putF]
          rfl
end
/-! ## G4 -/
section
set_option maxHeartbeats 2000000
open PySem PySem.Spec PyProof.Rows L2
/-! ### a band onto some places -/
def cellAt (cs : List Cell) (i : Nat) : Cell := cs.getD i ⟨0, [], 0⟩
def cutC (cs : List Cell) (ps : List Nat) : List Cell := ps.map (cellAt cs)
structure PlOk (n : Nat) (ps : List Nat) : Prop where
  nd : ps.Nodup
  lt : ∀ i ∈ ps, i < n
  ne : ps ≠ []
theorem cellAt_get {cs : List Cell} {i : Nat} (h : i < cs.length) : cs[i]? = some (cellAt cs i) := by
  unfold cellAt
  rw [List.getD_eq_getElem?_getD, List.getElem?_eq_getElem h]
  rfl
theorem cellAt_mem {cs : List Cell} {i : Nat} (h : i < cs.length) : cellAt cs i ∈ cs := List.mem_of_getElem? (cellAt_get h)
theorem nameAt_cell {cs : List Cell} {i : Nat} (h : i < cs.length) : nameAt cs i = (cellAt cs i).nm := by
  unfold nameAt
  rw [List.getElem?_map, cellAt_get h]
  rfl
theorem name_inj {cs : List Cell} (nd : (cs.map Cell.nm).Nodup) {i j : Nat} (hi : i < cs.length) (hj : j < cs.length) (h : nameAt cs i = nameAt cs j) : i = j := by
  have h1 : (cs.map Cell.nm)[i]? = (cs.map Cell.nm)[j]? := by
    rw [List.getElem?_map, List.getElem?_map, cellAt_get hi, cellAt_get hj]
    rw [nameAt_cell hi, nameAt_cell hj] at h
    exact congrArg some h
  exact (List.getElem?_inj (by rw [List.length_map]; exact hi) nd).mp h1
theorem PlOk.len {n : Nat} {ps : List Nat} (h : PlOk n ps) : ps.length ≤ n := by
  have := nodup_len ps (List.range n) h.nd fun i hi => List.mem_range.mpr (h.lt i hi)
  rwa [List.length_range] at this
theorem cutC_len (cs : List Cell) (ps : List Nat) : (cutC cs ps).length = ps.length := by unfold cutC; rw [List.length_map]
theorem cutR_len (x : Row) (ps : List Nat) : (cutR x ps).length = ps.length := by unfold cutR; rw [List.length_map]
theorem cutC_nm {cs : List Cell} {ps : List Nat} (h : ∀ i ∈ ps, i < cs.length) : (cutC cs ps).map Cell.nm = ps.map (nameAt cs) := by
  unfold cutC
  rw [List.map_map]
  apply List.map_congr_left
  intro i hi
  exact (nameAt_cell (h i hi)).symm
theorem nodup_map {α β : Type} {f : α → β} : ∀ {l : List α}, l.Nodup → (∀ a ∈ l, ∀ b ∈ l, f a = f b → a = b) → (l.map f).Nodup
  | [], _, _ => List.nodup_nil
  | a :: l, n, h => by
    obtain ⟨h1, h2⟩ := List.nodup_cons.mp n
    rw [List.map_cons]
    refine List.nodup_cons.mpr ⟨fun hm => ?_, nodup_map h2 fun x hx y hy => h x (List.mem_cons_of_mem _ hx) y (List.mem_cons_of_mem _ hy)⟩
    obtain ⟨b, hb, e⟩ := List.mem_map.mp hm
    have := h b (List.mem_cons_of_mem _ hb) a List.mem_cons_self e
    exact h1 (this ▸ hb)
theorem CellsOk.onto {cs : List Cell} {ps : List Nat} (h : CellsOk cs) (p : PlOk cs.length ps) : CellsOk (cutC cs ps) := by
  have hl := p.len
  have hf := h.few
  have hne : 1 ≤ ps.length := List.length_pos_iff.mpr p.ne
  refine ⟨by rw [cutC_len]; exact hne, by rw [cutC_len]; omega, fun c hc => ?_, fun c hc => ?_, ?_⟩
  · obtain ⟨i, hi, rfl⟩ := List.mem_map.mp hc
    exact h.names _ (cellAt_mem (p.lt i hi))
  · obtain ⟨i, hi, rfl⟩ := List.mem_map.mp hc
    exact h.ks _ (cellAt_mem (p.lt i hi))
  · rw [cutC_nm p.lt]
    exact nodup_map p.nd fun a ha b hb e => name_inj h.nd (p.lt a ha) (p.lt b hb) e
theorem cutR_get {x : Row} {ps : List Nat} (h : ∀ i ∈ ps, i < x.length) {j i : Nat} (hj : ps[j]? = some i) : (cutR x ps)[j]? = x[i]? := by
  unfold cutR
  rw [List.getElem?_map, hj]
  have := h i (List.mem_of_getElem? hj)
  simp [List.getD_eq_getElem?_getD, this]
theorem Fits.onto {cs : List Cell} {x : Row} {ps : List Nat} (h : Fits cs x) (p : PlOk cs.length ps) : Fits (cutC cs ps) (cutR x ps) := by
  refine ⟨by rw [cutR_len, cutC_len], fun j c k hc hk => ?_⟩
  cases e : ps[j]? with
  | none =>
    unfold cutR at hc
    rw [List.getElem?_map, e] at hc
    cases hc
  | some i =>
    rw [cutR_get (by rw [h.1]; exact p.lt) e] at hc
    unfold cutC at hk
    rw [List.getElem?_map, e] at hk
    refine h.2 i c k hc ?_
    rw [cellAt_get (p.lt i (List.mem_of_getElem? e))]
    exact hk
theorem cut_blank (n : Nat) {ps : List Nat} (h : ∀ i ∈ ps, i < n) : cutR (List.replicate n 46) ps = List.replicate ps.length 46 := by
  unfold cutR
  rw [List.eq_replicate_iff]
  refine ⟨by rw [List.length_map], fun b hb => ?_⟩
  obtain ⟨i, hi, rfl⟩ := List.mem_map.mp hb
  simp [List.getD_eq_getElem?_getD, h i hi]
theorem cut_ov {x y : Row} {n : Nat} (hx : x.length = n) (hy : y.length = n) : ∀ {ps : List Nat}, (∀ i ∈ ps, i < n) → cutR (ov x y) ps = ov (cutR x ps) (cutR y ps)
  | [], _ => rfl
  | i :: ps, h => by
    have ih := cut_ov hx hy (ps := ps) fun j hj => h j (List.mem_cons_of_mem _ hj)
    have hi := h i List.mem_cons_self
    unfold cutR at ih ⊢
    simp only [List.map_cons, ov, ih]
    congr 1
    rw [List.getD_eq_getElem?_getD, ov_get, List.getD_eq_getElem?_getD, List.getD_eq_getElem?_getD]
    have h1 : x[i]? = some (x[i]'(by omega)) := by simp [hx, hi]
    have h2 : y[i]? = some (y[i]'(by omega)) := by simp [hy, hi]
    rw [h1, h2]
    rfl
/-- the seeds that are kept, so far -/
structure KeptI (cs : List Cell) (ss : List Row) (ps : List Nat) (kl : List Row) (i : Nat) : Prop where
  few : kl.length ≤ i
  nb : ∀ x ∈ kl, x ≠ List.replicate ps.length 46
  nd : kl.Nodup
  of : ∀ x ∈ kl, ∃ s ∈ ss, x = cutR s ps
  all : ∀ (j : Nat) (s : Row), j < i → ss[j]? = some s → cutR s ps ≠ List.replicate ps.length 46 → cutR s ps ∈ kl
theorem KeptI.seeds {cs : List Cell} {ss kl : List Row} {ps : List Nat} (hs : SeedsOk cs ss) (p : PlOk cs.length ps) (I : KeptI cs ss ps kl ss.length) : SeedsOk (cutC cs ps) kl := by
  refine ⟨Nat.le_trans I.few hs.few, fun x hx => ?_, fun x hx => by rw [cutC_len]; exact I.nb x hx, I.nd, fun j hj => ?_⟩
  · obtain ⟨s, h1, rfl⟩ := I.of x hx
    exact (hs.fit s h1).onto p
  · rw [cutC_len] at hj
    have hpj : ps[j]? = some ps[j] := by simp [hj]
    have hlt := p.lt ps[j] (List.getElem_mem _)
    obtain ⟨s, h1, h2⟩ := hs.cov ps[j] hlt
    have hsl := (hs.fit s h1).1
    have hg := cutR_get (x := s) (by rw [hsl]; exact p.lt) hpj
    refine ⟨cutR s ps, ?_, by rw [hg]; exact h2⟩
    obtain ⟨m, hm, e⟩ := List.getElem_of_mem h1
    refine I.all m s hm (by simp [e.symm, hm]) fun z => h2 ?_
    rw [← hg, z, List.getElem?_replicate, if_pos hj]
theorem KeptI.prd {cs : List Cell} {ss kl : List Row} {ps : List Nat} {i : Nat} (hs : SeedsOk cs ss) (p : PlOk cs.length ps) (I : KeptI cs ss ps kl i) {r : Row} (h : Prd ps.length kl r) : ∃ q, Prd cs.length ss q ∧ r = cutR q ps := by
  induction h with
  | nil => exact ⟨_, .nil, (cut_blank _ p.lt).symm⟩
  | step h _ ih =>
    obtain ⟨q, h1, rfl⟩ := ih
    obtain ⟨s, h2, rfl⟩ := I.of _ h
    refine ⟨ov s q, .step h2 h1, (cut_ov (hs.fit s h2).1 (h1.len fun s hs' => (hs.fit s hs').1) p.lt).symm⟩
theorem KeptI.few' {cs : List Cell} {ss kl : List Row} {ps : List Nat} {i : Nat} (hs : SeedsOk cs ss) (p : PlOk cs.length ps) (I : KeptI cs ss ps kl i) (hf : Few cs.length ss) : Few (cutC cs ps).length kl := by
  obtain ⟨R, h1, h2⟩ := hf
  refine ⟨R.map fun q => cutR q ps, by rw [List.length_map]; exact h1, fun r hr => ?_⟩
  rw [cutC_len] at hr
  obtain ⟨q, h3, rfl⟩ := I.prd hs p hr
  exact List.mem_map.mpr ⟨q, h2 q h3, rfl⟩
def sp_cut_band (K : PySem.W.Frag) : Sp := fun vs H Q _ => ∃ a b d cs ss ps, vs = [.ref a, .ref b, .ref d] ∧ CellsAt H a cs ∧ CellsOk cs ∧ H b = some (.lst (rowL ss)) ∧ SeedsOk cs ss ∧ Few cs.length ss ∧ H d = some (.lst (ps.map fun i : Nat => V.int i)) ∧ PlOk cs.length ps ∧
  ∀ (p : Addr) (H' : Hp) (ss' rs' : List Row), Same H H' → H p = none → BandAt K H' p (cutC cs ps) ss' rs' → List.replicate ps.length 46 ∈ rs' → Q (.ref p) H'
def namesOf (cs : List Cell) (ps : List Nat) : List Row := ps.map (nameAt cs)
def sp_Band_onto (K : PySem.W.Frag) : Sp := fun vs H Q _ => ∃ q a cs ss rs f, vs = [.ref q, .ref a] ∧ BandAt K H q cs ss rs ∧ CellsOk cs ∧ SeedsOk cs ss ∧ Few cs.length ss ∧ H a = some (.lst (rowL (namesOf cs ((List.range cs.length).filter f)))) ∧ (List.range cs.length).filter f ≠ [] ∧
  ∀ (p : Addr) (H' : Hp) (ss' rs' : List Row), Same H H' → H p = none → BandAt K H' p (cutC cs ((List.range cs.length).filter f)) ss' rs' → List.replicate ((List.range cs.length).filter f).length 46 ∈ rs' → Q (.ref p) H'
theorem plOk_filter {n : Nat} {f : Nat → Bool} (h : (List.range n).filter f ≠ []) : PlOk n ((List.range n).filter f) :=
  ⟨List.nodup_range.filter _, fun i hi => List.mem_range.mp (List.mem_filter.mp hi).1, h⟩
/-- the places of the names are the places -/
theorem names_back {cs : List Cell} (hk : CellsOk cs) (f : Nat → Bool) : ((List.range cs.length).filter fun i => decide (nameAt cs i ∈ namesOf cs ((List.range cs.length).filter f))) = (List.range cs.length).filter f := by
  apply List.filter_congr
  intro i hi
  have hi := List.mem_range.mp hi
  rw [Bool.eq_iff_iff, decide_eq_true_iff]
  constructor
  · intro h
    obtain ⟨j, hj, e⟩ := List.mem_map.mp h
    obtain ⟨h1, h2⟩ := List.mem_filter.mp hj
    rw [name_inj hk.nd hi (List.mem_range.mp h1) e.symm]
    exact h2
  · intro h
    exact List.mem_map.mpr ⟨i, List.mem_filter.mpr ⟨List.mem_range.mpr hi, h⟩, rfl⟩
end
/-! ## F22 -/
section
set_option maxHeartbeats 2000000
open PySem PySem.Spec PyProof.Rows L2


variable {P : Program} {w : World} {K : PySem.W.Frag} {mg : Str → Option Value} {base : Heap}
abbrev nm_cut_band : List Str := ["cells", "seeds", "places", "kept", "seed", "row", "at"]
theorem sc_cut_band : FnScope nm_cut_band ["cells", "seeds", "places"] (defScope s_cut_band) := ⟨rfl, rfl, rfl, by decide +kernel, rfl, by decide +kernel, by decide +kernel⟩
abbrev t_cut_band (K : PySem.W.Frag) : TS := (tSeq (tAsg (tLst tNil) (gName 3))
    (tSeq (tFor (iList K (tVar 1)) (gName 4) (tSeq (tAsg (tCall (sp_cut K) [] E0 (tCons (tVar 4) (tCons (tVar 2) tNil))) (gName 5))
    (tIfS (tAnd (tTest (tOp rNe (tVar 5) (tCall (sp_blank K) [] E0 (tCons (tCB (rLenQ K) (tCons (tVar 2) tNil)) tNil)))) (tTest (tOp (rIn K true) (tVar 5) (tVar 3)))) (tDrop (tBM K "list" rAppend (tVar 3) (tCons (tVar 5) tNil))) tNext)))
    (tRet (tMake (He.ga K "Band") (sp_Band_init K) [.int 800] E0 (tCons (tLc (iList K (tVar 2)) (gName 6) tYes (tOp (rIxL K) (tVar 0) (tVar 6)) [6]) (tCons (tVar 3) tNil))))))
theorem c_cut_band (T : Tx K mg) : C8.Cal P w K mg base 8 "cut_band" (sp_cut_band K) [] := by
  refine calG T.f_cut_band (fun _ _ _ _ _ _ us hl => match us, hl with | [_, _, _], _ => rfl) sc_cut_band (fun vs H Q E h => ?_) (fun f cdv A outer s H vs Q E hr h => have hu := hu_of hr; ⟨t_cut_band K, (pss_cons (ps_set (i := 3) sc_cut_band.nd rfl (Or.inl rfl) (pe_lst pa_nil))
      (pss_cons (ps_for PassesOwn.never rfl (pi_list (pv 1)) (pg_name (i := 4) sc_cut_band.nd rfl (Or.inl rfl) (hf := Or.inr rfl)) (pss_cons (ps_set (i := 5) sc_cut_band.nd rfl (Or.inl rfl) (C8.pe_c (c_cut T) hr (by decide) (by rfl) (pa_cons (pv 4) (pa_cons (pv 2) pa_nil))))
      (pss_one (ps_if (PW.pt (pw_and (pt_cmpR op_ne (pv 5) (C8.pe_c (c_blank T) hr (by decide) (by rfl) (pa_cons (pe_callB call_len_seq (by rfl) T.b_len bt_len (pa_cons (pv 2) pa_nil)) pa_nil)) (nomark _)) (pw_and1 (pt_cmpR op_notIn_seq (pv 5) (pv 3) rfl)))) (pss_one (ps_expr (pe_bm PySem.F.plainAttrs_list PySem.F.slot_list_append PySem.F.type_list_append mt_append (pv 3) (pa_cons (pv 5) pa_nil)))) pss_nil))))
      (pss_one (ps_ret (C8.pe_mk (k_Band T) hr (by decide) (by rfl) (pa_cons (pe_lc (own := [("at", 6)]) rfl sc_cut_band.nd (pi_list (pv 2)) (blkOk_by (own := [("at", 6)]) (N := nm_cut_band) (sc := (defScope s_cut_band)) (by decide +kernel)) (fun _ _ _ _ _ => (pg_name (i := 6) sc_cut_band.nd rfl (Or.inl rfl) (hf := Or.inr rfl))) (fun _ _ _ _ _ => pts_nil) (fun _ _ _ _ _ => (pe_ix ix_list (pv 0) (pv 6) (fun _ _ => rfl)))) (pa_cons (pv 3) pa_nil))))))), ?_⟩)
  · obtain ⟨a, b, d, cs, ss, ps, rfl, _⟩ := h
    rfl
  · obtain ⟨a, b, d, cs, ss, ps, rfl, hC, hk, hB, hS, hF, hd, hp, k⟩ := h
    have hn6 := hk.few
    have hpl := hp.len
    walk_at "go"
    rename_i q nq
    have hbq : b ≠ q := (ne_of_none hB nq)
    have hdq : d ≠ q := (ne_of_none hd nq)
    have haq : a ≠ q := (ne_of_none hC.l nq)
    have hbs : SqL K (upd H q (.lst [])) b (rowL ss) := .inl (.inl (by rw [upd_ne hbq]; exact hB))
    walk_at "go"
    refine for_G (n := ss.length) walk_listM (fun i σ H' => ∃ kl, KeptI cs ss ps kl i ∧ Same H H' ∧ H' q = some (.lst (rowL kl)) ∧ ∃ u4 u5, σ = [some (.ref a), some (.ref b), some (.ref d), some (.ref q), u4, u5, none]) ⟨[], ⟨Nat.le_refl _, fun x h => absurd h List.not_mem_nil, List.nodup_nil, fun x h => absurd h List.not_mem_nil, fun j s h => absurd h (Nat.not_lt_zero _)⟩, same_new nq, upd_same, _, _, rfl⟩ (fun i σ H' _ h => let ⟨_, _, s, _⟩ := h; .inl (.inl (s _ _ hB))) ?_ ?_
    · rintro i v σ H2 H3 hi ⟨kl, I, s2, hq2, u4, u5, rfl⟩ ⟨rfl, s', hs', rfl⟩
      have hsm := List.mem_of_getElem? hs'
      have hfs := hS.fit s' hsm
      have hsl := hfs.1
      have hd3 : SqL K H3 d (ps.map fun i : Nat => V.int i) := .inl (.inl (s2 _ _ hd))
      walk_at "go"
      refine ⟨s', d, ps, rfl, hd3, by rw [hsl]; exact hp.lt, by omega, by omega, fun H4 s4 => ?_⟩
      have hd4 : SqL K H4 d (ps.map fun i : Nat => V.int i) := .inl (.inl (s4 _ _ (s2 _ _ hd)))
      walk_at "go"
      refine ⟨ps.length, rfl, by omega, fun H5 s5 => ?_⟩
      have s45 := s4.trans s5
      have hq5 := s45 _ _ hq2
      have hq5' : SqL K H5 q (rowL kl) := .inl (.inl hq5)
      walk_at "go"
      have keep : (cutR s' ps = List.replicate ps.length 46 ∨ cutR s' ps ∈ kl) → KeptI cs ss ps kl (i + 1) := fun hz => ⟨Nat.le_succ_of_le I.few, I.nb, I.nd, I.of, fun j s hj hjs hn => by
        rcases Nat.lt_succ_iff_lt_or_eq.mp hj with z | z
        · exact I.all j s z hjs hn
        · subst z
          obtain rfl : s' = s := Option.some.inj (hs'.symm.trans hjs)
          rcases hz with z | z
          · exact absurd z hn
          · exact z⟩
      refine w_ndec (fun e1 => ?_) (fun e1 => ?_)
      · walk_at "go"
        refine w_ndec (fun e2 => ?_) (fun e2 => ?_)
        · walk_at "go"
          have hkl := I.few
          have hss := hS.few
          refine w_app hq5 (by rw [List.length_map]; omega) ?_
          refine ⟨kl ++ [cutR s' ps], ⟨by rw [List.length_append]; exact Nat.succ_le_succ hkl, fun x hx => ?_, ?_, fun x hx => ?_, fun j s hj hjs hn => ?_⟩, same_mut (s2.trans s45) nq, by rw [upd_same]; show _ = some (HO.lst (List.map _ _)); rw [List.map_append]; rfl, _, _, rfl⟩
          · rcases List.mem_append.mp hx with z | z
            · exact I.nb x z
            · rw [List.mem_singleton.mp z]; exact e1
          · exact List.nodup_append.mpr ⟨I.nd, List.nodup_cons.mpr ⟨List.not_mem_nil, List.nodup_nil⟩, fun x hx y hy z => e2 (by rw [← List.mem_singleton.mp hy, ← z]; exact hx)⟩
          · rcases List.mem_append.mp hx with z | z
            · exact I.of x z
            · rw [List.mem_singleton.mp z]; exact ⟨s', hsm, rfl⟩
          · rcases Nat.lt_succ_iff_lt_or_eq.mp hj with z | z
            · exact List.mem_append_left _ (I.all j s z hjs hn)
            · subst z
              obtain rfl : s' = s := Option.some.inj (hs'.symm.trans hjs)
              exact List.mem_append_right _ (List.mem_singleton.mpr rfl)
        · walk_at "go"
          exact ⟨kl, keep (.inr e2), s2.trans s45, hq5, _, _, rfl⟩
      · walk_at "go"
        exact ⟨kl, keep (.inl e1), s2.trans s45, hq5, _, _, rfl⟩
    · rintro σ H2 ⟨kl, I, s2, hq2, u4, u5, rfl⟩
      have hd2 : SqL K H2 d (ps.map fun i : Nat => V.int i) := .inl (.inl (s2 _ _ hd))
      walk_at "go"
      refine lc_val1 ps (fun i => .ref (cellAt cs i).p) walk_listM (by omega) (fun H' s => .inl (.inl (s _ _ (s2 _ _ hd)))) ?_ ?_
      · rintro i j v H3 H4 R hi s3 ⟨rfl, j', hj', rfl⟩ k1
        obtain rfl : j' = j := Option.some.inj (hj'.symm.trans hi)
        have hlt := hp.lt j' (List.mem_of_getElem? hi)
        walk_at "go"
        refine w_ixL (xs := cs.map fun c => .ref c.p) (.inl (.inl (s3 _ _ (s2 _ _ hC.l)))) (by rw [List.getElem?_map, cellAt_get hlt]; rfl) ?_
        exact k1 _ (Same.refl _)
      · intro D H3 nD s3 hD
        have s3' := s2.trans s3
        walk_at "go"
        intro x dx nx nd hne
        have sx : Same H3 (upd (upd H3 dx (.own x)) x (.ins (He.ga K "Band") dx [])) := (same_new nd).trans (same_new (by rw [upd_ne hne.symm]; exact nx))
        have hD2 : H3 D = some (.lst ((cutC cs ps).map fun c => V.ref c.p)) := by rw [hD]; unfold cutC; rw [List.map_map]; rfl
        refine ⟨x, dx, D, q, cutC cs ps, kl, rfl, upd_same, ⟨sx _ _ hD2, fun c hc => ?_⟩, hk.onto hp, sx _ _ (s3 _ _ hq2), I.seeds hS hp, I.few' hS hp hF, fun H4 rs' S4 hB4 hrm => ⟨rfl, ?_⟩⟩
        · obtain ⟨i, hi, rfl⟩ := List.mem_map.mp hc
          exact sx _ _ (s3' _ _ (hC.c _ (cellAt_mem (hp.lt i hi))))
        · have nx0 : H x = none := by
            cases e : H x with
            | none => rfl
            | some o => have := s3' _ _ e; rw [nx] at this; cases this
          refine k x H4 kl rs' (s3'.trans (same_of nx nd hne S4)) nx0 hB4 ((hrm _).mpr ?_)
          have := Prd.nil (n := (cutC cs ps).length) (ss := kl)
          rw [cutC_len] at this ⊢
          exact this
end
/-! ## F23 -/
section
set_option maxHeartbeats 2000000
open PySem PySem.Spec PyProof.Rows L2


variable {P : Program} {w : World} {K : PySem.W.Frag} {mg : Str → Option Value} {base : Heap}
abbrev nm_Band_onto : List Str := ["self", "cells", "names", "at", "name", "places"]
theorem sc_Band_onto : FnScope nm_Band_onto ["self", "cells"] (defScope s_Band_onto) := ⟨rfl, rfl, rfl, by decide +kernel, rfl, by decide +kernel, by decide +kernel⟩
abbrev t_Band_onto (K : PySem.W.Frag) : TS := (tSeq (tIfS (tOr (tNot (tB (tCB (rIsiT K) (tCons (tVar 1) (tCons (tTup (tCons (tC (.ty "list")) (tCons (tC (.ty "tuple")) tNil))) tNil))))) (tTest (tOp rEq (tCB (rLenQ K) (tCons (tVar 1) tNil)) (tC (.int 0))))) tNever tNext)
    (tSeq (tAsg (tMeth (He.ga K "Band") "names" (sp_Band_names K) [] E0 (tVar 0) tNil) (gName 2))
    (tSeq (tFor (iEnum K (tCons (tVar 1) tNil)) (gTup K 2 (gCons (gName 3) (gCons (gName 4) gNil))) (tIfS (tOr (tNot (tB (tCB (rIsi K) (tCons (tVar 4) (tCons (tC (.ty "str")) tNil))))) (tOr (tTest (tOp (rIn K true) (tVar 4) (tVar 2))) (tTest (tOp (rIn K false) (tVar 4) (tSl (rSlL K) (tVar 1) tNoPart (tPart (tVar 3))))))) tNever tNext))
    (tSeq (tAsg (tLc (iEnum K (tCons (tVar 2) tNil)) (gTup K 2 (gCons (gName 3) (gCons (gName 4) gNil))) (tTest (tOp (rIn K false) (tVar 4) (tVar 1))) (tVar 3) [3, 4]) (gName 5))
    (tRet (tCall (sp_cut_band K) [] E0 (tCons (tFld K (tVar 0) "cell_list") (tCons (tFld K (tVar 0) "seed_list") (tCons (tVar 5) tNil)))))))))
theorem m_Band_onto (T : Tx K mg) : C8.Met P w K mg base 9 (He.ga K "Band") "onto" (sp_Band_onto K) [] := by
  refine metG T.cl_Band T.me_Band_onto T.f_Band_onto (fun _ _ _ _ _ _ us hl => match us, hl with | [_, _], _ => rfl) sc_Band_onto (fun vs H Q E h => ?_) (fun f cdv A outer s H vs Q E hr h => have hu := hu_of hr; ⟨t_Band_onto K, (pss_cons (ps_if (PW.pt (pw_or (pt_not (pt_val (pe_callB call_isiT (by rfl) T.b_isinstance bt_isinstance (pa_cons (pv 1) (pa_cons (pe_tup (pa_cons (pe_bltn (by rfl) T.b_list bt_list rfl) (pa_cons (pe_bltn (by rfl) T.b_tuple bt_tuple rfl) pa_nil))) pa_nil))))) (pw_or1 (pt_cmpR op_eq (pe_callB call_len_seq (by rfl) T.b_len bt_len (pa_cons (pv 1) pa_nil)) pe_int (nomark _))))) pss_never pss_nil)
      (pss_cons (ps_set (i := 2) sc_Band_onto.nd rfl (Or.inl rfl) (C8.pe_mt0 (m_Band_names T) hr (by decide) (pv 0)))
      (pss_cons (ps_for PassesOwn.never rfl (pi_enum (by rfl) T.b_enumerate (pa_cons (pv 1) pa_nil)) (pg_tup rfl (pgs_cons (pg_name (i := 3) sc_Band_onto.nd rfl (Or.inl rfl) (hf := Or.inr rfl)) (pgs_cons (pg_name (i := 4) sc_Band_onto.nd rfl (Or.inl rfl) (hf := Or.inr rfl)) pgs_nil))) (pss_one (ps_if (PW.pt (pw_or (pt_not (pt_val (pe_callB call_isi (by rfl) T.b_isinstance bt_isinstance (pa_cons (pv 4) (pa_cons (pe_bltn (by rfl) T.b_str bt_str rfl) pa_nil))))) (pw_or (pt_cmpR op_notIn_seq (pv 4) (pv 2) rfl) (pw_or1 (pt_cmpR op_in_seq (pv 4) (pe_slice sl_list (pv 1) po_none (po_some (pv 3))) rfl))))) pss_never pss_nil)))
      (pss_cons (ps_setLc (i := 5) (own := [("at", 3), ("name", 4)]) rfl sc_Band_onto.nd rfl rfl (sw_true rfl rfl rfl (by decide +kernel)) (pi_enum (by rfl) T.b_enumerate (pa_cons (pv 2) pa_nil)) (blkOk_by (own := [("at", 3), ("name", 4)]) (N := nm_Band_onto) (sc := (defScope s_Band_onto)) (by decide +kernel)) (fun _ _ _ _ _ => (pg_tup rfl (pgs_cons (pg_name (i := 3) sc_Band_onto.nd rfl (Or.inl rfl) (hf := Or.inr rfl)) (pgs_cons (pg_name (i := 4) sc_Band_onto.nd rfl (Or.inl rfl) (hf := Or.inr rfl)) pgs_nil)))) (fun _ _ _ _ _ => (pts_one (pt_cmpR op_in_seq (pv 4) (pv 1) rfl))) (fun _ _ _ _ _ => (pv 3)))
      (pss_one (ps_ret (C8.pe_c (c_cut_band T) hr (by decide) (by rfl) (pa_cons (pe_fld (pv 0) rfl) (pa_cons (pe_fld (pv 0) rfl) (pa_cons (pv 5) pa_nil)))))))))), ?_⟩)
  · obtain ⟨q, a, cs, ss, rs, f, rfl, _⟩ := h
    rfl
  · obtain ⟨q, a, cs, ss, rs, f, rfl, hBn, hk, hS, hF, ha, hne, k⟩ := h
    have hp := plOk_filter hne
    have hpl := hp.len
    have hn6 := hk.few
    generalize hps : (List.range cs.length).filter f = ps at *
    have hnl : (namesOf cs ps).length = ps.length := by unfold namesOf; rw [List.length_map]
    have hne1 : 1 ≤ ps.length := List.length_pos_iff.mpr hp.ne
    have hBb := hBn
    obtain ⟨dx, fs, ca, sa, ka, g1, g2, g3, g4, g5, g6, g7, g8, g9, g10⟩ := hBn
    have c1 := T.cl_Band
    have n1 := T.na_Band_cell_list
    have n2 := T.na_Band_seed_list
    have haq : SqL K H a (rowL (namesOf cs ps)) := .inl (.inl ha)
    walk_at "go"
    rename_i pt hpt
    have s0 := same_new (o := .tup [.ty "list", .ty "tuple"]) hpt
    refine ⟨q, cs, ss, rs, rfl, hBb.same s0, hn6, fun q1 H1 s1 nq1 hq1 => ?_⟩
    have s1 := s0.trans s1
    have ha1 := s1 _ _ ha
    have hnm : ∀ i ∈ ps, nameAt cs i ∈ cs.map Cell.nm := fun i hi => List.mem_of_getElem? (i := i) (by rw [List.getElem?_map, cellAt_get (hp.lt i hi), nameAt_cell (hp.lt i hi)]; rfl)
    have hnd : (namesOf cs ps).Nodup := nodup_map hp.nd fun a ha b hb e => name_inj hk.nd (hp.lt a ha) (hp.lt b hb) e
    have haq1 : SqL K H1 a (rowL (namesOf cs ps)) := .inl (.inl ha1)
    walk_at "go"
    refine for_G (n := (namesOf cs ps).length) walk_enumM (fun i σ H' => Same H1 H' ∧ ∃ u3 u4, σ = [some (.ref q), some (.ref a), some (.ref q1), u3, u4, none]) ⟨Same.refl _, _, _, rfl⟩ (fun i σ H' _ h => .inl (.inl (h.1 _ _ ha1))) ?_ ?_
    · rintro i v σ H2 H3 hi ⟨s2, u3, u4, rfl⟩ ⟨T', nm, rfl, hT, rfl, hx⟩
      have s3 := s2.trans (same_new (o := .tup [.int (i : Nat), .str (S nm)]) hT)
      have hq3 : SqL K (upd H2 T' (.tup [.int (i : Nat), .str (S nm)])) q1 (rowL (cs.map Cell.nm)) := .inl (.inl (s3 _ _ hq1))
      have ha3 : SqL K (upd H2 T' (.tup [.int (i : Nat), .str (S nm)])) a (rowL (namesOf cs ps)) := .inl (.inl (s3 _ _ ha1))
      walk_at "go"
      have hm := List.mem_of_getElem? hx
      obtain ⟨j, hj, e⟩ := List.mem_map.mp hm
      have hin : nm ∈ cs.map Cell.nm := e ▸ hnm j hj
      refine w_ndecT hin ?_
      walk_at "go"
      refine w_slTo ha3 fun p hp2 => ?_
      walk_at "go"
      refine w_inL (l := (namesOf cs ps).take i) (.inl (.inl upd_same)) ?_
      refine w_bl ?_
      refine w_decF (nd_take hnd hx) ?_
      walk_at "go"
      exact ⟨s3.trans (same_new hp2), _, _, rfl⟩
    · rintro σ H2 ⟨s2, u3, u4, rfl⟩
      have hq2 : SqL K H2 q1 (rowL (cs.map Cell.nm)) := .inl (.inl (s2 _ _ hq1))
      walk_at "go"
      have hwk : Walk (Ite K q1) (List.range (cs.map Cell.nm).length).length (fun H => SqL K H q1 (rowL (cs.map Cell.nm))) (fun i H v H' => ∃ T x, v = .ref T ∧ H T = none ∧ H' = upd H T (.tup [.int (i : Nat), .str (S x)]) ∧ (cs.map Cell.nm)[i]? = some x) := by
        rw [List.length_range]; exact walk_enumM
      refine lc_valL (List.range (cs.map Cell.nm).length) (fun i => .int (i : Nat)) (fun i => decide (nameAt cs i ∈ namesOf cs ps)) hwk (by rw [List.length_range, List.length_map]; omega) (fun H' s => .inl (.inl (s _ _ (s2 _ _ hq1)))) ?_ ?_
      · rintro i c v H3 H4 R R0 hc s3 ⟨T', nm, rfl, hT, rfl, hx⟩ k1 k2
        obtain ⟨hi, rfl⟩ := range_some hc
        have hnm2 : nameAt cs c = nm := by unfold nameAt; rw [hx]; rfl
        have s4 := same_new (o := .tup [.int (c : Nat), .str (S nm)]) hT
        have ha4 : SqL K (upd H3 T' (.tup [.int (c : Nat), .str (S nm)])) a (rowL (namesOf cs ps)) := .inl (.inl (s4 _ _ (s3 _ _ (s2 _ _ ha1))))
        walk_at "go"
        rw [hnm2] at k1 k2
        refine w_dec (fun e => ?_) (fun e => ?_)
        · walk_at "go"
          exact k1 _ (decide_eq_true e) s4
        · exact k2 _ (decide_eq_false e) s4
      · intro D H3 nD s3 hD
        have e : ((List.range (cs.map Cell.nm).length).filter fun i => decide (nameAt cs i ∈ namesOf cs ps)) = ps := by
          rw [List.length_map]
          have := names_back hk f
          rw [hps] at this
          exact this
        rw [e] at hD
        walk_at "go"
        have s4 := (s1.trans s2).trans s3
        exact ⟨ca, sa, D, cs, ss, ps, rfl, g5.same s4, hk, s4 _ _ g6, hS, hF, hD, hp, fun p H4 ss' rs' s5 np hB4 hr4 => k p H4 ss' rs' (s4.trans s5) (by
          cases e : H p with
          | none => rfl
          | some o => have := s4 _ _ e; rw [np] at this; cases this) hB4 hr4⟩
end
/-! ## G5 -/
section
set_option maxHeartbeats 2000000
open PySem PySem.Spec PyProof.Rows L2
/-! ### tallies -/
/-- a sum over weights -/
def wsum (φ : Row → Rat) (l : Ws) : Rat := (l.map fun a => (a.2 : Rat) * φ a.1).sum
theorem wsum_cons (φ : Row → Rat) (a : Row × Nat) (l : Ws) : wsum φ (a :: l) = (a.2 : Rat) * φ a.1 + wsum φ l := by
  unfold wsum; rw [List.map_cons, List.sum_cons]
theorem wsum_nil (φ : Row → Rat) : wsum φ [] = 0 := rfl
theorem wsum_append (φ : Row → Rat) : ∀ l m : Ws, wsum φ (l ++ m) = wsum φ l + wsum φ m
  | [], m => by rw [List.nil_append, wsum_nil]; grind
  | a :: l, m => by rw [List.cons_append, wsum_cons, wsum_cons, wsum_append φ l m]; grind
theorem any_key {α : Type} {l : List (Row × α)} {r : Row} : (l.any fun a => decide (a.1 = r)) = true ↔ r ∈ l.map (·.1) := by
  rw [List.any_eq_true]
  constructor
  · rintro ⟨a, h1, h2⟩
    exact List.mem_map.mpr ⟨a, h1, of_decide_eq_true h2⟩
  · intro h
    obtain ⟨a, h1, h2⟩ := List.mem_map.mp h
    exact ⟨a, h1, decide_eq_true h2⟩
theorem putB_keys {α : Type} (l : List (Row × α)) (r : Row) (v : α) : (putA l r v).map (·.1) = if r ∈ l.map (·.1) then l.map (·.1) else l.map (·.1) ++ [r] := by
  unfold putA
  by_cases h : r ∈ l.map (·.1)
  · rw [if_pos (any_key.mpr h), if_pos h, List.map_map]
    apply List.map_congr_left
    intro a _
    show (if a.1 = r then (a.1, v) else a).1 = a.1
    split <;> rfl
  · rw [if_neg (fun z => h (any_key.mp z)), if_neg h, List.map_append]
    rfl
theorem putA_nodup {α : Type} {l : List (Row × α)} {r : Row} {v : α} (h : (l.map (·.1)).Nodup) : ((putA l r v).map (·.1)).Nodup := by
  rw [putB_keys]
  split
  · exact h
  · rename_i hn
    exact List.nodup_append.mpr ⟨h, List.nodup_cons.mpr ⟨List.not_mem_nil, List.nodup_nil⟩, fun x hx y hy z => hn (by rw [← List.mem_singleton.mp hy, ← z]; exact hx)⟩
theorem putB_mem {α : Type} {l : List (Row × α)} {r x : Row} {v : α} : x ∈ (putA l r v).map (·.1) ↔ x = r ∨ x ∈ l.map (·.1) := by
  rw [putB_keys]
  split
  · rename_i h
    exact ⟨.inr, fun z => z.elim (fun e => e ▸ h) id⟩
  · rw [List.mem_append, List.mem_singleton]
    exact ⟨fun z => z.symm, fun z => z.symm⟩
theorem look_none {α : Type} {l : List (Row × α)} {r : Row} (h : r ∉ l.map (·.1)) : lookA l r = none := by
  unfold lookA
  have : (l.find? fun a => decide (a.1 = r)) = none := by
    rw [List.find?_eq_none]
    intro a ha e
    exact h (List.mem_map.mpr ⟨a, ha, of_decide_eq_true e⟩)
  rw [this]
  rfl
theorem map_same {α : Type} {r : Row} {v : α} : ∀ {l : List (Row × α)}, r ∉ l.map (·.1) → l.map (fun a => if a.1 = r then (a.1, v) else a) = l
  | [], _ => rfl
  | a :: l, h => by
    rw [List.map_cons] at h
    have h1 : a.1 ≠ r := fun z => h (z ▸ List.mem_cons_self)
    rw [List.map_cons, if_neg h1, map_same fun z => h (List.mem_cons_of_mem _ z)]
theorem look_cons {α : Type} (a : Row × α) (l : List (Row × α)) (r : Row) : lookA (a :: l) r = if a.1 = r then some a.2 else lookA l r := by
  unfold lookA
  rw [List.find?_cons]
  by_cases h : a.1 = r
  · rw [decide_eq_true h, if_pos h]; rfl
  · rw [decide_eq_false h, if_neg h]
theorem wsum_bump (φ : Row → Rat) (r : Row) (n : Nat) : ∀ {l : Ws}, (l.map (·.1)).Nodup → wsum φ (bump l r n) = wsum φ l + (n : Rat) * φ r := by
  intro l nd
  unfold bump putA
  by_cases h : r ∈ l.map (·.1)
  · rw [if_pos (any_key.mpr h)]
    induction l with
    | nil => cases h
    | cons a l ih =>
      rw [List.map_cons] at nd h
      obtain ⟨h1, h2⟩ := List.nodup_cons.mp nd
      rw [List.map_cons, look_cons]
      by_cases e : a.1 = r
      · rw [if_pos e, if_pos e, map_same (by rw [← e]; exact h1), wsum_cons, wsum_cons]
        show ((a.2 + n : Nat) : Rat) * φ a.1 + _ = _
        rw [← e, Rat.natCast_add]
        grind
      · rw [if_neg e, if_neg e, wsum_cons, wsum_cons]
        rcases List.mem_cons.mp h with z | z
        · exact absurd z.symm e
        · rw [ih h2 z]
          grind
  · rw [if_neg (fun z => h (any_key.mp z)), look_none h, wsum_append, wsum_cons, wsum_nil]
    show _ + (((0 + n : Nat) : Rat) * φ r + 0) = _
    rw [Nat.zero_add]
    grind
theorem bump_nodup {l : Ws} {r : Row} {n : Nat} (h : (l.map (·.1)).Nodup) : ((bump l r n).map (·.1)).Nodup := putA_nodup h
theorem fold_tally {P : Ws → Ws → Prop} (step : ∀ (l acc : Ws) (a : Row × Nat), P l acc → P (l ++ [a]) (bump acc a.1 a.2)) (h0 : P [] []) (l : Ws) : P l (tally l) := by
  have h : ∀ (m l acc : Ws), P l acc → P (l ++ m) (m.foldl (fun acc a => bump acc a.1 a.2) acc) := by
    intro m
    induction m with
    | nil => intro l acc h; rw [List.append_nil]; exact h
    | cons a m ih =>
      intro l acc h
      have := ih (l ++ [a]) (bump acc a.1 a.2) (step l acc a h)
      rw [List.append_assoc] at this
      exact this
  exact h l [] [] h0
theorem tally_facts (l : Ws) : ((tally l).map (·.1)).Nodup ∧ (∀ x, x ∈ (tally l).map (·.1) ↔ x ∈ l.map (·.1)) ∧ (∀ φ, wsum φ (tally l) = wsum φ l) := by
  refine fold_tally (P := fun l acc => (acc.map (·.1)).Nodup ∧ (∀ x, x ∈ acc.map (·.1) ↔ x ∈ l.map (·.1)) ∧ (∀ φ, wsum φ acc = wsum φ l)) ?_ ⟨List.nodup_nil, fun _ => Iff.rfl, fun _ => rfl⟩ l
  rintro l acc a ⟨h1, h2, h3⟩
  refine ⟨bump_nodup h1, fun x => ?_, fun φ => ?_⟩
  · unfold bump
    rw [putB_mem, List.map_append, List.mem_append, h2]
    simp only [List.map_cons, List.map_nil, List.mem_singleton]
    exact Or.comm
  · rw [wsum_bump φ _ _ h1, h3, wsum_append, wsum_cons, wsum_nil]
    grind
theorem putA_vals {α : Type} {l : List (Row × α)} {r : Row} {v : α} {a : Row × α} (h : a ∈ putA l r v) : a = (r, v) ∨ a ∈ l := by
  unfold putA at h
  split at h
  · obtain ⟨b, hb, e⟩ := List.mem_map.mp h
    by_cases z : b.1 = r
    · rw [if_pos z] at e
      left; rw [← e, z]
    · rw [if_neg z] at e
      right; rw [← e]; exact hb
  · rcases List.mem_append.mp h with z | z
    · exact .inr z
    · exact .inl (List.mem_singleton.mp z)
theorem look_le {l : Ws} {r : Row} {m : Nat} (h : ∀ a ∈ l, a.2 ≤ m) : (lookA l r).getD 0 ≤ m := by
  induction l with
  | nil => exact Nat.zero_le _
  | cons a l ih =>
    rw [look_cons]
    split
    · exact h a List.mem_cons_self
    · exact ih fun b hb => h b (List.mem_cons_of_mem _ hb)
theorem tally_vals (l : Ws) (h : ∀ a ∈ l, 1 ≤ a.2 ∧ a.2 ≤ 999) : ∀ a ∈ tally l, 1 ≤ a.2 ∧ a.2 ≤ 999 * l.length := by
  refine fold_tally (P := fun l acc => (∀ a ∈ l, 1 ≤ a.2 ∧ a.2 ≤ 999) → ∀ a ∈ acc, 1 ≤ a.2 ∧ a.2 ≤ 999 * l.length) ?_ (fun _ a h => absurd h List.not_mem_nil) l h
  intro l acc b ih hb a ha
  have ih := ih fun a ha => hb a (List.mem_append_left _ ha)
  have hb2 := hb b (List.mem_append_right _ List.mem_cons_self)
  rw [List.length_append, List.length_singleton]
  unfold bump at ha
  rcases putA_vals ha with z | z
  · have := look_le (r := b.1) fun a ha => (ih a ha).2
    rw [z]
    constructor
    · show 1 ≤ _ + b.2; omega
    · show _ + b.2 ≤ _; omega
  · have := ih a z
    omega
def ontoW (ws : Ws) (ps : List Nat) : Ws := tally (ws.map fun a => (cutR a.1 ps, a.2))
/-- what a book needs -/
structure WOk (n : Nat) (ws : Ws) : Prop where
  ne : ws ≠ []
  few : ws.length ≤ 40
  nd : (ws.map (·.1)).Nodup
  len : ∀ a ∈ ws, a.1.length = n
  val : ∀ a ∈ ws, 1 ≤ a.2 ∧ a.2 ≤ 999
theorem ontoW_ok {n : Nat} {ws : Ws} (h : WOk n ws) (ps : List Nat) : ontoW ws ps ≠ [] ∧ (ontoW ws ps).length ≤ 40 ∧ ((ontoW ws ps).map (·.1)).Nodup ∧ (∀ a ∈ ontoW ws ps, a.1.length = ps.length) ∧ (∀ a ∈ ontoW ws ps, 1 ≤ a.2 ∧ a.2 < 1000000) := by
  have f := tally_facts (ws.map fun a => (cutR a.1 ps, a.2))
  refine ⟨fun z => ?_, ?_, f.1, fun a ha => ?_, fun a ha => ?_⟩
  · obtain ⟨a, ha⟩ := List.exists_mem_of_ne_nil ws h.ne
    have := (f.2.1 (cutR a.1 ps)).mpr (List.mem_map.mpr ⟨_, List.mem_map.mpr ⟨a, ha, rfl⟩, rfl⟩)
    unfold ontoW at z
    rw [z] at this
    cases this
  · refine Nat.le_trans (tally_len _) ?_
    rw [List.length_map]
    exact h.few
  · have := (f.2.1 a.1).mp (List.mem_map.mpr ⟨a, ha, rfl⟩)
    obtain ⟨b, hb, e⟩ := List.mem_map.mp this
    obtain ⟨c, hc, rfl⟩ := List.mem_map.mp hb
    rw [← e]
    exact cutR_len _ _
  · have hh : ∀ b ∈ ws.map (fun a => (cutR a.1 ps, a.2)), 1 ≤ b.2 ∧ b.2 ≤ 999 := fun b hb => by
      obtain ⟨c, hc, rfl⟩ := List.mem_map.mp hb
      exact h.val c hc
    have := tally_vals _ hh a ha
    rw [List.length_map] at this
    have := h.few
    omega
def sp_Book_onto (K : PySem.W.Frag) : Sp := fun vs H Q _ => ∃ p a bp cs ss rs ws f, vs = [.ref p, .ref a] ∧ BookAt K H p bp ws ∧ BandAt K H bp cs ss rs ∧ CellsOk cs ∧ SeedsOk cs ss ∧ Few cs.length ss ∧ WOk cs.length ws ∧ H a = some (.lst (rowL (namesOf cs ((List.range cs.length).filter f)))) ∧ (List.range cs.length).filter f ≠ [] ∧
  ∀ (q bq : Addr) (H' : Hp) (l ss' rs' : List Row), Same H H' → H q = none → BandAt K H' bq (cutC cs ((List.range cs.length).filter f)) ss' rs' → l.Perm ((ontoW ws ((List.range cs.length).filter f)).map (·.1)) → Srt l → BookAt K H' q bq (lowOf l (ontoW ws ((List.range cs.length).filter f))) → Q (.ref q) H'
end
/-! ## F24 -/
section
set_option maxHeartbeats 2000000
open PySem PySem.Spec PyProof.Rows L2


variable {P : Program} {w : World} {K : PySem.W.Frag} {mg : Str → Option Value} {base : Heap}
theorem putF_same {f : Str} {v x : V} : ∀ {fs : List (Str × V)}, fs.lookup f = some x → (putF f v fs).length = fs.length
  | (g, y) :: r, h => by
    unfold putF
    by_cases e : g = f
    · rw [if_pos e]; rfl
    · rw [if_neg e, List.length_cons, List.length_cons]
      rw [List.lookup_cons] at h
      have e2 : (f == g) = false := beq_eq_false_iff_ne.mpr fun z => e z.symm
      rw [e2] at h
      rw [putF_same h]
abbrev nm_book_of_weights : List Str := ["band", "weights", "made"]
theorem sc_book_of_weights : FnScope nm_book_of_weights ["band", "weights"] (defScope s_book_of_weights) := ⟨rfl, rfl, rfl, by decide +kernel, rfl, by decide +kernel, by decide +kernel⟩
abbrev t_book_of_weights (K : PySem.W.Frag) : TS := (tSeq (tAsg (tMake (He.ga K "Book") (sp_Book_init K) [] E0 (tCons (tVar 0) (tCons (tDisp [((tMeth (He.ga K "Band") "blank_row" (sp_Band_blank_row K) [] E0 (tVar 0) tNil), (tC (.int 1)))]) tNil))) (gName 2))
    (tSeq (sFld K (tVar 2) (tCall (sp_lowest_weights K) [] E0 (tCons (tVar 1) tNil)) "weight_table")
    (tRet (tVar 2))))
theorem c_book_of_weights (T : Tx K mg) : C8.Cal P w K mg base 6 "book_of_weights" (sp_book_of_weights K) [] := by
  refine calG T.f_book_of_weights (fun _ _ _ _ _ _ us hl => match us, hl with | [_, _], _ => rfl) sc_book_of_weights (fun vs H Q E h => ?_) (fun f cdv A outer s H vs Q E hr h => have hu := hu_of hr; ⟨t_book_of_weights K, (pss_cons (ps_set (i := 2) sc_book_of_weights.nd rfl (Or.inl rfl) (C8.pe_mk (k_Book T) hr (by decide) (by rfl) (pa_cons (pv 0) (pa_cons (pe_disp (pps_cons (C8.pe_mt0 (m_Band_blank_row T) hr (by decide) (pv 0)) pe_int pps_nil) (by rfl) (by rfl) (fun z => by cases z) (by decide)) pa_nil))))
      (pss_cons (ps_fld (pv 2) (C8.pe_c (c_lowest_weights T) hr (by decide) (by rfl) (pa_cons (pv 1) pa_nil)) rfl)
      (pss_one (ps_ret (pv 2))))), ?_⟩)
  · obtain ⟨bp, d, cs, ss, rs, ws, rfl, _⟩ := h
    rfl
  · obtain ⟨bp, d, cs, ss, rs, ws, rfl, hB, hn6, hbl, hd, hne, hl, hnd, hv, k⟩ := h
    have hBb := hB
    obtain ⟨dxb, fsb, ca, sa, ka, g1, g2, g3, g4, g5, g6, g7, g8, g9, g10⟩ := hB
    have c1 := T.cl_Book
    have n2 := T.na_Book_weight_table
    walk_at "go"
    rename_i p0 np0
    have s0 := same_new (o := .dK []) np0
    refine ⟨bp, cs, ss, rs, rfl, hBb.same s0, hn6, fun H1 s1 => ?_⟩
    have hp1 : H1 p0 = some (.dK []) := s1 _ _ upd_same
    walk_at "go"
    have e0 : upd H1 p0 (.dK (mergeK [] [(kR (List.replicate cs.length 46), V.int 1)])) = upd H1 p0 (.dK (WD [(List.replicate cs.length 46, 1)])) := rfl
    rw [e0]
    have s2 : Same H (upd H1 p0 (.dK (WD [(List.replicate cs.length 46, 1)]))) := same_mut (s0.trans s1) np0
    have hp2 : upd H1 p0 (.dK (WD [(List.replicate cs.length 46, 1)])) p0 = _ := upd_same
    generalize upd H1 p0 (.dK (WD [(List.replicate cs.length 46, 1)])) = H2 at s2 hp2 ⊢
    walk_at "go"
    intro x dx nx nd hne'
    have sx : Same H2 (upd (upd H2 dx (.own x)) x (.ins (He.ga K "Book") dx [])) := (same_new nd).trans (same_new (by rw [upd_ne hne'.symm]; exact nx))
    refine ⟨x, dx, bp, p0, cs, ss, rs, [(List.replicate cs.length 46, 1)], rfl, upd_same, hBb.same (s2.trans sx), sx _ _ hp2, List.cons_ne_nil _ _, by simp, ⟨List.nodup_cons.mpr ⟨List.not_mem_nil, List.nodup_nil⟩, fun a ha => ?_, fun a ha => ?_⟩, fun H3 l1 S3 _ _ hK3 => ⟨rfl, ?_⟩⟩
    · rw [List.mem_singleton.mp ha]; exact hbl
    · rw [List.mem_singleton.mp ha]; exact ⟨Nat.le_refl 1, by show 1 ≤ 999; decide⟩
    have s3 : Same H H3 := s2.trans (same_of nx nd hne' S3)
    have nx0 : H x = none := by
      cases e : H x with
      | none => rfl
      | some o => have := s2 _ _ e; rw [nx] at this; cases this
    obtain ⟨dx3, fs3, d3, k1, k2, k3, k4, k5, k6, k7, k8⟩ := hK3
    walk_at "go"
    refine ⟨d, ws, rfl, s3 _ _ hd, hl, hnd, hne, hv, fun p4 H4 l s4 np4 lp ls hp4 => ?_⟩
    walk_at "go"
    refine w_sfld2 (s4 _ _ k1) c1 n2 (by omega) ?_
    walk_at "go"
    have hpx : p4 ≠ x := (ne_of_none k1 np4).symm
    refine k x _ l (same_mut (s3.trans s4) nx0) nx0 lp ls ⟨dx3, _, p4, upd_same, ?_, ?_, by rw [upd_ne hpx]; exact hp4, ?_, ?_, ?_, ?_⟩
    · rw [lookup_putF]; exact k2
    · rw [lookup_putF]; rfl
    · rw [lookup_putF]; exact k5
    · rw [lookup_putF]; exact k6
    · rw [lookup_putF]; exact k7
    · rw [putF_same k3]; exact k8
abbrev nm_Book_onto : List Str := ["self", "cells", "smaller", "kept", "places", "found", "row", "weight", "picture", "at", "name"]
theorem sc_Book_onto : FnScope nm_Book_onto ["self", "cells"] (defScope s_Book_onto) := ⟨rfl, rfl, rfl, by decide +kernel, rfl, by decide +kernel, by decide +kernel⟩
abbrev t_Book_onto (K : PySem.W.Frag) : TS := (tSeq (tAsg (tMeth (He.ga K "Band") "onto" (sp_Band_onto K) [] E0 (tFld K (tVar 0) "band") (tCons (tVar 1) tNil)) (gName 2))
    (tSeq (tAsg (tMeth (He.ga K "Band") "names" (sp_Band_names K) [] E0 (tVar 2) tNil) (gName 3))
    (tSeq (tAsg (tLc (iEnum K (tCons (tMeth (He.ga K "Band") "names" (sp_Band_names K) [] E0 (tFld K (tVar 0) "band") tNil) tNil)) (gTup K 2 (gCons (gName 9) (gCons (gName 10) gNil))) (tTest (tOp (rIn K false) (tVar 10) (tVar 3))) (tVar 9) [9, 10]) (gName 4))
    (tSeq (tAsg tDNewK (gName 5))
    (tSeq (tLock (tFor (iItems (tFld K (tVar 0) "weight_table")) (gTup K 2 (gCons (gName 6) (gCons (gName 7) gNil))) (tSeq (tAsg (tCall (sp_cut K) [] E0 (tCons (tVar 6) (tCons (tVar 4) tNil))) (gName 8))
    (sDPut (tVar 5) (tVar 8) (tOp rAddI (tDGet2 (tVar 5) (tVar 8) (tC (.int 0))) (tVar 7))))))
    (tRet (tCall (sp_book_of_weights K) [] E0 (tCons (tVar 2) (tCons (tVar 5) tNil)))))))))
theorem m_Book_onto (T : Tx K mg) : C8.Met P w K mg base 12 (He.ga K "Book") "onto" (sp_Book_onto K) [] := by
  refine metG T.cl_Book T.me_Book_onto T.f_Book_onto (fun _ _ _ _ _ _ us hl => match us, hl with | [_, _], _ => rfl) sc_Book_onto (fun vs H Q E h => ?_) (fun f cdv A outer s H vs Q E hr h => have hu := hu_of hr; ⟨t_Book_onto K, (pss_cons (ps_set (i := 2) sc_Book_onto.nd rfl (Or.inl rfl) (C8.pe_mt (m_Band_onto T) hr (by decide) (pe_fld (pv 0) rfl) (pa_cons (pv 1) pa_nil)))
      (pss_cons (ps_set (i := 3) sc_Book_onto.nd rfl (Or.inr rfl) (C8.pe_mt0 (m_Band_names T) hr (by decide) (pv 2)))
      (pss_cons (ps_setLc (i := 4) (own := [("at", 9), ("name", 10)]) rfl sc_Book_onto.nd rfl rfl (sw_true rfl rfl rfl (by decide +kernel)) (pi_enum (by rfl) T.b_enumerate (pa_cons (C8.pe_mt0 (m_Band_names T) hr (by decide) (pe_fld (pv 0) rfl)) pa_nil)) (blkOk_by (own := [("at", 9), ("name", 10)]) (N := nm_Book_onto) (sc := (defScope s_Book_onto)) (by decide +kernel)) (fun _ _ _ _ _ => (pg_tup rfl (pgs_cons (pg_name (i := 9) sc_Book_onto.nd rfl (Or.inl rfl) (hf := Or.inr rfl)) (pgs_cons (pg_name (i := 10) sc_Book_onto.nd rfl (Or.inl rfl) (hf := Or.inr rfl)) pgs_nil)))) (fun _ _ _ _ _ => (pts_one (pt_cmpR op_in_seq (pv 10) (pv 3) rfl))) (fun _ _ _ _ _ => (pv 9)))
      (pss_cons (ps_set (i := 5) sc_Book_onto.nd rfl (Or.inl rfl) pe_dnewK)
      (pss_cons (ps_lock (ps_for PassesOwn.never rfl (pi_items (pe_fld (pv 0) rfl)) (pg_tup rfl (pgs_cons (pg_name (i := 6) sc_Book_onto.nd rfl (Or.inl rfl) (hf := Or.inr rfl)) (pgs_cons (pg_name (i := 7) sc_Book_onto.nd rfl (Or.inl rfl) (hf := Or.inr rfl)) pgs_nil))) (pss_cons (ps_set (i := 8) sc_Book_onto.nd rfl (Or.inl rfl) (C8.pe_c (c_cut T) hr (by decide) (by rfl) (pa_cons (pv 6) (pa_cons (pv 4) pa_nil))))
      (pss_one (ps_dput hu (pv 5) (pv 8) (pe_op op_add (pe_dget2 hu (pv 5) (pv 8) pe_int ⟨rfl, rfl, rfl, rfl⟩) (pv 7)) rfl)))))
      (pss_one (ps_ret (C8.pe_c (c_book_of_weights T) hr (by decide) (by rfl) (pa_cons (pv 2) (pa_cons (pv 5) pa_nil)))))))))), ?_⟩)
  · obtain ⟨p, a, bp, cs, ss, rs, ws, f, rfl, _⟩ := h
    rfl
  · obtain ⟨p, a, bp, cs, ss, rs, ws, f, rfl, hW, hBn, hk, hS, hF, hO, ha, hne, k⟩ := h
    have hp := plOk_filter hne
    have hpl := hp.len
    have hn6 := hk.few
    have hBb := hBn
    obtain ⟨dxb, fsb, ca, sa, ka, g1, g2, g3, g4, g5, g6, g7, g8, g9, g10⟩ := hBn
    obtain ⟨dx, fs, d, h1, h2, h3, hd, h5, h6, h7⟩ := hW
    have c1 := T.cl_Book
    have n1 := T.na_Book_band
    have n2 := T.na_Book_weight_table
    walk_at "go"
    generalize hps : (List.range cs.length).filter f = ps at *
    refine ⟨bp, a, cs, ss, rs, f, rfl, hBb, hk, hS, hF, by rw [hps]; exact ha, by rw [hps]; exact hne, fun bq H1 ss' rs' s1 nbq hB1 hr1 => ?_⟩
    rw [hps] at hB1 hr1
    have hB1b := hB1
    obtain ⟨dxq, fsq, ca', sa', ka', q1, q2, q3, q4, q5, q6, q7, q8, q9, q10⟩ := hB1
    have hpl6 : (cutC cs ps).length ≤ 6 := by rw [cutC_len]; omega
    walk_at "go"
    refine ⟨bq, cutC cs ps, ss', rs', rfl, hB1b, hpl6, fun qn H2 s2 nqn hqn => ?_⟩
    rw [cutC_nm hp.lt] at hqn
    have s12 := s1.trans s2
    have h12 := s12 _ _ h1
    have g12 := s12 _ _ g1
    walk_at "go"
    refine ⟨bp, cs, ss, rs, rfl, hBb.same s12, hn6, fun q3n H3 s3 nq3 hq3 => ?_⟩
    have hq3s : SqL K H3 q3n (rowL (cs.map Cell.nm)) := .inl (.inl hq3)
    have hqns := s3 _ _ hqn
    walk_at "go"
    have hwk : Walk (Ite K q3n) (List.range (cs.map Cell.nm).length).length (fun H => SqL K H q3n (rowL (cs.map Cell.nm))) (fun i H v H' => ∃ T x, v = .ref T ∧ H T = none ∧ H' = upd H T (.tup [.int (i : Nat), .str (S x)]) ∧ (cs.map Cell.nm)[i]? = some x) := by
      rw [List.length_range]; exact walk_enumM
    refine lc_valL (List.range (cs.map Cell.nm).length) (fun i => .int (i : Nat)) (fun i => decide (nameAt cs i ∈ namesOf cs ps)) hwk (by rw [List.length_range, List.length_map]; omega) (fun H' s => .inl (.inl (s _ _ hq3))) ?_ ?_
    · rintro i c v H4 H5 R R0 hc s4 ⟨T', nm, rfl, hT, rfl, hx⟩ k1 k2
      obtain ⟨hi, rfl⟩ := range_some hc
      have hnm2 : nameAt cs c = nm := by unfold nameAt; rw [hx]; rfl
      have s5 := same_new (o := .tup [.int (c : Nat), .str (S nm)]) hT
      have ha4 : SqL K (upd H4 T' (.tup [.int (c : Nat), .str (S nm)])) qn (rowL (namesOf cs ps)) := .inl (.inl (s5 _ _ (s4 _ _ hqns)))
      walk_at "go"
      rw [hnm2] at k1 k2
      refine w_dec (fun e => ?_) (fun e => ?_)
      · walk_at "go"
        exact k1 _ (decide_eq_true e) s5
      · exact k2 _ (decide_eq_false e) s5
    · intro D H4 nD s4 hD
      have e : ((List.range (cs.map Cell.nm).length).filter fun i => decide (nameAt cs i ∈ namesOf cs ps)) = ps := by
        rw [List.length_map]
        have := names_back hk f
        rw [hps] at this
        exact this
      rw [e] at hD
      have s14 := (s12.trans s3).trans s4
      have h14 := s14 _ _ h1
      have hd4 := s14 _ _ hd
      walk_at "go"
      rename_i pf npf
      have hdp : d ≠ pf := ne_of_none hd4 npf
      have hdf : upd H4 pf (.dK []) d = some (.dK (WD ws)) := by rw [upd_ne hdp]; exact hd4
      refine w_lock hdf fun od => ?_
      have hDf : upd (upd H4 pf (.dK [])) d (.frz od (.dK (WD ws))) D = some (.lst (ps.map fun i : Nat => V.int i)) := frz_ne hdf (same_new npf _ _ hD) (by intro z; cases z)
      have hpf0 : upd (upd H4 pf (.dK [])) d (.frz od (.dK (WD ws))) pf = some (.dK []) := by rw [upd_ne hdp.symm]; exact upd_same
      have hpx1 : upd (upd H4 pf (.dK [])) d (.frz od (.dK (WD ws))) p = _ := frz_ne hdf (same_new npf _ _ h14) (by intro z; cases z)
      walk_at "go"
      refine for_G (n := ws.length) walk_itemsKD (fun i σ H' => SBut pf (upd (upd H4 pf (.dK [])) d (.frz od (.dK (WD ws)))) H' ∧ H' pf = some (.dK (WD (tally ((ws.take i).map fun a => (cutR a.1 ps, a.2))))) ∧ ∃ u7 u8 u9 u10 u11, σ = [some (.ref p), some (.ref a), some (.ref bq), some (.ref qn), some (.ref D), some (.ref pf), u7, u8, u9, u10, u11]) ⟨SBut.refl, hpf0, _, _, _, _, _, rfl⟩ (fun i σ H' _ h => h.1 _ _ hdp upd_same) ?_ ?_
      · rintro i v σ H5 H6 hi ⟨S5, hpf5, u7, u8, u9, u10, u11, rfl⟩ ⟨T', b, rfl, hT, rfl, hb⟩
        have hbm := List.mem_of_getElem? hb
        have hbl := hO.len b hbm
        have sT := same_new (o := .tup [.str (S b.1), .int (b.2 : Nat)]) hT
        have hDpf : D ≠ pf := ne_of hDf hpf0 (by intro z; cases z)
        have hD6 : SqL K (upd H5 T' (.tup [.str (S b.1), .int (b.2 : Nat)])) D (ps.map fun i : Nat => V.int i) := .inl (.inl (sT _ _ (S5 _ _ hDpf hDf)))
        have htl : (tally ((ws.take i).map fun a => (cutR a.1 ps, a.2))).length ≤ 40 := by
          refine Nat.le_trans (tally_len _) ?_
          rw [List.length_map]
          exact Nat.le_trans (List.length_take_le _ _) (by have := hO.few; omega)
        have hst := tally_take (ws.map fun a => (cutR a.1 ps, a.2)) i (cutR b.1 ps, b.2) (by rw [List.getElem?_map, hb]; rfl)
        rw [← List.map_take, ← List.map_take] at hst
        walk_at "go"
        refine ⟨b.1, D, ps, rfl, hD6, by rw [hbl]; exact hp.lt, by omega, by omega, fun H7 s7 => ?_⟩
        have hpf7 := s7 _ _ (sT _ _ hpf5)
        walk_at "go"
        refine ⟨pf, rfl, w_isD (.inl hpf7) ?_⟩
        walk_at "go"
        refine w_dget2W (l := tally ((ws.take i).map fun a => (cutR a.1 ps, a.2))) (.inl hpf7) fun o ho => ?_
        rw [ho]
        walk_at "go"
        refine w_dputR (f := fun n : Nat => V.int n) (v := (lookA (tally ((ws.take i).map fun a => (cutR a.1 ps, a.2))) (cutR b.1 ps)).getD 0 + b.2) hpf7 (by omega) ?_
        refine ⟨(S5.trans (same_but (sT.trans s7))).trans sbut_upd, ?_, _, _, _, _, _, rfl⟩
        rw [hst]; exact upd_same
      · rintro σ H5 ⟨S5, hpf5, u7, u8, u9, u10, u11, rfl⟩
        rw [List.take_length] at hpf5
        have hd5 : H5 d = some (.frz od (.dK (WD ws))) := S5 _ _ hdp upd_same
        refine ⟨hd5, ?_⟩
        have s5 : Same H4 (upd H5 d (.dK (WD ws))) := fun b o e => by
          by_cases z : b = d
          · rw [z] at e ⊢
            rw [upd_same, ← hd4]; exact e
          · have z2 : b ≠ pf := ne_of_none e npf
            rw [upd_ne z]
            refine S5 _ _ z2 ?_
            rw [upd_ne z, upd_ne z2]; exact e
        have hpf6 : upd H5 d (.dK (WD ws)) pf = some (.dK (WD (ontoW ws ps))) := by rw [upd_ne hdp.symm]; exact hpf5
        generalize upd H5 d (.dK (WD ws)) = H6 at s5 hpf6 ⊢
        obtain ⟨o1, o2, o3, o4, o5⟩ := ontoW_ok hO ps
        have s24 := (s2.trans s3).trans (s4.trans s5)
        have e2 : List.replicate (cutC cs ps).length 46 ∈ rs' := by rw [cutC_len]; exact hr1
        walk_at "go"
        refine ⟨bq, pf, cutC cs ps, ss', rs', ontoW ws ps, rfl, hB1b.same s24, hpl6, e2, hpf6, o1, o2, o3, o5, fun q H7 l s7 nq lp ls hK => ?_⟩
        have s07 := (s14.trans s5)
        refine k q bq H7 l ss' rs' (s07.trans s7) ?_ (hB1b.same (s24.trans s7)) lp ls hK
        cases e : H q with
        | none => rfl
        | some o => have := s07 _ _ e; rw [nq] at this; cases this
end
/-! ## G6 -/
section
set_option maxHeartbeats 2000000
open PySem PySem.Spec PyProof.Rows L2
/-! ### dicts of fractions -/
def RatV (H : Hp) (q : Rat) (v : V) : Prop := ∃ p, v = .ref p ∧ Rt H p q
theorem RatV.same {H H' : Hp} {q : Rat} {v : V} (h : RatV H q v) (s : Same H H') : RatV H' q v := by
  obtain ⟨p, h1, h2⟩ := h
  exact ⟨p, h1, s _ _ h2⟩
abbrev Rs : Type := List (Row × Rat)
def RD (H : Hp) (d : Addr) (l : Rs) : Prop := ∃ kvs, H d = some (.dK kvs) ∧ Paired (fun (a : Row × Rat) (kv : Key × V) => kv.1 = kR a.1 ∧ RatV H a.2 kv.2) l kvs
theorem RD.same {H H' : Hp} {d : Addr} {l : Rs} (h : RD H d l) (s : Same H H') : RD H' d l := by
  obtain ⟨kvs, h1, h2⟩ := h
  exact ⟨kvs, s _ _ h1, Paired.mapP h2 fun a kv z => ⟨z.1, z.2.same s⟩⟩
theorem paired_pre {α β γ : Type} {F : β → γ → Prop} {f : α → β} : ∀ {xs : List α} {ys : List γ}, Paired (fun a y => F (f a) y) xs ys → Paired F (xs.map f) ys
  | _, _, .nil => .nil
  | _, _, .cons r t => .cons r (paired_pre t)
/-- a book's weights, bounded -/
structure BOk (n : Nat) (ws : Ws) : Prop where
  ne : ws ≠ []
  few : ws.length ≤ 40
  nd : (ws.map (·.1)).Nodup
  len : ∀ a ∈ ws, a.1.length = n
  val : ∀ a ∈ ws, 1 ≤ a.2 ∧ a.2 < 1000000
def facesW (ws : Ws) : Nat := (ws.map (·.2)).sum
def blankR (n : Nat) : Row := List.replicate n 46
theorem sum_le : ∀ (ws : Ws) (m : Nat), (∀ a ∈ ws, a.2 ≤ m) → (ws.map (·.2)).sum ≤ m * ws.length
  | [], m, _ => by simp
  | a :: ws, m, h => by
    have h1 := h a List.mem_cons_self
    have h2 := sum_le ws m fun b hb => h b (List.mem_cons_of_mem _ hb)
    rw [List.map_cons, List.sum_cons, List.length_cons, Nat.mul_succ]
    omega
theorem BOk.faces {n : Nat} {ws : Ws} (h : BOk n ws) : facesW ws < 40000000 := by
  have h1 := sum_le ws 999999 fun a ha => by have := (h.val a ha).2; omega
  have h2 := h.few
  unfold facesW
  have : 999999 * ws.length ≤ 999999 * 40 := Nat.mul_le_mul_left _ h2
  omega
theorem look_sum {ws : Ws} : ∀ {r : Row}, (lookA ws r).getD 0 ≤ (ws.map (·.2)).sum := by
  induction ws with
  | nil => intro r; exact Nat.zero_le _
  | cons a l ih =>
    intro r
    rw [look_cons, List.map_cons, List.sum_cons]
    split
    · show a.2 ≤ _; omega
    · have := ih (r := r); omega
theorem look_lt {ws : Ws} (nd : (ws.map (·.1)).Nodup) (h : ∀ a ∈ ws, 1 ≤ a.2) {r : Row} {a : Row × Nat} (ha : a ∈ ws) (hn : a.1 ≠ r) : (lookA ws r).getD 0 < (ws.map (·.2)).sum := by
  induction ws with
  | nil => cases ha
  | cons b l ih =>
    rw [look_cons, List.map_cons, List.sum_cons]
    rw [List.map_cons] at nd
    obtain ⟨n1, n2⟩ := List.nodup_cons.mp nd
    by_cases e : b.1 = r
    · rw [if_pos e]
      rcases List.mem_cons.mp ha with z | z
      · exact absurd (by rw [z]; exact e) hn
      · have h1 : ∀ (m : Ws), a ∈ m → (∀ a ∈ m, 1 ≤ a.2) → 1 ≤ (m.map (·.2)).sum := by
          intro m hm hv
          induction m with
          | nil => cases hm
          | cons c m ih2 =>
            rw [List.map_cons, List.sum_cons]
            have := hv c List.mem_cons_self
            omega
        have := h1 l z fun c hc => h c (List.mem_cons_of_mem _ hc)
        show b.2 < _
        omega
    · rw [if_neg e]
      have hb := h b List.mem_cons_self
      rcases List.mem_cons.mp ha with z | z
      · have := look_sum (ws := l) (r := r)
        omega
      · have := ih n2 (fun c hc => h c (List.mem_cons_of_mem _ hc)) z
        omega
def leaveW (n : Nat) (ws : Ws) : Nat := facesW ws - (lookA ws (blankR n)).getD 0
/-- some deed tells something -/
theorem told_some {cs : List Cell} {ws : Ws} (h1 : 1 ≤ cs.length) (hl : ∀ a ∈ ws, a.1.length = cs.length) (hu : untoldN cs ws = []) : ∃ a ∈ ws, a.1 ≠ blankR cs.length := by
  unfold untoldN untoldP at hu
  rw [List.map_eq_nil_iff, List.filter_eq_nil_iff] at hu
  have := hu 0 (List.mem_range.mpr h1)
  simp only [List.all_eq_true, Classical.not_forall] at this
  obtain ⟨a, ha, hn⟩ := this
  refine ⟨a, ha, fun z => hn ?_⟩
  rw [z]
  unfold blankR
  rw [List.getElem?_replicate, if_pos (show 0 < cs.length from h1)]
  rfl
theorem leave_pos {cs : List Cell} {ws : Ws} (h1 : 1 ≤ cs.length) (hb : BOk cs.length ws) (hu : untoldN cs ws = []) : 0 < leaveW cs.length ws := by
  obtain ⟨a, ha, hn⟩ := told_some h1 hb.len hu
  have := look_lt hb.nd (fun a ha => (hb.val a ha).1) ha hn
  unfold leaveW facesW
  omega
def firstD (n : Nat) (ws : Ws) : Rs := (ws.filter fun a => !decide (a.1 = blankR n)).map fun a => (a.1, mkRat a.2 (leaveW n ws))
def sp_check_told (K : PySem.W.Frag) : Sp := fun vs H Q _ => ∃ p bp ws cs ss rs, vs = [.ref p] ∧ BookAt K H p bp ws ∧ BandAt K H bp cs ss rs ∧ cs.length ≤ 6 ∧ ws.length ≤ 40 ∧ (∀ a ∈ ws, a.1.length = cs.length) ∧ untoldN cs ws = [] ∧ ∀ H', Same H H' → Q .non H'
def sp_first_tellers (K : PySem.W.Frag) : Sp := fun vs H Q _ => ∃ p bp ws cs ss rs, vs = [.ref p] ∧ BookAt K H p bp ws ∧ BandAt K H bp cs ss rs ∧ 1 ≤ cs.length ∧ cs.length ≤ 6 ∧ BOk cs.length ws ∧ untoldN cs ws = [] ∧ ∀ d H', Same H H' → H d = none → RD H' d (firstD cs.length ws) → Q (.ref d) H'
end
/-! ## F25 -/
section
set_option maxHeartbeats 2000000
open PySem PySem.Spec PyProof.Rows L2


variable {P : Program} {w : World} {K : PySem.W.Frag} {mg : Str → Option Value} {base : Heap}
abbrev nm_check_told : List Str := ["book", "names"]
theorem sc_check_told : FnScope nm_check_told ["book"] (defScope s_check_told) := ⟨rfl, rfl, rfl, by decide +kernel, rfl, by decide +kernel, by decide +kernel⟩
abbrev t_check_told (K : PySem.W.Frag) : TS := (tSeq (tAsg (tMeth (He.ga K "Book") "untold" (sp_Book_untold K) [] E0 (tVar 0) tNil) (gName 1))
    (tIfS (tTru K (tVar 1)) tNever tNext))
theorem c_check_told (T : Tx K mg) : C8.Cal P w K mg base 3 "check_told" (sp_check_told K) [] := by
  refine calG T.f_check_told (fun _ _ _ _ _ _ us hl => match us, hl with | [_], _ => rfl) sc_check_told (fun vs H Q E h => ?_) (fun f cdv A outer s H vs Q E hr h => have hu := hu_of hr; ⟨t_check_told K, (pss_cons (ps_set (i := 1) sc_check_told.nd rfl (Or.inl rfl) (C8.pe_mt0 (m_Book_untold T) hr (by decide) (pv 0)))
      (pss_one (ps_if (pt_truth (pv 1) (by intro _; rfl)) pss_never pss_nil))), ?_⟩)
  · obtain ⟨p, bp, ws, cs, ss, rs, rfl, _⟩ := h
    rfl
  · obtain ⟨p, bp, ws, cs, ss, rs, rfl, hW, hBn, hn6, hl, hlen, hu0, k⟩ := h
    have hWb := hW
    obtain ⟨dx, fs, d, h1, h2, h3, hd, h5, h6, h7, h8⟩ := hW
    walk_at "go"
    refine ⟨p, bp, ws, cs, ss, rs, rfl, hWb, hBn, hn6, hl, hlen, fun q H1 s1 nq hq => ?_⟩
    rw [hu0] at hq
    walk_at "go"
    refine ⟨false, .inl ⟨_, .inl (.inl hq), rfl⟩, ?_⟩
    exact k H1 s1
abbrev nm_first_tellers : List Str := ["book", "weights", "blank_row", "leaving", "deed", "weight"]
theorem sc_first_tellers : FnScope nm_first_tellers ["book"] (defScope s_first_tellers) := ⟨rfl, rfl, rfl, by decide +kernel, rfl, by decide +kernel, by decide +kernel⟩
abbrev t_first_tellers (K : PySem.W.Frag) : TS := (tSeq (tDrop (tCall (sp_check_told K) [] E0 (tCons (tVar 0) tNil)))
    (tSeq (tAsg (tMeth (He.ga K "Book") "weights" (sp_Book_weights K) [] E0 (tVar 0) tNil) (gName 1))
    (tSeq (tAsg (tMeth (He.ga K "Band") "blank_row" (sp_Band_blank_row K) [] E0 (tFld K (tVar 0) "band") tNil) (gName 2))
    (tSeq (tAsg (tOp rSubI (tProp (He.ga K "Book") (sp_Book_faces K) [] E0 (tVar 0)) (tDGet2 (tVar 1) (tVar 2) (tC (.int 0)))) (gName 3))
    (tRet (tLockE (tDc (iItems (tVar 1)) (gTup K 2 (gCons (gName 4) (gCons (gName 5) gNil))) (tTest (tOp rNe (tVar 4) (tVar 2))) (tVar 4) (tCall (sp_ratio K) [] E0 (tCons (tVar 5) (tCons (tVar 3) tNil))) [4, 5])))))))
theorem c_first_tellers (T : Tx K mg) : C8.Cal P w K mg base 4 "first_tellers" (sp_first_tellers K) [] := by
  refine calG T.f_first_tellers (fun _ _ _ _ _ _ us hl => match us, hl with | [_], _ => rfl) sc_first_tellers (fun vs H Q E h => ?_) (fun f cdv A outer s H vs Q E hr h => have hu := hu_of hr; ⟨t_first_tellers K, (pss_cons (ps_expr (C8.pe_c (c_check_told T) hr (by decide) (by rfl) (pa_cons (pv 0) pa_nil)))
      (pss_cons (ps_set (i := 1) sc_first_tellers.nd rfl (Or.inl rfl) (C8.pe_mt0 (m_Book_weights T) hr (by decide) (pv 0)))
      (pss_cons (ps_set (i := 2) sc_first_tellers.nd rfl (Or.inr rfl) (C8.pe_mt0 (m_Band_blank_row T) hr (by decide) (pe_fld (pv 0) rfl)))
      (pss_cons (ps_set (i := 3) sc_first_tellers.nd rfl (Or.inr rfl) (pe_op op_sub (pe_prop_c (p_Book_faces T) hr (by decide) (pv 0)) (pe_dget2 hu (pv 1) (pv 2) pe_int ⟨rfl, rfl, rfl, rfl⟩)))
      (pss_one (ps_ret (pe_lock (pe_dc (own := [("deed", 4), ("weight", 5)]) rfl sc_first_tellers.nd (pi_items (pv 1)) (blkOk_by (own := [("deed", 4), ("weight", 5)]) (N := nm_first_tellers) (sc := (defScope s_first_tellers)) (by decide +kernel)) (fun _ _ _ _ _ => (pg_tup rfl (pgs_cons (pg_name (i := 4) sc_first_tellers.nd rfl (Or.inl rfl) (hf := Or.inr rfl)) (pgs_cons (pg_name (i := 5) sc_first_tellers.nd rfl (Or.inl rfl) (hf := Or.inr rfl)) pgs_nil)))) (fun _ _ _ _ _ => (pts_one (pt_cmpR op_ne (pv 4) (pv 2) (nomark _)))) (fun _ _ _ _ _ => (pv 4)) (fun _ _ _ _ _ => (C8.pe_c (c_ratio T) hr (by decide) (by rfl) (pa_cons (pv 5) (pa_cons (pv 3) pa_nil)))))))))))), ?_⟩)
  · obtain ⟨p, bp, ws, cs, ss, rs, rfl, _⟩ := h
    rfl
  · obtain ⟨p, bp, ws, cs, ss, rs, rfl, hW, hBn, hn1, hn6, hO, hu0, k⟩ := h
    have hWb := hW
    obtain ⟨dx, fs, d, h1, h2, h3, hd, h5, h6, h7, h8⟩ := hW
    have hBb := hBn
    obtain ⟨dxb, fsb, ca, sa, ka, g1, g2, g3, g4, g5, g6, g7, g8, g9, g10⟩ := hBn
    have c1 := T.cl_Book
    have n1 := T.na_Book_band
    walk_at "go"
    refine ⟨p, bp, ws, cs, ss, rs, rfl, hWb, hBb, hn6, hO.few, hO.len, hu0, fun H1 s1 => ?_⟩
    have h11 := s1 _ _ h1
    walk_at "go"
    refine ⟨p, bp, ws, rfl, hWb.same s1, fun q H2 s2 nq hq => ?_⟩
    have s12 := s1.trans s2
    have h12 := s12 _ _ h1
    have g12 := s12 _ _ g1
    walk_at "go"
    refine ⟨bp, cs, ss, rs, rfl, hBb.same s12, hn6, fun H3 s3 => ?_⟩
    have s13 := s12.trans s3
    have h13 := s13 _ _ h1
    walk_at "go"
    refine ⟨p, bp, ws, rfl, hWb.same s13, fun H4 s4 => ?_⟩
    have hq4 := s4 _ _ (s3 _ _ hq)
    walk_at "go"
    refine ⟨q, rfl, w_isD (.inl hq4) ?_⟩
    walk_at "go"
    refine w_dget2W (l := ws) (.inl hq4) fun o ho => ?_
    rw [ho]
    walk_at "go"
    have elv : (((ws.map (·.2)).sum : Nat) : Int) - (((lookA ws (List.replicate cs.length 46)).getD 0 : Nat) : Int) = ((leaveW cs.length ws : Nat) : Int) := by
      have := look_sum (ws := ws) (r := List.replicate cs.length 46)
      unfold leaveW facesW blankR
      omega
    rw [elv]
    have hlp := leave_pos hn1 hO hu0
    have hll : (leaveW cs.length ws).log2 < 9000 := by
      have := hO.faces
      have h2 : (leaveW cs.length ws).log2 ≤ (40000000 : Nat).log2 := log2_mono (by unfold leaveW; omega)
      have h3 : (40000000 : Nat).log2 < 9000 := by decide +kernel
      omega
    have s14 := s13.trans s4
    have hwf := hO.few
    refine w_lockE hq4 fun od => ?_
    walk_at "go"
    refine dc_relL ws (fun a => a.1) walk_itemsKD (by omega) (fun a => !decide (a.1 = blankR cs.length)) ((List.filter_sublist.map _).nodup hO.nd) (fun D a v H => ∃ p, v = .ref p ∧ p ≠ D ∧ Rt H p (mkRat a.2 (leaveW cs.length ws))) (fun D a v H H' S h => let ⟨p, h1, h2, h3⟩ := h; ⟨p, h1, h2, S _ _ h2 h3⟩) (fun H' s => s _ _ upd_same) ?_ ?_
    · rintro D i a v H5 H6 R R0 hi nD s5 hD ⟨T', b, rfl, hT, rfl, hb⟩ k1 k2
      obtain rfl : b = a := Option.some.inj (hb.symm.trans hi)
      have sT := same_new (o := .tup [.str (S b.1), .int (b.2 : Nat)]) hT
      walk_at "go"
      refine w_ndec (fun e => ?_) (fun e => ?_)
      · walk_at "go"
        refine ⟨_, _, rfl, hlp, hll, fun p5 H7 np5 s7 hR => ?_⟩
        obtain ⟨kvs, hD⟩ := hD
        exact k1 _ _ (by unfold blankR; simp [e]) (sT.trans s7) ⟨p5, rfl, (ne_of_none (sT _ _ hD) np5).symm, hR⟩
      · exact k2 _ (by unfold blankR; simp [e]) sT
    · intro D H5 kvs nD s5 hD hP
      have hq5 := s5 _ _ upd_same
      refine ⟨hq5, ?_⟩
      obtain ⟨nD0, nDd⟩ := none_lock nD
      have s5' := same_unlock hq4 s5
      have nD1 : H D = none := by
        cases e : H D with
        | none => rfl
        | some o => have := s14 _ _ e; rw [nD0] at this; cases this
      refine k D _ (s14.trans s5') nD1 ⟨kvs, by rw [upd_ne nDd]; exact hD, ?_⟩
      unfold firstD
      refine paired_pre (Paired.mapP hP fun a kv z => ⟨z.1, ?_⟩)
      obtain ⟨p5, h1, h2, h3⟩ := z.2
      refine ⟨p5, h1, ?_⟩
      unfold Rt at h3 ⊢
      have : p5 ≠ q := ne_of h3 hq5 (by intro z; cases z)
      rw [upd_ne this]; exact h3
end
/-! ## G7 -/
section
set_option maxHeartbeats 2000000
open PySem PySem.Spec PyProof.Rows L2
/-! ### a fresh dict that is walked: it is locked for good -/
def tFrz (te : TE) : TE := fun σ H Q => te σ H fun x H1 => ∃ (d : Addr) (kvs : List (Key × V)), x = .ref d ∧ H1 d = some (.dK kvs) ∧ ∀ od, Q (.ref d) (upd H1 d (.frz od (.dK kvs)))
theorem pe_frz {X : Cx} {e : Expr} {te : TE} (h : PE X e te) : PE X e (tFrz te) := by
  refine ⟨fun pins s σ H Q I hw => ?_⟩
  refine thn (h.run pins s σ H _ I hw) fun v s1 ⟨x, H1, I1, r, d, kvs, ex, hd, q⟩ => ?_
  subst ex
  obtain ⟨od, I2⟩ := I1.lock hd trivial
  exact ⟨.ref d, _, I2, r, q od⟩
theorem w_tfrz {te : TE} {σ : L2.St} {H : Hp} {Q : VK} (h : te σ H fun x H1 => ∃ (d : Addr) (kvs : List (Key × V)), x = .ref d ∧ H1 d = some (.dK kvs) ∧ ∀ od, Q (.ref d) (upd H1 d (.frz od (.dK kvs)))) : tFrz te σ H Q := h
end
/-! ## M0 -/
section
set_option maxHeartbeats 2000000
open PySem PySem.Spec PyProof.Rows L2
/-! ### the chances, in plain -/
def dots (q : Row) : Nat := q.count 46
theorem full_dots (q : Row) : full q = true ↔ dots q = 0 := by
  unfold full dots
  rw [List.all_eq_true, List.count_eq_zero]
  constructor
  · intro h hm
    have := h 46 hm
    simp at this
  · intro h c hc
    rw [bne_iff_ne]
    intro e
    exact h (e ▸ hc)
/-- a sum over a dict of fractions, some rows left out -/
def tot (φ : Row → Rat) (D : List Row) (c : Rs) : Rat := (c.map fun a => if a.1 ∈ D then 0 else a.2 * φ a.1).sum
theorem tot_nil (φ : Row → Rat) (D : List Row) : tot φ D [] = 0 := rfl
theorem tot_cons (φ : Row → Rat) (D : List Row) (a : Row × Rat) (c : Rs) : tot φ D (a :: c) = (if a.1 ∈ D then 0 else a.2 * φ a.1) + tot φ D c := by
  unfold tot; rw [List.map_cons, List.sum_cons]
theorem tot_app (φ : Row → Rat) (D : List Row) : ∀ c d : Rs, tot φ D (c ++ d) = tot φ D c + tot φ D d
  | [], d => by rw [List.nil_append, tot_nil]; grind
  | a :: c, d => by rw [List.cons_append, tot_cons, tot_cons, tot_app φ D c d]; grind
def valR (c : Rs) (r : Row) : Rat := (lookA c r).getD 0
/-- a part added at a row -/
theorem tot_put (φ : Row → Rat) {D : List Row} {r : Row} (hr : r ∉ D) (x : Rat) : ∀ {c : Rs}, (c.map (·.1)).Nodup → tot φ D (putA c r (valR c r + x)) = tot φ D c + x * φ r := by
  intro c nd
  unfold putA valR
  by_cases h : r ∈ c.map (·.1)
  · rw [if_pos (any_key.mpr h)]
    induction c with
    | nil => cases h
    | cons a l ih =>
      rw [List.map_cons] at nd h
      obtain ⟨h1, h2⟩ := List.nodup_cons.mp nd
      rw [List.map_cons, look_cons]
      by_cases e : a.1 = r
      · rw [if_pos e, if_pos e, map_same (by rw [← e]; exact h1), tot_cons, tot_cons]
        show (if a.1 ∈ D then 0 else ((some a.2).getD 0 + x) * φ a.1) + _ = _
        rw [if_neg (by rw [e]; exact hr), if_neg (by rw [e]; exact hr), e]
        show (a.2 + x) * φ r + _ = _
        grind
      · rw [if_neg e, if_neg e, tot_cons, tot_cons]
        rcases List.mem_cons.mp h with z | z
        · exact absurd z.symm e
        · rw [ih h2 z]
          grind
  · rw [if_neg (fun z => h (any_key.mp z)), look_none h, tot_app, tot_cons, tot_nil]
    show _ + ((if r ∈ D then 0 else ((none : Option Rat).getD 0 + x) * φ r) + 0) = _
    rw [if_neg hr]
    show _ + ((0 + x) * φ r + 0) = _
    grind
/-- a row is taken out -/
theorem tot_done (φ : Row → Rat) {D : List Row} {q : Row} (hq : q ∉ D) : ∀ {c : Rs}, (c.map (·.1)).Nodup → tot φ D c = tot φ (q :: D) c + valR c q * φ q := by
  intro c nd
  unfold valR
  induction c with
  | nil => rw [tot_nil, tot_nil]; show (0 : Rat) = 0 + 0 * _; grind
  | cons a l ih =>
    rw [List.map_cons] at nd
    obtain ⟨h1, h2⟩ := List.nodup_cons.mp nd
    rw [tot_cons, tot_cons, look_cons]
    by_cases e : a.1 = q
    · rw [if_pos e, if_neg (by rw [e]; exact hq), if_pos (by rw [e]; exact List.mem_cons_self)]
      have hs : tot φ (q :: D) l = tot φ D l := by
        unfold tot
        congr 1
        apply List.map_congr_left
        intro b hb
        have hbq : b.1 ≠ q := fun z => h1 (by rw [e, ← z]; exact List.mem_map.mpr ⟨b, hb, rfl⟩)
        have : b.1 ∈ q :: D ↔ b.1 ∈ D := by simp [hbq]
        by_cases hd : b.1 ∈ D
        · rw [if_pos hd, if_pos (this.mpr hd)]
        · rw [if_neg hd, if_neg (fun z => hd (this.mp z))]
      rw [hs, e]
      show _ = 0 + _ + a.2 * φ q
      grind
    · rw [if_neg e, ih h2]
      have : a.1 ∈ q :: D ↔ a.1 ∈ D := by simp [e]
      by_cases hd : a.1 ∈ D
      · rw [if_pos hd, if_pos (this.mpr hd)]; grind
      · rw [if_neg hd, if_neg (fun z => hd (this.mp z))]; grind
/-- what leaves q -/
def leaves (ws : Ws) (q : Row) : Nat := (((ws.filter fun a => !decide (ov q a.1 = q))).map (·.2)).sum
def mvs (ws : Ws) (q : Row) : Ws := (ws.filter fun a => !decide (ov q a.1 = q)).map fun a => (ov q a.1, a.2)
def hh (ws : Ws) : Nat → Row → Row → Rat
  | 0, q, f => if q = f then 1 else 0
  | k + 1, q, f => if full q = true then (if q = f then 1 else 0) else wsum (fun r => hh ws k r f) (mvs ws q) / (leaves ws q : Rat)
theorem wsum_congr {φ ψ : Row → Rat} : ∀ {l : Ws}, (∀ a ∈ l, φ a.1 = ψ a.1) → wsum φ l = wsum ψ l
  | [], _ => rfl
  | a :: l, h => by rw [wsum_cons, wsum_cons, h a List.mem_cons_self, wsum_congr fun b hb => h b (List.mem_cons_of_mem _ hb)]
theorem mvs_dots {ws : Ws} {n : Nat} (hl : ∀ a ∈ ws, a.1.length = n) {q : Row} (hq : q.length = n) : ∀ a ∈ mvs ws q, a.1.length = n ∧ dots a.1 < dots q := by
  intro a ha
  obtain ⟨b, hb, rfl⟩ := List.mem_map.mp ha
  obtain ⟨h1, h2⟩ := List.mem_filter.mp hb
  have h3 : ov q b.1 ≠ q := by simpa using h2
  have hlen : q.length = b.1.length := by rw [hq, hl b h1]
  obtain ⟨_, h5⟩ := ov_count q b.1 hlen
  refine ⟨by rw [ov_lenE hlen]; exact hq, ?_⟩
  rcases h5 with z | z
  · exact absurd z h3
  · exact z
theorem hh_step {ws : Ws} {n : Nat} (hl : ∀ a ∈ ws, a.1.length = n) (f : Row) : ∀ (k : Nat) (q : Row), q.length = n → dots q ≤ k → hh ws (k + 1) q f = hh ws k q f
  | 0, q, hq, hd => by
    have : full q = true := (full_dots q).mpr (by omega)
    show (if full q = true then _ else _) = _
    rw [if_pos this]
    rfl
  | k + 1, q, hq, hd => by
    show (if full q = true then _ else _) = (if full q = true then _ else _)
    by_cases h : full q = true
    · rw [if_pos h, if_pos h]
    · rw [if_neg h, if_neg h]
      congr 1
      refine wsum_congr fun a ha => ?_
      have := mvs_dots hl hq a ha
      exact hh_step hl f k a.1 this.1 (by omega)
theorem hh_mono {ws : Ws} {n : Nat} (hl : ∀ a ∈ ws, a.1.length = n) (f : Row) (q : Row) (hq : q.length = n) : ∀ (k : Nat), dots q ≤ k → hh ws k q f = hh ws (dots q) q f
  | 0, h => by rw [show dots q = 0 by omega]
  | k + 1, h => by
    by_cases e : dots q = k + 1
    · rw [e]
    · rw [hh_step hl f k q hq (by omega), hh_mono hl f q hq k (by omega)]
/-- the chance to come from q to f -/
def hB (ws : Ws) (q f : Row) : Rat := hh ws (dots q) q f
/-- what stays as it is, in the mean -/
def Harm (n : Nat) (ws : Ws) (φ : Row → Rat) : Prop := ∀ q : Row, q.length = n → full q = false → (leaves ws q : Rat) * φ q = wsum φ (mvs ws q)
theorem hB_full {ws : Ws} {q f : Row} (h : full q = true) : hB ws q f = if q = f then 1 else 0 := by
  unfold hB
  rw [(full_dots q).mp h]
  rfl
theorem hB_eq {ws : Ws} {n : Nat} (hl : ∀ a ∈ ws, a.1.length = n) {q f : Row} (hq : q.length = n) (h : full q = false) : hB ws q f = wsum (fun r => hB ws r f) (mvs ws q) / (leaves ws q : Rat) := by
  have hd : dots q ≠ 0 := fun z => by rw [(full_dots q).mpr z] at h; cases h
  obtain ⟨k, hk⟩ := Nat.exists_eq_succ_of_ne_zero hd
  unfold hB
  rw [hk]
  show (if full q = true then _ else _) = _
  rw [if_neg (by rw [h]; exact Bool.false_ne_true)]
  congr 1
  refine wsum_congr fun a ha => ?_
  have := mvs_dots hl hq a ha
  exact hh_mono hl f a.1 this.1 k (by omega)
theorem harm_hB {ws : Ws} {n : Nat} (hl : ∀ a ∈ ws, a.1.length = n) (hp : ∀ q : Row, q.length = n → full q = false → 0 < leaves ws q) (f : Row) : Harm n ws fun q => hB ws q f := by
  intro q hq h
  show (leaves ws q : Rat) * hB ws q f = _
  rw [hB_eq hl hq h]
  have : (leaves ws q : Rat) ≠ 0 := by
    have := hp q hq h
    intro z
    have h2 : leaves ws q = 0 := by exact_mod_cast z
    omega
  rw [Rat.mul_comm, Rat.div_mul_cancel this]
theorem wsum_one : ∀ l : Ws, wsum (fun _ => 1) l = (((l.map (·.2)).sum : Nat) : Rat)
  | [] => rfl
  | a :: l => by
    rw [wsum_cons, wsum_one l, List.map_cons, List.sum_cons, Rat.natCast_add]
    grind
theorem harm_one {n : Nat} {ws : Ws} : Harm n ws fun _ => 1 := by
  intro q _ _
  rw [wsum_one]
  unfold mvs leaves
  rw [List.map_map]
  have : (fun a : Row × Nat => a.2) ∘ (fun a : Row × Nat => (ov q a.1, a.2)) = fun a => a.2 := rfl
  rw [this]
  grind
end
/-! ## M1 -/
section
set_option maxHeartbeats 2000000
open PySem PySem.Spec PyProof.Rows L2
/-! ### the chances, row by row -/
/-- times N it is whole -/
def Dv (a : Rat) (N : Nat) : Prop := ∃ k : Int, a * (N : Rat) = (k : Rat)
theorem Dv.zero {N : Nat} : Dv 0 N := ⟨0, by rw [Rat.zero_mul]; rfl⟩
theorem Dv.add {a b : Rat} {N : Nat} (h : Dv a N) (k : Dv b N) : Dv (a + b) N := by
  obtain ⟨i, hi⟩ := h
  obtain ⟨j, hj⟩ := k
  exact ⟨i + j, by rw [Rat.add_mul, hi, hj, Rat.intCast_add]⟩
theorem Dv.more {a : Rat} {N : Nat} (h : Dv a N) (L : Nat) : Dv a (N * L) := by
  obtain ⟨i, hi⟩ := h
  exact ⟨i * L, by rw [Rat.natCast_mul, Rat.intCast_mul, ← hi, Rat.intCast_natCast]; grind⟩
theorem Dv.part {a : Rat} {N : Nat} (h : Dv a N) (x : Nat) {L : Nat} (hL : 0 < L) : Dv (a * ((x : Rat) / (L : Rat))) (N * L) := by
  obtain ⟨i, hi⟩ := h
  have hL2 : (L : Rat) ≠ 0 := by
    intro z
    have : L = 0 := by exact_mod_cast z
    omega
  refine ⟨i * x, ?_⟩
  rw [Rat.natCast_mul, Rat.intCast_mul, ← hi, Rat.intCast_natCast]
  have : ((x : Rat) / (L : Rat)) * (L : Rat) = x := Rat.div_mul_cancel hL2
  grind
theorem Dv.den {a : Rat} {N : Nat} (h : Dv a N) (hN : 0 < N) : a.den ≤ N := by
  obtain ⟨i, hi⟩ := h
  have hN2 : (N : Rat) ≠ 0 := by
    intro z
    have : N = 0 := by exact_mod_cast z
    omega
  have e : a = mkRat i N := by
    rw [Rat.mkRat_eq_div, ← hi]
    grind
  rw [e, Rat.den_mkRat, if_neg (by omega)]
  exact Nat.div_le_self _ _
theorem div_nn (x L : Nat) : (0 : Rat) ≤ (x : Rat) / (L : Rat) := by
  have hx : (0 : Rat) ≤ (x : Rat) := by exact_mod_cast Nat.zero_le x
  rw [Rat.div_def]
  by_cases h : (L : Rat) = 0
  · rw [h, Rat.inv_zero, Rat.mul_zero]; exact Rat.le_refl
  · have hL : (0 : Rat) ≤ (L : Rat) := by exact_mod_cast Nat.zero_le L
    have hp : (0 : Rat) < (L : Rat) := by grind
    have := Rat.inv_pos.mpr hp
    exact Rat.mul_nonneg hx (by grind)
structure ChI (n : Nat) (ws : Ws) (D : List Row) (c : Rs) (N : Nat) : Prop where
  nd : (c.map (·.1)).Nodup
  len : ∀ a ∈ c, a.1.length = n
  nn : ∀ a ∈ c, 0 ≤ a.2
  har : ∀ φ, Harm n ws φ → tot φ D c = φ (blankR n)
  df : ∀ q ∈ D, full q = false
  dv : ∀ a ∈ c, Dv a.2 N
/-- .. in the row q, the moves m still to come -/
structure ChM (n : Nat) (ws : Ws) (D : List Row) (c : Rs) (N : Nat) (q : Row) (c0 : Rat) (m : Ws) : Prop where
  nd : (c.map (·.1)).Nodup
  len : ∀ a ∈ c, a.1.length = n
  nn : ∀ a ∈ c, 0 ≤ a.2
  har : ∀ φ, Harm n ws φ → tot φ (q :: D) c + c0 * (1 / (leaves ws q : Rat)) * wsum φ m = φ (blankR n)
  dv : ∀ a ∈ c, Dv a.2 (N * leaves ws q)
theorem val_mem {c : Rs} {r : Row} (h : r ∈ c.map (·.1)) : ∃ a ∈ c, a.1 = r ∧ valR c r = a.2 := by
  unfold valR
  induction c with
  | nil => cases h
  | cons b l ih =>
    rw [look_cons]
    by_cases e : b.1 = r
    · rw [if_pos e]
      exact ⟨b, List.mem_cons_self, e, rfl⟩
    · rw [if_neg e]
      rcases List.mem_cons.mp h with z | z
      · exact absurd z.symm e
      · obtain ⟨a, h1, h2⟩ := ih z
        exact ⟨a, List.mem_cons_of_mem _ h1, h2⟩
theorem val_nn {c : Rs} (h : ∀ a ∈ c, 0 ≤ a.2) (r : Row) : 0 ≤ valR c r := by
  by_cases hm : r ∈ c.map (·.1)
  · obtain ⟨a, h1, _, h2⟩ := val_mem hm
    rw [h2]; exact h a h1
  · unfold valR
    rw [look_none hm]
    exact Rat.le_refl
theorem val_dv {c : Rs} {N : Nat} (h : ∀ a ∈ c, Dv a.2 N) (r : Row) : Dv (valR c r) N := by
  by_cases hm : r ∈ c.map (·.1)
  · obtain ⟨a, h1, _, h2⟩ := val_mem hm
    rw [h2]; exact h a h1
  · unfold valR
    rw [look_none hm]
    exact Dv.zero
theorem ChI.start {n : Nat} {ws : Ws} : ChI n ws [] [(blankR n, 1)] 1 where
  nd := List.nodup_cons.mpr ⟨List.not_mem_nil, List.nodup_nil⟩
  len a ha := by rw [List.mem_singleton.mp ha]; unfold blankR; simp
  nn a ha := by rw [List.mem_singleton.mp ha]; show (0 : Rat) ≤ 1; grind
  har φ _ := by
    rw [tot_cons, tot_nil, if_neg List.not_mem_nil]
    show (1 : Rat) * _ + 0 = _
    grind
  df q h := absurd h List.not_mem_nil
  dv a ha := by rw [List.mem_singleton.mp ha]; exact ⟨1, by show (1 : Rat) * ((1 : Nat) : Rat) = ((1 : Int) : Rat); rw [Rat.one_mul]; rfl⟩
theorem ChI.enter {n : Nat} {ws : Ws} {D : List Row} {c : Rs} {N : Nat} (I : ChI n ws D c N) {q : Row} (hq : q.length = n) (hf : full q = false) (hD : q ∉ D) (hp : 0 < leaves ws q) {m : Ws} (hm : ∀ φ, wsum φ m = wsum φ (mvs ws q)) : ChM n ws D c N q (valR c q) m where
  nd := I.nd
  len := I.len
  nn := I.nn
  har φ hφ := by
    have h1 := I.har φ hφ
    rw [tot_done φ hD I.nd] at h1
    rw [hm, ← hφ q hq hf]
    have hp2 : (leaves ws q : Rat) ≠ 0 := by
      intro z
      have : leaves ws q = 0 := by exact_mod_cast z
      omega
    have : (1 / (leaves ws q : Rat)) * (leaves ws q : Rat) = 1 := Rat.div_mul_cancel hp2
    grind
  dv a ha := (I.dv a ha).more _
theorem putA_all {P : Row × Rat → Prop} {c : Rs} {r : Row} {v : Rat} (h : ∀ a ∈ c, P a) (hv : P (r, v)) : ∀ a ∈ putA c r v, P a := fun a ha => by
  rcases putA_vals ha with z | z
  · rw [z]; exact hv
  · exact h a z
theorem ChM.step {n : Nat} {ws : Ws} {D : List Row} {c : Rs} {N : Nat} {q : Row} {c0 : Rat} {r : Row} {x : Nat} {m : Ws} (I : ChM n ws D c N q c0 ((r, x) :: m)) (hr : r ∉ q :: D) (hl : r.length = n) (h0 : 0 ≤ c0) (hd : Dv c0 N) (hp : 0 < leaves ws q) :
    ChM n ws D (putA c r (valR c r + c0 * ((x : Rat) / (leaves ws q : Rat)))) N q c0 m where
  nd := putA_nodup I.nd
  len := putA_all (P := fun a => a.1.length = n) I.len hl
  nn := by
    refine putA_all (P := fun a => 0 ≤ a.2) I.nn ?_
    have h1 := val_nn I.nn r
    have h2 : (0 : Rat) ≤ (x : Rat) / (leaves ws q : Rat) := div_nn x _
    have h3 := Rat.mul_nonneg h0 h2
    show (0 : Rat) ≤ valR c r + c0 * ((x : Rat) / (leaves ws q : Rat))
    grind
  har φ hφ := by
    have h1 := I.har φ hφ
    rw [wsum_cons] at h1
    rw [tot_put φ hr _ I.nd, ← h1]
    rw [Rat.div_def, Rat.div_def]
    grind
  dv := putA_all (P := fun a => Dv a.2 (N * leaves ws q)) I.dv ((val_dv I.dv r).add (hd.part x hp))
theorem ChM.exit {n : Nat} {ws : Ws} {D : List Row} {c : Rs} {N : Nat} {q : Row} {c0 : Rat} (I : ChM n ws D c N q c0 []) (hD : ∀ p ∈ D, full p = false) (hf : full q = false) : ChI n ws (q :: D) c (N * leaves ws q) where
  nd := I.nd
  len := I.len
  nn := I.nn
  har φ hφ := by
    have h1 := I.har φ hφ
    rw [wsum_nil] at h1
    grind
  df p hp := by
    rcases List.mem_cons.mp hp with z | z
    · rw [z]; exact hf
    · exact hD p z
  dv := I.dv
theorem tot_nn {D : List Row} : ∀ {c : Rs}, (∀ a ∈ c, 0 ≤ a.2) → 0 ≤ tot (fun _ => 1) D c
  | [], _ => by rw [tot_nil]; exact Rat.le_refl
  | a :: c, h => by
    rw [tot_cons]
    have h1 := tot_nn (D := D) (c := c) fun b hb => h b (List.mem_cons_of_mem _ hb)
    have h2 := h a List.mem_cons_self
    split <;> grind
theorem le_tot {D : List Row} {a : Row × Rat} : ∀ {c : Rs}, (∀ a ∈ c, 0 ≤ a.2) → a ∈ c → a.1 ∉ D → a.2 ≤ tot (fun _ => 1) D c
  | b :: c, h, ha, hD => by
    rw [tot_cons]
    have h1 := h b List.mem_cons_self
    have h2 := tot_nn (D := D) (c := c) fun b hb => h b (List.mem_cons_of_mem _ hb)
    rcases List.mem_cons.mp ha with z | z
    · rw [← z, if_neg hD]; grind
    · have h3 := le_tot (c := c) (fun b hb => h b (List.mem_cons_of_mem _ hb)) z hD
      split <;> grind
theorem ChI.le1 {n : Nat} {ws : Ws} {D : List Row} {c : Rs} {N : Nat} (I : ChI n ws D c N) {a : Row × Rat} (ha : a ∈ c) (hD : a.1 ∉ D) : a.2 ≤ 1 := by
  have h1 := le_tot I.nn ha hD
  rw [I.har _ harm_one] at h1
  exact h1
theorem wsum1_nn (l : Ws) : 0 ≤ wsum (fun _ => 1) l := by
  rw [wsum_one]
  exact_mod_cast Nat.zero_le _
theorem ChM.le1 {n : Nat} {ws : Ws} {D : List Row} {c : Rs} {N : Nat} {q : Row} {c0 : Rat} {m : Ws} (I : ChM n ws D c N q c0 m) (h0 : 0 ≤ c0) {a : Row × Rat} (ha : a ∈ c) (hD : a.1 ∉ q :: D) : a.2 ≤ 1 := by
  have h1 := le_tot I.nn ha hD
  have h2 := I.har _ harm_one
  have h3 : (0 : Rat) ≤ 1 / (leaves ws q : Rat) := div_nn 1 _
  have h4 := Rat.mul_nonneg (Rat.mul_nonneg h0 h3) (wsum1_nn m)
  grind
theorem tot_delta {f : Row} {D : List Row} (hf : f ∉ D) : ∀ {c : Rs}, (c.map (·.1)).Nodup → ∀ {φ : Row → Rat}, (∀ a ∈ c, a.1 ∉ D → φ a.1 = if a.1 = f then 1 else 0) → tot φ D c = valR c f
  | [], _, _, _ => rfl
  | a :: c, nd, φ, h => by
    rw [List.map_cons] at nd
    obtain ⟨h1, h2⟩ := List.nodup_cons.mp nd
    have ih := tot_delta hf h2 (φ := φ) fun b hb => h b (List.mem_cons_of_mem _ hb)
    have ha := h a List.mem_cons_self
    rw [tot_cons, ih]
    unfold valR
    rw [look_cons]
    by_cases e : a.1 = f
    · rw [if_pos e, if_neg (by rw [e]; exact hf), ha (by rw [e]; exact hf), if_pos e, look_none (by rw [← e]; exact h1)]
      show a.2 * 1 + 0 = a.2
      grind
    · rw [if_neg e]
      by_cases hd : a.1 ∈ D
      · rw [if_pos hd]; grind
      · rw [if_neg hd, ha hd, if_neg e]; grind
/-- the end: the full rows' chances -/
theorem ChI.last {n : Nat} {ws : Ws} {D : List Row} {c : Rs} {N : Nat} (I : ChI n ws D c N) (hl : ∀ a ∈ ws, a.1.length = n) (hp : ∀ q : Row, q.length = n → full q = false → 0 < leaves ws q) (hD : ∀ a ∈ c, full a.1 = false → a.1 ∈ D) {f : Row} (hf : full f = true) : valR c f = hB ws (blankR n) f := by
  rw [← I.har _ (harm_hB hl hp f)]
  refine (tot_delta (fun h => by rw [I.df f h] at hf; cases hf) I.nd fun a ha hn => ?_).symm
  have : full a.1 = true := by
    cases e : full a.1 with
    | true => rfl
    | false => exact absurd (hD a ha e) hn
  exact hB_full this
end
/-! ## M2 -/
section
set_option maxHeartbeats 2000000
open PySem PySem.Spec PyProof.Rows L2
/-! ### masks -/
theorem and_two {b d i j : Nat} (hi : i ≤ 1) (hj : j ≤ 1) : ((b * 2 + i) &&& (d * 2 + j) = b * 2 + i) ↔ (b &&& d = b) ∧ (i = 1 → j = 1) := by
  have h1 : ((b * 2 + i) &&& (d * 2 + j)) / 2 = b &&& d := by
    rw [Nat.and_div_two]
    rw [show (b * 2 + i) / 2 = b by omega, show (d * 2 + j) / 2 = d by omega]
  have h2 : ((b * 2 + i) &&& (d * 2 + j)) % 2 = 1 ↔ i = 1 ∧ j = 1 := by
    rw [Nat.and_mod_two_eq_one]
    omega
  generalize (b * 2 + i) &&& (d * 2 + j) = m at h1 h2
  generalize b &&& d = g at h1
  have h3 : m % 2 = 0 ∨ m % 2 = 1 := by omega
  constructor
  · intro h
    subst h
    refine ⟨by omega, fun hi1 => ?_⟩
    exact (h2.mp (by omega)).2
  · rintro ⟨h, k⟩
    subst h
    have hi3 : i = 0 ∨ i = 1 := by omega
    rcases hi3 with z | z
    · rcases h3 with w | w
      · omega
      · have := (h2.mp w).1; omega
    · have := h2.mpr ⟨z, k z⟩
      omega
theorem mask_ovF : ∀ (x y : Row) (b d : Nat), x.length = y.length → ((maskF b x &&& maskF d y = maskF b x) ↔ (b &&& d = b) ∧ ov y x = y)
  | [], [], b, d, _ => by
    show (b &&& d = b) ↔ _
    exact ⟨fun h => ⟨h, rfl⟩, fun h => h.1⟩
  | [], _ :: _, _, _, h => by simp at h
  | _ :: _, [], _, _, h => by simp at h
  | c :: x, e :: y, b, d, h => by
    have ih := mask_ovF x y (b * 2 + (if c = 46 then 0 else 1)) (d * 2 + (if e = 46 then 0 else 1)) (by simpa using h)
    have e1 : maskF b (c :: x) = maskF (b * 2 + (if c = 46 then 0 else 1)) x := rfl
    have e2 : maskF d (e :: y) = maskF (d * 2 + (if e = 46 then 0 else 1)) y := rfl
    rw [e1, e2, ih, and_two (by split <;> omega) (by split <;> omega)]
    simp only [ov]
    rw [List.cons.injEq]
    constructor
    · rintro ⟨⟨h1, h2⟩, h3⟩
      refine ⟨h1, ?_, h3⟩
      by_cases he : e = 46
      · rw [if_pos he]
        by_cases hc : c = 46
        · rw [hc, he]
        · rw [if_neg hc, if_pos he] at h2
          exact absurd (h2 rfl) (by omega)
      · rw [if_neg he]
    · rintro ⟨h1, h2, h3⟩
      refine ⟨⟨h1, fun hi => ?_⟩, h3⟩
      by_cases he : e = 46
      · rw [if_pos he] at h2
        rw [h2, if_pos he] at hi
        exact absurd hi (by omega)
      · rw [if_neg he]
theorem mask_ov {x y : Row} (h : x.length = y.length) : (mask x &&& mask y == mask x) = decide (ov y x = y) := by
  have := mask_ovF x y 0 0 h
  rw [Bool.eq_iff_iff, beq_iff_eq, decide_eq_true_iff]
  unfold mask
  rw [this]
  exact ⟨fun z => z.2, fun z => ⟨by decide, z⟩⟩
theorem filter_sum (p : Row × Nat → Bool) : ∀ ws : Ws, (ws.map (·.2)).sum = ((ws.filter p).map (·.2)).sum + ((ws.filter fun a => !p a).map (·.2)).sum
  | [] => rfl
  | a :: ws => by
    have ih := filter_sum p ws
    rw [List.map_cons, List.sum_cons, ih, List.filter_cons, List.filter_cons]
    cases p a with
    | true => simp; omega
    | false => simp; omega
theorem inW_ov {ws : Ws} {q : Row} (hl : ∀ a ∈ ws, a.1.length = q.length) : inW ws (mask q) = ((ws.filter fun a => decide (ov q a.1 = q)).map (·.2)).sum := by
  unfold inW
  congr 2
  apply List.filter_congr
  intro a ha
  exact mask_ov (hl a ha)
theorem leaves_eq {ws : Ws} {q : Row} (hl : ∀ a ∈ ws, a.1.length = q.length) : facesW ws = inW ws (mask q) + leaves ws q := by
  unfold facesW leaves
  rw [inW_ov hl]
  exact filter_sum _ ws
theorem moves_mvs {ws : Ws} {q : Row} (hl : ∀ a ∈ ws, a.1.length = q.length) : moves ws q = tally (mvs ws q) := by
  unfold moves mvs
  congr 2
  apply List.filter_congr
  intro a ha
  rw [mask_ov (hl a ha)]
theorem moves_sum {ws : Ws} {q : Row} (hl : ∀ a ∈ ws, a.1.length = q.length) (φ : Row → Rat) : wsum φ (moves ws q) = wsum φ (mvs ws q) := by
  rw [moves_mvs hl]
  exact (tally_facts _).2.2 φ
theorem leaves_le (ws : Ws) (q : Row) : leaves ws q ≤ facesW ws := by
  unfold leaves facesW
  rw [filter_sum (fun a => decide (ov q a.1 = q)) ws]
  omega
/-- where no cell is untold, each row that is not full is left -/
theorem leaves_pos {cs : List Cell} {ws : Ws} (hl : ∀ a ∈ ws, a.1.length = cs.length) (hv : ∀ a ∈ ws, 1 ≤ a.2) (hu : untoldN cs ws = []) {q : Row} (hq : q.length = cs.length) (hf : full q = false) : 0 < leaves ws q := by
  have h46 : 46 ∈ q := by
    rw [← full_mem] at hf
    simpa using hf
  obtain ⟨i, hi, e⟩ := List.getElem_of_mem h46
  unfold untoldN untoldP at hu
  rw [List.map_eq_nil_iff, List.filter_eq_nil_iff] at hu
  have := hu i (List.mem_range.mpr (by omega))
  simp only [List.all_eq_true, Classical.not_forall] at this
  obtain ⟨a, ha, hn⟩ := this
  have hne : ov q a.1 ≠ q := by
    intro z
    have h1 : (ov q a.1)[i]? = q[i]? := by rw [z]
    rw [ov_get] at h1
    have h2 : q[i]? = some 46 := by rw [List.getElem?_eq_getElem hi, e]
    have h3 : a.1[i]? = some (a.1[i]'(by rw [hl a ha]; omega)) := by simp
    rw [h2, h3] at h1
    apply hn
    rw [h3]
    have h1 : some (if (46 : Nat) = 46 then a.1[i]'(by rw [hl a ha]; omega) else 46) = some 46 := h1
    rw [if_pos rfl] at h1
    rw [h1]
    rfl
  unfold leaves
  have hm : a ∈ ws.filter fun a => !decide (ov q a.1 = q) := List.mem_filter.mpr ⟨ha, by simp [hne]⟩
  have : ∀ (l : Ws), a ∈ l → 1 ≤ a.2 → 0 < (l.map (·.2)).sum := by
    intro l hl h1
    induction l with
    | nil => cases hl
    | cons b l ih =>
      rw [List.map_cons, List.sum_cons]
      rcases List.mem_cons.mp hl with z | z
      · rw [← z]; omega
      · have := ih z; omega
  exact this _ hm (hv a ha)
end
/-! ## G8 -/
section
set_option maxHeartbeats 2000000
open PySem PySem.Spec PyProof.Rows L2
/-! ### the dict of chances, in the heap -/
theorem Rt.val {H : Hp} {p : Addr} {q : Rat} (h : Rt H p q) : H p = some (.tup [.int q.num, .int (q.den : Nat)]) := h
theorem RD.look {H : Hp} {d : Addr} {l : Rs} (h : RD H d l) {r : Row} (hr : r ∈ l.map (·.1)) : ∃ kvs p, H d = some (.dK kvs) ∧ valV kvs (kR r) = some (.ref p) ∧ Rt H p (valR l r) := by
  obtain ⟨kvs, h1, h2⟩ := h
  refine ⟨kvs, ?_⟩
  suffices ∃ p, valV kvs (kR r) = some (.ref p) ∧ Rt H p (valR l r) from let ⟨p, a, b⟩ := this; ⟨p, h1, a, b⟩
  clear h1
  unfold valR
  induction h2 with
  | nil => cases hr
  | @cons a kv as kvs' hr1 t ih =>
    obtain ⟨e1, e2⟩ := hr1
    rw [look_cons]
    unfold valV
    rw [List.find?_cons, e1, kR_dec]
    by_cases e : a.1 = r
    · rw [decide_eq_true e, if_pos e]
      obtain ⟨p, h3, h4⟩ := e2
      exact ⟨p, by show some kv.2 = _; rw [h3], h4⟩
    · rw [decide_eq_false e, if_neg e]
      rcases List.mem_cons.mp hr with z | z
      · exact absurd z.symm e
      · exact ih z
theorem RD.isSome {H : Hp} {d : Addr} {l : Rs} (h : RD H d l) : ∃ kvs, H d = some (.dK kvs) ∧ ∀ r, (valV kvs (kR r)).isSome = decide (r ∈ l.map (·.1)) := by
  obtain ⟨kvs, h1, h2⟩ := h
  refine ⟨kvs, h1, fun r => ?_⟩
  clear h1
  induction h2 with
  | nil => rfl
  | @cons a kv as kvs' hr1 t ih =>
    unfold valV at ih ⊢
    rw [List.find?_cons, hr1.1, kR_dec, List.map_cons]
    by_cases e : a.1 = r
    · rw [decide_eq_true e]
      simp [e]
    · rw [decide_eq_false e]
      have e2 : ¬ r = a.1 := fun z => e z.symm
      simp [e2, ih]
theorem paired_len {α β : Type} {F : α → β → Prop} {xs : List α} {ys : List β} (h : Paired F xs ys) : xs.length = ys.length := Paired.length h
/-- a put -/
theorem RD.put {H : Hp} {d : Addr} {l : Rs} (h : RD H d l) {r : Row} {q : Rat} {p : Addr} (hp : Rt H p q) {kvs : List (Key × V)} (e : H d = some (.dK kvs)) : RD (upd H d (.dK (putK kvs (kR r) (.ref p)))) d (putA l r q) := by
  obtain ⟨kvs', h1, h2⟩ := h
  rw [e] at h1
  obtain rfl : kvs = kvs' := by injection h1 with h1; injection h1
  refine ⟨_, upd_same, ?_⟩
  have hs : ∀ {q : Rat} {v : V}, RatV H q v → RatV (upd H d (.dK (putK kvs (kR r) (.ref p)))) q v := by
    rintro q v ⟨p', h3, h4⟩
    refine ⟨p', h3, ?_⟩
    have : p' ≠ d := ne_of h4 e (by intro z; cases z)
    unfold Rt at h4 ⊢
    rw [upd_ne this]; exact h4
  have h3 := Paired.mapP h2 (G := fun (a : Row × Rat) (kv : Key × V) => kv.1 = kR a.1 ∧ RatV (upd H d (.dK (putK kvs (kR r) (.ref p)))) a.2 kv.2) fun a kv z => ⟨z.1, hs z.2⟩
  have hpv := hs ⟨p, rfl, hp⟩
  generalize upd H d (.dK (putK kvs (kR r) (.ref p))) = H' at h3 hpv ⊢
  have hany : (kvs.any fun kv => decide (kv.1 = kR r)) = (l.any fun a => decide (a.1 = r)) := by
    clear e h1 h2 hs
    induction h3 with
    | nil => rfl
    | @cons a kv as kvs' hr1 t ih => rw [List.any_cons, List.any_cons, ih, hr1.1, kR_dec]
  unfold putK putA
  rw [hany]
  by_cases hz : (l.any fun a => decide (a.1 = r)) = true
  · rw [if_pos hz, if_pos hz]
    clear e h1 h2 hs hany hz
    induction h3 with
    | nil => exact .nil
    | @cons a kv as kvs' hr1 t ih =>
      refine .cons ?_ ih
      by_cases e : a.1 = r
      · have e2 : kv.1 = kR r := by rw [hr1.1, e]
        show (if kv.1 = kR r then (kv.1, V.ref p) else kv).1 = kR (if a.1 = r then (a.1, q) else a).1 ∧ RatV H' (if a.1 = r then (a.1, q) else a).2 (if kv.1 = kR r then (kv.1, V.ref p) else kv).2
        rw [if_pos e2, if_pos e]
        exact ⟨hr1.1, hpv⟩
      · have e2 : ¬ kv.1 = kR r := fun z => e (kR_inj (hr1.1.symm.trans z))
        show (if kv.1 = kR r then (kv.1, V.ref p) else kv).1 = kR (if a.1 = r then (a.1, q) else a).1 ∧ RatV H' (if a.1 = r then (a.1, q) else a).2 (if kv.1 = kR r then (kv.1, V.ref p) else kv).2
        rw [if_neg e2, if_neg e]
        exact hr1
  · rw [if_neg hz, if_neg hz]
    clear e h1 h2 hs hany hz
    induction h3 with
    | nil => exact .cons ⟨rfl, hpv⟩ .nil
    | cons hr1 t ih => exact .cons hr1 ih
/-! ### layers -/
def tld (r : Row) : Nat := r.length - dots r
structure LayI (n : Nat) (c : Rs) (L : List (List Row)) : Prop where
  len : L.length = n + 1
  tl : ∀ (k : Nat) (l : List Row), L[k]? = some l → ∀ r ∈ l, tld r = k ∧ r ∈ c.map (·.1)
  all : ∀ r ∈ c.map (·.1), ∃ l, L[tld r]? = some l ∧ r ∈ l
  nd : ∀ l ∈ L, l.Nodup
structure LayH (H0 H : Hp) (pl : Addr) (las : List Addr) (L : List (List Row)) : Prop where
  at0 : H pl = some (.lst (las.map fun a => .ref a))
  nd : las.Nodup
  len : las.length = L.length
  at_ : ∀ (k : Nat) (a : Addr) (l : List Row), las[k]? = some a → L[k]? = some l → H a = some (.lst (rowL l))
  new : ∀ a ∈ las, H0 a = none
  ne : pl ∉ las
theorem LayH.same {H0 H H' : Hp} {pl : Addr} {las : List Addr} {L : List (List Row)} (h : LayH H0 H pl las L) (s : Same H H') : LayH H0 H' pl las L := ⟨s _ _ h.at0, h.nd, h.len, fun k a l h1 h2 => s _ _ (h.at_ k a l h1 h2), h.new, h.ne⟩
/-- rows that stay within R -/
structure Clo (n : Nat) (ws : Ws) (R : List Row) : Prop where
  few : R.length ≤ 20
  bl : blankR n ∈ R
  cl : ∀ q ∈ R, ∀ a ∈ ws, ov q a.1 ∈ R
def sp_reach_chances (K : PySem.W.Frag) : Sp := fun vs H Q _ => ∃ d ws R, ∃ n : Nat, vs = [.ref d, .int n, .non] ∧ H d = some (.dK (WD ws)) ∧ BOk n ws ∧ 1 ≤ n ∧ n ≤ 6 ∧ (∀ q : Row, q.length = n → full q = false → 0 < leaves ws q) ∧ Clo n ws R ∧
  ∀ (p : Addr) (H' : Hp) (l : Rs), Same H H' → H p = none → RD H' p l → (l.map (·.1)).Nodup → l.length ≤ 20 → (∀ a ∈ l, a.1.length = n ∧ 0 < a.2) → (∀ f : Row, full f = true → valR l f = hB ws (blankR n) f) → Q (.ref p) H'
/-- a list of new empty lists -/
theorem lc_lists {J : It} {n : Nat} {Y : Nat → Hp → V → Hp → Prop} {g : TG} {te : TE} {vs : List Nat} {σ : L2.St} {H1 : Hp} {Q : VK} (w : Walk J n (fun _ => True) Y) (hn : n ≤ 1000)
    (turn : ∀ i x H2 H3 (R : V → Hp → Prop), i < n → Same H1 H2 → Y i H2 x H3 → (∀ q H6, Same H2 H6 → H2 q = none → H6 q = some (.lst []) → R (.ref q) H6) → g x (wipe σ vs) H3 fun σ2 H4 => wipe σ2 vs = wipe σ vs ∧ te σ2 H4 R)
    (done : ∀ D H2 (las : List Addr), H1 D = none → Same H1 H2 → las.length = n → las.Nodup → (∀ a ∈ las, H2 a = some (.lst []) ∧ H1 a = none ∧ a ≠ D) → H2 D = some (.lst (las.map fun a => .ref a)) → Q (.ref D) H2) : LcG J g tYes te vs σ H1 Q := by
  intro D nD
  refine lc_it w (fun i H => Same H1 H ∧ ∃ las : List Addr, las.length = i ∧ las.Nodup ∧ (∀ a ∈ las, H a = some (.lst []) ∧ H1 a = none ∧ a ≠ D) ∧ H D = some (.lst (las.map fun a => .ref a)))
    ⟨same_new nD, [], rfl, List.nodup_nil, fun a h => absurd h List.not_mem_nil, upd_same⟩ (fun _ _ _ _ => trivial) ?_ (fun H p => let ⟨s, las, h1, h2, h3, h4⟩ := p; done D H las nD s h1 h2 h3 h4)
  rintro i x H H' hi ⟨s, las, h1, h2, h3, h4⟩ y
  refine turn i x H H' (fun y H4 => ∃ acc, H4 D = some (.lst acc) ∧ acc.length < sizeLine ∧ Same H1 (upd H4 D (.lst (acc ++ [y]))) ∧
    ∃ las : List Addr, las.length = i + 1 ∧ las.Nodup ∧ (∀ a ∈ las, (upd H4 D (.lst (acc ++ [y]))) a = some (.lst []) ∧ H1 a = none ∧ a ≠ D) ∧ (upd H4 D (.lst (acc ++ [y]))) D = some (.lst (las.map fun a => .ref a))) hi s y fun q H6 s6 nq hq => ?_
  have hqD : q ≠ D := (ne_of_none h4 nq).symm
  refine ⟨_, s6 _ _ h4, ?_, same_mut (s.trans s6) nD, las ++ [q], by rw [List.length_append, h1]; rfl, ?_, fun a ha => ?_, ?_⟩
  · rw [List.length_map, h1]
    exact Nat.lt_of_lt_of_le hi (Nat.le_trans hn (by decide))
  · refine List.nodup_append.mpr ⟨h2, List.nodup_cons.mpr ⟨List.not_mem_nil, List.nodup_nil⟩, fun x hx y hy z => ?_⟩
    rw [List.mem_singleton.mp hy] at z
    have := (h3 x hx).1
    rw [z, nq] at this
    cases this
  · rcases List.mem_append.mp ha with z | z
    · obtain ⟨k1, k2, k3⟩ := h3 a z
      exact ⟨by rw [upd_ne k3]; exact s6 _ _ k1, k2, k3⟩
    · rw [List.mem_singleton.mp z]
      refine ⟨by rw [upd_ne hqD]; exact hq, ?_, hqD⟩
      cases e : H1 q with
      | none => rfl
      | some o => have := s _ _ e; rw [nq] at this; cases this
  · rw [upd_same, List.map_append]; rfl
end
/-! ## G9 -/
section
set_option maxHeartbeats 2000000
open PySem PySem.Spec PyProof.Rows L2
/-! ### one more row in the chances -/
theorem putA_twice {α : Type} (c : List (Row × α)) (r : Row) (u v : α) : putA (putA c r u) r v = putA c r v := by
  have hk : r ∈ (putA c r u).map (·.1) := putB_mem.mpr (.inl rfl)
  have e1 : putA (putA c r u) r v = (putA c r u).map (fun a => if a.1 = r then (a.1, v) else a) := by
    show (if ((putA c r u).any fun a => decide (a.1 = r)) = true then _ else _) = _
    rw [if_pos (any_key.mpr hk)]
  rw [e1]
  unfold putA
  by_cases h : r ∈ c.map (·.1)
  · rw [if_pos (any_key.mpr h), if_pos (any_key.mpr h), List.map_map]
    apply List.map_congr_left
    intro a _
    show (if (if a.1 = r then (a.1, u) else a).1 = r then ((if a.1 = r then (a.1, u) else a).1, v) else (if a.1 = r then (a.1, u) else a)) = _
    by_cases e : a.1 = r
    · rw [if_pos e, if_pos e, if_pos e]
    · simp only [if_neg e]
  · rw [if_neg (fun z => h (any_key.mp z)), if_neg (fun z => h (any_key.mp z)), List.map_append, map_same h]
    show c ++ [if r = r then (r, v) else (r, u)] = _
    rw [if_pos rfl]
theorem look_put {α : Type} {c : List (Row × α)} {r : Row} {v : α} : lookA (putA c r v) r = some v := by
  unfold putA
  by_cases h : r ∈ c.map (·.1)
  · rw [if_pos (any_key.mpr h)]
    induction c with
    | nil => cases h
    | cons a l ih =>
      rw [List.map_cons, look_cons]
      by_cases e : a.1 = r
      · rw [if_pos e, if_pos e]
      · rw [if_neg e, if_neg e]
        rcases List.mem_cons.mp h with z | z
        · exact absurd z.symm e
        · exact ih z
  · rw [if_neg (fun z => h (any_key.mp z))]
    induction c with
    | nil => rw [List.nil_append, look_cons, if_pos rfl]
    | cons a l ih =>
      have e : ¬ a.1 = r := fun z => h (z ▸ List.mem_cons_self)
      rw [List.cons_append, look_cons, if_neg e]
      exact ih fun z => h (List.mem_cons_of_mem _ z)
theorem look_put_ne {α : Type} {c : List (Row × α)} {r s : Row} {v : α} (hs : s ≠ r) : lookA (putA c r v) s = lookA c s := by
  unfold putA
  split
  · induction c with
    | nil => rfl
    | cons a l ih =>
      rename_i hz
      rw [List.map_cons, look_cons, look_cons]
      by_cases e : a.1 = r
      · rw [if_pos e]
        have : ¬ a.1 = s := fun z => hs (z.symm.trans e)
        rw [if_neg this, if_neg this]
        by_cases hl : r ∈ l.map (·.1)
        · exact ih (any_key.mpr hl)
        · rw [map_same hl]
      · rw [if_neg e]
        split
        · rfl
        · refine ih ?_
          rw [any_key] at hz ⊢
          rcases List.mem_cons.mp hz with z | z
          · exact absurd z.symm e
          · exact z
  · induction c with
    | nil => rw [List.nil_append, look_cons, if_neg (fun z => hs z.symm)]
    | cons a l ih =>
      rename_i hz
      rw [List.cons_append, look_cons, look_cons]
      split
      · rfl
      · refine ih fun z => hz ?_
        rw [any_key] at z ⊢
        exact List.mem_cons_of_mem _ z
theorem val_put {c : Rs} {r : Row} {v : Rat} : valR (putA c r v) r = v := by unfold valR; rw [look_put]; rfl
theorem val_put_ne {c : Rs} {r s : Row} {v : Rat} (hs : s ≠ r) : valR (putA c r v) s = valR c s := by unfold valR; rw [look_put_ne hs]
theorem tld_le {r : Row} {n : Nat} (h : r.length = n) : tld r ≤ n := by unfold tld; omega
/-- a row that is there already -/
theorem LayI.old {n : Nat} {c : Rs} {L : List (List Row)} (I : LayI n c L) {r : Row} {v : Rat} (hr : r ∈ c.map (·.1)) : LayI n (putA c r v) L := by
  have hk : (putA c r v).map (·.1) = c.map (·.1) := by rw [putB_keys, if_pos hr]
  exact ⟨I.len, fun k l h x hx => by rw [hk]; exact I.tl k l h x hx, fun x hx => by rw [hk] at hx; exact I.all x hx, I.nd⟩
/-- a new row -/
theorem LayI.add {n : Nat} {c : Rs} {L : List (List Row)} (I : LayI n c L) {r : Row} {v : Rat} (hr : r ∉ c.map (·.1)) {l : List Row} (hl : L[tld r]? = some l) : LayI n (putA c r v) (L.set (tld r) (l ++ [r])) := by
  have hlt : tld r < L.length := (List.getElem?_eq_some_iff.mp hl).1
  refine ⟨by rw [List.length_set]; exact I.len, fun k m hk x hx => ?_, fun x hx => ?_, fun m hm => ?_⟩
  · rw [putB_mem]
    by_cases e : tld r = k
    · subst e
      rw [List.getElem?_set_self hlt] at hk
      obtain rfl := Option.some.inj hk
      rcases List.mem_append.mp hx with z | z
      · have := I.tl _ l hl x z
        exact ⟨this.1, .inr this.2⟩
      · rw [List.mem_singleton.mp z]; exact ⟨rfl, .inl rfl⟩
    · rw [List.getElem?_set_ne e] at hk
      have := I.tl k m hk x hx
      exact ⟨this.1, .inr this.2⟩
  · rcases putB_mem.mp hx with z | z
    · rw [z]
      exact ⟨l ++ [r], List.getElem?_set_self hlt, List.mem_append_right _ List.mem_cons_self⟩
    · obtain ⟨m, h1, h2⟩ := I.all x z
      by_cases e : tld r = tld x
      · rw [← e, hl] at h1
        obtain rfl := Option.some.inj h1
        exact ⟨l ++ [r], by rw [← e]; exact List.getElem?_set_self hlt, List.mem_append_left _ h2⟩
      · exact ⟨m, by rw [List.getElem?_set_ne e]; exact h1, h2⟩
  · obtain ⟨k, hk⟩ := List.getElem?_of_mem hm
    by_cases e : tld r = k
    · subst e
      rw [List.getElem?_set_self hlt] at hk
      obtain rfl := Option.some.inj hk
      refine List.nodup_append.mpr ⟨I.nd l (List.mem_of_getElem? hl), List.nodup_cons.mpr ⟨List.not_mem_nil, List.nodup_nil⟩, fun x hx y hy z => hr ?_⟩
      rw [← List.mem_singleton.mp hy, ← z]
      exact (I.tl _ l hl x hx).2
    · rw [List.getElem?_set_ne e] at hk
      exact I.nd m (List.mem_of_getElem? hk)
/-- .. in the heap -/
theorem LayH.add {H0 H : Hp} {pl a : Addr} {las : List Addr} {L : List (List Row)} (h : LayH H0 H pl las L) {k : Nat} {r : Row} {l : List Row} (ha : las[k]? = some a) (hl : L[k]? = some l) : LayH H0 (upd H a (.lst (rowL (l ++ [r])))) pl las (L.set k (l ++ [r])) := by
  have ham := List.mem_of_getElem? ha
  have hpa : pl ≠ a := fun z => h.ne (z ▸ ham)
  have hlt : k < L.length := (List.getElem?_eq_some_iff.mp hl).1
  refine ⟨by rw [upd_ne hpa]; exact h.at0, h.nd, by rw [List.length_set]; exact h.len, fun j b m h1 h2 => ?_, h.new, h.ne⟩
  by_cases e : k = j
  · subst e
    rw [ha] at h1
    obtain rfl := Option.some.inj h1
    rw [List.getElem?_set_self hlt] at h2
    obtain rfl := Option.some.inj h2
    exact upd_same
  · rw [List.getElem?_set_ne e] at h2
    have hba : b ≠ a := fun z => e (by
      rw [z] at h1
      have := (List.getElem?_inj (List.getElem?_eq_some_iff.mp ha).1 h.nd).mp (ha.trans h1.symm)
      exact this)
    rw [upd_ne hba]
    exact h.at_ j b m h1 h2
theorem LayH.upd_other {H0 H : Hp} {pl x : Addr} {las : List Addr} {L : List (List Row)} {o : HO} (h : LayH H0 H pl las L) (hx : x ≠ pl) (hn : x ∉ las) : LayH H0 (upd H x o) pl las L :=
  ⟨by rw [upd_ne (fun z => hx z.symm)]; exact h.at0, h.nd, h.len, fun k a l h1 h2 => by
    have hax : a ≠ x := fun z => hn (by rw [← z]; exact List.mem_of_getElem? h1)
    rw [upd_ne hax]; exact h.at_ k a l h1 h2, h.new, h.ne⟩
/-- moves tell more -/
theorem tld_lt {q r : Row} (hl : r.length = q.length) (h : dots r < dots q) : tld q < tld r := by
  unfold tld dots at *
  have := List.count_le_length (l := q) (a := 46)
  have := List.count_le_length (l := r) (a := 46)
  omega
theorem full_tld {r : Row} {n : Nat} (h : r.length = n) : full r = true ↔ tld r = n := by
  rw [full_dots]
  unfold tld dots
  have := List.count_le_length (l := r) (a := 46)
  omega
end
/-! ## G10 -/
section
set_option maxHeartbeats 2000000
open PySem PySem.Spec PyProof.Rows L2
/-! ### the state of reach_chances -/
structure StH (H0 H' : Hp) (ws : Ws) (pd : Addr) (ps : List V) (pc pl : Addr) (las : List Addr) (c : Rs) (L : List (List Row)) : Prop where
  s : Same H0 H'
  r : RD H' pc c
  lh : LayH H0 H' pl las L
  pd : H' pd = some (.lst ps)
  dv : Paired (deedV H') ws ps
  npc : H0 pc = none
theorem StH.same {H0 H H' : Hp} {ws : Ws} {pd : Addr} {ps : List V} {pc pl : Addr} {las : List Addr} {c : Rs} {L : List (List Row)} (h : StH H0 H ws pd ps pc pl las c L) (s : Same H H') : StH H0 H' ws pd ps pc pl las c L :=
  ⟨h.s.trans s, h.r.same s, h.lh.same s, s _ _ h.pd, Paired.mapP h.dv fun a v z => z.same s, h.npc⟩
theorem deed_keep {H : Hp} {x : Addr} {o u : HO} (hx : H x = some u) (hu : ∀ xs, u ≠ .tup xs) {ws : Ws} {ps : List V} (h : Paired (deedV H) ws ps) : Paired (deedV (upd H x o)) ws ps := Paired.mapP h fun a v z => by
  obtain ⟨q, e, k⟩ := z
  have : q ≠ x := ne_of k hx (fun z => hu _ z.symm)
  exact ⟨q, e, by rw [upd_ne this]; exact k⟩
theorem StH.las_lst {H0 H : Hp} {ws : Ws} {pd : Addr} {ps : List V} {pc pl : Addr} {las : List Addr} {c : Rs} {L : List (List Row)} (h : StH H0 H ws pd ps pc pl las c L) {a : Addr} (ha : a ∈ las) : ∃ l : List Row, H a = some (.lst (rowL l)) := by
  obtain ⟨k, hk⟩ := List.getElem?_of_mem ha
  have hlt := (List.getElem?_eq_some_iff.mp hk).1
  rw [h.lh.len] at hlt
  exact ⟨L[k], h.lh.at_ k a _ hk (by simp [hlt])⟩
theorem StH.put {H0 H : Hp} {ws : Ws} {pd : Addr} {ps : List V} {pc pl : Addr} {las : List Addr} {c : Rs} {L : List (List Row)} (h : StH H0 H ws pd ps pc pl las c L) {r : Row} {q : Rat} {p : Addr} (hp : Rt H p q) {kvs : List (Key × V)} (e : H pc = some (.dK kvs)) :
    StH H0 (upd H pc (.dK (putK kvs (kR r) (.ref p)))) ws pd ps pc pl las (putA c r q) L := by
  refine ⟨same_mut h.s h.npc, h.r.put hp e, h.lh.upd_other (ne_of e h.lh.at0 (by intro z; cases z)) (fun hm => ?_), ?_, deed_keep e (fun xs z => by cases z) h.dv, h.npc⟩
  · obtain ⟨l, hl⟩ := h.las_lst hm
    rw [e] at hl; cases hl
  · rw [upd_ne (ne_of h.pd e (by intro z; cases z))]; exact h.pd
theorem StH.app {H0 H : Hp} {ws : Ws} {pd : Addr} {ps : List V} {pc pl : Addr} {las : List Addr} {c : Rs} {L : List (List Row)} (h : StH H0 H ws pd ps pc pl las c L) (hpd : pd ∉ las) {k : Nat} {a : Addr} {l : List Row} {r : Row} (ha : las[k]? = some a) (hl : L[k]? = some l) :
    StH H0 (upd H a (.lst (rowL (l ++ [r])))) ws pd ps pc pl las c (L.set k (l ++ [r])) := by
  have ham := List.mem_of_getElem? ha
  have hal := h.lh.at_ k a l ha hl
  refine ⟨same_mut h.s (h.lh.new a ham), ?_, h.lh.add ha hl, ?_, deed_keep hal (fun xs z => by cases z) h.dv, h.npc⟩
  · obtain ⟨kvs, h1, h2⟩ := h.r
    refine ⟨kvs, by rw [upd_ne (ne_of h1 hal (by intro z; cases z))]; exact h1, Paired.mapP h2 fun b kv z => ⟨z.1, ?_⟩⟩
    obtain ⟨p, k1, k2⟩ := z.2
    refine ⟨p, k1, ?_⟩
    unfold Rt at k2 ⊢
    rw [upd_ne (ne_of k2 hal (by intro z; cases z))]; exact k2
  · have hpa : pd ≠ a := fun z => hpd (by rw [z]; exact ham)
    rw [upd_ne hpa]; exact h.pd
/-- the plain part, between two rows -/
structure StP (n : Nat) (ws : Ws) (R : List Row) (c : Rs) (L : List (List Row)) (D : List Row) (N : Nat) : Prop where
  ci : ChI n ws D c N
  li : LayI n c L
  pos : ∀ a ∈ c, 0 < a.2
  sub : ∀ x ∈ c.map (·.1), x ∈ R
  dn : D.Nodup
  dk : ∀ x ∈ D, x ∈ c.map (·.1)
  n0 : 0 < N
  nb : N ≤ 40000000 ^ D.length
theorem StP.few {n : Nat} {ws : Ws} {R : List Row} {c : Rs} {L : List (List Row)} {D : List Row} {N : Nat} (h : StP n ws R c L D N) (hR : R.length ≤ 20) : c.length ≤ 20 ∧ D.length ≤ 20 := by
  have h1 := nodup_len (c.map (·.1)) R h.ci.nd h.sub
  rw [List.length_map] at h1
  have h2 := nodup_len D R h.dn fun x hx => h.sub x (h.dk x hx)
  omega
theorem pow_log {N m : Nat} (h0 : 0 < N) (h : N ≤ 40000000 ^ m) (hm : m ≤ 21) : N.log2 < 600 := by
  have h1 : N ≤ 40000000 ^ 21 := Nat.le_trans h (Nat.pow_le_pow_right (by decide) hm)
  have h2 : (40000000 : Nat) ^ 21 < 2 ^ 600 := by decide +kernel
  exact (Nat.log2_lt (by omega)).mpr (Nat.lt_of_le_of_lt h1 h2)
theorem StP.start {n : Nat} {ws : Ws} {R : List Row} (hn : 1 ≤ n) (hR : blankR n ∈ R) : StP n ws R [(blankR n, 1)] ([blankR n] :: List.replicate n []) [] 1 where
  ci := ChI.start
  li := by
    have hb : tld (blankR n) = 0 := by unfold tld dots blankR; simp
    refine ⟨by simp, fun k l h r hr => ?_, fun r hr => ?_, fun l hl => ?_⟩
    · cases k with
      | zero =>
        obtain rfl := Option.some.inj h
        rw [List.mem_singleton.mp hr]
        exact ⟨hb, List.mem_cons_self⟩
      | succ k =>
        have h : (List.replicate n ([] : List Row))[k]? = some l := h
        rw [List.getElem?_replicate] at h
        split at h
        · obtain rfl := Option.some.inj h; cases hr
        · cases h
    · rw [List.mem_singleton.mp hr, hb]
      exact ⟨_, rfl, List.mem_cons_self⟩
    · rcases List.mem_cons.mp hl with z | z
      · rw [z]; exact List.nodup_cons.mpr ⟨List.not_mem_nil, List.nodup_nil⟩
      · rw [(List.mem_replicate.mp z).2]; exact List.nodup_nil
  pos a ha := by rw [List.mem_singleton.mp ha]; show (0 : Rat) < 1; grind
  sub x hx := by rw [List.mem_singleton.mp hx]; exact hR
  dn := List.nodup_nil
  dk x hx := absurd hx List.not_mem_nil
  n0 := Nat.one_pos
  nb := Nat.le_refl _
/-- .. within the row q -/
structure StM (n : Nat) (ws : Ws) (R : List Row) (c : Rs) (L : List (List Row)) (D : List Row) (N : Nat) (q : Row) (c0 : Rat) (m : Ws) : Prop where
  cm : ChM n ws D c N q c0 m
  li : LayI n c L
  pos : ∀ a ∈ c, 0 < a.2
  sub : ∀ x ∈ c.map (·.1), x ∈ R
  dn : D.Nodup
  dk : ∀ x ∈ D, x ∈ c.map (·.1)
  df : ∀ x ∈ D, full x = false
  dt : ∀ x ∈ D, tld x ≤ tld q
  n0 : 0 < N
  nb : N ≤ 40000000 ^ D.length
  ql : q.length = n
  qf : full q = false
  qk : q ∈ c.map (·.1)
  qD : q ∉ D
  c0v : valR c q = c0
  c0p : 0 < c0
  c0d : Dv c0 N
  lv : 0 < leaves ws q
  mv : ∀ a ∈ m, a.1.length = n ∧ tld q < tld a.1 ∧ a.1 ∈ R ∧ 1 ≤ a.2
theorem StP.enter {n : Nat} {ws : Ws} {R : List Row} {c : Rs} {L : List (List Row)} {D : List Row} {N : Nat} (h : StP n ws R c L D N) (hO : BOk n ws) (hR : Clo n ws R) (hlv : ∀ q : Row, q.length = n → full q = false → 0 < leaves ws q) {q : Row} (hq : q ∈ c.map (·.1)) (hf : full q = false) (hD : q ∉ D) (dt : ∀ x ∈ D, tld x ≤ tld q) :
    StM n ws R c L D N q (valR c q) (moves ws q) := by
  obtain ⟨a, ha, e, ev⟩ := val_mem hq
  have hql : q.length = n := by rw [← e]; exact h.ci.len a ha
  have hwl : ∀ a ∈ ws, a.1.length = q.length := fun a ha => by rw [hO.len a ha, hql]
  refine ⟨h.ci.enter hql hf hD (hlv q hql hf) fun φ => moves_sum hwl φ, h.li, h.pos, h.sub, h.dn, h.dk, h.ci.df, dt, h.n0, h.nb, hql, hf, hq, hD, rfl, by rw [ev]; exact h.pos a ha, val_dv h.ci.dv q, hlv q hql hf, fun b hb => ?_⟩
  rw [moves_mvs hwl] at hb
  have hk := ((tally_facts (mvs ws q)).2.1 b.1).mp (List.mem_map.mpr ⟨b, hb, rfl⟩)
  obtain ⟨b', hb', eb⟩ := List.mem_map.mp hk
  have hm := mvs_dots hO.len hql b' hb'
  have hv : ∀ a ∈ mvs ws q, 1 ≤ a.2 := fun a ha => by
    obtain ⟨x, hx, rfl⟩ := List.mem_map.mp ha
    exact (hO.val x (List.mem_filter.mp hx).1).1
  refine ⟨by rw [← eb]; exact hm.1, by rw [← eb]; exact tld_lt (hm.1.trans hql.symm) hm.2, ?_, ?_⟩
  · rw [← eb]
    obtain ⟨x, hx, rfl⟩ := List.mem_map.mp hb'
    exact hR.cl q (h.sub q hq) x (List.mem_filter.mp hx).1
  · have : ∀ (l : Ws), (∀ a ∈ l, 1 ≤ a.2) → ∀ a ∈ tally l, 1 ≤ a.2 := by
      intro l hl
      refine fold_tally (P := fun l acc => (∀ a ∈ l, 1 ≤ a.2) → ∀ a ∈ acc, 1 ≤ a.2) ?_ (fun _ a h => absurd h List.not_mem_nil) l hl
      intro l acc b ih hb a ha
      have ih := ih fun a ha => hb a (List.mem_append_left _ ha)
      have hb2 := hb b (List.mem_append_right _ List.mem_cons_self)
      unfold bump at ha
      rcases putA_vals ha with z | z
      · rw [z]; show 1 ≤ _ + b.2; omega
      · exact ih a z
    exact this _ hv b hb
theorem StM.step {n : Nat} {ws : Ws} {R : List Row} {c : Rs} {L L' : List (List Row)} {D : List Row} {N : Nat} {q : Row} {c0 : Rat} {r : Row} {x : Nat} {m : Ws} (h : StM n ws R c L D N q c0 ((r, x) :: m)) (hL : LayI n (putA c r (valR c r + c0 * ((x : Rat) / (leaves ws q : Rat)))) L') :
    StM n ws R (putA c r (valR c r + c0 * ((x : Rat) / (leaves ws q : Rat)))) L' D N q c0 m := by
  have hm := h.mv (r, x) List.mem_cons_self
  have hrq : r ≠ q := fun z => by have := hm.2.1; rw [z] at this; exact absurd this (Nat.lt_irrefl _)
  have hrD : r ∉ q :: D := fun z => by
    rcases List.mem_cons.mp z with w | w
    · exact hrq w
    · have := h.dt r w
      have h2 : tld q < tld r := hm.2.1
      omega
  have h0 : (0 : Rat) ≤ c0 := by have := h.c0p; grind
  have hpos : 0 < valR c r + c0 * ((x : Rat) / (leaves ws q : Rat)) := by
    have h1 := val_nn h.cm.nn r
    have hx : (0 : Rat) < (x : Rat) := by exact_mod_cast hm.2.2.2
    have hl : (0 : Rat) < (leaves ws q : Rat) := by exact_mod_cast h.lv
    have h2 : (0 : Rat) < (x : Rat) / (leaves ws q : Rat) := by
      rw [Rat.div_def]
      exact Rat.mul_pos hx (Rat.inv_pos.mpr hl)
    have h3 := Rat.mul_pos h.c0p h2
    grind
  exact ⟨h.cm.step hrD hm.1 h0 h.c0d h.lv, hL, putA_all (P := fun a => 0 < a.2) h.pos hpos, fun y hy => (putB_mem.mp hy).elim (fun e => e ▸ hm.2.2.1) (h.sub y), h.dn, fun y hy => putB_mem.mpr (.inr (h.dk y hy)), h.df, h.dt, h.n0, h.nb, h.ql, h.qf, putB_mem.mpr (.inr h.qk), h.qD, by rw [val_put_ne (fun z => hrq z.symm)]; exact h.c0v, h.c0p, h.c0d, h.lv, fun a ha => h.mv a (List.mem_cons_of_mem _ ha)⟩
theorem StM.exit {n : Nat} {ws : Ws} {R : List Row} {c : Rs} {L : List (List Row)} {D : List Row} {N : Nat} {q : Row} {c0 : Rat} (h : StM n ws R c L D N q c0 []) (hO : BOk n ws) : StP n ws R c L (q :: D) (N * leaves ws q) where
  ci := h.cm.exit h.df h.qf
  li := h.li
  pos := h.pos
  sub := h.sub
  dn := List.nodup_cons.mpr ⟨h.qD, h.dn⟩
  dk y hy := (List.mem_cons.mp hy).elim (fun e => e ▸ h.qk) (h.dk y)
  n0 := Nat.mul_pos h.n0 h.lv
  nb := by
    rw [List.length_cons, Nat.pow_succ]
    have h1 := leaves_le ws q
    have h2 := hO.faces
    exact Nat.mul_le_mul h.nb (by omega)
end
/-! ## M3 -/
section
set_option maxHeartbeats 2000000
open PySem PySem.Spec PyProof.Rows L2
/-! ### sums and products of fractions, as they are computed -/
theorem qmul_eq (a b : Rat) : qmul a.num a.den b.num b.den = a * b := by
  unfold qmul
  rw [← Rat.mkRat_mul_mkRat, Rat.mkRat_self, Rat.mkRat_self]
theorem qadd_eq (a b : Rat) : qadd a.num a.den b.num b.den = a + b := by
  unfold qadd
  rw [← Rat.mkRat_add_mkRat _ _ a.den_nz b.den_nz, Rat.mkRat_self, Rat.mkRat_self]
theorem num_le {a : Rat} (h0 : 0 ≤ a) (h1 : a ≤ 1) : a.num.natAbs ≤ a.den := by
  have hn : 0 ≤ a.num := Rat.num_nonneg.mpr h0
  have h2 : a.num ≤ a.den := by
    have := (Rat.le_iff (a := a) (b := 1)).mp h1
    simpa using this
  omega
theorem mk_div (x L : Nat) : mkRat (x : Int) L = (x : Rat) / (L : Rat) := by
  rw [Rat.mkRat_eq_div]; rfl
end
/-! ## F26 -/
section
set_option maxHeartbeats 2000000
open PySem PySem.Spec PyProof.Rows L2


variable {P : Program} {w : World} {K : PySem.W.Frag} {mg : Str → Option Value} {base : Heap}
theorem rc_put {D : Ends} {H0 H : Hp} {ws : Ws} {pd pc pl : Addr} {ps : List V} {las : List Addr} {c1 : Rs} {L1 : List (List Row)} {r q : Row} {x lv : Nat} {v0 v1 v2 v3 v4 v6 v7 v12 : Option V} {M : Nat} (hS : StH H0 H ws pd ps pc pl las c1 L1) (hc : c1.length ≤ 20) (hr : r ∈ c1.map (·.1)) (hq : q ∈ c1.map (·.1)) (h1 : 0 ≤ valR c1 r ∧ valR c1 r ≤ 1) (h2 : 0 ≤ valR c1 q ∧ valR c1 q ≤ 1)
    (hM0 : 0 < M) (hM : M.log2 < 800) (d1 : Dv (valR c1 r) M) (d2 : Dv (valR c1 q) M) (hlv : 0 < lv) (hlm : lv < 40000000) (hx : x ≤ lv)
    (k : ∀ H', StH H0 H' ws pd ps pc pl las (putA c1 r (valR c1 r + valR c1 q * ((x : Rat) / (lv : Rat)))) L1 → SBut pc H H' → D.nx [v0, v1, v2, v3, v4, some (.ref pc), v6, v7, some (.str (S q)), some (.int lv), some (.str (S r)), some (.int x), v12] H') :
    (sDPut (tVar 5) (tVar 10) (tCall (sp_plus K) [] E0 (tCons (tDGet (tVar 5) (tVar 10)) (tCons (tCall (sp_times K) [] E0 (tCons (tDGet (tVar 5) (tVar 8)) (tCons (tCall (sp_ratio K) [] E0 (tCons (tVar 11) (tCons (tVar 9) tNil))) tNil))) tNil)))) D [v0, v1, v2, v3, v4, some (.ref pc), v6, v7, some (.str (S q)), some (.int lv), some (.str (S r)), some (.int x), v12] H := by
  have lg : ∀ {a : Rat}, 0 ≤ a → a ≤ 1 → Dv a M → a.den.log2 < 800 ∧ a.num.natAbs.log2 < 800 := fun {a} p1 p2 p3 => by
    have e1 := p3.den hM0
    have e2 := num_le p1 p2
    have e3 := log2_mono e1
    have e4 := log2_mono e2
    omega
  obtain ⟨kv1, p1, e1, l1, r1⟩ := hS.r.look hr
  obtain ⟨kv2, p2, e2, l2, r2⟩ := hS.r.look hq
  have hlg : lv.log2 < 100 := by
    have h2 : lv.log2 ≤ (40000000 : Nat).log2 := log2_mono (by omega)
    have h3 : (40000000 : Nat).log2 < 100 := by decide +kernel
    omega
  walk_at "go"
  refine ⟨pc, _, rfl, .inl ⟨kv1, kR r, .inl e1, rfl, l1.symm⟩, ?_⟩
  walk_at "go"
  refine ⟨pc, _, rfl, .inl ⟨kv2, kR q, .inl e2, rfl, l2.symm⟩, ?_⟩
  walk_at "go"
  refine ⟨_, _, rfl, hlv, by omega, fun p3 H1 np3 s1 r3 => ?_⟩
  have e3 : mkRat (x : Int) lv = (x : Rat) / (lv : Rat) := mk_div x lv
  have h3 : 0 ≤ (x : Rat) / (lv : Rat) ∧ (x : Rat) / (lv : Rat) ≤ 1 := by
    have hl : (0 : Rat) < (lv : Rat) := by exact_mod_cast hlv
    have hx2 : (x : Rat) ≤ (lv : Rat) := by exact_mod_cast hx
    refine ⟨div_nn x lv, ?_⟩
    have hne : (lv : Rat) ≠ 0 := by grind
    have h5 := Rat.inv_pos.mpr hl
    have h6 : (x : Rat) * (lv : Rat)⁻¹ ≤ (lv : Rat) * (lv : Rat)⁻¹ := Rat.mul_le_mul_of_nonneg_right hx2 (by grind)
    rw [Rat.mul_inv_cancel _ hne] at h6
    rw [Rat.div_def]; exact h6
  have d3 : ((x : Rat) / (lv : Rat)).den.log2 < 100 ∧ ((x : Rat) / (lv : Rat)).num.natAbs.log2 < 100 := by
    have e1 : ((x : Rat) / (lv : Rat)).den ≤ lv := by
      rw [← e3, Rat.den_mkRat, if_neg (by omega)]
      exact Nat.div_le_self _ _
    have e2 := num_le h3.1 h3.2
    have e4 := log2_mono e1
    have e5 := log2_mono e2
    omega
  rw [e3] at r3
  walk_at "go"
  refine ⟨p2, p3, _, _, _, _, rfl, s1 _ _ r2, r3, (valR c1 q).den_pos, Rat.den_pos _, by have := (lg h2.1 h2.2 d2).2; omega, by omega, by have := (lg h2.1 h2.2 d2).1; omega, fun p4 H2 np4 s2 r4 => ?_⟩
  rw [qmul_eq] at r4
  have s12 := s1.trans s2
  walk_at "go"
  have h4 : 0 ≤ valR c1 q * ((x : Rat) / (lv : Rat)) ∧ valR c1 q * ((x : Rat) / (lv : Rat)) ≤ 1 := by
    refine ⟨Rat.mul_nonneg h2.1 h3.1, ?_⟩
    have h6 : valR c1 q * ((x : Rat) / (lv : Rat)) ≤ 1 * ((x : Rat) / (lv : Rat)) := Rat.mul_le_mul_of_nonneg_right h2.2 h3.1
    have h7 := h3.2
    grind
  have d4 : (valR c1 q * ((x : Rat) / (lv : Rat))).den.log2 < 920 ∧ (valR c1 q * ((x : Rat) / (lv : Rat))).num.natAbs.log2 < 920 := by
    have e1 := (d2.part x hlv).den (Nat.mul_pos hM0 hlv)
    have e2 := num_le h4.1 h4.2
    have e4 := log2_mono e1
    have e5 := log2_mono e2
    have e6 := log2_mulle M lv hM0 hlv
    omega
  refine ⟨p1, p4, _, _, _, _, rfl, s12 _ _ r1, r4, (valR c1 r).den_pos, Rat.den_pos _, by have := (lg h1.1 h1.2 d1).2; omega, by omega, by have := (lg h1.1 h1.2 d1).1; omega, fun p5 H3 np5 s3 r5 => ?_⟩
  rw [qadd_eq] at r5
  have s13 := s12.trans s3
  walk_at "go"
  have hlen : kv1.length ≤ 20 := by
    obtain ⟨kvs, g1, g2⟩ := hS.r
    rw [e1] at g1
    obtain rfl : kv1 = kvs := by injection g1 with g1; injection g1
    rw [← Paired.length g2]; exact hc
  refine ⟨pc, _, rfl, .inl ⟨kv1, kR r, s13 _ _ e1, rfl, Nat.lt_of_le_of_lt hlen (by decide), rfl⟩, ?_⟩
  exact k _ ((hS.same s13).put r5 (s13 _ _ e1)) ((same_but s13).trans sbut_upd)
theorem mem_sum : ∀ {l : Ws} {a : Row × Nat}, a ∈ l → a.2 ≤ (l.map (·.2)).sum
  | b :: l, a, h => by
    rw [List.map_cons, List.sum_cons]
    rcases List.mem_cons.mp h with z | z
    · rw [z]; omega
    · have := mem_sum z; omega
theorem moves_le {ws : Ws} {q r : Row} {x : Nat} (hl : ∀ a ∈ ws, a.1.length = q.length) (h : (r, x) ∈ moves ws q) : x ≤ leaves ws q := by
  have h1 := moves_sum hl fun _ => 1
  rw [wsum_one, wsum_one] at h1
  have h2 : ((moves ws q).map (·.2)).sum = ((mvs ws q).map (·.2)).sum := by exact_mod_cast h1
  have h3 := mem_sum h
  have h4 : ((mvs ws q).map (·.2)).sum = leaves ws q := by unfold mvs leaves; rw [List.map_map]; rfl
  have h5 : x ≤ ((moves ws q).map (·.2)).sum := h3
  omega
abbrev nm_reach_chances : List Str := ["weights", "size", "goal", "deeds", "faces", "chances", "layers", "told", "row", "leaving", "target", "weight", "cell"]
theorem sc_reach_chances : FnScope nm_reach_chances ["weights", "size", "goal"] (defScope s_reach_chances) := ⟨rfl, rfl, rfl, by decide +kernel, rfl, by decide +kernel, by decide +kernel⟩
abbrev t_reach_chances (K : PySem.W.Frag) : TS := (tSeq (tAsg (tCall (sp_masked K) [] E0 (tCons (tVar 0) tNil)) (gName 3))
    (tSeq (tAsg (tCB (rSum K) (tCons (tListVals (tVar 0)) tNil)) (gName 4))
    (tSeq (tAsg (tDisp [((tCall (sp_blank K) [] E0 (tCons (tVar 1) tNil)), (tTup (tCons (tC (.int 1)) (tCons (tC (.int 1)) tNil))))]) (gName 5))
    (tSeq (tAsg (tOp rCat (tLst (tCons (tLst (tCons (tCall (sp_blank K) [] E0 (tCons (tVar 1) tNil)) tNil)) tNil)) (tLc (iRng1 (tCons (tVar 1) tNil)) (gName 12) tYes (tLst tNil) [12])) (gName 6))
    (tSeq (tFor (iRng1 (tCons (tVar 1) tNil)) (gName 7) (tFor (iList K (tCB (rListQ K) (tCons (tOp (rIxL K) (tVar 6) (tVar 7)) tNil))) (gName 8) (tSeq (tAsg (tOp rSubI (tVar 4) (tCall (sp_within_weight K) [] E0 (tCons (tVar 3) (tCons (tCall (sp_mask K) [] E0 (tCons (tVar 8) tNil)) tNil)))) (gName 9))
    (tFor (iItems (tFrz (tCall (sp_older_moves K) [] E0 (tCons (tVar 3) (tCons (tVar 8) (tCons (tVar 2) tNil)))))) (gTup K 2 (gCons (gName 10) (gCons (gName 11) gNil))) (tSeq (tIfS (tB (tDNotIn (tVar 10) (tVar 5))) (tSeq (sDPut (tVar 5) (tVar 10) (tTup (tCons (tC (.int 0)) (tCons (tC (.int 1)) tNil))))
    (tDrop (tBM K "list" rAppend (tOp (rIxL K) (tVar 6) (tCall (sp_told_cells K) [] E0 (tCons (tVar 10) tNil))) (tCons (tVar 10) tNil)))) tNext)
    (sDPut (tVar 5) (tVar 10) (tCall (sp_plus K) [] E0 (tCons (tDGet (tVar 5) (tVar 10)) (tCons (tCall (sp_times K) [] E0 (tCons (tDGet (tVar 5) (tVar 8)) (tCons (tCall (sp_ratio K) [] E0 (tCons (tVar 11) (tCons (tVar 9) tNil))) tNil))) tNil)))))))))
    (tRet (tVar 5)))))))
theorem c_reach_chances (T : Tx K mg) : C8.Cal P w K mg base 4 "reach_chances" (sp_reach_chances K) [.non] := by
  refine calGd T.f_reach_chances (n := 2) (j := 0) (List.cons_ne_nil _ _) rfl (fun _ _ _ _ _ _ _ us its h1 h2 => match us, h1, its, h2 with | [_, _], _, [_], _ => ⟨_, rfl, rfl⟩) sc_reach_chances (fun vs H Q E h => ?_) (fun f cdv A outer s H vs Q E hr h => have hu := hu_of hr; ⟨t_reach_chances K, (pss_cons (ps_set (i := 3) sc_reach_chances.nd rfl (Or.inl rfl) (C8.pe_c (c_masked T) hr (by decide) (by rfl) (pa_cons (pv 0) pa_nil)))
      (pss_cons (ps_set (i := 4) sc_reach_chances.nd rfl (Or.inl rfl) (pe_callB (cr_sum rfl) (by rfl) T.b_sum bt_sum (pa_cons (pe_listVals rfl (by rfl) T.b_list (pv 0)) pa_nil)))
      (pss_cons (ps_set (i := 5) sc_reach_chances.nd rfl (Or.inl rfl) (pe_disp (pps_cons (C8.pe_c (c_blank T) hr (by decide) (by rfl) (pa_cons (pv 1) pa_nil)) (pe_tup (pa_cons pe_int (pa_cons pe_int pa_nil))) pps_nil) (by rfl) (by rfl) (fun z => by cases z) (by decide)))
      (pss_cons (ps_set (i := 6) sc_reach_chances.nd rfl (Or.inl rfl) (pe_op op_cat (pe_lst (pa_cons (pe_lst (pa_cons (C8.pe_c (c_blank T) hr (by decide) (by rfl) (pa_cons (pv 1) pa_nil)) pa_nil)) pa_nil)) (pe_lc (own := [("cell", 12)]) rfl sc_reach_chances.nd (pi_range1 (by rfl) T.b_range (pa_cons (pv 1) pa_nil)) (blkOk_by (own := [("cell", 12)]) (N := nm_reach_chances) (sc := (defScope s_reach_chances)) (by decide +kernel)) (fun _ _ _ _ _ => (pg_name (i := 12) sc_reach_chances.nd rfl (Or.inl rfl) (hf := Or.inr rfl))) (fun _ _ _ _ _ => pts_nil) (fun _ _ _ _ _ => (pe_lst pa_nil)))))
      (pss_cons (ps_for PassesOwn.never rfl (pi_range1 (by rfl) T.b_range (pa_cons (pv 1) pa_nil)) (pg_name (i := 7) sc_reach_chances.nd rfl (Or.inl rfl) (hf := Or.inr rfl)) (pss_one (ps_for PassesOwn.never rfl (pi_list (pe_callTy call_list_of (by rfl) T.b_list bt_list (pa_cons (pe_ix ix_list (pv 6) (pv 7) (fun _ _ => rfl)) pa_nil))) (pg_name (i := 8) sc_reach_chances.nd rfl (Or.inl rfl) (hf := Or.inr rfl)) (pss_cons (ps_set (i := 9) sc_reach_chances.nd rfl (Or.inl rfl) (pe_op op_sub (pv 4) (C8.pe_c (c_within_weight T) hr (by decide) (by rfl) (pa_cons (pv 3) (pa_cons (C8.pe_c (c_mask T) hr (by decide) (by rfl) (pa_cons (pv 8) pa_nil)) pa_nil)))))
      (pss_one (ps_for PassesOwn.never rfl (pi_items (pe_frz (C8.pe_c (c_older_moves T) hr (by decide) (by rfl) (pa_cons (pv 3) (pa_cons (pv 8) (pa_cons (pv 2) pa_nil)))))) (pg_tup rfl (pgs_cons (pg_name (i := 10) sc_reach_chances.nd rfl (Or.inl rfl) (hf := Or.inr rfl)) (pgs_cons (pg_name (i := 11) sc_reach_chances.nd rfl (Or.inl rfl) (hf := Or.inr rfl)) pgs_nil))) (pss_cons (ps_if (pt_cmp (pc_dnotin hu (pv 10) (pv 5)) (by rfl)) (pss_cons (ps_dput hu (pv 5) (pv 10) (pe_tup (pa_cons pe_int (pa_cons pe_int pa_nil))) rfl)
      (pss_one (ps_expr (pe_bm PySem.F.plainAttrs_list PySem.F.slot_list_append PySem.F.type_list_append mt_append (pe_ix ix_list (pv 6) (C8.pe_c (c_told_cells T) hr (by decide) (by rfl) (pa_cons (pv 10) pa_nil)) (fun _ _ => rfl)) (pa_cons (pv 10) pa_nil))))) pss_nil)
      (pss_one (ps_dput hu (pv 5) (pv 10) (C8.pe_c (c_plus T) hr (by decide) (by rfl) (pa_cons (pe_dget hu (pv 5) (pv 10) (fun _ _ => rfl)) (pa_cons (C8.pe_c (c_times T) hr (by decide) (by rfl) (pa_cons (pe_dget hu (pv 5) (pv 8) (fun _ _ => rfl)) (pa_cons (C8.pe_c (c_ratio T) hr (by decide) (by rfl) (pa_cons (pv 11) (pa_cons (pv 9) pa_nil))) pa_nil))) pa_nil))) rfl)))))))))
      (pss_one (ps_ret (pv 5)))))))), ?_⟩)
  · obtain ⟨d, ws, R, n, rfl, _⟩ := h
    rfl
  · obtain ⟨d, ws, R, n, rfl, hd, hO, hn1, hn6, hlv, hR, k⟩ := h
    have hwf := hO.few
    walk_at "go"
    refine ⟨d, ws, rfl, hd, hO.few, fun a ha => by rw [hO.len a ha]; omega, fun pd H1 ps s1 npd hpd hP => ?_⟩
    walk_at "go"
    refine ⟨d, WD ws, rfl, .inl (s1 _ _ hd), fun q hq => ?_⟩
    have e1 : (WD ws).map (·.2) = ws.map fun a => V.int ((a.2 : Nat) : Int) := by unfold WD KD; rw [List.map_map]; rfl
    rw [e1]
    walk_at "go"
    refine w_sum (f := fun a : Row × Nat => ((a.2 : Nat) : Int)) (upd_same) ?_
    rw [sum_cast]
    walk_at "go"
    rename_i pc npc
    have s2 : Same H H1 := s1
    have s3 := s2.trans ((same_new (o := .lst (ws.map fun a => V.int ((a.2 : Nat) : Int))) hq).trans (same_new (o := .dK []) npc))
    have npc0 : H pc = none := by
      cases e : H pc with
      | none => rfl
      | some o => have := (s2.trans (same_new (o := .lst (ws.map fun a => V.int ((a.2 : Nat) : Int))) hq)) _ _ e; rw [npc] at this; cases this
    have hpc3 : upd (upd H1 q (.lst (ws.map fun a => V.int ((a.2 : Nat) : Int)))) pc (.dK []) pc = some (.dK []) := upd_same
    have hpd3 := ((same_new (o := .lst (ws.map fun a => V.int ((a.2 : Nat) : Int))) hq).trans (same_new (o := .dK []) npc)) _ _ hpd
    have hP3 : Paired (deedV (upd (upd H1 q (.lst (ws.map fun a => V.int ((a.2 : Nat) : Int)))) pc (.dK []))) ws ps := Paired.mapP hP fun a v z => z.same ((same_new (o := .lst (ws.map fun a => V.int ((a.2 : Nat) : Int))) hq).trans (same_new (o := .dK []) npc))
    generalize upd (upd H1 q (.lst (ws.map fun a => V.int ((a.2 : Nat) : Int)))) pc (.dK []) = H3 at s3 hpc3 hpd3 hP3 ⊢
    refine ⟨n, rfl, by omega, fun H4 s4 => ?_⟩
    walk_at "go"
    rename_i pt npt
    have s5 := s4.trans (same_new (o := .tup [.int 1, .int 1]) npt)
    have hR5 : RD (upd (upd H4 pt (.tup [.int 1, .int 1])) pc (.dK (mergeK [] [(kR (List.replicate n 46), V.ref pt)]))) pc [(blankR n, 1)] := by
      have hne : pt ≠ pc := (ne_of_none (s4 _ _ hpc3) npt).symm
      refine ⟨_, upd_same, .cons ⟨rfl, pt, rfl, ?_⟩ .nil⟩
      unfold Rt
      rw [upd_ne hne]
      exact upd_same
    have S5 : SBut pc H3 (upd (upd H4 pt (.tup [.int 1, .int 1])) pc (.dK (mergeK [] [(kR (List.replicate n 46), V.ref pt)]))) := (same_but s5).trans sbut_upd
    have s6 : Same H (upd (upd H4 pt (.tup [.int 1, .int 1])) pc (.dK (mergeK [] [(kR (List.replicate n 46), V.ref pt)]))) := same_mut (s3.trans s5) npc0
    generalize upd (upd H4 pt (.tup [.int 1, .int 1])) pc (.dK (mergeK [] [(kR (List.replicate n 46), V.ref pt)])) = H6 at hR5 S5 s6 ⊢
    have hpdc : pd ≠ pc := ne_of hpd3 hpc3 (by intro z; cases z)
    have hpd6 := S5 _ _ hpdc hpd3
    have hP6 : Paired (deedV H6) ws ps := Paired.mapP hP3 fun a v z => by
      obtain ⟨q, e, k⟩ := z
      exact ⟨q, e, S5 _ _ (ne_of k hpc3 (by intro z; cases z)) k⟩
    walk_at "go"
    refine ⟨n, rfl, by omega, fun H7 s7 => ?_⟩
    walk_at "go"
    rename_i la0 nla0 p1 np1
    rw [Int.toNat_natCast]
    have s8 := s6.trans (s7.trans ((same_new (o := .lst [.str (S (List.replicate n 46))]) nla0).trans (same_new (o := .lst [.ref la0]) np1)))
    have s67 := s7.trans ((same_new (o := .lst [.str (S (List.replicate n 46))]) nla0).trans (same_new (o := .lst [.ref la0]) np1))
    have hla0 := same_new (o := .lst [.ref la0]) np1 _ _ (upd_same (H := H7) (a := la0) (o := .lst [.str (S (List.replicate n 46))]))
    have hp1 : upd (upd H7 la0 (.lst [.str (S (List.replicate n 46))])) p1 (.lst [.ref la0]) p1 = _ := upd_same
    have nla00 : H la0 = none := by
      cases e : H la0 with
      | none => rfl
      | some o => have := (s6.trans s7) _ _ e; rw [nla0] at this; cases this
    generalize upd (upd H7 la0 (.lst [.str (S (List.replicate n 46))])) p1 (.lst [.ref la0]) = H8 at s8 s67 hla0 hp1 ⊢
    refine lc_lists walk_rng (by omega) ?_ ?_
    · rintro i x H9 H10 R9 hi s9 ⟨rfl, rfl⟩ k1
      walk_at "go"
      rename_i q9 nq9
      exact k1 q9 _ (same_new nq9) nq9 upd_same
    · intro D1 H9 las1 nD1 s9 hll hln hla hD1
      refine ⟨p1, D1, [.ref la0], las1.map fun a => .ref a, rfl, rfl, s9 _ _ hp1, hD1, by rw [List.length_map, hll]; exact Nat.le_trans (by show 1 + n ≤ 1000; omega) (by decide), fun pl npl => ?_⟩
      have s10 := s9.trans (same_new (o := .lst ([.ref la0] ++ las1.map fun a => .ref a)) npl)
      have hL0 : LayH H (upd H9 pl (.lst ([.ref la0] ++ las1.map fun a => .ref a))) pl (la0 :: las1) ([blankR n] :: List.replicate n []) := by
        refine ⟨upd_same, List.nodup_cons.mpr ⟨fun hm => ?_, hln⟩, by simp [hll], fun k a l h1 h2 => ?_, fun a ha => ?_, fun hm => ?_⟩
        · have := (hla la0 hm).2.1
          rw [hla0] at this; cases this
        · cases k with
          | zero =>
            obtain rfl := Option.some.inj h1
            obtain rfl := Option.some.inj h2
            exact s10 _ _ hla0
          | succ k =>
            have h1 : las1[k]? = some a := h1
            have h2 : (List.replicate n ([] : List Row))[k]? = some l := h2
            rw [List.getElem?_replicate] at h2
            split at h2
            · obtain rfl := Option.some.inj h2
              exact same_new npl _ _ (hla a (List.mem_of_getElem? h1)).1
            · cases h2
        · rcases List.mem_cons.mp ha with z | z
          · rw [z]; exact nla00
          · cases e : H a with
            | none => rfl
            | some o => have := s8 _ _ e; rw [(hla a z).2.1] at this; cases this
        · rcases List.mem_cons.mp hm with z | z
          · have := s9 _ _ hla0; rw [← z, npl] at this; cases this
          · have := (hla pl z).1; rw [npl] at this; cases this
      have hR10 := hR5.same (s67.trans s10)
      have hpd10 := (s67.trans s10) _ _ hpd6
      have hP10 : Paired (deedV (upd H9 pl (.lst ([.ref la0] ++ las1.map fun a => .ref a)))) ws ps := Paired.mapP hP6 fun a v z => z.same (s67.trans s10)
      have s10 := s8.trans s10
      generalize upd H9 pl (.lst ([.ref la0] ++ las1.map fun a => .ref a)) = H10 at hL0 hR10 hpd10 hP10 s10 ⊢
      have hpdl : pd ∉ la0 :: las1 := fun hm => by
        have := (hL0.new pd hm)
        rcases List.mem_cons.mp hm with z | z
        · have h1 := hpd6; rw [z] at h1
          have := s7 _ _ h1; rw [nla0] at this; cases this
        · have h1 := (hla pd z).2.1
          have := s67 _ _ hpd6; rw [h1] at this; cases this
      have hS0 : StH H H10 ws pd ps pc pl (la0 :: las1) [(blankR n, 1)] ([blankR n] :: List.replicate n []) := ⟨s10, hR10, hL0, hpd10, hP10, npc0⟩
      have hP0 := StP.start (ws := ws) hn1 hR.bl
      generalize la0 :: las1 = las at hS0 hpdl
      walk_at "go"
      rw [Int.toNat_natCast]
      refine for_G (n := n) walk_rng (fun t σ H' => ∃ c L D N u7 u8 u9 u10 u11 u12, StH H H' ws pd ps pc pl las c L ∧ StP n ws R c L D N ∧ (∀ r ∈ c.map (·.1), r ∈ D ↔ tld r < t) ∧ σ = [some (.ref d), some (.int n), some .non, some (.ref pd), some (.int ((ws.map (·.2)).sum : Nat)), some (.ref pc), some (.ref pl), u7, u8, u9, u10, u11, u12])
        ⟨_, _, [], 1, _, _, _, _, _, _, hS0, hP0, fun r hr => ⟨fun h => absurd h List.not_mem_nil, fun h => absurd h (Nat.not_lt_zero _)⟩, rfl⟩ (fun _ _ _ _ _ => trivial) ?_ ?_
      · rintro t x σ H11 H12 ht ⟨c, L, D, N, u7, u8, u9, u10, u11, u12, hS, hP, hD, rfl⟩ ⟨rfl, rfl⟩
        obtain ⟨at_, hat⟩ : ∃ a, las[t]? = some a := ⟨_, List.getElem?_eq_getElem (by rw [hS.lh.len, hP.li.len]; omega)⟩
        obtain ⟨Lt, hLt⟩ : ∃ l, L[t]? = some l := ⟨_, List.getElem?_eq_getElem (by rw [hP.li.len]; omega)⟩
        have hal := hS.lh.at_ t at_ Lt hat hLt
        walk_at "go"
        refine w_ixL (xs := las.map fun a => .ref a) (.inl (.inl hS.lh.at0)) (by rw [List.getElem?_map, hat]; rfl) ?_
        walk_at "go"
        refine ⟨at_, _, rfl, .inl (.inl (.inl hal)), fun lc nlc => ?_⟩
        have hlc : upd H12 lc (.lst (rowL Lt)) lc = some (.lst (rowL Lt)) := upd_same
        have hS2 := hS.same (same_new (o := .lst (rowL Lt)) nlc)
        generalize upd H12 lc (.lst (rowL Lt)) = H13 at hlc hS2 ⊢
        have hlcq : SqL K H13 lc (rowL Lt) := .inl (.inl hlc)
        have hLnd := hP.li.nd Lt (List.mem_of_getElem? hLt)
        have hlcl : lc ∉ las := fun hm => by
          obtain ⟨l, hl⟩ := hS.las_lst hm
          rw [nlc] at hl; cases hl
        dsimp only
        walk_at "go"
        refine for_G (n := Lt.length) walk_listM (fun i σ H' => ∃ c L D N u8 u9 u10 u11 u12, StH H H' ws pd ps pc pl las c L ∧ StP n ws R c L D N ∧ (∀ r ∈ c.map (·.1), r ∈ D ↔ (tld r < t ∨ r ∈ Lt.take i)) ∧ L[t]? = some Lt ∧ H' lc = some (.lst (rowL Lt)) ∧ σ = [some (.ref d), some (.int n), some .non, some (.ref pd), some (.int ((ws.map (·.2)).sum : Nat)), some (.ref pc), some (.ref pl), some (.int (t : Nat)), u8, u9, u10, u11, u12])
          ⟨c, L, D, N, _, _, _, _, _, hS2, hP, fun r hr => by rw [hD r hr, List.take_zero]; simp, hLt, hlc, rfl⟩ (fun i σ H' _ h => let ⟨_, _, _, _, _, _, _, _, _, _, _, _, _, h, _⟩ := h; .inl (.inl h)) ?_ ?_
        · rintro i x σ H14 H15 hi ⟨c, L, D, N, u8, u9, u10, u11, u12, hS, hP, hD, hLt, hlc, rfl⟩ ⟨rfl, q, hq, rfl⟩
          have hqm := List.mem_of_getElem? hq
          obtain ⟨htq, hqk⟩ := hP.li.tl t Lt hLt q hqm
          obtain ⟨aq, haq, eaq, evq⟩ := val_mem hqk
          have hql : q.length = n := by rw [← eaq]; exact hP.ci.len aq haq
          have hqf : full q = false := by
            cases e : full q with
            | false => rfl
            | true => have := (full_tld hql).mp e; omega
          have hqD : q ∉ D := fun h => by
            rcases (hD q hqk).mp h with z | z
            · omega
            · exact nd_take hLnd hq z
          have hdt : ∀ x ∈ D, tld x ≤ tld q := fun x hx => by
            rcases (hD x (hP.dk x hx)).mp hx with z | z
            · omega
            · have := (hP.li.tl t Lt hLt x (List.mem_of_mem_take z)).1; omega
          have hM := hP.enter hO hR hlv hqk hqf hqD hdt
          have hwl : ∀ a ∈ ws, a.1.length = q.length := fun a ha => by rw [hO.len a ha, hql]
          walk_at "go"
          refine ⟨q, rfl, by omega, fun H16 s16 => ?_⟩
          have hS16 := hS.same s16
          walk_at "go"
          refine ⟨pd, ws, ps, mask q, rfl, hS16.pd, hS16.dv, hO.few, fun H17 s17 => ?_⟩
          have hS17 := hS16.same s17
          walk_at "go"
          have elv : (((ws.map (·.2)).sum : Nat) : Int) - ((inW ws (mask q) : Nat) : Int) = ((leaves ws q : Nat) : Int) := by
            have := leaves_eq hwl
            unfold facesW at this
            omega
          rw [elv]
          walk_at "go"
          refine w_tfrz ?_
          walk_at "go"
          refine ⟨pd, ws, ps, q, rfl, hS17.pd, hS17.dv, hO.few, fun a ha => by rw [hO.len a ha]; omega, by omega, fun dm H18 s18 ndm hdm => ?_⟩
          refine ⟨dm, _, rfl, hdm, fun od => ?_⟩
          have sF : Same H17 (upd H18 dm (.frz od (.dK (WD (moves ws q))))) := same_mut s18 ndm
          have hSF := hS17.same sF
          have hdmF : upd H18 dm (.frz od (.dK (WD (moves ws q)))) dm = some (.frz od (.dK (WD (moves ws q)))) := upd_same
          have hlcF := sF _ _ (s17 _ _ (s16 _ _ hlc))
          generalize upd H18 dm (.frz od (.dK (WD (moves ws q)))) = HF at hSF hdmF hlcF ⊢
          walk_at "go"
          refine for_G (n := (moves ws q).length) walk_itemsKD (fun j σ H' => ∃ c' L' u10 u11 u12, StH H H' ws pd ps pc pl las c' L' ∧ StM n ws R c' L' D N q (valR c q) ((moves ws q).drop j) ∧ (∀ r ∈ c'.map (·.1), r ∈ D ↔ (tld r < t ∨ r ∈ Lt.take i)) ∧ L'[t]? = some Lt ∧ H' lc = some (.lst (rowL Lt)) ∧ H' dm = some (.frz od (.dK (WD (moves ws q)))) ∧
              σ = [some (.ref d), some (.int n), some .non, some (.ref pd), some (.int ((ws.map (·.2)).sum : Nat)), some (.ref pc), some (.ref pl), some (.int (t : Nat)), some (.str (S q)), some (.int (leaves ws q : Nat)), u10, u11, u12])
            ⟨c, L, _, _, _, hSF, hM, hD, hLt, hlcF, hdmF, rfl⟩ (fun j σ H' _ h => let ⟨_, _, _, _, _, _, _, _, _, _, h, _⟩ := h; h) ?_ ?_
          · rintro j v σ H19 H20 hj ⟨c', L', u10, u11, u12, hS, hM, hD, hLt, hlc, hdm, rfl⟩ ⟨T', b, rfl, hT, rfl, hb⟩
            obtain ⟨r, x⟩ := b
            have hdr : (moves ws q).drop j = (r, x) :: (moves ws q).drop (j + 1) := by
              obtain ⟨h, e⟩ := List.getElem?_eq_some_iff.mp hb
              rw [List.drop_eq_getElem_cons h, e]
            rw [hdr] at hM
            have hmv := hM.mv (r, x) List.mem_cons_self
            have sT := same_new (o := .tup [.str (S r), .int (x : Nat)]) hT
            have hS2 := hS.same sT
            have hlc2 := sT _ _ hlc
            have hdm2 := sT _ _ hdm
            obtain ⟨kvs, ek, his⟩ := hS2.r.isSome
            walk_at "go"
            generalize upd H19 T' (.tup [.str (S r), .int (x : Nat)]) = H20 at hS2 hlc2 hdm2 ek ⊢
            refine ⟨pc, _, rfl, .inl ⟨kvs, kR r, .inl ek, rfl, rfl⟩, ?_⟩
            rw [his r]
            walk_at "go"
            have hrt : tld r ≤ n := tld_le hmv.1
            obtain ⟨ak, hak⟩ : ∃ a, las[tld r]? = some a := ⟨_, List.getElem?_eq_getElem (by rw [hS.lh.len, hM.li.len]; omega)⟩
            obtain ⟨lk, hlk⟩ : ∃ l, L'[tld r]? = some l := ⟨_, List.getElem?_eq_getElem (by rw [hM.li.len]; omega)⟩
            have hklen : kvs.length ≤ 20 := by
              obtain ⟨kv2, g1, g2⟩ := hS2.r
              rw [ek] at g1
              obtain rfl : kvs = kv2 := by injection g1 with g1; injection g1
              have h5 := nodup_len (c'.map (·.1)) R hM.cm.nd hM.sub
              rw [List.length_map] at h5
              rw [← Paired.length g2]
              have := hR.few
              omega
            have hrl : r.length = n := hmv.1
            have htt : tld q < tld r := hmv.2.1
            have hcl : c'.length ≤ 20 := by
              have h5 := nodup_len (c'.map (·.1)) R hM.cm.nd hM.sub
              rw [List.length_map] at h5
              have := hR.few
              omega
            have hxl : x ≤ leaves ws q := moves_le hwl (List.mem_of_getElem? hb)
            have hc1 : valR c q ≤ 1 := by rw [evq]; exact hP.ci.le1 haq (by rw [eaq]; exact hqD)
            have hMl : (N * leaves ws q).log2 < 800 := by
              have h5 := nodup_len D R hM.dn fun y hy => hM.sub y (hM.dk y hy)
              have h6 := hR.few
              have h7 := (hP.enter hO hR hlv hqk hqf hqD hdt).lv
              have h8 : N * leaves ws q ≤ 40000000 ^ (D.length + 1) := by
                rw [Nat.pow_succ]
                exact Nat.mul_le_mul hM.nb (by have := leaves_le ws q; have := hO.faces; omega)
              have := pow_log (Nat.mul_pos hM.n0 hM.lv) h8 (by omega)
              omega
            have hlm : leaves ws q < 40000000 := Nat.lt_of_le_of_lt (leaves_le ws q) hO.faces
            refine w_ndec (fun e => ?_) (fun e => ?_)
            · walk_at "go"
              rename_i p0 np0
              have hS3 := hS2.same (same_new (o := .tup [.int 0, .int 1]) np0)
              have ek3 := same_new (o := .tup [.int 0, .int 1]) np0 _ _ ek
              have hS4 := hS3.put (r := r) (q := 0) (p := p0) upd_same ek3
              refine ⟨pc, _, rfl, .inl ⟨kvs, kR r, ek3, rfl, Nat.lt_of_le_of_lt hklen (by decide), rfl⟩, ?_⟩
              walk_at "go"
              refine ⟨r, rfl, by omega, fun H21 s21 => ?_⟩
              have hS5 := hS4.same s21
              have hal5 := hS5.lh.at_ _ ak lk hak hlk
              have hlkf : lk.length ≤ 1000 := by
                have h5 := nodup_len lk R (hM.li.nd lk (List.mem_of_getElem? hlk)) fun y hy => hM.sub y (hM.li.tl _ lk hlk y hy).2
                have := hR.few
                omega
              have ett : ((told r : Nat) : Int) = ((tld r : Nat) : Int) := rfl
              walk_at "go"
              refine w_ixL (i := tld r) (xs := las.map fun a => .ref a) (.inl (.inl hS5.lh.at0)) (by rw [List.getElem?_map, hak]; rfl) ?_
              walk_at "go"
              have ev0 : valR c' r = 0 := by unfold valR; rw [look_none e]; rfl
              have hqr : q ≠ r := fun z => by rw [z] at htt; exact absurd htt (Nat.lt_irrefl _)
              refine w_app hal5 (by rw [List.length_map]; exact hlkf) ?_
              have hS6 := hS5.app hpdl hak hlk (r := r)
              have erow : rowL (lk ++ [r]) = rowL lk ++ [.str (S r)] := by show List.map _ _ = _; rw [List.map_append]; rfl
              rw [erow] at hS6
              have hcl1 : (putA c' r (0 : Rat)).length ≤ 20 := by
                have h5 := nodup_len ((putA c' r (0 : Rat)).map (·.1)) R (putA_nodup hM.cm.nd) fun y hy => (putB_mem.mp hy).elim (fun z => z ▸ hmv.2.2.1) (hM.sub y)
                rw [List.length_map] at h5
                have := hR.few
                omega
              refine rc_put (c1 := putA c' r 0) (L1 := L'.set (tld r) (lk ++ [r])) (r := r) (q := q) (x := x) (lv := leaves ws q) (M := N * leaves ws q) hS6 hcl1 (putB_mem.mpr (.inl rfl)) (putB_mem.mpr (.inr hM.qk)) (by rw [val_put]; exact ⟨Rat.le_refl, by grind⟩) (by rw [val_put_ne hqr, hM.c0v]; exact ⟨Rat.le_of_lt hM.c0p, hc1⟩) (Nat.mul_pos hM.n0 hM.lv) hMl (by rw [val_put]; exact Dv.zero) (by rw [val_put_ne hqr]; exact val_dv hM.cm.dv q) hM.lv hlm hxl (fun H6 hS7 sb => ?_)
              rw [putA_twice, val_put, val_put_ne hqr, hM.c0v, ← ev0] at hS7
              have hdmc : dm ≠ pc := ne_of hdm2 ek (by intro z; cases z)
              have hlcc : lc ≠ pc := ne_of hlc2 ek (by intro z; cases z)
              have hlca : lc ≠ ak := fun z => hlcl (by rw [z]; exact List.mem_of_getElem? hak)
              have hdm5 := s21 _ _ (sbut_upd (p := pc) (o := .dK (putK kvs (kR r) (.ref p0))) _ _ hdmc (same_new (o := .tup [.int 0, .int 1]) np0 _ _ hdm2))
              have hlc5 := s21 _ _ (sbut_upd (p := pc) (o := .dK (putK kvs (kR r) (.ref p0))) _ _ hlcc (same_new (o := .tup [.int 0, .int 1]) np0 _ _ hlc2))
              have hdma : dm ≠ ak := ne_of hdm5 hal5 (by intro z; cases z)
              refine ⟨_, _, _, _, _, hS7, hM.step (hM.li.add e hlk), fun y hy => ?_, ?_, sb _ _ hlcc (by rw [upd_ne hlca]; exact hlc5), sb _ _ hdmc (by rw [upd_ne hdma]; exact hdm5), rfl⟩
              · rcases putB_mem.mp hy with z | z
                · rw [z]
                  constructor
                  · intro w
                    have := hM.dt r w; omega
                  · rintro (w | w)
                    · omega
                    · have := (hM.li.tl t Lt hLt r (List.mem_of_mem_take w)).1; omega
                · exact hD y z
              · rw [List.getElem?_set_ne (by omega)]; exact hLt
            · have hrv : valR c' r ≤ 1 := by
                obtain ⟨ar, har, ear, evr⟩ := val_mem e
                rw [evr]
                refine hM.cm.le1 (Rat.le_of_lt hM.c0p) har ?_
                rw [ear]
                intro z
                rcases List.mem_cons.mp z with w | w
                · rw [w] at htt; exact absurd htt (Nat.lt_irrefl _)
                · have := hM.dt r w; omega
              refine rc_put (c1 := c') (L1 := L') (r := r) (q := q) (x := x) (lv := leaves ws q) (M := N * leaves ws q) hS2 hcl e hM.qk ⟨val_nn hM.cm.nn r, hrv⟩ ⟨val_nn hM.cm.nn q, by rw [hM.c0v]; exact hc1⟩ (Nat.mul_pos hM.n0 hM.lv) hMl (val_dv hM.cm.dv r) (val_dv hM.cm.dv q) hM.lv hlm hxl (fun H6 hS6 sb => ?_)
              rw [hM.c0v] at hS6
              have hdmc : dm ≠ pc := ne_of hdm2 ek (by intro z; cases z)
              have hlcc : lc ≠ pc := ne_of hlc2 ek (by intro z; cases z)
              refine ⟨_, L', _, _, _, hS6, hM.step (hM.li.old e), fun y hy => ?_, hLt, sb _ _ hlcc hlc2, sb _ _ hdmc hdm2, rfl⟩
              rw [putB_keys, if_pos e] at hy
              exact hD y hy
          · rintro σ H19 ⟨c', L', u10, u11, u12, hS, hM, hD', hLt', hlc', hdm', rfl⟩
            rw [List.drop_length] at hM
            have hP' := hM.exit hO
            refine ⟨c', L', q :: D, _, _, _, _, _, _, hS, hP', fun r hr => ?_, hLt', hlc', rfl⟩
            rw [List.mem_cons, hD' r hr, List.take_succ, hq, List.mem_append]
            simp only [Option.toList_some, List.mem_singleton]
            constructor
            · rintro (z | z | z)
              · exact .inr (.inr z)
              · exact .inl z
              · exact .inr (.inl z)
            · rintro (z | z | z)
              · exact .inr (.inl z)
              · exact .inr (.inr z)
              · exact .inl z
        · rintro σ H14 ⟨c, L, D, N, u8, u9, u10, u11, u12, hS, hP, hD, hLt, hlc, rfl⟩
          refine ⟨c, L, D, N, _, _, _, _, _, _, hS, hP, fun r hr => ?_, rfl⟩
          rw [hD r hr, List.take_length]
          constructor
          · rintro (z | z)
            · omega
            · have := (hP.li.tl t Lt hLt r z).1; omega
          · intro z
            by_cases e : tld r < t
            · exact .inl e
            · obtain ⟨l, h1, h2⟩ := hP.li.all r hr
              have : tld r = t := by omega
              rw [this, hLt] at h1
              obtain rfl := Option.some.inj h1
              exact .inr h2
      · rintro σ H11 ⟨c, L, D, N, u7, u8, u9, u10, u11, u12, hS, hP, hD, rfl⟩
        walk_at "go"
        obtain ⟨f1, f2⟩ := hP.few hR.few
        refine k pc H11 c hS.s npc0 hS.r hP.ci.nd f1 (fun a ha => ⟨hP.ci.len a ha, hP.pos a ha⟩) fun f hf => ?_
        refine hP.ci.last hO.len hlv (fun a ha hfa => ?_) hf
        have hk : a.1 ∈ c.map (·.1) := List.mem_map.mpr ⟨a, ha, rfl⟩
        rw [hD a.1 hk]
        have hl := hP.ci.len a ha
        have h1 := tld_le hl
        have h2 : tld a.1 ≠ n := fun z => by rw [(full_tld hl).mpr z] at hfa; cases hfa
        omega
end
/-! ## F27 -/
section
set_option maxHeartbeats 2000000
open PySem PySem.Spec PyProof.Rows L2


variable {P : Program} {w : World} {K : PySem.W.Frag} {mg : Str → Option Value} {base : Heap}
/-- the dict of the steady shares -/
structure SteadyL (n : Nat) (ws : Ws) (l : Rs) : Prop where
  sr : Srt (l.map (·.1))
  nd : (l.map (·.1)).Nodup
  key : ∀ f, f ∈ l.map (·.1) ↔ f.length = n ∧ full f = true ∧ hB ws (blankR n) f ≠ 0
  val : ∀ a ∈ l, a.2 = hB ws (blankR n) a.1
def sp_steady_shares (K : PySem.W.Frag) : Sp := fun vs H Q _ => ∃ p bp ws cs ss rs R, vs = [.ref p] ∧ BookAt K H p bp ws ∧ BandAt K H bp cs ss rs ∧ 1 ≤ cs.length ∧ cs.length ≤ 6 ∧ BOk cs.length ws ∧ untoldN cs ws = [] ∧ Clo cs.length ws R ∧ ∀ d H' l, Same H H' → H d = none → RD H' d l → SteadyL cs.length ws l → Q (.ref d) H'
theorem rd_keys {H : Hp} : ∀ {l : Rs} {kvs : List (Key × V)}, Paired (fun (a : Row × Rat) (kv : Key × V) => kv.1 = kR a.1 ∧ RatV H a.2 kv.2) l kvs → kvs.map (fun kv => kV kv.1) = rowL (l.map (·.1))
  | _, _, .nil => rfl
  | a :: _, kv :: _, .cons r t => by
    have e1 : kV kv.1 = V.str (S a.1) := by rw [r.1]; rfl
    have ih := rd_keys t
    show kV kv.1 :: _ = V.str (S a.1) :: _
    rw [e1, ih]
abbrev nm_steady_shares : List Str := ["book", "chances", "row"]
theorem sc_steady_shares : FnScope nm_steady_shares ["book"] (defScope s_steady_shares) := ⟨rfl, rfl, rfl, by decide +kernel, rfl, by decide +kernel, by decide +kernel⟩
abbrev t_steady_shares (K : PySem.W.Frag) : TS := (tSeq (tDrop (tCall (sp_check_told K) [] E0 (tCons (tVar 0) tNil)))
    (tSeq (tAsg (tCall (sp_reach_chances K) [.non] E0 (tCons (tMeth (He.ga K "Book") "weights" (sp_Book_weights K) [] E0 (tVar 0) tNil) (tCons (tProp (He.ga K "Band") (sp_Band_size K) [] E0 (tFld K (tVar 0) "band")) tNil))) (gName 1))
    (tRet (tDc (iList K (tCB (rSortedS K) (tCons (tCB rListD (tCons (tVar 1) tNil)) tNil))) (gName 2) (tTest (tOp rNotInS (tC (.str ".")) (tVar 2))) (tVar 2) (tDGet (tVar 1) (tVar 2)) [2]))))
theorem c_steady_shares (T : Tx K mg) : C8.Cal P w K mg base 5 "steady_shares" (sp_steady_shares K) [] := by
  refine calG T.f_steady_shares (fun _ _ _ _ _ _ us hl => match us, hl with | [_], _ => rfl) sc_steady_shares (fun vs H Q E h => ?_) (fun f cdv A outer s H vs Q E hr h => have hu := hu_of hr; ⟨t_steady_shares K, (pss_cons (ps_expr (C8.pe_c (c_check_told T) hr (by decide) (by rfl) (pa_cons (pv 0) pa_nil)))
      (pss_cons (ps_set (i := 1) sc_steady_shares.nd rfl (Or.inr rfl) (C8.pe_c (c_reach_chances T) hr (by decide) (by rfl) (pa_cons (C8.pe_mt0 (m_Book_weights T) hr (by decide) (pv 0)) (pa_cons (pe_prop_c (p_Band_size T) hr (by decide) (pe_fld (pv 0) rfl)) pa_nil))))
      (pss_one (ps_ret (pe_dc (own := [("row", 2)]) rfl sc_steady_shares.nd (pi_list (pe_callB cr_sortedS (by rfl) T.b_sorted bt_sorted (pa_cons (pe_callTy (call_listD rfl) (by rfl) T.b_list bt_list (pa_cons (pv 1) pa_nil)) pa_nil))) (blkOk_by (own := [("row", 2)]) (N := nm_steady_shares) (sc := (defScope s_steady_shares)) (by decide +kernel)) (fun _ _ _ _ _ => (pg_name (i := 2) sc_steady_shares.nd rfl (Or.inl rfl) (hf := Or.inr rfl))) (fun _ _ _ _ _ => (pts_one (pt_cmpR op_notIn_sign pe_str (pv 2) rfl))) (fun _ _ _ _ _ => (pv 2)) (fun _ _ _ _ _ => (pe_dget hu (pv 1) (pv 2) (fun _ _ => rfl)))))))), ?_⟩)
  · obtain ⟨p, bp, ws, cs, ss, rs, R, rfl, _⟩ := h
    rfl
  · obtain ⟨p, bp, ws, cs, ss, rs, R, rfl, hW, hBn, hn1, hn6, hO, hu0, hR, k⟩ := h
    have hWb := hW
    obtain ⟨dx, fs, d, h1, h2, h3, hd, h5, h6, h7, h8⟩ := hW
    have hBb := hBn
    obtain ⟨dxb, fsb, ca, sa, ka, g1, g2, g3, g4, g5, g6, g7, g8, g9, g10⟩ := hBn
    have c1 := T.cl_Book
    have n1 := T.na_Book_band
    walk_at "go"
    refine ⟨p, bp, ws, cs, ss, rs, rfl, hWb, hBb, hn6, hO.few, hO.len, hu0, fun H1 s1 => ?_⟩
    have h11 := s1 _ _ h1
    walk_at "go"
    refine ⟨p, bp, ws, rfl, hWb.same s1, fun q H2 s2 nq hq => ?_⟩
    have s12 := s1.trans s2
    have h12 := s12 _ _ h1
    have g12 := s12 _ _ g1
    walk_at "go"
    refine ⟨bp, cs, ss, rs, rfl, hBb.same s12, fun H3 s3 => ?_⟩
    have hq3 := s3 _ _ hq
    walk_at "go"
    refine ⟨q, ws, R, cs.length, rfl, hq3, hO, hn1, hn6, fun y hy hf => leaves_pos hO.len (fun a ha => (hO.val a ha).1) hu0 hy hf, hR, fun pc H4 l s4 npc hRD hnd hlf hlp hlv => ?_⟩
    walk_at "go"
    obtain ⟨kvs, hk1, hk2⟩ := id hRD
    refine ⟨pc, kvs, rfl, .inl hk1, fun q5 nq5 => ?_⟩
    have ek := rd_keys hk2
    rw [ek]
    walk_at "go"
    refine w_sortedR (l := l.map (·.1)) (.inl (.inl upd_same)) (by rw [List.length_map]; omega) fun l' q6 lp ls nq6 => ?_
    have hl6 : SqL K (upd (upd H4 q5 (.lst (rowL (l.map (·.1))))) q6 (.lst (l'.map fun r => .str (S r)))) q6 (l'.map fun r => .str (S r)) := .inl (.inl upd_same)
    walk_at "go"
    have s46 := (same_new (o := .lst (rowL (l.map (·.1)))) nq5).trans (same_new (o := .lst (l'.map fun r => .str (S r))) nq6)
    have hRD6 := hRD.same s46
    have hq66 : upd (upd H4 q5 (.lst (rowL (l.map (·.1))))) q6 (.lst (l'.map fun r => .str (S r))) q6 = some (.lst (rowL l')) := upd_same
    generalize upd (upd H4 q5 (.lst (rowL (l.map (·.1))))) q6 (.lst (l'.map fun r => .str (S r))) = H6 at s46 hRD6 hl6 hq66 ⊢
    have hl'len : l'.length ≤ 20 := by rw [lp.length_eq, List.length_map]; exact hlf
    have hw6 : Walk (Itl K q6) l'.length (fun H => SqL K H q6 (rowL l')) (fun i H v H' => H' = H ∧ ∃ x, l'[i]? = some x ∧ v = .str (S x)) := walk_listM
    have hl6' : H6 q6 = some (.lst (rowL l')) := hq66
    refine dc_relL l' (fun r => r) hw6 (by omega) full ((List.filter_sublist.map _).nodup (by rw [List.map_id']; exact lp.nodup_iff.mpr hnd)) (fun D r v H => ∃ p, v = .ref p ∧ p ≠ D ∧ Rt H p (valR l r)) (fun D a v H H' S h => let ⟨p, h1, h2, h3⟩ := h; ⟨p, h1, h2, S _ _ h2 h3⟩) (fun H' s => .inl (.inl (s _ _ hl6'))) ?_ ?_
    · rintro D i r v H7 H8 R0 R1 hi nD s7 hD ⟨rfl, r', hr', rfl⟩ k1 k2
      obtain rfl : r' = r := Option.some.inj (hr'.symm.trans hi)
      have hrm : r' ∈ l.map (·.1) := lp.mem_iff.mp (List.mem_of_getElem? hi)
      obtain ⟨kv7, p7, a1, a2, a3⟩ := (hRD6.same s7).look hrm
      walk_at "go"
      rw [lit_dot]
      refine w_notInS ?_
      have e : (!decide (46 ∈ (S r').cps.toList)) = full r' := by rw [S_list]; exact full_mem r'
      rw [e]
      walk_at "go"
      cases e : full r' with
      | false => walk_at "go"; exact k2 _ e (Same.refl _)
      | true =>
        walk_at "go"
        refine ⟨pc, _, rfl, .inl ⟨kv7, kR r', .inl a1, rfl, a2.symm⟩, ?_⟩
        obtain ⟨kvD, hD⟩ := hD
        exact k1 _ _ e (Same.refl _) ⟨p7, rfl, ne_of a3 hD (by intro z; cases z), a3⟩
    · intro D H7 kvs7 nD s7 hD hP
      have nD0 : H D = none := by
        cases e : H D with
        | none => rfl
        | some o => have := ((s12.trans s3).trans (s4.trans s46)) _ _ e; rw [nD] at this; cases this
      refine k D H7 ((l'.filter full).map fun r => (r, valR l r)) (((s12.trans s3).trans (s4.trans s46)).trans s7) nD0 ⟨kvs7, hD, paired_pre (Paired.mapP hP fun a kv z => ⟨z.1, let ⟨p, h1, _, h3⟩ := z.2; ⟨p, h1, h3⟩⟩)⟩ ?_
      have em : ((l'.filter full).map fun r => (r, valR l r)).map (·.1) = l'.filter full := by
        rw [List.map_map]
        exact List.map_id' _
      refine ⟨by rw [em]; exact ls.sublist List.filter_sublist, by rw [em]; exact (lp.nodup_iff.mpr hnd).sublist List.filter_sublist, fun f => ?_, fun a ha => ?_⟩
      · rw [em, List.mem_filter, lp.mem_iff]
        constructor
        · rintro ⟨z1, z2⟩
          obtain ⟨a, b1, b2, b3⟩ := val_mem z1
          refine ⟨by rw [← b2]; exact (hlp a b1).1, z2, ?_⟩
          rw [← hlv f z2, b3]
          have := (hlp a b1).2
          intro z; rw [z] at this; exact Rat.lt_irrefl this
        · rintro ⟨z1, z2, z3⟩
          refine ⟨?_, z2⟩
          rw [← hlv f z2] at z3
          by_cases hm : f ∈ l.map (·.1)
          · exact hm
          · exact absurd (by unfold valR; rw [look_none hm]; rfl) z3
      · obtain ⟨r, hr, rfl⟩ := List.mem_map.mp ha
        exact hlv r (List.mem_filter.mp hr).2
end
/-! ## M4 -/
section
set_option maxHeartbeats 2000000
open PySem PySem.Spec PyProof.Rows L2
/-! ### a book onto the cells that a row does not tell -/
def dotsP (x : Row) : List Nat := (List.range x.length).filter fun k => x[k]? == some 46
theorem dotsP_mem {x : Row} {i : Nat} : i ∈ dotsP x ↔ x[i]? = some 46 := by
  unfold dotsP
  rw [List.mem_filter, List.mem_range]
  constructor
  · intro h; simpa using h.2
  · intro h
    exact ⟨(List.getElem?_eq_some_iff.mp h).1, by simp [h]⟩
theorem dotsP_lt {x : Row} : ∀ i ∈ dotsP x, i < x.length := fun i hi => (List.getElem?_eq_some_iff.mp (dotsP_mem.mp hi)).1
theorem rest_cut {r x : Row} (h : r.length = x.length) : rest r x = cutR r (dotsP x) := by
  rw [← rest_range r x h]
  unfold cutR dotsP
  rw [h]
theorem ov_self : ∀ x : Row, ov x x = x
  | [] => rfl
  | a :: x => by
    simp only [ov, ov_self x]
    split <;> rfl
theorem abv_get {x q : Row} (h : ov x q = q) (hl : x.length = q.length) {i : Nat} (hi : i < x.length) (hn : i ∉ dotsP x) : q[i]? = x[i]? := by
  have h1 : (ov x q)[i]? = q[i]? := by rw [h]
  rw [ov_get] at h1
  have h2 : x[i]? = some x[i] := by simp [hi]
  have h3 : q[i]? = some (q[i]'(by omega)) := by simp [show i < q.length by omega]
  have h4 : x[i] ≠ 46 := fun z => hn (dotsP_mem.mpr (by rw [h2, z]))
  rw [h2, h3] at h1
  have h1 : some (if x[i] = 46 then q[i]'(by omega) else x[i]) = some (q[i]'(by omega)) := h1
  rw [if_neg h4] at h1
  rw [h2, h3, h1]
theorem abv_ext {x q r : Row} (hq : ov x q = q) (hr : ov x r = r) (lq : x.length = q.length) (lr : x.length = r.length) (h : cutR q (dotsP x) = cutR r (dotsP x)) : q = r := by
  apply List.ext_getElem?
  intro i
  by_cases hi : i < x.length
  · by_cases hm : i ∈ dotsP x
    · unfold cutR at h
      have h1 := List.map_inj_left.mp h i hm
      rw [List.getD_eq_getElem?_getD, List.getD_eq_getElem?_getD] at h1
      have h2 : q[i]? = some (q[i]'(by omega)) := by simp [show i < q.length by omega]
      have h3 : r[i]? = some (r[i]'(by omega)) := by simp [show i < r.length by omega]
      rw [h2, h3] at h1
      rw [h2, h3]
      exact congrArg some h1
    · rw [abv_get hq lq hi hm, abv_get hr lr hi hm]
  · rw [List.getElem?_eq_none (by omega), List.getElem?_eq_none (by omega)]
theorem abv_ov {x q : Row} (h : ov x q = q) (a : Row) : ov x (ov q a) = ov q a := by rw [← ov_assoc, h]
theorem abv_keep {x q a : Row} (hq : ov x q = q) (lq : x.length = q.length) (la : x.length = a.length) : ov q a = q ↔ ov (cutR q (dotsP x)) (cutR a (dotsP x)) = cutR q (dotsP x) := by
  rw [← cut_ov (n := x.length) lq.symm la.symm dotsP_lt]
  constructor
  · intro h; rw [h]
  · intro h
    exact abv_ext (abv_ov hq a) hq (by rw [ov_len]; omega) lq h
theorem full_iff (q : Row) : full q = true ↔ ∀ i : Nat, q[i]? ≠ some 46 := by
  rw [← full_mem]
  simp only [Bool.not_eq_true', decide_eq_false_iff_not]
  constructor
  · intro h i hi; exact h (List.mem_of_getElem? hi)
  · intro h hm
    obtain ⟨i, hi, e⟩ := List.getElem_of_mem hm
    exact h i (by rw [List.getElem?_eq_getElem hi, e])
theorem abv_full {x q : Row} (hq : ov x q = q) (lq : x.length = q.length) : full q = full (cutR q (dotsP x)) := by
  rw [Bool.eq_iff_iff, full_iff, full_iff]
  constructor
  · intro h j hj
    cases e : (dotsP x)[j]? with
    | none =>
      unfold cutR at hj
      rw [List.getElem?_map, e] at hj; cases hj
    | some i =>
      rw [cutR_get (fun i hi => by rw [← lq]; exact dotsP_lt i hi) e] at hj
      exact h i hj
  · intro h i hi
    have hlt : i < x.length := by have := (List.getElem?_eq_some_iff.mp hi).1; omega
    by_cases hm : i ∈ dotsP x
    · obtain ⟨j, hj, e⟩ := List.getElem_of_mem hm
      have e2 : (dotsP x)[j]? = some i := by rw [List.getElem?_eq_getElem hj, e]
      refine h j ?_
      rw [cutR_get (fun i hi => by rw [← lq]; exact dotsP_lt i hi) e2]
      exact hi
    · rw [abv_get hq lq hlt hm] at hi
      exact hm (dotsP_mem.mpr hi)
theorem wsum_map (φ : Row → Rat) (g : Row → Row) : ∀ l : Ws, wsum φ (l.map fun a => (g a.1, a.2)) = wsum (fun r => φ (g r)) l
  | [] => rfl
  | a :: l => by rw [List.map_cons, wsum_cons, wsum_cons, wsum_map φ g l]
theorem wsum_filter (φ : Row → Rat) (p : Row → Bool) : ∀ l : Ws, wsum φ (l.filter fun a => p a.1) = wsum (fun r => if p r = true then φ r else 0) l
  | [] => rfl
  | a :: l => by
    rw [List.filter_cons, wsum_cons, ← wsum_filter φ p l]
    cases e : p a.1 with
    | true => rw [if_pos rfl, if_pos rfl, wsum_cons]
    | false => rw [if_neg Bool.false_ne_true, if_neg Bool.false_ne_true]; grind
theorem wsum_mvs (φ : Row → Rat) (ws : Ws) (q : Row) : wsum φ (mvs ws q) = wsum (fun r => if ov q r = q then 0 else φ (ov q r)) ws := by
  unfold mvs
  rw [wsum_map, wsum_filter (fun r => φ (ov q r)) (fun r => !decide (ov q r = q))]
  refine congrArg (fun g => wsum g ws) ?_
  funext r
  by_cases e : ov q r = q
  · simp [e]
  · simp [e]
theorem leaves_wsum (ws : Ws) (q : Row) : (leaves ws q : Rat) = wsum (fun r => if ov q r = q then 0 else 1) ws := by
  have h := wsum_mvs (fun _ => 1) ws q
  rw [wsum_one] at h
  rw [← h]
  have e : ((mvs ws q).map (·.2)) = ((ws.filter fun a => !decide (ov q a.1 = q)).map (·.2)) := by
    unfold mvs
    rw [List.map_map]
    rfl
  rw [e]; rfl
theorem wsum_cg {φ ψ : Row → Rat} {l : Ws} (h : ∀ a ∈ l, φ a.1 = ψ a.1) : wsum φ l = wsum ψ l := wsum_congr h
theorem wsum_zero : ∀ {φ : Row → Rat} {l : Ws}, (∀ a ∈ l, φ a.1 = 0) → wsum φ l = 0
  | _, [], _ => rfl
  | φ, a :: l, h => by
    rw [wsum_cons, h a List.mem_cons_self, wsum_zero fun b hb => h b (List.mem_cons_of_mem _ hb)]
    grind
/-- the same chances in a book onto the cells that x does not tell -/
theorem hB_onto {ws ws' : Ws} {x f : Row} {g : Rat} (hg : g ≠ 0) (hl : ∀ a ∈ ws, a.1.length = x.length) (hl' : ∀ a ∈ ws', a.1.length = (dotsP x).length)
    (hw : ∀ φ, wsum φ (ws.map fun a => (cutR a.1 (dotsP x), a.2)) = g * wsum φ ws') (hf : ov x f = f) (lf : x.length = f.length) :
    ∀ (k : Nat) (q : Row), x.length = q.length → dots q ≤ k → ov x q = q → hB ws q f = hB ws' (cutR q (dotsP x)) (cutR f (dotsP x)) := by
  intro k
  induction k with
  | zero =>
    intro q lq hd hq
    have h1 : full q = true := (full_dots q).mpr (by omega)
    have h2 : full (cutR q (dotsP x)) = true := by rw [← abv_full hq lq]; exact h1
    rw [hB_full h1, hB_full h2]
    by_cases e : q = f
    · rw [if_pos e, if_pos (by rw [e])]
    · rw [if_neg e, if_neg fun z => e (abv_ext hq hf lq lf z)]
  | succ k ih =>
    intro q lq hd hq
    cases h1 : full q with
    | true =>
      have h2 : full (cutR q (dotsP x)) = true := by rw [← abv_full hq lq]; exact h1
      rw [hB_full h1, hB_full h2]
      by_cases e : q = f
      · rw [if_pos e, if_pos (by rw [e])]
      · rw [if_neg e, if_neg fun z => e (abv_ext hq hf lq lf z)]
    | false =>
      have h2 : full (cutR q (dotsP x)) = false := by rw [← abv_full hq lq]; exact h1
      rw [hB_eq hl lq.symm h1, hB_eq hl' (cutR_len _ _) h2, wsum_mvs, wsum_mvs, leaves_wsum, leaves_wsum]
      have e1 : wsum (fun r => if ov q r = q then (0 : Rat) else hB ws (ov q r) f) ws = g * wsum (fun r => if ov (cutR q (dotsP x)) r = cutR q (dotsP x) then (0 : Rat) else hB ws' (ov (cutR q (dotsP x)) r) (cutR f (dotsP x))) ws' := by
        rw [← hw, wsum_map _ fun r => cutR r (dotsP x)]
        refine wsum_cg fun a ha => ?_
        have la := hl a ha
        show (if ov q a.1 = q then (0 : Rat) else _) = if ov (cutR q (dotsP x)) (cutR a.1 (dotsP x)) = cutR q (dotsP x) then 0 else _
        by_cases e : ov q a.1 = q
        · rw [if_pos e, if_pos ((abv_keep hq lq la.symm).mp e)]
        · rw [if_neg e, if_neg fun z => e ((abv_keep hq lq la.symm).mpr z)]
          rw [← cut_ov (n := x.length) lq.symm la dotsP_lt]
          have hc := ov_count q a.1 (by omega)
          refine ih _ (by rw [ov_len]; omega) ?_ (abv_ov hq _)
          rcases hc.2 with z | z
          · exact absurd z e
          · unfold dots at hd ⊢; omega
      have e2 : wsum (fun r => if ov q r = q then (0 : Rat) else 1) ws = g * wsum (fun r => if ov (cutR q (dotsP x)) r = cutR q (dotsP x) then (0 : Rat) else 1) ws' := by
        rw [← hw, wsum_map _ fun r => cutR r (dotsP x)]
        refine wsum_cg fun a ha => ?_
        have la := hl a ha
        show (if ov q a.1 = q then (0 : Rat) else _) = if ov (cutR q (dotsP x)) (cutR a.1 (dotsP x)) = cutR q (dotsP x) then 0 else _
        by_cases e : ov q a.1 = q
        · rw [if_pos e, if_pos ((abv_keep hq lq la.symm).mp e)]
        · rw [if_neg e, if_neg fun z => e ((abv_keep hq lq la.symm).mpr z)]
      rw [e1, e2, Rat.div_def, Rat.div_def, Rat.inv_mul_rev]
      generalize wsum _ ws' = A
      generalize (wsum _ ws')⁻¹ = B
      have := Rat.mul_inv_cancel g hg
      grind
/-- no way to a row that does not lie above -/
theorem hB_none {ws : Ws} {n : Nat} (hl : ∀ a ∈ ws, a.1.length = n) {f : Row} (lf : f.length = n) : ∀ (k : Nat) (q : Row), q.length = n → dots q ≤ k → ov q f ≠ f → hB ws q f = 0 := by
  intro k
  induction k with
  | zero =>
    intro q lq hd h
    have h1 : full q = true := (full_dots q).mpr (by omega)
    rw [hB_full h1, if_neg fun e => h (by rw [e, ov_self])]
  | succ k ih =>
    intro q lq hd h
    cases h1 : full q with
    | true => rw [hB_full h1, if_neg fun e => h (by rw [e, ov_self])]
    | false =>
      rw [hB_eq hl lq h1, wsum_zero, Rat.div_def, Rat.zero_mul]
      intro a ha
      have h2 := mvs_dots hl lq a ha
      obtain ⟨b, hb, rfl⟩ := List.mem_map.mp ha
      refine ih _ h2.1 (by have := h2.2; omega) fun z => h ?_
      have h3 : ov q (ov (ov q b.1) f) = ov q f := by rw [z]
      rw [← ov_assoc, ← ov_assoc, ov_self, z] at h3
      exact h3.symm
theorem ov_blank {n : Nat} {y : Row} (h : y.length = n) : ov (blankR n) y = y := by
  unfold blankR
  rw [← h]; exact ov_blankL y
theorem blank_full {n : Nat} (h : 1 ≤ n) : full (blankR n) = false := by
  rw [← full_mem]
  unfold blankR
  have : 46 ∈ List.replicate n 46 := List.mem_replicate.mpr ⟨by omega, rfl⟩
  simp [this]
theorem leaves_blank {n : Nat} {ws : Ws} (hl : ∀ a ∈ ws, a.1.length = n) (nd : (ws.map (·.1)).Nodup) : leaves ws (blankR n) = leaveW n ws := by
  unfold leaves leaveW facesW
  have e : (ws.filter fun a => !decide (ov (blankR n) a.1 = blankR n)) = ws.filter fun a => !decide (a.1 = blankR n) := by
    apply List.filter_congr
    intro a ha
    rw [ov_blank (hl a ha)]
  rw [e]
  clear e hl
  induction ws with
  | nil => rfl
  | cons a l ih =>
    rw [List.map_cons] at nd
    obtain ⟨h1, h2⟩ := List.nodup_cons.mp nd
    have ih := ih h2
    rw [List.filter_cons, List.map_cons, List.sum_cons, look_cons]
    by_cases e : a.1 = blankR n
    · rw [if_pos e, if_neg (by simp [e])]
      have hn := look_none (l := l) (r := blankR n) (by rw [← e]; exact h1)
      rw [hn] at ih
      rw [ih]
      show (l.map (·.2)).sum - 0 = a.2 + (l.map (·.2)).sum - a.2
      omega
    · rw [if_neg e, if_pos (by simp [e]), List.map_cons, List.sum_cons, ih]
      have := look_sum (ws := l) (r := blankR n)
      omega
/-- the share by the newest deed -/
theorem hB_first {n : Nat} {ws : Ws} (hn : 1 ≤ n) (hl : ∀ a ∈ ws, a.1.length = n) (nd : (ws.map (·.1)).Nodup) (f : Row) :
    hB ws (blankR n) f = ((firstD n ws).map fun a => a.2 * hB ws a.1 f).sum := by
  have hb : (blankR n).length = n := by unfold blankR; simp
  rw [hB_eq hl hb (blank_full hn), leaves_blank hl nd, wsum_mvs]
  have e : wsum (fun r => if ov (blankR n) r = blankR n then (0 : Rat) else hB ws (ov (blankR n) r) f) ws = wsum (fun r => if r = blankR n then (0 : Rat) else hB ws r f) ws := by
    refine wsum_cg fun a ha => ?_
    show (if ov (blankR n) a.1 = blankR n then (0 : Rat) else _) = _
    rw [ov_blank (hl a ha)]
  rw [e]
  unfold firstD
  rw [List.map_map]
  generalize leaveW n ws = m
  clear hl e nd
  have h : ∀ l : Ws, wsum (fun r => if r = blankR n then (0 : Rat) else hB ws r f) l / (m : Rat) = ((l.filter fun a => !decide (a.1 = blankR n)).map ((fun a : Row × Rat => a.2 * hB ws a.1 f) ∘ fun a : Row × Nat => (a.1, mkRat (a.2 : Int) m))).sum := by
    intro l
    induction l with
    | nil => rw [wsum_nil, Rat.div_def, Rat.zero_mul]; rfl
    | cons a l ih =>
      rw [wsum_cons, List.filter_cons]
      by_cases z : a.1 = blankR n
      · rw [if_pos z, if_neg (by simp [z]), ← ih]
        congr 1
        grind
      · rw [if_neg z, if_pos (by simp [z]), List.map_cons, List.sum_cons, ← ih]
        show _ = mkRat (a.2 : Int) m * hB ws a.1 f + _
        rw [mk_div, Rat.div_def, Rat.div_def, Rat.div_def]
        grind
  exact h ws
theorem hB_nn {ws : Ws} {n : Nat} (hl : ∀ a ∈ ws, a.1.length = n) (f : Row) : ∀ (k : Nat) (q : Row), q.length = n → dots q ≤ k → 0 ≤ hB ws q f := by
  intro k
  induction k with
  | zero =>
    intro q lq hd
    have h1 : full q = true := (full_dots q).mpr (by omega)
    rw [hB_full h1]
    split <;> grind
  | succ k ih =>
    intro q lq hd
    cases h1 : full q with
    | true => rw [hB_full h1]; split <;> grind
    | false =>
      rw [hB_eq hl lq h1, Rat.div_def]
      have h2 : ∀ l : Ws, (∀ a ∈ l, 0 ≤ hB ws a.1 f) → 0 ≤ wsum (fun r => hB ws r f) l := by
        intro l
        induction l with
        | nil => intro _; rw [wsum_nil]; exact Rat.le_refl
        | cons a l ih =>
          intro h
          rw [wsum_cons]
          have h3 := ih fun b hb => h b (List.mem_cons_of_mem _ hb)
          have h4 := h a List.mem_cons_self
          have h5 : (0 : Rat) ≤ (a.2 : Rat) := by exact_mod_cast Nat.zero_le _
          have h6 := Rat.mul_nonneg h5 h4
          grind
      have h3 := h2 (mvs ws q) fun a ha => by
        have := mvs_dots hl lq a ha
        exact ih _ this.1 (by have := this.2; omega)
      have h4 := div_nn 1 (leaves ws q)
      rw [Rat.div_def] at h4
      have h5 : (0 : Rat) ≤ (leaves ws q : Rat)⁻¹ := by
        have e : (((1 : Nat) : Rat)) * (leaves ws q : Rat)⁻¹ = (leaves ws q : Rat)⁻¹ := by
          rw [show ((1 : Nat) : Rat) = 1 from rfl, Rat.one_mul]
        rw [← e]; exact h4
      exact Rat.mul_nonneg h3 h5
theorem hB_le1 {ws : Ws} {n : Nat} (hl : ∀ a ∈ ws, a.1.length = n) (hp : ∀ q : Row, q.length = n → full q = false → 0 < leaves ws q) (f : Row) : ∀ (k : Nat) (q : Row), q.length = n → dots q ≤ k → hB ws q f ≤ 1 := by
  intro k
  induction k with
  | zero =>
    intro q lq hd
    have h1 : full q = true := (full_dots q).mpr (by omega)
    rw [hB_full h1]
    split <;> grind
  | succ k ih =>
    intro q lq hd
    cases h1 : full q with
    | true => rw [hB_full h1]; split <;> grind
    | false =>
      have h0 := harm_hB hl hp f q lq h1
      have h0' := harm_one (n := n) (ws := ws) q lq h1
      have h2 : ∀ l : Ws, (∀ a ∈ l, hB ws a.1 f ≤ 1) → wsum (fun r => hB ws r f) l ≤ wsum (fun _ => 1) l := by
        intro l
        induction l with
        | nil => intro _; rw [wsum_nil, wsum_nil]; exact Rat.le_refl
        | cons a l ih =>
          intro h
          rw [wsum_cons, wsum_cons]
          have h3 := ih fun b hb => h b (List.mem_cons_of_mem _ hb)
          have h4 := h a List.mem_cons_self
          have h5 : (0 : Rat) ≤ (a.2 : Rat) := by exact_mod_cast Nat.zero_le _
          have h6 := Rat.mul_le_mul_of_nonneg_left h4 h5
          grind
      have h3 := h2 (mvs ws q) fun a ha => by
        have := mvs_dots hl lq a ha
        exact ih _ this.1 (by have := this.2; omega)
      have h4 : (0 : Rat) < (leaves ws q : Rat) := by exact_mod_cast hp q lq h1
      have h5 : (leaves ws q : Rat) * hB ws q f ≤ (leaves ws q : Rat) * 1 := by rw [h0, h0']; exact h3
      exact Rat.le_of_mul_le_mul_left h5 h4
/-! ### one denominator for all -/
/-- the product of what leaves the rows with at most k dots -/
def prodL (ws : Ws) (R : List Row) (k : Nat) : Nat := (R.map fun r => if full r = false ∧ dots r ≤ k then leaves ws r else 1).foldr (· * ·) 1
theorem prodL_pos {ws : Ws} {R : List Row} (h : ∀ r ∈ R, full r = false → 0 < leaves ws r) (k : Nat) : 0 < prodL ws R k := by
  unfold prodL
  induction R with
  | nil => exact Nat.one_pos
  | cons r R ih =>
    rw [List.map_cons, List.foldr_cons]
    refine Nat.mul_pos ?_ (ih fun x hx => h x (List.mem_cons_of_mem _ hx))
    split
    · rename_i e; exact h r List.mem_cons_self e.1
    · exact Nat.one_pos
theorem prodL_le {ws : Ws} {M : Nat} (hM : 1 ≤ M) (h : ∀ r, leaves ws r ≤ M) (k : Nat) : ∀ R : List Row, prodL ws R k ≤ M ^ R.length
  | [] => Nat.le_refl _
  | r :: R => by
    have ih := prodL_le hM h k R
    unfold prodL at ih ⊢
    rw [List.map_cons, List.foldr_cons, List.length_cons, Nat.pow_succ, Nat.mul_comm]
    refine Nat.mul_le_mul ih ?_
    split
    · exact h r
    · exact hM
theorem prodL_mono {ws : Ws} : ∀ {R : List Row} {k m : Nat}, k ≤ m → prodL ws R k ∣ prodL ws R m
  | [], _, _, _ => Nat.dvd_refl _
  | r :: R, k, m, h => by
    have ih := prodL_mono (ws := ws) (R := R) h
    unfold prodL at ih ⊢
    rw [List.map_cons, List.map_cons, List.foldr_cons, List.foldr_cons]
    refine Nat.mul_dvd_mul ?_ ih
    split
    · rename_i e; rw [if_pos ⟨e.1, Nat.le_trans e.2 h⟩]; exact Nat.dvd_refl _
    · exact Nat.one_dvd _
theorem prodL_step {ws : Ws} {q : Row} {k : Nat} (hq : full q = false) (hd : dots q = k + 1) : ∀ {R : List Row}, q ∈ R → prodL ws R k * leaves ws q ∣ prodL ws R (k + 1)
  | r :: R, hm => by
    have hmono := prodL_mono (ws := ws) (R := R) (Nat.le_succ k)
    unfold prodL at hmono ⊢
    rw [List.map_cons, List.map_cons, List.foldr_cons, List.foldr_cons]
    by_cases e : q = r
    · subst e
      rw [if_neg (fun z => by have := z.2; omega), if_pos ⟨hq, by omega⟩, Nat.one_mul, Nat.mul_comm]
      exact Nat.mul_dvd_mul (Nat.dvd_refl _) hmono
    · rcases List.mem_cons.mp hm with z | z
      · exact absurd z e
      · have ih := prodL_step hq hd z (ws := ws)
        unfold prodL at ih
        rw [Nat.mul_assoc]
        refine Nat.mul_dvd_mul ?_ ih
        split
        · rename_i e; rw [if_pos ⟨e.1, by omega⟩]; exact Nat.dvd_refl _
        · exact Nat.one_dvd _
theorem Dv.dvd {a : Rat} {N M : Nat} (h : Dv a N) (k : N ∣ M) : Dv a M := by
  obtain ⟨c, rfl⟩ := k
  exact h.more c
theorem Dv.int (i : Int) (N : Nat) : Dv (i : Rat) N := ⟨i * N, by rw [Rat.intCast_mul, Rat.intCast_natCast]⟩
theorem Dv.mulN {a : Rat} {N : Nat} (h : Dv a N) (m : Nat) : Dv ((m : Rat) * a) N := by
  obtain ⟨i, hi⟩ := h
  exact ⟨m * i, by rw [Rat.intCast_mul, ← hi, Rat.intCast_natCast, Rat.mul_assoc]⟩
theorem wsum_dv {φ : Row → Rat} {N : Nat} : ∀ {l : Ws}, (∀ a ∈ l, Dv (φ a.1) N) → Dv (wsum φ l) N
  | [], _ => Dv.zero
  | a :: l, h => by
    rw [wsum_cons]
    exact ((h a List.mem_cons_self).mulN a.2).add (wsum_dv fun b hb => h b (List.mem_cons_of_mem _ hb))
theorem hB_dv {ws : Ws} {n : Nat} {R : List Row} (hl : ∀ a ∈ ws, a.1.length = n) (hp : ∀ q : Row, q.length = n → full q = false → 0 < leaves ws q) (hc : ∀ q ∈ R, ∀ a ∈ ws, ov q a.1 ∈ R) (f : Row) :
    ∀ (k : Nat) (q : Row), q.length = n → dots q ≤ k → q ∈ R → Dv (hB ws q f) (prodL ws R k) := by
  intro k
  have h01 : ∀ (q : Row) (N : Nat), full q = true → Dv (hB ws q f) N := fun q N h => by
    rw [hB_full h]
    split
    · exact Dv.int 1 N
    · exact Dv.zero
  induction k with
  | zero =>
    intro q lq hd hm
    exact h01 q _ ((full_dots q).mpr (by omega))
  | succ k ih =>
    intro q lq hd hm
    cases h1 : full q with
    | true => exact h01 q _ h1
    | false =>
      by_cases hk : dots q ≤ k
      · exact (ih q lq hk hm).dvd (prodL_mono (Nat.le_succ k))
      · have hlv := hp q lq h1
        have h2 : Dv (wsum (fun r => hB ws r f) (mvs ws q)) (prodL ws R k) := wsum_dv fun a ha => by
          have h3 := mvs_dots hl lq a ha
          obtain ⟨b, hb, rfl⟩ := List.mem_map.mp ha
          exact ih _ h3.1 (by have := h3.2; omega) (hc q hm b (List.mem_filter.mp hb).1)
        rw [hB_eq hl lq h1]
        have h4 := (h2.part 1 hlv).dvd (prodL_step h1 (by omega) hm)
        have e : wsum (fun r => hB ws r f) (mvs ws q) * (((1 : Nat) : Rat) / (leaves ws q : Rat)) = wsum (fun r => hB ws r f) (mvs ws q) / (leaves ws q : Rat) := by
          rw [Rat.div_def, Rat.div_def, show ((1 : Nat) : Rat) = 1 from rfl, Rat.one_mul]
        rw [← e]; exact h4
/-! ### lowest weights -/
theorem wsum_perm {φ : Row → Rat} {l m : Ws} (p : l.Perm m) : wsum φ l = wsum φ m := by
  induction p with
  | nil => rfl
  | cons a _ ih => rw [wsum_cons, wsum_cons, ih]
  | swap a b l => rw [wsum_cons, wsum_cons, wsum_cons, wsum_cons]; grind
  | trans _ _ h1 h2 => rw [h1, h2]
theorem look_self (ws : Ws) (nd : (ws.map (·.1)).Nodup) : (ws.map (·.1)).map (fun r => (r, (lookA ws r).getD 0)) = ws := by
  rw [List.map_map]
  conv => rhs; rw [← List.map_id ws]
  apply List.map_congr_left
  intro a ha
  show (a.1, (lookA ws a.1).getD 0) = a
  rw [look_mem nd ha]
  rfl
theorem lowOf_wsum {l : List Row} {ws : Ws} (p : l.Perm (ws.map (·.1))) (nd : (ws.map (·.1)).Nodup) (φ : Row → Rat) : wsum φ ws = (gcdW ws : Rat) * wsum φ (lowOf l ws) := by
  have e : wsum φ ws = wsum φ (l.map fun r => (r, (lookA ws r).getD 0)) := by
    conv => lhs; rw [← look_self ws nd]
    exact wsum_perm (p.map _).symm
  rw [e]
  unfold lowOf
  have hd : ∀ r, gcdW ws ∣ (lookA ws r).getD 0 := fun r => by
    unfold lookA
    cases e : ws.find? (fun a => decide (a.1 = r)) with
    | none => exact Nat.dvd_zero _
    | some a => exact gcdW_dvd (List.mem_of_find?_eq_some e)
  clear p e
  induction l with
  | nil => rw [List.map_nil, List.map_nil, wsum_nil]; grind
  | cons r l ih =>
    rw [List.map_cons, List.map_cons, wsum_cons, wsum_cons, ih]
    show (((lookA ws r).getD 0 : Nat) : Rat) * φ r + _ = _ * ((((lookA ws r).getD 0 / gcdW ws : Nat) : Rat) * φ r + _)
    have h := Nat.mul_div_cancel' (hd r)
    have h2 : (((lookA ws r).getD 0 : Nat) : Rat) = (gcdW ws : Rat) * (((lookA ws r).getD 0 / gcdW ws : Nat) : Rat) := by
      rw [← Rat.natCast_mul, h]
    rw [h2]
    grind
theorem lowOf_keys (l : List Row) (ws : Ws) : (lowOf l ws).map (·.1) = l := by
  unfold lowOf
  rw [List.map_map]
  exact List.map_id' _
theorem lowOf_ok {n : Nat} {l : List Row} {ws : Ws} (p : l.Perm (ws.map (·.1))) (h : BOk n ws) : BOk n (lowOf l ws) := by
  have hk := lowOf_keys l ws
  have hlen : (lowOf l ws).length = ws.length := by
    have := congrArg List.length hk
    rw [List.length_map] at this
    rw [this, p.length_eq, List.length_map]
  have hm : ∀ a ∈ lowOf l ws, ∃ b ∈ ws, b.1 = a.1 ∧ a.2 = b.2 / gcdW ws := fun a ha => by
    obtain ⟨r, hr, rfl⟩ := List.mem_map.mp ha
    obtain ⟨b, hb, rfl⟩ := List.mem_map.mp (p.mem_iff.mp hr)
    exact ⟨b, hb, rfl, by show (lookA ws b.1).getD 0 / _ = _; rw [look_mem h.nd hb]; rfl⟩
  refine ⟨fun z => h.ne (List.length_eq_zero_iff.mp (by rw [← hlen, z]; rfl)), by rw [hlen]; exact h.few, by rw [hk]; exact p.nodup_iff.mpr h.nd, fun a ha => ?_, fun a ha => ?_⟩
  · obtain ⟨b, hb, e, _⟩ := hm a ha
    rw [← e]; exact h.len b hb
  · obtain ⟨b, hb, _, e⟩ := hm a ha
    have hv := h.val b hb
    have hd := gcdW_dvd hb
    have hg := gcdW_pos h.ne fun a ha => h.val a ha
    rw [e]
    refine ⟨?_, ?_⟩
    · exact Nat.div_pos (Nat.le_of_dvd (by omega) hd) hg.1
    · exact Nat.lt_of_le_of_lt (Nat.div_le_self _ _) hv.2
theorem cut_self (x : Row) : cutR x (dotsP x) = blankR (dotsP x).length := by
  unfold cutR blankR
  rw [List.eq_replicate_iff]
  refine ⟨by rw [List.length_map], fun b hb => ?_⟩
  obtain ⟨i, hi, rfl⟩ := List.mem_map.mp hb
  rw [List.getD_eq_getElem?_getD, dotsP_mem.mp hi]
  rfl
theorem ontoW_BOk {n : Nat} {ws : Ws} (h : WOk n ws) (ps : List Nat) : BOk ps.length (ontoW ws ps) := by
  obtain ⟨o1, o2, o3, o4, o5⟩ := ontoW_ok h ps
  exact ⟨o1, o2, o3, o4, o5⟩
theorem hB_rest {ws : Ws} {x f : Row} {l : List Row} (hW : WOk x.length ws) (p : l.Perm ((ontoW ws (dotsP x)).map (·.1))) (lf : x.length = f.length) (hf : ov x f = f) :
    hB ws x f = hB (lowOf l (ontoW ws (dotsP x))) (blankR (dotsP x).length) (rest f x) := by
  have hO := ontoW_BOk hW (dotsP x)
  have hO' := lowOf_ok p hO
  have hg : ((gcdW (ontoW ws (dotsP x)) : Nat) : Rat) ≠ 0 := by
    have h1 := (gcdW_pos hO.ne fun a ha => hO.val a ha).1
    intro z
    have : gcdW (ontoW ws (dotsP x)) = 0 := by exact_mod_cast z
    omega
  have h := hB_onto (ws := ws) (ws' := lowOf l (ontoW ws (dotsP x))) (x := x) (f := f) hg hW.len (fun a ha => hO'.len a ha) (fun φ => by
    rw [← lowOf_wsum p hO.nd φ]
    unfold ontoW
    exact ((tally_facts _).2.2 φ).symm) hf lf (dots x) x rfl (Nat.le_refl _) (ov_self x)
  rw [h, cut_self, rest_cut lf.symm]
theorem dotsP_nil {x : Row} : dotsP x = [] ↔ full x = true := by
  rw [full_iff]
  constructor
  · intro h i hi
    have := dotsP_mem.mpr hi
    rw [h] at this; cases this
  · intro h
    rw [List.eq_nil_iff_forall_not_mem]
    intro i hi
    exact h i (dotsP_mem.mp hi)
theorem full_ov {x f : Row} (hx : full x = true) (l : x.length = f.length) : ov x f = x := by
  apply List.ext_getElem?
  intro i
  rw [ov_get]
  cases e : x[i]? with
  | none => rfl
  | some a =>
    have hi := (List.getElem?_eq_some_iff.mp e).1
    have h2 : f[i]? = some (f[i]'(by omega)) := by simp [show i < f.length by omega]
    rw [h2]
    have ha : a ≠ 46 := fun z => (full_iff x).mp hx i (by rw [e, z])
    show some (if a = 46 then _ else a) = _
    rw [if_neg ha]
theorem hB_rest0 {ws : Ws} {x f : Row} (hx : full x = true) (l : x.length = f.length) (hf : ov x f = f) : hB ws x f = 1 := by
  rw [hB_full hx, if_pos]
  rw [← hf, full_ov hx l]
theorem cut_Clo {ws : Ws} {x : Row} {l R : List Row} (hl : ∀ a ∈ ws, a.1.length = x.length) (hR : ∀ r ∈ R, r.length = x.length) (p : l.Perm ((ontoW ws (dotsP x)).map (·.1))) (few : R.length ≤ 20) (bl : blankR x.length ∈ R) (cl : ∀ q ∈ R, ∀ a ∈ ws, ov q a.1 ∈ R) :
    (R.map fun r => cutR r (dotsP x)).length ≤ 20 ∧ blankR (dotsP x).length ∈ R.map (fun r => cutR r (dotsP x)) ∧ ∀ q ∈ R.map (fun r => cutR r (dotsP x)), ∀ a ∈ lowOf l (ontoW ws (dotsP x)), ov q a.1 ∈ R.map fun r => cutR r (dotsP x) := by
  refine ⟨by rw [List.length_map]; exact few, List.mem_map.mpr ⟨_, bl, cut_blank _ dotsP_lt⟩, fun q hq a ha => ?_⟩
  obtain ⟨r, hr, rfl⟩ := List.mem_map.mp hq
  have ha1 : a.1 ∈ l := by rw [← lowOf_keys l (ontoW ws (dotsP x))]; exact List.mem_map.mpr ⟨a, ha, rfl⟩
  have ha2 := p.mem_iff.mp ha1
  have ha3 := ((tally_facts _).2.1 a.1).mp ha2
  obtain ⟨b, hb, e⟩ := List.mem_map.mp ha3
  obtain ⟨c, hc, rfl⟩ := List.mem_map.mp hb
  have e : cutR c.1 (dotsP x) = a.1 := e
  rw [← e, ← cut_ov (n := x.length) (hR r hr) (hl c hc) dotsP_lt]
  exact List.mem_map.mpr ⟨_, cl r hr c hc, rfl⟩
/-! ### a sum of parts, as it grows -/
def parts (n : Nat) (ws : Ws) (f : Row) (l : Rs) : Rat := (l.map fun a => a.2 * hB ws a.1 f).sum
theorem parts_app (n : Nat) (ws : Ws) (f : Row) : ∀ l m : Rs, parts n ws f (l ++ m) = parts n ws f l + parts n ws f m
  | [], m => by unfold parts; rw [List.nil_append, List.map_nil, List.sum_nil]; grind
  | a :: l, m => by
    have ih := parts_app n ws f l m
    unfold parts at ih ⊢
    rw [List.cons_append, List.map_cons, List.map_cons, List.sum_cons, List.sum_cons, ih]; grind
theorem parts_one (n : Nat) (ws : Ws) (f : Row) (a : Row × Rat) : parts n ws f [a] = a.2 * hB ws a.1 f := by
  unfold parts
  rw [List.map_cons, List.map_nil, List.sum_cons, List.sum_nil]; grind
theorem parts_nn {n : Nat} {ws : Ws} (hl : ∀ a ∈ ws, a.1.length = n) (f : Row) : ∀ {l : Rs}, (∀ a ∈ l, a.1.length = n ∧ 0 ≤ a.2) → 0 ≤ parts n ws f l
  | [], _ => by unfold parts; rw [List.map_nil, List.sum_nil]; exact Rat.le_refl
  | a :: l, h => by
    have ih := parts_nn hl f (l := l) fun b hb => h b (List.mem_cons_of_mem _ hb)
    have h1 := h a List.mem_cons_self
    have h2 := Rat.mul_nonneg h1.2 (hB_nn hl f _ a.1 h1.1 (Nat.le_refl _))
    unfold parts at ih ⊢
    rw [List.map_cons, List.sum_cons]
    grind
theorem parts_dv {n : Nat} {ws : Ws} {f : Row} {M : Nat} : ∀ {l : Rs}, (∀ a ∈ l, Dv (a.2 * hB ws a.1 f) M) → Dv (parts n ws f l) M
  | [], _ => Dv.zero
  | a :: l, h => by
    have ih := parts_dv (n := n) (l := l) fun b hb => h b (List.mem_cons_of_mem _ hb)
    unfold parts at ih ⊢
    rw [List.map_cons, List.sum_cons]
    exact (h a List.mem_cons_self).add ih
theorem firstD_get {n : Nat} {ws : Ws} {a : Row × Rat} (h : a ∈ firstD n ws) : ∃ b ∈ ws, b.1 = a.1 ∧ b.1 ≠ blankR n ∧ a.2 = mkRat (b.2 : Int) (leaveW n ws) := by
  obtain ⟨b, hb, rfl⟩ := List.mem_map.mp h
  obtain ⟨h1, h2⟩ := List.mem_filter.mp hb
  exact ⟨b, h1, rfl, by simpa using h2, rfl⟩
/-- the parts so far: those of deeds that f lies above -/
def accR (n : Nat) (ws : Ws) (f : Row) (i : Nat) : Rat := parts n ws f (((firstD n ws).take i).filter fun a => decide (ov a.1 f = f))
structure BkOk (n : Nat) (ws : Ws) (R : List Row) : Prop where
  n1 : 1 ≤ n
  bok : BOk n ws
  lp : ∀ q : Row, q.length = n → full q = false → 0 < leaves ws q
  few : R.length ≤ 20
  bl : blankR n ∈ R
  cl : ∀ q ∈ R, ∀ a ∈ ws, ov q a.1 ∈ R
  sub : ∀ a ∈ ws, a.1 ∈ R
  rl : ∀ r ∈ R, r.length = n
theorem parts_filter {n : Nat} {ws : Ws} (hl : ∀ a ∈ ws, a.1.length = n) {f : Row} (lf : f.length = n) : ∀ {l : Rs}, (∀ a ∈ l, a.1.length = n) → parts n ws f (l.filter fun a => decide (ov a.1 f = f)) = parts n ws f l
  | [], _ => rfl
  | a :: l, h => by
    have ih := parts_filter hl lf (l := l) fun b hb => h b (List.mem_cons_of_mem _ hb)
    rw [List.filter_cons]
    by_cases e : ov a.1 f = f
    · rw [if_pos (decide_eq_true e)]
      unfold parts at ih ⊢
      rw [List.map_cons, List.map_cons, List.sum_cons, List.sum_cons, ih]
    · rw [if_neg (by simp [e]), ih]
      unfold parts
      rw [List.map_cons, List.sum_cons, hB_none hl lf _ a.1 (h a List.mem_cons_self) (Nat.le_refl _) e]
      grind
theorem BkOk.prod {n : Nat} {ws : Ws} {R : List Row} (h : BkOk n ws R) (k : Nat) : 0 < prodL ws R k ∧ (prodL ws R k).log2 < 600 := by
  have h1 := prodL_pos (ws := ws) (R := R) (fun r hr hf => h.lp r (h.rl r hr) hf) k
  refine ⟨h1, ?_⟩
  have h2 := prodL_le (ws := ws) (M := 40000000) (by decide) (fun r => by have := leaves_le ws r; have := h.bok.faces; omega) k R
  exact pow_log h1 h2 (by have := h.few; omega)
theorem BkOk.hb {n : Nat} {ws : Ws} {R : List Row} (h : BkOk n ws R) {q : Row} (hq : q ∈ R) (f : Row) : 0 ≤ hB ws q f ∧ hB ws q f ≤ 1 ∧ Dv (hB ws q f) (prodL ws R n) := by
  have hl := h.rl q hq
  have hd : dots q ≤ n := by unfold dots; rw [← hl]; exact List.count_le_length
  exact ⟨hB_nn h.bok.len f _ q hl (Nat.le_refl _), hB_le1 h.bok.len h.lp f _ q hl (Nat.le_refl _), hB_dv h.bok.len h.lp h.cl f n q hl hd hq⟩
theorem dv_log {a : Rat} {N k : Nat} (h0 : 0 ≤ a) (h1 : a ≤ 1) (hN : 0 < N) (hk : N.log2 < k) (h : Dv a N) : a.den.log2 < k ∧ a.num.natAbs.log2 < k := by
  have e1 := h.den hN
  have e2 := num_le h0 h1
  have e3 := log2_mono e1
  have e4 := log2_mono e2
  omega
theorem BkOk.first {n : Nat} {ws : Ws} {R : List Row} (h : BkOk n ws R) {a : Row × Rat} (ha : a ∈ firstD n ws) : a.1 ∈ R ∧ a.1.length = n ∧ a.1 ≠ blankR n ∧ 0 ≤ a.2 ∧ a.2 ≤ 1 ∧ (∃ w : Nat, a.2 = (w : Rat) / (leaveW n ws : Rat)) ∧ a.2.den.log2 < 30 ∧ a.2.num.natAbs.log2 < 30 := by
  obtain ⟨b, hb, e1, e2, e3⟩ := firstD_get ha
  have hbl : (blankR n).length = n := by unfold blankR; simp
  have hlv : 0 < leaveW n ws := by rw [← leaves_blank h.bok.len h.bok.nd]; exact h.lp _ hbl (blank_full h.n1)
  have e4 := mk_div b.2 (leaveW n ws)
  have hle : b.2 ≤ leaveW n ws := by
    rw [← leaves_blank h.bok.len h.bok.nd]
    unfold leaves
    have hm : b ∈ ws.filter fun a => !decide (ov (blankR n) a.1 = blankR n) := List.mem_filter.mpr ⟨hb, by rw [ov_blank (h.bok.len b hb)]; simp [e2]⟩
    have : ∀ (l : Ws), b ∈ l → b.2 ≤ (l.map (·.2)).sum := by
      intro l hl
      induction l with
      | nil => cases hl
      | cons c l ih =>
        rw [List.map_cons, List.sum_cons]
        rcases List.mem_cons.mp hl with z | z
        · rw [← z]; omega
        · have := ih z; omega
    exact this _ hm
  have h0 : 0 ≤ a.2 := by rw [e3, e4]; exact div_nn _ _
  have hl2 : (0 : Rat) < (leaveW n ws : Rat) := by exact_mod_cast hlv
  have h1 : a.2 ≤ 1 := by
    rw [e3, e4]
    have h5 : (leaveW n ws : Rat) * ((b.2 : Rat) / (leaveW n ws : Rat)) ≤ (leaveW n ws : Rat) * 1 := by
      rw [Rat.mul_comm, Rat.div_mul_cancel (by grind), Rat.mul_one]
      exact_mod_cast hle
    exact Rat.le_of_mul_le_mul_left h5 hl2
  have hdv : Dv a.2 (leaveW n ws) := by
    rw [e3, e4]
    refine ⟨b.2, ?_⟩
    rw [Rat.div_mul_cancel (by grind), Rat.intCast_natCast]
  have hlog : (leaveW n ws).log2 < 30 := by
    have h2 : leaveW n ws ≤ 40000000 := by
      have := h.bok.faces
      unfold leaveW
      omega
    have h3 := log2_mono h2
    have h4 : (40000000 : Nat).log2 < 30 := by decide +kernel
    omega
  have := dv_log h0 h1 hlv hlog hdv
  exact ⟨by rw [← e1]; exact h.sub b hb, by rw [← e1]; exact h.bok.len b hb, by rw [← e1]; exact e2, h0, h1, ⟨b.2, by rw [e3, e4]⟩, this.1, this.2⟩
theorem accR_zero (n : Nat) (ws : Ws) (f : Row) : accR n ws f 0 = 0 := rfl
theorem accR_step {n : Nat} {ws : Ws} {f : Row} {i : Nat} {a : Row × Rat} (h : (firstD n ws)[i]? = some a) : accR n ws f (i + 1) = if ov a.1 f = f then accR n ws f i + a.2 * hB ws a.1 f else accR n ws f i := by
  unfold accR
  rw [List.take_succ, h, List.filter_append, parts_app]
  by_cases e : ov a.1 f = f
  · rw [if_pos e]
    simp only [Option.toList_some, List.filter_cons, List.filter_nil]
    rw [if_pos (decide_eq_true e), parts_one]
  · rw [if_neg e]
    simp only [Option.toList_some, List.filter_cons, List.filter_nil]
    rw [if_neg (by simp [e])]
    show _ + (0 : Rat) = _
    grind
theorem accR_last {n : Nat} {ws : Ws} {R : List Row} (h : BkOk n ws R) {f : Row} (lf : f.length = n) : accR n ws f (firstD n ws).length = hB ws (blankR n) f := by
  unfold accR
  rw [List.take_length, parts_filter h.bok.len lf fun a ha => (h.first ha).2.1, hB_first h.n1 h.bok.len h.bok.nd]
  rfl
theorem accR_ok {n : Nat} {ws : Ws} {R : List Row} (h : BkOk n ws R) {f : Row} (lf : f.length = n) (i : Nat) : 0 ≤ accR n ws f i ∧ accR n ws f i ≤ 1 ∧ (accR n ws f i).den.log2 < 800 ∧ (accR n ws f i).num.natAbs.log2 < 800 := by
  have hbl : (blankR n).length = n := by unfold blankR; simp
  have hlv : 0 < leaveW n ws := by rw [← leaves_blank h.bok.len h.bok.nd]; exact h.lp _ hbl (blank_full h.n1)
  have hnn : ∀ l : Rs, (∀ a ∈ l, a ∈ firstD n ws) → 0 ≤ parts n ws f l := fun l hl => parts_nn h.bok.len f fun a ha => ⟨(h.first (hl a ha)).2.1, (h.first (hl a ha)).2.2.2.1⟩
  have hsub : ∀ a ∈ (((firstD n ws).take i).filter fun a => decide (ov a.1 f = f)), a ∈ firstD n ws := fun a ha => List.mem_of_mem_take (List.mem_filter.mp ha).1
  have h0 : 0 ≤ accR n ws f i := hnn _ hsub
  have h1 : accR n ws f i ≤ 1 := by
    have e1 : accR n ws f i = parts n ws f ((firstD n ws).take i) := parts_filter h.bok.len lf fun a ha => (h.first (List.mem_of_mem_take ha)).2.1
    have e2 := parts_app n ws f ((firstD n ws).take i) ((firstD n ws).drop i)
    rw [List.take_append_drop] at e2
    have e3 := hnn ((firstD n ws).drop i) fun a ha => List.mem_of_mem_drop ha
    have e4 : parts n ws f (firstD n ws) = hB ws (blankR n) f := (hB_first h.n1 h.bok.len h.bok.nd f).symm
    have e5 := (h.hb h.bl f).2.1
    rw [e1]
    grind
  obtain ⟨p1, p2⟩ := h.prod n
  have hdv : Dv (accR n ws f i) (prodL ws R n * leaveW n ws) := parts_dv fun a ha => by
    obtain ⟨k1, _, _, _, _, ⟨w, k2⟩, _⟩ := h.first (hsub a ha)
    have := (h.hb k1 f).2.2.part w hlv
    rw [k2, Rat.mul_comm]; exact this
  have hlog : (prodL ws R n * leaveW n ws).log2 < 800 := by
    have h2 := log2_mulle (prodL ws R n) (leaveW n ws) p1 hlv
    have h3 : (leaveW n ws) ≤ 40000000 := by
      have := h.bok.faces
      unfold leaveW
      omega
    have h4 := log2_mono h3
    have h5 : (40000000 : Nat).log2 < 30 := by decide +kernel
    omega
  have := dv_log h0 h1 (Nat.mul_pos p1 hlv) hlog hdv
  exact ⟨h0, h1, this.1, this.2⟩
end
/-! ## G12 -/
section
set_option maxHeartbeats 2000000
open PySem PySem.Spec PyProof.Rows L2
theorem clo_nil {cells : List (Str × Addr)} : ∀ {names : List (Str × NameKind)}, (∀ y ∈ names, y.2 ≠ .free) → cloFrom cells names [] = []
  | [], _ => rfl
  | (n, k) :: r, h => by
    have hk : k ≠ .free := h (n, k) List.mem_cons_self
    unfold cloFrom
    rw [if_neg (by rw [beq_iff_eq]; exact hk)]
    exact clo_nil fun y hy => h y (List.mem_cons_of_mem _ hy)
/-- sorted(rows, key=lambda row: (told, row)) -/
def tSortLam (T : List (Addr × Str)) (te : TE) : TE := fun σ H Q => tCons te tNil σ H fun vs H1 => LamX.Tabs T H1 ∧ ∃ (a : Addr) (rs : List Row), vs = [.ref a] ∧ H1 a = some (.lst (rowL rs)) ∧ rs.length ≤ 1000 ∧ (∀ r ∈ rs, r.length ≤ 1000) ∧
  ∀ (p : Addr) (H' : Hp) (l : List Row), LamX.ExtN H1 H' → LamX.Tabs T H' → l.Perm rs → (l.Pairwise fun a b => told a ≤ told b) → H' p = some (.lst (rowL l)) → Fr0 H1 p → Q (.ref p) H'
theorem pe_sortLam {X : Cx} {T : List (Addr × Str)} {c P : Addr} {k : Nat} {v : Str} {p pos lpos kp : Pos} {e : Expr} {te tb : TE} {params : Arguments} {body : Expr} {scope : Scope} {N : List Str} (hg : Gl X "sorted") (hm : X.mg "sorted" = none) (he : PE X e te)
    (hs : X.stack = X.env :: X.outer) (hf : X.env.frame = some X.env.locals) (TB : LamX.TabB X.base X.mg c P) (hcode : X.env.code = .ref c) (hmT : (P, X.env.qual ++ "<lambda>") ∈ T) (hu : ∀ p ∈ T, p.1 = P → p.2 = X.env.qual ++ "<lambda>")
    (hr : Room (k + 3) X.A) (SC : FnScope N [v] scope) (hfree : ∀ y ∈ scope.names, y.2 ≠ .free) (hdef : defaultsOf params X.env = ([], []))
    (hbind : ∀ (q : Str) (pm cv ctv : Value) (u : Value), bindArgs (PySem.W.kla_fn "<lambda>" q params body scope [] pm cv ctv) ⟨[u], []⟩ = pure [(v, u)])
    (hbody : ∀ (q : Str) (f : Addr) (cv : Value) (A : Around) (outer : List Env) (s : Shared) (H : Hp), Room k (A.deeper (envOfC q scope s.heap.objs.size f cv)) → PE (cxOf C8.CX0 X.prog X.w X.K X.mg X.base N q scope f cv A outer s H C8.E0) body tb)
    (htb : ∀ (r : Row) (H : Hp) (Q : VK), r.length ≤ 1000 → (∀ t H', Same H H' → H' t = some (.tup [.int (told r : Nat), .str (S r)]) → Q (.ref t) H') → tb (L2.start N [.str (SX.S r)]) H Q)
    (h0 : starEach [e] X.env = (false, eval e X.env) :: starEach [] X.env := by rfl) (h1 : backTo pos (starEach [e] X.env) = (false, eval e X.env) :: backTo pos (starEach [] X.env) := by rfl) (h2 : (backTo pos (starEach [e] X.env)).any (·.1) = false := by rfl)
    (h3 : (backToKw pos (keywordEach [⟨some "key", .Lambda params body scope lpos, kp⟩] X.env)).all (·.1.isSome) = true := by rfl) (h4 : (backToKw pos (keywordEach [⟨some "key", .Lambda params body scope lpos, kp⟩] X.env)).any (·.1.isNone) = false := by rfl) (h5 : (backToKw pos (keywordEach [⟨some "key", .Lambda params body scope lpos, kp⟩] X.env)).filterMap (·.1) = [Str.ofString "key"] := by rfl) :
    PE X (.Call (.Name "sorted" p) [e] [⟨some "key", .Lambda params body scope lpos, kp⟩] pos) (tSortLam T te) := by
  refine ⟨fun pins s σ H Q I h => ?_⟩
  refine wpAny_Call_Name_kw (ld_blt I hg hm (by decide +kernel : bootBuiltins "sorted" = some (.builtin "sorted")) ?_ (by decide) (by decide))
  refine PyProof.Rows.callWith_kw (thn ((pa_cons he pa_nil h0).run pos pins s σ H _ I h) fun us s1 hh => ?_) h1 h2 h3 h4
  obtain ⟨vs, H1, I1, r1, hT, a, rs, rfl, ha, hl, hlr, q⟩ := hh
  obtain rfl := Vals.ref1 r1
  rw [h5]
  show wpAny _ _ (evalAll ((do let v ← eval (.Lambda params body scope lpos) X.env; standAt pos; pure v) :: [])) _ _ s1
  refine wpAny_evalAll_cons (wpAny_bind (LamX.lam_make2 I1 TB hcode hmT hu hT hdef (fun y hy e => absurd e (hfree y hy)) fun f c' pm ctv H2 s' I2 eN T2 hof hfn hfr hco => wpAny_bind (wpAny_standAt (wpAny_pure ?_))))
  refine wpAny_evalAll_nil ?_
  rw [clo_nil hfree] at hof
  have ha2 : H2 a = some (.lst (rowL rs)) := eN _ _ ha (by intro ps z; cases z)
  have hfl : f ≠ X.env.locals := fun z => hfr (by rw [hs]; exact List.mem_filterMap.mpr ⟨X.env, List.mem_cons_self, by rw [hf, z]⟩)
  have hff : f ∉ X.fs := fun z => hfr (by
    rw [hs]
    obtain ⟨e, h1, h2⟩ := List.mem_filterMap.mp z
    exact List.mem_filterMap.mpr ⟨e, List.mem_cons_of_mem _ h1, h2⟩)
  have I3 := pins_cons (p := (f, PySem.W.kla_obj "<lambda>" (X.env.qual ++ "<lambda>") params body scope [] pm c' ctv)) I2 ⟨hof, hfn, hfl, hff, fun v z => by cases z⟩
  have hr2 : Room (k + 1) X.A.in1.in1 := hr.in1.in1
  refine sortk (fun r : Row => V.str (SX.S r)) keySz I3 ha2 hl (PySem.W.AllAlike.of fun _ _ => by simp [PySem.W.alike, PySem.W.alikeAll, keySz]) (PySem.W.Sortable.tuples fun _ => ⟨_, _, rfl⟩) (fun x _ => ?_) (fun ps' H' s'' x u hx hpp I' sm hu => ?_) (fun H' s'' p sm np I' => ?_)
  · have := hr.un
    have e : (keySz x).depth = 1 := by simp [keySz, PyData.depth, PyData.depthAll]
    omega
  · have hof' := (I'.pin (f, PySem.W.kla_obj "<lambda>" (X.env.qual ++ "<lambda>") params body scope [] pm c' ctv) (List.mem_append_right _ (hpp _ List.mem_cons_self))).1
    refine wpAny_mono (lam_run (vs := [.str (SX.S x)]) (ps := [v]) (Q := fun y H2 => Same H' H2 ∧ ∃ t, y = .ref t ∧ H2 t = some (.tup [.int (told x : Nat), .str (SX.S x)])) hof' (sm _ _ hco) SC hr2 I'.env0.in1.in1 (hbind _ _ _ _ u) I' (.cons hu .nil) rfl (fun A outer s H hrm => hbody _ _ _ A outer s H hrm) (htb x H' _ (hlr x hx) fun t H' sm2 ht => ⟨sm2, t, rfl, ht⟩)) (fun r s2 hq => ?_) fun _ _ e => e
    obtain ⟨y, H3, I4, ry, sm2, t, rfl, ht⟩ := hq
    exact ⟨_, H3, I4, sm2, ry, keyTup ht⟩
  · obtain ⟨k1, k2⟩ := keySz_sort rs
    have n2 : H2 p = none := by
      cases e : H2 p with
      | none => rfl
      | some o => have := sm _ _ e; rw [np] at this; cases this
    have na : Fr0 H1 p := fun o e => by
      cases o with
      | tbl ps => exact ⟨ps, rfl⟩
      | _ =>
        have := eN _ _ e (by intro ps z; cases z)
        rw [n2] at this; cases this
    have sp := same_mut (o := .lst (rowL (rs.mergeSort (PySem.W.dataLe false keySz)))) sm n2
    exact ⟨.ref p, _, pins_tail I', rfl, q p _ _ (eN.trans (LamX.ExtN.of sp)) (T2.ext sp) k1 k2 upd_same na⟩
end
/-! ## F28 -/
section
set_option maxHeartbeats 2000000
open PySem PySem.Spec PyProof.Rows L2


variable {P : Program} {w : World} {K : PySem.W.Frag} {mg : Str → Option Value} {base : Heap}
/-! ### tables of code objects: the law's own, that of _law_by_size -/
def codeA (K : PySem.W.Frag) (g : Str) : Addr := He.codeOf K (g, none)
def TTb (P1 P2 : Addr) : List (Addr × Str) := [(P1, Str.ofString "law" ++ ".<locals>." ++ "<lambda>"), (P2, Str.ofString "_law_by_size" ++ ".<locals>." ++ "<lambda>")]
structure LTb (K : PySem.W.Frag) (mg : Str → Option Value) (base : Heap) (P1 P2 : Addr) : Prop where
  t1 : LamX.TabB base mg (codeA K "law") P1
  t2 : LamX.TabB base mg (codeA K "_law_by_size") P2
  ne : P1 ≠ P2
/-- a def whose code object is told -/
theorem calGT {g : Str} {st : Stmt} {N ps : List Str} {k : Nat} {sp : Sp} (D : DefG K mg g g st [] []) (b : Bnd ps st g g) (SC : FnScope N ps (defScope st)) (len : ∀ vs H Q E, sp vs H Q E → vs.length = ps.length)
    (hbody : ∀ (A : Around) (outer : List Env) (s : Shared) (H : Hp) (vs : List V) (Q : VK) (E : XK), Room k (A.deeper (envOfC g (defScope st) s.heap.objs.size (He.ga K g) (.ref (codeA K g)))) → sp vs H Q E →
      ∃ t, PSs (cxOf C8.CX0 P w K mg base N g (defScope st) (He.ga K g) (.ref (codeA K g)) A outer s H E).nox (defBody st) t ∧ t { nx := fun _ H' => Q .non H', rt := Q } (start N vs) H) : C8.Cal P w K mg base (k + 1) g sp [] := by
  obtain ⟨gm, fd, F⟩ := D
  have hb := F.bindsN b
  obtain ⟨oc, od, dV, kV, doc, pm, an, cdv, ct, osl, e, lk, hcd, _, _⟩ := id F.ex
  subst e
  obtain ⟨c, rfl⟩ := He.codeIn_ref hcd
  have ec : codeA K g = c := He.codeOf_eq (p := (g, none)) lk rfl
  refine ⟨_, _, ps, [], fn_of lk hcd SC len fun A outer s H vs Q E hr h => ?_, gm, F.kp, hb, .nil⟩
  rw [← ec] at hr ⊢
  obtain ⟨t, h1, h2⟩ := hbody A outer s H vs Q E hr h
  exact ⟨t, h1.nox, h2⟩
def sp_law_by_size (P1 P2 : Addr) (K : PySem.W.Frag) : Sp := fun vs H Q _ => ∃ a rs, vs = [.ref a] ∧ LamX.Tabs (TTb P1 P2) H ∧ H a = some (.lst (rowL rs)) ∧ rs.length ≤ 1000 ∧ (∀ r ∈ rs, r.length ≤ 1000) ∧
  ∀ (p : Addr) (H' : Hp) (l : List Row), LamX.ExtN H H' → LamX.Tabs (TTb P1 P2) H' → l.Perm rs → (l.Pairwise fun a b => told a ≤ told b) → H' p = some (.lst (rowL l)) → Fr0 H p → Q (.ref p) H'
abbrev nm_law_by_size : List Str := ["_law_rows_here"]
theorem sc_law_by_size : FnScope nm_law_by_size ["_law_rows_here"] (defScope s_law_by_size) := ⟨rfl, rfl, rfl, by decide +kernel, rfl, by decide +kernel, by decide +kernel⟩
abbrev bsKw : Keyword := match defBody s_law_by_size with
  | [.Return (some (.Call _ _ [k] _)) _] => k
  | _ => ⟨none, .Constant .none 0 ⟨0, 0, 0, 0⟩, ⟨0, 0, 0, 0⟩⟩
abbrev bsSc : Scope := match bsKw.value with
  | .Lambda _ _ sc _ => sc
  | _ => defScope s_law_by_size
theorem sc_bslam : FnScope ["_law_row"] ["_law_row"] bsSc := ⟨rfl, rfl, rfl, by decide +kernel, rfl, by decide +kernel, by decide +kernel⟩
theorem bs_nofree : ∀ y ∈ bsSc.names, y.2 ≠ .free := by decide +kernel
def t_bslam (K : PySem.W.Frag) : TE := tTup (tCons (tCall (sp_law_size K) [] E0 (tCons (tVar 0) tNil)) (tCons (tVar 0) tNil))
theorem w_bslam {r : Row} {H : Hp} {Q : VK} (hl : r.length ≤ 1000) (h : ∀ t H', Same H H' → H' t = some (.tup [.int (told r : Nat), .str (S r)]) → Q (.ref t) H') : t_bslam K (start ["_law_row"] [.str (S r)]) H Q := by
  unfold t_bslam
  have e : start ["_law_row"] [.str (S r)] = [some (.str (S r))] := rfl
  rw [e]
  walk_at "go"
  refine ⟨r, rfl, hl, fun H1 s1 => ?_⟩
  walk_at "go"
  rename_i p hp
  exact h p _ (s1.trans (same_new hp)) upd_same
theorem c_law_by_size (T : Tx K mg) {P1 P2 : Addr} (L : LTb K mg base P1 P2) : C8.Cal P w K mg base 5 "_law_by_size" (sp_law_by_size P1 P2 K) [] := by
  refine calGT T.f_law_by_size (fun _ _ _ _ _ _ us hl => match us, hl with | [_], _ => rfl) sc_law_by_size (fun vs H Q E h => ?_) (fun A outer s H vs Q E hr h => have hu := hu_of hr; ⟨tRet (tSortLam (TTb P1 P2) (tVar 0)),
    (pss_one (ps_ret (pe_sortLam (k := 1) (c := codeA K "_law_by_size") (P := P2) (v := "_law_row") (N := ["_law_row"]) (tb := t_bslam K) (by rfl) T.b_sorted (pv 0) rfl rfl L.t2 rfl (by unfold TTb; exact List.mem_cons_of_mem _ List.mem_cons_self)
      (fun p hp e => ?_) hr sc_bslam bs_nofree rfl (fun _ _ _ _ _ => rfl)
      (fun q f cv A outer s H hr => pe_tup (pa_cons (C8.pe_c (c_law_size T) hr (by decide) (by rfl) (pa_cons (pv 0) pa_nil)) (pa_cons (pv 0) pa_nil)))
      (fun r H Q hl h => w_bslam hl h)))), ?_⟩)
  · obtain ⟨a, rs, rfl, _⟩ := h
    rfl
  · rcases List.mem_cons.mp hp with z | z
    · rw [z] at e; exact absurd e L.ne
    · rw [List.mem_singleton.mp z]; rfl
  · obtain ⟨a, rs, rfl, hT, ha, hl, hlr, k⟩ := h
    walk_at "go"
    exact ⟨_, rfl, hT, a, rs, rfl, ha, hl, hlr, k⟩
end
/-! ## G13 -/
section
set_option maxHeartbeats 2000000
open PySem PySem.Spec PyProof.Rows L2
/-! ### an exception that is caught and kept in a name -/
/-- at a: an exception of the class cls, its dict d -/
def exH (a : Addr) (cls : Value) (d : Option Addr) : HO := .ext fun h => ∃ (oe : Obj) (vs : Array Value), h.get? a = some oe ∧ Zc cls d oe ∧ oe.data = .fields vs
theorem exH_ok {P : Program} {w : World} {H : Hp} {h : Heap} {a : Addr} {cls : Value} {d : Option Addr} {oe : Obj} {vs : Array Value} (e : h.get? a = some oe) (hz : Zc cls d oe) (hd : oe.data = .fields vs) : ObjOk P w H h a (exH a cls d) :=
  ⟨⟨oe, vs, e, hz, hd⟩, ⟨oe, e⟩, fun _ _ q k => let ⟨o, v, a1, a2, a3⟩ := q; ⟨o, v, k _ a1, a2, a3⟩⟩
section
variable {X : Cx} {pins : List (Addr × Obj)} {σ : L2.St} {H : Hp} {s : Shared}
theorem inv_hold {a : Addr} {oe : Obj} {vs : Array Value} {cls : Value} {d : Option Addr} (I : Inv X ((a, oe) :: pins) σ H s) (hz : Zc cls d oe) (hd : oe.data = .fields vs) (n0 : X.s_0.heap.get? a = none) (hp : ∀ p ∈ X.pn ++ pins, p.1 ≠ a) :
    Inv X pins σ (upd H a (exH a cls d)) s := by
  obtain ⟨ga, na, nl, nf, nc⟩ := I.pin (a, oe) (List.mem_append_right _ List.mem_cons_self)
  have ga : s.heap.get? a = some oe := ga
  have na : H a = none := na
  have neS : ∀ b u, H b = some u → b ≠ a := fun b u e => ne_of_none e na
  have ne0 : ∀ b o, X.s_0.heap.get? b = some o → b ≠ a := fun b o e z => by rw [z, n0] at e; cases e
  have neC : ∀ x c, X.env.cells.lookup x = some c → c ≠ a := fun x c e z => by
    obtain ⟨v, o, ho, hdc⟩ := I.cell x c e
    rw [z, ga] at ho
    have ho := Option.some.inj ho
    rw [ho] at nc
    exact nc _ hdc
  refine ⟨I.ok, I.os, I.bare, ⟨I.base.keep, I.base.slot, fun b o e n q => ?_, I.base.there, fun b xs e => ?_, fun b o u e => ?_, fun b ps e => ?_⟩, I.loc, I.cell, ?_, fun x c e => ?_, fun p hm => ?_, fun b u e => ?_, I.len⟩
  · rw [upd_ne (ne0 b o e)]; exact I.base.free b o e n q
  · have q := I.base.tups b xs e
    rw [upd_ne (neS b _ q)]; exact q
  · have q := I.base.frzs b o u e
    rw [upd_ne (neS b _ q)]; exact q
  · obtain ⟨more, q⟩ := I.base.tbls b ps e
    exact ⟨more, by rw [upd_ne (neS b _ q)]; exact q⟩
  · rw [upd_ne (fun z => nl z.symm)]; exact I.free
  · rw [upd_ne (neC x c e)]; exact I.freeC x c e
  · have hm2 : p ∈ X.pn ++ (a, oe) :: pins := by
      rcases List.mem_append.mp hm with z | z
      · exact List.mem_append_left _ z
      · exact List.mem_append_right _ (List.mem_cons_of_mem _ z)
    obtain ⟨q1, q2, q3, q4, q5⟩ := I.pin p hm2
    exact ⟨q1, by rw [upd_ne (hp p hm)]; exact q2, q3, q4, q5⟩
  · by_cases hb : b = a
    · rw [hb] at e ⊢
      rw [upd_same] at e
      obtain rfl := Option.some.inj e
      exact exH_ok ga hz hd
    · rw [upd_ne hb] at e
      exact (I.hok b u e).stay (fun c v _ q => q) (fun c q => by rw [upd_ne (neS c _ q)]; exact q) fun c xs q => by rw [upd_ne (neS c _ q)]; exact q
end
/-- what is wished of an exception of the body: it is of the class c, and behind the suite it is held by the slot j -/
def wHold (K : PySem.W.Frag) (c : Value) (i j n : Nat) (D : Ends) : WX := fun cls d σ H =>
  PySem.W.exmOne K cls c = some true ∧ (σ.length = n → ∀ a, H a = none → D.nx (((σ.set i (some (.ref a))).set j (some (.ref a))).set i none) (upd H a (exH a cls d)))
/-- try: body / except x as n: m = n -/
theorem ps_try_hold {X : Cx} {x n : Str} {c : Value} {i j : Nat} {body suite : List Stmt} {b₀ : Stmt} {np pos pos' : Pos} {tb : WX → TS} (hs : X.stack = X.env :: X.outer) (hf : X.env.frame = some X.env.locals) (hex : X.ex = []) (hN : X.N.Nodup) (hi : X.N[i]? = some n) (hln : X.env.kindOf n = some .local)
    (hij : i ≠ j) (hiN : i < X.N.length) (hc : Names X x c) (hb : ∀ (W : WX) (pn : List (Addr × Obj)) (xe : Value → Shared → Prop), Takes (X.tr pn xe) W → PassesOwn (model X.prog X.w) X.A X.env xe → PSs (X.tr pn xe) body (tb W))
    (hsu : ∀ (a : Addr) (oe : Obj) (pn : List (Addr × Obj)), PSs (X.suite a ((a, oe) :: pn)) (b₀ :: suite) (tAsg (tVar i) (gName j))) :
    PS X (.Try body [.ExceptHandler (some (.Name x np)) (some n) (b₀ :: suite) pos'] [] [] pos) (fun D σ H => tb (wHold X.K c i j X.N.length D) D σ H) := by
  refine ⟨fun pins s σ H D I h => ?_⟩
  have ok := I.ok
  have hfr : X.A.frames = some (X.env :: X.outer) := by rw [ok.frames, hs]
  refine wpAny_Try_except (wpAny_mono ((hb (wHold X.K c i j X.N.length D) (X.pn ++ pins) _ (fun u s1 ha => ?_) PassesOwn.looking).run [] s σ H D (I.toTry _) h) (fun f s1 q => ?_) fun _ _ q => q)
  · obtain ⟨a, B, s0, pins0, σ0, H0, cls, d, rfl, J0, nb, up0, sky, na, os, ag, hm, hD⟩ := ha
    have J : Inv X pins σ0 H0 s0 := J0.ofTry ok
    have sky2 : Sky B (X.env :: X.outer) a (Zc cls d) X.env.locals s1.heap := by rw [← hs]; exact sky
    refine Sky.land Zc.steady hfr hf sky2 fun h1 fl1 up1 => ?_
    have J1 : Inv X pins σ0 H0 { s1 with heap := h1 } := J.landed nb fl1.1 (up0.trans up1) os ag
    obtain ⟨o1, v1, g1, z1, d1⟩ := fl1.there
    have nfr : a ∉ frs (X.env :: X.outer) := fun hm => by
      obtain ⟨_, o, e, hn⟩ := fl1.2.2.1.mem hm
      rw [g1] at e
      cases e
      exact hn _ d1
    have nL : a ≠ X.env.locals := fun z => nfr (by
      rw [z]
      exact List.mem_filterMap.mpr ⟨X.env, List.mem_cons_self, hf⟩)
    have nF : a ∉ X.fs := fun z => by
      obtain ⟨e, he, q⟩ := List.mem_filterMap.mp z
      exact nfr (List.mem_filterMap.mpr ⟨e, List.mem_cons_of_mem _ he, q⟩)
    have n0 : s0.heap.get? a = none := by
      cases e : s0.heap.get? a with
      | none => rfl
      | some o =>
        have := nb a o e (by rw [hs]; exact nfr)
        rw [fl1.2.1] at this; cases this
    have nS : X.s_0.heap.get? a = none := by
      cases e : X.s_0.heap.get? a with
      | none => rfl
      | some o =>
        obtain ⟨o', e'⟩ := J.base.there a o e (by rw [hex]; exact fun z => nomatch z)
        rw [n0] at e'; cases e'
    have npin : ∀ p ∈ X.pn ++ pins, p.1 ≠ a := fun p hp z => by
      have := (J.pin p hp).1
      rw [z, n0] at this; cases this
    have S1 := J1.suite g1 d1 na nL nF
    refine wpAny_handleBy_cons (codeAny_handlers_test ?_) (by intro q; cases q)
    have LM := PySem.W.exm_one (M := model X.prog X.w) J1.kIn (fun A Q E s k q => wpAny_typeOf_ref (k _ _ g1) (by rw [z1.1]; exact q)) hm
    have test : ∀ {Q : Value → Shared → Prop} {E : Value → Shared → Prop}, Q c { s1 with heap := h1 } → wpAny (model X.prog X.w) (X.A.mark (some (.ref a))) (eval (.Name x np) X.env) Q E { s1 with heap := h1 } := fun {Q E} q => by
      obtain ⟨k1, k2, k3 | ⟨k3, k4, k5⟩⟩ := hc
      · exact ld_glob (X := X.suite a ((a, o1) :: (X.pn ++ pins))) S1 k1 k3 q k2
      · exact ld_blt (X := X.suite a ((a, o1) :: (X.pn ++ pins))) S1 k1 k3 k4 q k5 k2
    refine test (LM.here (codeAny_handlers_suite_as ?_))
    refine HandSPX.lands_againZ fl1 fun h2 fl2 up2 => ?_
    have J2 : Inv X pins σ0 H0 { s1 with heap := h2 } := J.landed nb fl2.1 ((up0.trans up1).trans up2) os ag
    obtain ⟨o2, v2, g2, z2, d2⟩ := fl2.there
    refine store_ok (X := X.suite a ((a, o2) :: (X.pn ++ pins))) (v := .ref a) (J2.suite g2 d2 na nL nF) hN hi (.inl hln) rfl (fun s2 S2 => ?_) (.inr hln)
    have hl0 : i < σ0.length := by rw [J.len]; exact hiN
    refine wpAny_mono ((hsu a o2 (X.pn ++ pins)).run [] s2 _ H0 { nx := fun σ' H' => σ' = (σ0.set i (some (.ref a))).set j (some (.ref a)) ∧ H' = H0, rt := fun _ _ => False, bk := fun _ _ => False, ct := fun _ _ => False } S2 ⟨.ref a, by rw [List.getElem?_set_self hl0], rfl, rfl⟩) (fun f s3 q => ?_) fun _ _ z => z.elim
    cases f with
    | next =>
      obtain ⟨σ3, H3, S3, rfl, rfl⟩ := q
      have J3 : Inv X ((a, o2) :: pins) ((σ0.set i (some (.ref a))).set j (some (.ref a))) H3 s3 := ⟨ok, S3.os, S3.bare, S3.base, S3.loc, S3.cell, S3.free, S3.freeC, fun p hp => S3.pin p (List.mem_append_left _ (by
        rcases List.mem_append.mp hp with z | z
        · exact List.mem_cons_of_mem _ (List.mem_append_left _ z)
        · rcases List.mem_cons.mp z with z | z
          · rw [z]; exact List.mem_cons_self
          · exact List.mem_cons_of_mem _ (List.mem_append_right _ z))), S3.hok, S3.len⟩
      refine gone_ok J3 hN hi hln fun s4 J4 => ?_
      exact ⟨_, _, inv_hold J4 z2 d2 nS npin, hD J.len a na⟩
    | ret u =>
      obtain ⟨_, _, _, _, _, z⟩ := q
      exact z.elim
    | brk =>
      obtain ⟨_, _, _, z⟩ := q
      exact z.elim
    | cont =>
      obtain ⟨_, _, _, z⟩ := q
      exact z.elim
  · cases f with
    | next =>
      obtain ⟨σ', H', J', q⟩ := q
      exact wpAny_execs_nil ⟨σ', H', J'.ofTry ok, q⟩
    | ret u =>
      obtain ⟨v, σ', H', J', r, q⟩ := q
      exact ⟨v, σ', H', J'.ofTry ok, r, q⟩
    | brk =>
      obtain ⟨σ', H', J', q⟩ := q
      exact ⟨σ', H', J'.ofTry ok, q⟩
    | cont =>
      obtain ⟨σ', H', J', q⟩ := q
      exact ⟨σ', H', J'.ofTry ok, q⟩
end
/-! ## G14 -/
section
set_option maxHeartbeats 2000000
open PySem PySem.Spec PyProof.Rows L2
/-! ### such an exception, looked at -/
/-- what is asked of its class -/
structure ExU (K : PySem.W.Frag) (C : Addr) : Prop where
  xf : XfC K C
  cl : (PySem.W.clsIn K C).isSome = true
  ha : PySem.W.findIn K (.ref C) "__class__" = some (some (.builtin "object.__class__"))
  hn : PySem.W.specialIn K (.builtin "object.__class__") "__get__" = some (some (.builtin "getset_descriptor.__get__"))
  ht : PySem.W.takesIn K (.builtin "object.__class__") = some true
  hm : PySem.W.mroIn K C (.type "object") = some true
section
variable {X : Cx} {pins : List (Addr × Obj)} {σ : L2.St} {H : Hp} {s : Shared} {C : Addr}
theorem held_at {a dd : Addr} {fs : List (Str × V)} (I : Inv X pins σ H s) (ha : H a = some (exH a (.ref C) (some dd))) (hd : H dd = some (.xd fs)) : ∃ (oe od : Obj) (mA : Str → Option Value), PySem.W.InstAt s.heap a oe C (some od) ∧ oe.dict = some dd ∧ s.heap.get? dd = some od ∧ (∀ n, PySem.W.lookIn n od = some (mA n)) ∧ ∀ f, RelO (fs.lookup f) (mA f) := by
  have hx : ObjOk X.prog X.w H s.heap dd (.xd fs) := I.hok dd _ hd
  obtain ⟨mA, hns, hr⟩ := hx
  obtain ⟨od, ho, hl⟩ := lookIn_ns hns
  have he : ObjOk X.prog X.w H s.heap a (.ext fun h => ∃ (oe : Obj) (vs : Array Value), h.get? a = some oe ∧ Zc (.ref C) (some dd) oe ∧ oe.data = .fields vs) := I.hok a _ ha
  obtain ⟨⟨oe, vs, e1, e2, e3⟩, _, _⟩ := he
  exact ⟨oe, od, mA, ⟨e1, e2.1, by unfold PySem.W.notCls; rw [e3] <;> rfl, by rw [e2.2]; exact ho⟩, e2.2, ho, hl, hr⟩
/-- isinstance(e, C) -/
def rIsH (C : Addr) : List V → Hp → VK → Prop := fun xs H Q => ∃ (a dd : Addr) (fs : List (Str × V)), xs = [.ref a, .ref C] ∧ H a = some (exH a (.ref C) (some dd)) ∧ H dd = some (.xd fs) ∧ Q (.bl true) H
theorem call_isH (U : ExU X.K C) : CallR X (.builtin "isinstance") (rIsH C) := by
  intro pins s σ H xs us Q I r h
  obtain ⟨a, dd, fs, rfl, ha, hd, q⟩ := h
  cases r with
  | cons rx rr =>
    cases rr with
    | cons rt rr =>
      cases rr
      cases rx
      cases rt
      obtain ⟨oe, od, mA, J, _⟩ := held_at I ha hd
      refine PySem.W.kia_one (PySem.W.kitx_exc U.cl U.xf.ga U.xf.gg U.xf.exC U.ha U.hn U.ht U.hm) I.kIn J (b := true) ?_ (fun z => nomatch z) fun tk => ⟨.bl true, H, I.kept (t' := tk) fun _ _ z => z, rfl, q⟩
      unfold PySem.W.kitOne
      rw [if_pos (beq_self_eq_true _)]
/-- e.f -/
def tHf (C : Addr) (f : Str) (te : TE) : TE := fun σ H Q => te σ H fun x H1 => ∃ (a dd : Addr) (fs : List (Str × V)) (v : V), x = .ref a ∧ H1 a = some (exH a (.ref C) (some dd)) ∧ H1 dd = some (.xd fs) ∧ fs.lookup f = some v ∧ Q v H1
theorem pe_hf {e : Expr} {te : TE} {pos : Pos} {n : Str} (U : ExU X.K C) (hno : PySem.W.findIn X.K (.ref C) n = some none) (he : PE X e te) (hb : attributeBase e n X.env (eval e X.env) = eval e X.env := by rfl) : PE X (.Attribute e n pos) (tHf C n te) := by
  refine ⟨fun pins s σ H Q I h => ?_⟩
  refine attr_of hb (thn (he.run pins s σ H _ I h) fun u s1 hh => ?_)
  obtain ⟨x, H1, I1, rx, a, dd, fs, v, rfl, ha, hd, l, q⟩ := hh
  obtain rfl : u = Value.ref a := rx
  obtain ⟨oe, od, mA, J, _, _, hl, hr⟩ := held_at I1 ha hd
  obtain ⟨u, hu, ru⟩ := RelO.some_of (v := v) (o := mA n) (by rw [← l]; exact hr n)
  exact HandSPX.exc_get I1.kIn J U.xf.ga U.xf.gg U.xf.exC (PySem.W.findObj_own U.xf.hdC hno rfl (by rw [hl, hu])) (handed_of ru) ⟨v, H1, I1.tok _, ru, q⟩
end
/-! ### what the module holds of its exceptions -/
structure TxU (K : PySem.W.Frag) (mg : Str → Option Value) : Prop where
  g_T : mg "TellsError" = some (.ref (He.ga K "TellsError"))
  g_U : mg "Untold" = some (.ref (He.ga K "Untold"))
  oex : OexC K (He.ga K "Untold")
  ini : PySem.W.findIn K (.ref (He.ga K "Untold")) "__init__" = some (some (.ref (He.ma K (He.ga K "Untold") "__init__")))
  tyi : PySem.W.typeIn K (.ref (He.ma K (He.ga K "Untold") "__init__")) = some (.type "function")
  na_cell : PySem.W.findIn K (.ref (He.ga K "Untold")) "cell" = some none
  na_code : PySem.W.findIn K (.ref (He.ga K "Untold")) "code" = some none
  exu : ExU K (He.ga K "Untold")
  exm : PySem.W.exmOne K (.ref (He.ga K "Untold")) (.ref (He.ga K "TellsError")) = some true
/-- a def that may raise -/
structure CalX (P : Program) (w : World) (K : PySem.W.Frag) (mg : Str → Option Value) (base : Heap) (k : Nat) (x : Str) (sp : Sp) : Prop where
  ex : ∃ (f : Addr) (fd : FuncData) (ps : List Str), FnOk P w K mg base (L2.CX P w) k f fd ps sp ∧ mg x = some (.ref f) ∧ PySem.W.keepIn K (.ref f) = true ∧ Binds K fd ps []
theorem calXG {P : Program} {w : World} {K : PySem.W.Frag} {mg : Str → Option Value} {base : Heap} {g : Str} {st : Stmt} {N ps : List Str} {k : Nat} {sp : Sp} (D : DefG K mg g g st [] []) (b : Bnd ps st g g) (SC : FnScope N ps (defScope st)) (len : ∀ vs H Q E, sp vs H Q E → vs.length = ps.length)
    (hbody : ∀ (f : Addr) (cdv : Value) (A : Around) (outer : List Env) (s : Shared) (H : Hp) (vs : List V) (Q : VK) (E : XK), Room k (A.deeper (envOfC g (defScope st) s.heap.objs.size f cdv)) → sp vs H Q E →
      ∃ t, PSs (cxOf (L2.CX P w) P w K mg base N g (defScope st) f cdv A outer s H E) (defBody st) t ∧ t { nx := fun _ H' => Q .non H', rt := Q } (start N vs) H) : CalX P w K mg base (k + 1) g sp := by
  obtain ⟨gm, fd, F⟩ := D
  exact ⟨_, fd, ps, F.ok SC len fun cdv A outer s H vs Q E hr h => hbody _ cdv A outer s H vs Q E hr h, gm, F.kp, F.bindsN b⟩
/-- its call -/
theorem pe_cx {X : Cx} {x : Str} {p pos : Pos} {e : Expr} {es : List Expr} {t : TA} {j k : Nat} {sp : Sp} {E : XK} (c : CalX X.prog X.w X.K X.mg X.base k x sp) (hr : Room j X.A) (hk : k ≤ j) (hx : Passes (L2.CX X.prog X.w) X E) (hg : Gl X x) (ha : PA X (e :: es) t)
    (hdb : (x == ("__debug__" : Str)) = false := by decide) (he : starEach (e :: es) X.env = (false, eval e X.env) :: starEach es X.env := by rfl) (hpl : (backTo pos (starEach es X.env)).any (·.1) = false := by rfl) :
    PE X (.Call (.Name x p) (e :: es) [] pos) (tCall sp [] E t) := by
  obtain ⟨f, fd, ps, F, hm, kp, b⟩ := c.ex
  exact pe_call F (hr.mono hk) hg hm kp b .nil hx ha hdb he hpl
end
/-! ## F29 -/
section
set_option maxHeartbeats 2000000
open PySem PySem.Spec PyProof.Rows L2


variable {P : Program} {w : World} {K : PySem.W.Frag} {mg : Str → Option Value} {base : Heap}
/-! ### Untold, raised -/
abbrev cU (K : PySem.W.Frag) : Addr := He.ga K "Untold"
def sp_Untold_init (K : PySem.W.Frag) : Sp := fun vs H Q _ => ∃ (a : Addr) (z : Str), vs = [.ref a, .str z] ∧ OexC K (cU K) ∧ PySem.W.findIn K (.ref (cU K)) "cell" = some none ∧ PySem.W.findIn K (.ref (cU K)) "code" = some none ∧ H a = some (exo a (cU K) none) ∧
  ∀ dx, H dx = none → dx ≠ a → Q .non (upd (upd (upd H dx (exd dx [("cell", .str z)])) a (exo a (cU K) (some dx))) dx (exd dx [("code", .str "Untold"), ("cell", .str z)]))
abbrev nm_Untold_init : List Str := ["self", "cell"]
theorem sc_Untold_init : FnScope nm_Untold_init ["self", "cell"] (defScope s_Untold_init) := ⟨rfl, rfl, rfl, by decide +kernel, rfl, by decide +kernel, by decide +kernel⟩
theorem ok_Untold_init (T : Tx K mg) : ∃ fd, FnOk P w K mg base C8.CX0 1 (He.ma K (cU K) "__init__") fd ["self", "cell"] (sp_Untold_init K) ∧ Binds K fd ["self", "cell"] [] := by
  obtain ⟨fd, F⟩ := T.f_Untold_init
  refine ⟨fd, F.ok (N := nm_Untold_init) sc_Untold_init (fun vs H Q E h => ?_) fun cdv A outer s H vs Q E hr h => ⟨tSeq (tOst K "cell" (tVar 0) (tVar 1)) (tOst K "code" (tVar 0) (tC (.str "Untold"))), PSs.nox (pss_cons (ps_ost (pv 0) (pv 1)) (pss_one (ps_ost (pv 0) pe_str))), ?_⟩, F.bindsN (fun _ _ _ _ _ _ us hl => match us, hl with | [_, _], _ => rfl)⟩
  · obtain ⟨a, z, rfl, _⟩ := h
    rfl
  · obtain ⟨a, z, rfl, hO, h1, h2, ha, k⟩ := h
    refine ⟨.str z, rfl, .ref a, rfl, a, _, rfl, hO, h1, .inl ⟨ha, fun dx nd ne => ?_⟩⟩
    refine ⟨.ref a, rfl, a, _, rfl, hO, h2, .inr ⟨dx, [("cell", .str z)], upd_same, by rw [upd_ne ne]; exact upd_same, (by show 1 ≤ 900; decide), ?_⟩⟩
    exact k dx nd ne
/-- a cell is untold: the exception -/
def sp_untold_x (K : PySem.W.Frag) : Sp := fun vs H _ E => ∃ (p bp : Addr) (ws : Ws) (cs : List Cell) (ss rs : List Row) (nm : Row) (more : List Row), vs = [.ref p] ∧ BookAt K H p bp ws ∧ BandAt K H bp cs ss rs ∧ cs.length ≤ 6 ∧ ws.length ≤ 40 ∧ (∀ a ∈ ws, a.1.length = cs.length) ∧ untoldN cs ws = nm :: more ∧
  ∀ d H', Same H H' → H d = none → H' d = some (.xd [("code", .str "Untold"), ("cell", .str (S nm))]) → E (.ref (cU K)) (some d) H'
def t_check_told_x (K : PySem.W.Frag) (E : XK) : TS := tSeq (tAsg (tMeth (He.ga K "Book") "untold" (sp_Book_untold K) [] E0 (tVar 0) tNil) (gName 1))
  (tIfS (tTru K (tVar 1)) (fun D σ H => tMkO (cU K) (sp_Untold_init K) [] (tCons (tOp (rIxL K) (tVar 1) (tC (.int 0))) tNil) σ H fun cls d H' => E cls d H') tNext)
theorem x_check_told (T : Tx K mg) (U : TxU K mg) : CalX P w K mg base 4 "check_told" (sp_untold_x K) := by
  obtain ⟨fdI, FI, bI⟩ := ok_Untold_init (P := P) (w := w) (base := base) T
  refine calXG T.f_check_told (fun _ _ _ _ _ _ us hl => match us, hl with | [_], _ => rfl) sc_check_told (fun vs H Q E h => ?_) (fun f cdv A outer s H vs Q E hr h => have hu := hu_of hr; ⟨t_check_told_x K E,
    pss_cons (ps_set (i := 1) sc_check_told.nd rfl (Or.inl rfl) (C8.pe_mt0 (m_Book_untold T) hr (by decide) (pv 0)))
      (pss_one (ps_if (pt_truth (pv 1) (by intro _; rfl)) (pss_one (ps_raise rfl (takes_of rfl rfl rfl rfl) (pmk_oex U.oex U.ini U.tyi FI (hr.mono (by decide)) bI .nil C8.pass0 (by rfl) U.g_U (pa_cons (pe_ix ix_list (pv 1) pe_int (fun _ _ => rfl)) pa_nil)))) pss_nil)), ?_⟩)
  · obtain ⟨p, bp, ws, cs, ss, rs, nm, more, rfl, _⟩ := h
    rfl
  · obtain ⟨p, bp, ws, cs, ss, rs, nm, more, rfl, hW, hB, hn6, hwf, hwl, hun, k⟩ := h
    have hWb := hW
    obtain ⟨dx, fs, d, h1, h2, h3, hd, h5, h6, h7, h8⟩ := hW
    unfold t_check_told_x
    walk_at "go"
    refine ⟨p, bp, ws, cs, ss, rs, rfl, hWb, hB, hn6, hwf, hwl, fun q H1 s1 nq hq => ?_⟩
    walk_at "go"
    rw [hun] at hq
    refine ⟨true, .inl ⟨_, .inl (.inl hq), rfl⟩, ?_⟩
    rw [if_pos rfl]
    show tMkO _ _ _ _ _ _ _
    refine ⟨.ref q, rfl, q, rowL (nm :: more), 0, .str (S nm), rfl, rfl, .inl (.inl hq), atI_nat (j := 0) (xs := rowL (nm :: more)) rfl, ?_⟩
    refine ⟨(by show 1 ≤ 1000; decide), fun a na => ?_⟩
    refine ⟨a, S nm, rfl, U.oex, U.na_cell, U.na_code, upd_same, fun dx nd ne => ?_⟩
    have nd1 : H1 dx = none := by rw [upd_ne ne] at nd; exact nd
    refine ⟨rfl, dx, _, by rw [upd_ne ne.symm]; exact upd_same, upd_same, nd1, ?_⟩
    refine k dx _ (fun b o e => ?_) ?_ upd_same
    · have e1 := s1 _ _ e
      have hb1 := ne_of_none e1 nd1
      have hb2 := ne_of_none e1 na
      rw [upd_ne hb1, del_ne hb2, upd_ne hb1, upd_ne hb2, upd_ne hb1, upd_ne hb2]
      exact e1
    · cases e : H dx with
      | none => rfl
      | some o => have := s1 _ _ e; rw [nd1] at this; cases this
theorem x_first_tellers (T : Tx K mg) (U : TxU K mg) : CalX P w K mg base 5 "first_tellers" (sp_untold_x K) := by
  refine calXG T.f_first_tellers (fun _ _ _ _ _ _ us hl => match us, hl with | [_], _ => rfl) sc_first_tellers (fun vs H Q E h => ?_) (fun f cdv A outer s H vs Q E hr h => have hu := hu_of hr; ⟨tSeq (tDrop (tCall (sp_untold_x K) [] E (tCons (tVar 0) tNil))) tNever,
    pss_cons (ps_expr (pe_cx (x_check_told T U) hr (by decide) (passes_call (takes_of rfl rfl rfl rfl) fun _ _ _ _ h => h) (by rfl) (pa_cons (pv 0) pa_nil))) pss_never, ?_⟩)
  · obtain ⟨p, bp, ws, cs, ss, rs, nm, more, rfl, _⟩ := h
    rfl
  · obtain ⟨p, bp, ws, cs, ss, rs, nm, more, rfl, h⟩ := h
    exact ⟨_, rfl, p, bp, ws, cs, ss, rs, nm, more, rfl, h⟩
theorem x_steady_shares (T : Tx K mg) (U : TxU K mg) : CalX P w K mg base 5 "steady_shares" (sp_untold_x K) := by
  refine calXG T.f_steady_shares (fun _ _ _ _ _ _ us hl => match us, hl with | [_], _ => rfl) sc_steady_shares (fun vs H Q E h => ?_) (fun f cdv A outer s H vs Q E hr h => have hu := hu_of hr; ⟨tSeq (tDrop (tCall (sp_untold_x K) [] E (tCons (tVar 0) tNil))) tNever,
    pss_cons (ps_expr (pe_cx (x_check_told T U) hr (by decide) (passes_call (takes_of rfl rfl rfl rfl) fun _ _ _ _ h => h) (by rfl) (pa_cons (pv 0) pa_nil))) pss_never, ?_⟩)
  · obtain ⟨p, bp, ws, cs, ss, rs, nm, more, rfl, _⟩ := h
    rfl
  · obtain ⟨p, bp, ws, cs, ss, rs, nm, more, rfl, h⟩ := h
    exact ⟨_, rfl, p, bp, ws, cs, ss, rs, nm, more, rfl, h⟩
end
/-! ## F30 -/
section
set_option maxHeartbeats 2000000
open PySem PySem.Spec PyProof.Rows L2


variable {P : Program} {w : World} {K : PySem.W.Frag} {mg : Str → Option Value} {base : Heap}
abbrev xdU (nm : Row) : HO := .xd [("code", .str "Untold"), ("cell", .str (S nm))]
abbrev tupU (nm : Row) : HO := .tup [.str "Untold", .str (S nm)]
def sp_law_fields (K : PySem.W.Frag) : Sp := fun vs H Q _ => ∃ (a dd : Addr) (nm : Row), vs = [.ref a] ∧ H a = some (exH a (.ref (cU K)) (some dd)) ∧ H dd = some (xdU nm) ∧ ∀ p H', Same H H' → H p = none → H' p = some (tupU nm) → Q (.ref p) H'
abbrev nm_law_fields : List Str := ["_law_error"]
theorem sc_law_fields : FnScope nm_law_fields ["_law_error"] (defScope s_law_fields) := ⟨rfl, rfl, rfl, by decide +kernel, rfl, by decide +kernel, by decide +kernel⟩
def t_law_fields (K : PySem.W.Frag) : TS := tSeq (tIfS (tB (tCB (rIsH (cU K)) (tCons (tVar 0) (tCons (tC (.ref (cU K))) tNil)))) (tRet (tTup (tCons (tHf (cU K) "code" (tVar 0)) (tCons (tHf (cU K) "cell" (tVar 0)) tNil)))) tNext) (tRet (tTup (tCons (tC (.str "other")) tNil)))
theorem c_law_fields (T : Tx K mg) (U : TxU K mg) : C8.Cal P w K mg base 1 "_law_fields" (sp_law_fields K) [] := by
  refine calG T.f_law_fields (fun _ _ _ _ _ _ us hl => match us, hl with | [_], _ => rfl) sc_law_fields (fun vs H Q E h => ?_) (fun f cdv A outer s H vs Q E hr h => have hu := hu_of hr; ⟨t_law_fields K,
    pss_cons (ps_if (pt_val (pe_callB (call_isH U.exu) (by rfl) T.b_isinstance bt_isinstance (pa_cons (pv 0) (pa_cons (pe_glob (by rfl) U.g_U rfl) pa_nil)))) (pss_one (ps_ret (pe_tup (pa_cons (pe_hf U.exu U.na_code (pv 0)) (pa_cons (pe_hf U.exu U.na_cell (pv 0)) pa_nil))))) pss_nil)
      (pss_one (ps_ret (pe_tup (pa_cons pe_str pa_nil)))), ?_⟩)
  · obtain ⟨a, dd, nm, rfl, _⟩ := h
    rfl
  · obtain ⟨a, dd, nm, rfl, ha, hd, k⟩ := h
    unfold t_law_fields
    walk_at "go"
    refine ⟨a, dd, _, rfl, ha, hd, ?_⟩
    walk_at "go"
    refine ⟨.ref a, rfl, a, dd, _, .str "Untold", rfl, ha, hd, rfl, ?_⟩
    refine ⟨.ref a, rfl, a, dd, _, .str (S nm), rfl, ha, hd, rfl, ?_⟩
    walk_at "go"
    rename_i p np
    exact k p _ (same_new np) np upd_same
/-! ### what _law_got makes of a call that raises Untold -/
def TTgot (K : PySem.W.Frag) : (XK → Hp → VK → Prop) → Hp → VK → Prop := fun tl H Q => ∀ H1, Same H H1 →
  tl (fun cls d H' => ∃ (dd : Addr) (nm : Row), cls = .ref (cU K) ∧ d = some dd ∧ H' dd = some (xdU nm) ∧ ∀ p H'', Same H' H'' → H' p = none → H'' p = some (tupU nm) → Q (.ref p) H'') H1 fun _ _ => False
theorem pe_weak {X : Cx} {e : Expr} {te : TE} (h : PE X e te) : PE X e (fun σ H Q => ∃ Qn : VK, (∀ y H', Qn y H' → Q y H') ∧ te σ H Qn) := by
  refine ⟨fun pins s σ H Q I hw => ?_⟩
  obtain ⟨Qn, k, hw⟩ := hw
  exact thn (h.run pins s σ H Qn I hw) fun u s1 ⟨x, H1, I1, r, q⟩ => ⟨x, H1, I1, r, k x H1 q⟩
abbrev nm_law_got : List Str := ["_law_ask", "_law_found", "_law_error", "e"]
theorem sc_law_got : FnScope nm_law_got ["_law_ask"] (defScope s_law_got) := ⟨rfl, rfl, rfl, by decide +kernel, rfl, by decide +kernel, by decide +kernel⟩
theorem got_gives {X : Cx} {q : Str} {g : Addr} {cdg : Value} (T : Tx X.K X.mg) (U : TxU X.K X.mg) (hr0 : Room 3 X.A) :
    LamX.GivesTo X nm_law_got "_law_got" (defScope s_law_got) g cdg (defBody s_law_got) "_law_ask" q (TTgot X.K) := by
  intro f c' s H Q tl act hc h
  have hr : Room 2 (cxOf C8.CX0 X.prog X.w X.K X.mg X.base nm_law_got "_law_got" (defScope s_law_got) g cdg X.A X.stack s H C8.E0).nox.A := hr0.deeper _
  refine ⟨_, pss_cons (ps_asg (pe_tup (pa_cons pe_non (pa_cons pe_non pa_nil))) (pg_tup rfl (pgs_cons (pg_name (i := 1) sc_law_got.nd rfl (Or.inl rfl)) (pgs_cons (pg_name (i := 2) sc_law_got.nd rfl (Or.inl rfl)) pgs_nil))))
    (pss_cons (ps_try_hold (X := (cxOf C8.CX0 X.prog X.w X.K X.mg X.base nm_law_got "_law_got" (defScope s_law_got) g cdg X.A X.stack s H C8.E0).nox) (i := 3) (j := 2) (c := .ref (He.ga X.K "TellsError"))
      (tb := fun W D σ H => ∃ (Ech : XK) (Qn : VK), (∀ cls d σ' H', Ech cls d H' → W cls d σ' H') ∧ (∀ y H', Qn y H' → D.nx (σ.set 1 (some y)) H') ∧ σ[0]? = some (some (.ref f)) ∧ H c' = some (LamX.CodeO c' q) ∧ tl Ech H Qn)
      rfl rfl rfl sc_law_got.nd rfl rfl (by decide) (by show 3 < 4; decide) ⟨(by rfl), (by decide), .inl U.g_T⟩ (fun W pn xe tk _ => ?_) (fun a oe pn => pss_one (ps_set (i := 2) sc_law_got.nd rfl (Or.inl rfl) (pv 3))))
      (pss_one (ps_ret (pe_ifExp (pt_cmpR op_isN (pv 2) pe_non (nomark _)) (pe_tup (pa_cons pe_str (pa_cons (pv 1) pa_nil))) (C8.pe_c (c_law_fields T U) hr (by decide) (by rfl) (pa_cons (pv 2) pa_nil)))))), ?_⟩
  · refine ⟨fun pins s' σ H' D I h' => ?_⟩
    obtain ⟨Ech, Qn, hW, hQ, h1, h2, h3⟩ := h'
    exact (pss_one (ps_set (i := 1) sc_law_got.nd rfl (Or.inl rfl) (pe_weak (act W pn xe Ech _ _ tk hW)))).run pins s' σ H' D I ⟨Qn, hQ, h1, h2, h3⟩
  · refine ⟨(by show 2 ≤ sizeLine; decide), fun p np => ?_⟩
    have hc2 := same_new (o := .tup [.non, .non]) np _ _ hc
    have h2 := h _ (same_new (o := .tup [.non, .non]) np)
    refine w_gt2 ?_
    refine ⟨_, _, fun cls d σ' H' hE => ?_, fun _ _ z => z.elim, rfl, hc2, h2⟩
    obtain ⟨dd, nm, rfl, rfl, hd, k⟩ := hE
    refine ⟨U.exm, fun hl a na => ?_⟩
    have hl : σ'.length = 4 := hl
    have e2 : (((σ'.set 3 (some (V.ref a))).set 2 (some (V.ref a))).set 3 none)[2]? = some (some (.ref a)) := by
      rw [List.getElem?_set_ne (by decide), List.getElem?_set_self (by rw [List.length_set]; omega)]
    refine ⟨.ref a, e2, rfl, false, rfl, ?_⟩
    refine ⟨.ref a, e2, ?_⟩
    refine ⟨a, dd, nm, rfl, upd_same, by rw [upd_ne (ne_of_none hd na)]; exact hd, fun p' H'' sm np' hp' => ?_⟩
    have na' : Same H' (upd H' a (exH a (.ref (cU X.K)) (some dd))) := same_new na
    refine k p' H'' (na'.trans sm) ?_ hp'
    cases e : H' p' with
    | none => rfl
    | some o => have := na' _ _ e; rw [np'] at this; cases this
end
/-! ## F31 -/
section
set_option maxHeartbeats 2000000
open PySem PySem.Spec PyProof.Rows L2 LiI


theorem kb_int_dict : kitB "int" "dict" = some false := by decide +kernel
theorem kb_int_list : kitB "int" "list" = some false := by decide +kernel
theorem kb_int_tuple : kitB "int" "tuple" = some false := by decide +kernel
theorem kb_int_bool : kitB "int" "bool" = some false := by decide +kernel
theorem kb_int_int : kitB "int" "int" = some true := by decide +kernel
theorem kb_int_str : kitB "int" "str" = some false := by decide +kernel
theorem kb_str_dict : kitB "str" "dict" = some false := by decide +kernel
theorem kb_str_list : kitB "str" "list" = some false := by decide +kernel
theorem kb_str_tuple : kitB "str" "tuple" = some false := by decide +kernel
theorem kb_str_bool : kitB "str" "bool" = some false := by decide +kernel
theorem kb_str_int : kitB "str" "int" = some false := by decide +kernel
theorem kb_str_str : kitB "str" "str" = some true := by decide +kernel
theorem kb_list_dict : kitB "list" "dict" = some false := by decide +kernel
theorem kb_list_list : kitB "list" "list" = some true := by decide +kernel
theorem kb_list_tuple : kitB "list" "tuple" = some false := by decide +kernel
theorem kb_list_bool : kitB "list" "bool" = some false := by decide +kernel
theorem kb_list_int : kitB "list" "int" = some false := by decide +kernel
theorem kb_list_str : kitB "list" "str" = some false := by decide +kernel
theorem kb_tuple_dict : kitB "tuple" "dict" = some false := by decide +kernel
theorem kb_tuple_list : kitB "tuple" "list" = some false := by decide +kernel
theorem kb_tuple_tuple : kitB "tuple" "tuple" = some true := by decide +kernel
theorem kb_tuple_bool : kitB "tuple" "bool" = some false := by decide +kernel
theorem kb_tuple_int : kitB "tuple" "int" = some false := by decide +kernel
theorem kb_tuple_str : kitB "tuple" "str" = some false := by decide +kernel
theorem kb_dict_dict : kitB "dict" "dict" = some true := by decide +kernel
theorem kb_dict_list : kitB "dict" "list" = some false := by decide +kernel
theorem kb_dict_tuple : kitB "dict" "tuple" = some false := by decide +kernel
theorem kb_dict_bool : kitB "dict" "bool" = some false := by decide +kernel
theorem kb_dict_int : kitB "dict" "int" = some false := by decide +kernel
theorem kb_dict_str : kitB "dict" "str" = some false := by decide +kernel
local macro_rules | `(tactic| walk_at "ar") => `(tactic| first | omega | exact rfl | (intro z; cases z))
theorem w_neB {H : Hp} {Q : VK} {b c : Bool} (q : Q (.bl (!decide (b = c))) H) : rNe (.bl b) (.bl c) H Q := by
  refine ⟨rfl, ?_⟩
  have e : decide (V.bl b = V.bl c) = decide (b = c) := decide_eq_decide.mpr ⟨fun h => by injection h, fun h => by rw [h]⟩
  rw [e]; exact q

local macro_rules | `(tactic| walk_at "g1") => `(tactic| first
  | (with_reducible refine w_isi (.base (.int _)) kb_int_dict ?_)
  | (with_reducible refine w_isi (.base (.int _)) kb_int_list ?_)
  | (with_reducible refine w_isi (.base (.int _)) kb_int_tuple ?_)
  | (with_reducible refine w_isi (.base (.int _)) kb_int_bool ?_)
  | (with_reducible refine w_isi (.base (.int _)) kb_int_int ?_)
  | (with_reducible refine w_isi (.base (.int _)) kb_int_str ?_)
  | (with_reducible refine w_isi (.base (.str _)) kb_str_dict ?_)
  | (with_reducible refine w_isi (.base (.str _)) kb_str_list ?_)
  | (with_reducible refine w_isi (.base (.str _)) kb_str_tuple ?_)
  | (with_reducible refine w_isi (.base (.str _)) kb_str_bool ?_)
  | (with_reducible refine w_isi (.base (.str _)) kb_str_int ?_)
  | (with_reducible refine w_isi (.base (.str _)) kb_str_str ?_)
  | ((with_reducible refine w_isi (.base (.lst (xs := ?xx) ?hh)) kb_list_dict ?_); (case hh => assumption))
  | ((with_reducible refine w_isi (.base (.lst (xs := ?xx) ?hh)) kb_list_list ?_); (case hh => assumption))
  | ((with_reducible refine w_isi (.base (.lst (xs := ?xx) ?hh)) kb_list_tuple ?_); (case hh => assumption))
  | ((with_reducible refine w_isi (.base (.lst (xs := ?xx) ?hh)) kb_list_bool ?_); (case hh => assumption))
  | ((with_reducible refine w_isi (.base (.lst (xs := ?xx) ?hh)) kb_list_int ?_); (case hh => assumption))
  | ((with_reducible refine w_isi (.base (.lst (xs := ?xx) ?hh)) kb_list_str ?_); (case hh => assumption))
  | ((with_reducible refine w_isi (.base (.tup (xs := ?xx) ?hh)) kb_tuple_dict ?_); (case hh => assumption))
  | ((with_reducible refine w_isi (.base (.tup (xs := ?xx) ?hh)) kb_tuple_list ?_); (case hh => assumption))
  | ((with_reducible refine w_isi (.base (.tup (xs := ?xx) ?hh)) kb_tuple_tuple ?_); (case hh => assumption))
  | ((with_reducible refine w_isi (.base (.tup (xs := ?xx) ?hh)) kb_tuple_bool ?_); (case hh => assumption))
  | ((with_reducible refine w_isi (.base (.tup (xs := ?xx) ?hh)) kb_tuple_int ?_); (case hh => assumption))
  | ((with_reducible refine w_isi (.base (.tup (xs := ?xx) ?hh)) kb_tuple_str ?_); (case hh => assumption))
  | ((with_reducible refine w_isi (.base (.dK (kvs := ?xx) ?hh)) kb_dict_dict ?_); (case hh => assumption))
  | ((with_reducible refine w_isi (.base (.dK (kvs := ?xx) ?hh)) kb_dict_list ?_); (case hh => assumption))
  | ((with_reducible refine w_isi (.base (.dK (kvs := ?xx) ?hh)) kb_dict_tuple ?_); (case hh => assumption))
  | ((with_reducible refine w_isi (.base (.dK (kvs := ?xx) ?hh)) kb_dict_bool ?_); (case hh => assumption))
  | ((with_reducible refine w_isi (.base (.dK (kvs := ?xx) ?hh)) kb_dict_int ?_); (case hh => assumption))
  | ((with_reducible refine w_isi (.base (.dK (kvs := ?xx) ?hh)) kb_dict_str ?_); (case hh => assumption))
  | (with_reducible refine w_neB ?_))
variable {P : Program} {w : World} {K : PySem.W.Frag} {mg : Str → Option Value} {base : Heap}
/-! ### alike, to a depth -/
inductive Alk : Nat → Hp → V → V → Prop where
  | int {n : Nat} {H : Hp} (i : Int) : Alk n H (.int i) (.int i)
  | str {n : Nat} {H : Hp} (z : Str) : Alk n H (.str z) (.str z)
  | tup {n : Nat} {H : Hp} {a b : Addr} {xs ys : List V} (ha : H a = some (.tup xs)) (hb : H b = some (.tup ys)) (hl : xs.length = ys.length) (h3 : xs.length ≤ 1000) (h : ∀ (i : Nat) (x y : V), xs[i]? = some x → ys[i]? = some y → Alk n H x y) : Alk (n + 1) H (.ref a) (.ref b)
  | lst {n : Nat} {H : Hp} {a b : Addr} {xs ys : List V} (ha : H a = some (.lst xs)) (hb : H b = some (.lst ys)) (hl : xs.length = ys.length) (h3 : xs.length ≤ 1000) (h : ∀ (i : Nat) (x y : V), xs[i]? = some x → ys[i]? = some y → Alk n H x y) : Alk (n + 1) H (.ref a) (.ref b)
  | dct {n : Nat} {H : Hp} {a b : Addr} {ks ls : List (Key × V)} (ha : H a = some (.dK ks)) (hb : H b = some (.dK ls)) (hl : ks.length = ls.length) (h3 : ks.length ≤ 1000) (hk : ∀ (i : Nat) (p q : Key × V), ks[i]? = some p → ls[i]? = some q → ∃ r, p.1 = kR r ∧ q.1 = kR r)
      (h : ∀ (i : Nat) (p q : Key × V), ks[i]? = some p → ls[i]? = some q → Alk n H p.2 q.2) : Alk (n + 3) H (.ref a) (.ref b)
theorem Alk.same {n : Nat} {H H' : Hp} {x y : V} (h : Alk n H x y) (s : Same H H') : Alk n H' x y := by
  induction h with
  | int i => exact .int i
  | str z => exact .str z
  | tup ha hb hl h3 _ ih => exact .tup (s _ _ ha) (s _ _ hb) hl h3 fun i x y h1 h2 => ih i x y h1 h2 s
  | lst ha hb hl h3 _ ih => exact .lst (s _ _ ha) (s _ _ hb) hl h3 fun i x y h1 h2 => ih i x y h1 h2 s
  | dct ha hb hl h3 hk _ ih => exact .dct (s _ _ ha) (s _ _ hb) hl h3 hk fun i x y h1 h2 => ih i x y h1 h2 s
def sp_law_same (n : Nat) (K : PySem.W.Frag) : Sp := fun vs H Q _ => ∃ x y, vs = [x, y] ∧ Alk n H x y ∧ ∀ H', Same H H' → Q (.bl true) H'
def kitL (t : String) : List String → Option Bool
  | [] => some false
  | n :: r => match kitB t n with
    | some true => some true
    | some false => kitL t r
    | none => none
theorem kitL_ok {t : String} : ∀ {ns : List String} {b : Bool}, kitL t ns = some b → PySem.W.kitAny K (.type t) (ns.map Value.type) = some b
  | [], b, h => by cases h; rfl
  | n :: r, b, h => by
    unfold kitL at h
    cases e : kitB t n with
    | none => rw [e] at h; cases h
    | some c =>
      rw [e] at h
      cases c with
      | true =>
        have h : some true = some b := h
        refine kitAny_cons (kit_ty e) (fun z => by cases z) (fun _ => (Option.some.inj h).symm)
      | false => exact kitAny_cons (kit_ty e) (fun _ => kitL_ok h) (fun z => by cases z)
theorem clsv_tys : ∀ ns : List String, Paired ClsV (ns.map V.ty) (ns.map Value.type)
  | [] => .nil
  | n :: r => .cons (.ty n) (clsv_tys r)
theorem w_isTs {H : Hp} {Q : VK} {x : V} {p : Addr} {t : String} {b : Bool} (ns : List String) (hp : H p = some (.tup (ns.map V.ty))) (hx : TyX K H x (.type t)) (hb : kitL t ns = some b) (q : Q (.bl b) H) : rIsiT K [x, .ref p] H Q :=
  ⟨x, p, _, .type t, _, b, rfl, hp, clsv_tys ns, hx, kitL_ok hb, q⟩
theorem w_ixs {H : Hp} {Q : VK} {a : Addr} {xs : List V} {i : Nat} {v : V} (h : SqL K H a xs ∨ SqT K H a xs) (hi : xs[i]? = some v) (q : Q v H) : rIx K (.ref a) (.int (i : Nat)) H Q := by
  rcases h with z | z
  · exact .inl ⟨a, xs, i, v, rfl, rfl, z, atI_nat hi, q⟩
  · exact .inr (.inl ⟨a, xs, i, v, rfl, rfl, z, atI_nat hi, q⟩)
theorem w_ite {A B : Prop} {b : Bool} (h : if b = true then A else B) {c : Bool} (e : c = b) : if c = true then A else B := by rw [e]; exact h

abbrev nm_law_same : List Str := ["_law_found", "_law_due", "_law_k"]
theorem sc_law_same : FnScope nm_law_same ["_law_found", "_law_due"] (defScope s_law_same) := ⟨rfl, rfl, rfl, by decide +kernel, rfl, by decide +kernel, by decide +kernel⟩
def t_same_rest (K : PySem.W.Frag) : TS := (tSeq (tIfS (tOr (tTest (tOp rIsN (tVar 1) (tC .non))) (tTest (tOp rIsN (tVar 0) (tC .non)))) (tRet (tAndV (tOp rIsN (tVar 1) (tC .non)) (tOp rIsN (tVar 0) (tC .non)))) tNext)
    (tSeq (tIfS (tOr (tTest (tOp rNe (tCB (rIsi K) (tCons (tVar 0) (tCons (tC (.ty "bool")) tNil))) (tCB (rIsi K) (tCons (tVar 1) (tCons (tC (.ty "bool")) tNil))))) (tTest (tOp rNe (tCB (rIsi K) (tCons (tVar 0) (tCons (tC (.ty "int")) tNil))) (tCB (rIsi K) (tCons (tVar 1) (tCons (tC (.ty "int")) tNil)))))) (tRet (tC (.bl false))) tNext)
    (tSeq (tIfS (tOr (tTest (tOp rNe (tCB (rIsi K) (tCons (tVar 0) (tCons (tC (.ty "str")) tNil))) (tCB (rIsi K) (tCons (tVar 1) (tCons (tC (.ty "str")) tNil))))) (tB (tCB (rIsiT K) (tCons (tVar 0) (tCons (tTup (tCons (tC (.ty "list")) (tCons (tC (.ty "tuple")) (tCons (tC (.ty "dict")) tNil)))) tNil))))) (tRet (tC (.bl false))) tNext)
    (tRet (tOp rEq (tVar 0) (tVar 1))))))
abbrev t_same1 (K : PySem.W.Frag) : TT := (tB (tCB (rIsi K) (tCons (tVar 1) (tCons (tC (.ty "dict")) tNil))))
abbrev t_same2 (K : PySem.W.Frag) : TT := (tB (tCB (rIsiT K) (tCons (tVar 1) (tCons (tTup (tCons (tC (.ty "list")) (tCons (tC (.ty "tuple")) tNil))) tNil))))
def b_same1 (n : Nat) (K : PySem.W.Frag) : TS := (tRet (tAndV (tCB (rIsi K) (tCons (tVar 0) (tCons (tC (.ty "dict")) tNil))) (tCall (sp_law_same n K) [] E0 (tCons (tListItems (tVar 0)) (tCons (tListItems (tVar 1)) tNil)))))
def b_same2 (n : Nat) (K : PySem.W.Frag) : TS := (tSeq (tIfS (tOr (tTest (tOp rNe (tCB (rIsi K) (tCons (tVar 0) (tCons (tC (.ty "list")) tNil))) (tCB (rIsi K) (tCons (tVar 1) (tCons (tC (.ty "list")) tNil))))) (tTest (tOp rNe (tCB (rIsi K) (tCons (tVar 0) (tCons (tC (.ty "tuple")) tNil))) (tCB (rIsi K) (tCons (tVar 1) (tCons (tC (.ty "tuple")) tNil)))))) (tRet (tC (.bl false))) tNext)
    (tRet (tAndV (tOp rEq (tCB (rLenQ K) (tCons (tVar 0) tNil)) (tCB (rLenQ K) (tCons (tVar 1) tNil))) (tCB (rAll K) (tCons (tLc (iRng1 (tCons (tCB (rLenQ K) (tCons (tVar 1) tNil)) tNil)) (gName 2) tYes (tCall (sp_law_same n K) [] E0 (tCons (tOp (rIx K) (tVar 0) (tVar 2)) (tCons (tOp (rIx K) (tVar 1) (tVar 2)) tNil))) [2]) tNil)))))
theorem w_same_int {H : Hp} {D : Ends} {i : Int} {u : Option V} (k : ∀ H', Same H H' → D.rt (.bl true) H') : t_same_rest K D [some (.int i), some (.int i), u] H := by
  unfold t_same_rest
  walk_at "go"
  rename_i p hp
  refine w_isTs ["list", "tuple", "dict"] upd_same (.base (.int _)) (b := false) (by decide +kernel) ?_
  walk_at "go"
  rw [decide_eq_true rfl]; exact k _ (same_new hp)
theorem w_same_str {H : Hp} {D : Ends} {z : Str} {u : Option V} (k : ∀ H', Same H H' → D.rt (.bl true) H') : t_same_rest K D [some (.str z), some (.str z), u] H := by
  unfold t_same_rest
  walk_at "go"
  rename_i p hp
  refine w_isTs ["list", "tuple", "dict"] upd_same (.base (.str _)) (b := false) (by decide +kernel) ?_
  walk_at "go"
  rw [decide_eq_true rfl]; exact k _ (same_new hp)

theorem c_law_same0 (T : Tx K mg) : C8.Cal P w K mg base 1 "_law_same" (sp_law_same 0 K) [] := by
  refine calG T.f_law_same (fun _ _ _ _ _ _ us hl => match us, hl with | [_, _], _ => rfl) sc_law_same (fun vs H Q E h => ?_) (fun f cdv A outer s H vs Q E hr h => have hu := hu_of hr; ⟨tSeq (tIfS (t_same1 K) tNever tNext) (tSeq (tIfS (t_same2 K) tNever tNext) (t_same_rest K)),
    pss_cons (ps_if (pt_val (pe_callB call_isi (by rfl) T.b_isinstance bt_isinstance (pa_cons (pv 1) (pa_cons (pe_bltn (by rfl) T.b_dict bt_dict rfl) pa_nil)))) pss_never pss_nil) (pss_cons (ps_if (pt_val (pe_callB call_isiT (by rfl) T.b_isinstance bt_isinstance (pa_cons (pv 1) (pa_cons (pe_tup (pa_cons (pe_bltn (by rfl) T.b_list bt_list rfl) (pa_cons (pe_bltn (by rfl) T.b_tuple bt_tuple rfl) pa_nil))) pa_nil)))) pss_never pss_nil) (pss_cons (ps_if (PW.pt (pw_or (pt_cmpR op_isN (pv 1) pe_non (nomark _)) (pw_or1 (pt_cmpR op_isN (pv 0) pe_non (nomark _))))) (pss_one (ps_ret (pe_and (pe_cmpR op_isN (pv 1) pe_non (nomark _)) (pe_one (pe_cmpR op_isN (pv 0) pe_non (nomark _)))))) pss_nil)
      (pss_cons (ps_if (PW.pt (pw_or (pt_cmpR op_ne (pe_callB call_isi (by rfl) T.b_isinstance bt_isinstance (pa_cons (pv 0) (pa_cons (pe_bltn (by rfl) T.b_bool bt_bool rfl) pa_nil))) (pe_callB call_isi (by rfl) T.b_isinstance bt_isinstance (pa_cons (pv 1) (pa_cons (pe_bltn (by rfl) T.b_bool bt_bool rfl) pa_nil))) (nomark _)) (pw_or1 (pt_cmpR op_ne (pe_callB call_isi (by rfl) T.b_isinstance bt_isinstance (pa_cons (pv 0) (pa_cons (pe_bltn (by rfl) T.b_int bt_int rfl) pa_nil))) (pe_callB call_isi (by rfl) T.b_isinstance bt_isinstance (pa_cons (pv 1) (pa_cons (pe_bltn (by rfl) T.b_int bt_int rfl) pa_nil))) (nomark _))))) (pss_one (ps_ret pe_bl)) pss_nil)
      (pss_cons (ps_if (PW.pt (pw_or (pt_cmpR op_ne (pe_callB call_isi (by rfl) T.b_isinstance bt_isinstance (pa_cons (pv 0) (pa_cons (pe_bltn (by rfl) T.b_str bt_str rfl) pa_nil))) (pe_callB call_isi (by rfl) T.b_isinstance bt_isinstance (pa_cons (pv 1) (pa_cons (pe_bltn (by rfl) T.b_str bt_str rfl) pa_nil))) (nomark _)) (pw_or1 (pt_val (pe_callB call_isiT (by rfl) T.b_isinstance bt_isinstance (pa_cons (pv 0) (pa_cons (pe_tup (pa_cons (pe_bltn (by rfl) T.b_list bt_list rfl) (pa_cons (pe_bltn (by rfl) T.b_tuple bt_tuple rfl) (pa_cons (pe_bltn (by rfl) T.b_dict bt_dict rfl) pa_nil)))) pa_nil))))))) (pss_one (ps_ret pe_bl)) pss_nil)
      (pss_one (ps_ret (pe_cmpR op_eq (pv 0) (pv 1) (nomark _)))))))), ?_⟩)
  · obtain ⟨x, y, rfl, _⟩ := h
    rfl
  · obtain ⟨x, y, rfl, hA, k⟩ := h
    cases hA with
    | int i =>
      walk_at "go"
      rename_i p hp
      refine w_isTs ["list", "tuple"] upd_same (.base (.int _)) (b := false) (by decide +kernel) ?_
      walk_at "go"
      exact w_same_int fun H' s => k H' ((same_new hp).trans s)
    | str z =>
      walk_at "go"
      rename_i p hp
      refine w_isTs ["list", "tuple"] upd_same (.base (.str _)) (b := false) (by decide +kernel) ?_
      walk_at "go"
      exact w_same_str fun H' s => k H' ((same_new hp).trans s)
theorem lc_same {n m : Nat} {H : Hp} {Q : VK} {a b : Addr} {xs ys : List V} (hl : xs.length = ys.length) (hm : m = ys.length) (h3 : xs.length ≤ 1000) (hx : SqL K H a xs ∨ SqT K H a xs) (hy : SqL K H b ys ∨ SqT K H b ys) (hA : ∀ (i : Nat) (x y : V), xs[i]? = some x → ys[i]? = some y → Alk n H x y) {u : Option V}
    (hxs : ∀ H', Same H H' → SqL K H' a xs ∨ SqT K H' a xs) (hys : ∀ H', Same H H' → SqL K H' b ys ∨ SqT K H' b ys)
    (k : ∀ H', Same H H' → Q (.bl true) H') : LcG (Itr 0 m) (gName 2) tYes (tCall (sp_law_same n K) [] E0 (tCons (tOp (rIx K) (tVar 0) (tVar 2)) (tCons (tOp (rIx K) (tVar 1) (tVar 2)) tNil))) [2] [some (.ref a), some (.ref b), u] H (fun x H1 => rAll K [x] H1 Q) := by
  subst hm
  have hw := walk_rng (n := ys.length)
  refine lc_val hw (by omega) (fun _ => true) (fun _ => .bl true) (fun _ _ => trivial) ?_ ?_
  · rintro i x H2 H3 R R0 hi s2 ⟨rfl, rfl⟩ k1 k2
    obtain ⟨xi, hxi⟩ : ∃ x, xs[i]? = some x := ⟨_, List.getElem?_eq_getElem (by omega)⟩
    obtain ⟨yi, hyi⟩ : ∃ y, ys[i]? = some y := ⟨_, List.getElem?_eq_getElem hi⟩
    walk_at "go"
    have e1 : rIx K (.ref a) (.int (i : Nat)) H3 = rIx K (.ref a) (.int (i : Nat)) H3 := rfl
    refine w_ixs (hxs _ s2) hxi ?_
    walk_at "go"
    refine w_ixs (hys _ s2) hyi ?_
    walk_at "go"
    refine ⟨xi, yi, rfl, (hA i xi yi hxi hyi).same s2, fun H4 s4 => ?_⟩
    exact k1 H4 rfl s4
  · intro D H2 nD s2 hD
    refine ⟨D, List.replicate ((List.range ys.length).filter fun _ => true).length true, rfl, .inl (.inl ?_), ?_⟩
    · rw [hD]
      congr 2
      rw [List.map_replicate]
      exact (List.eq_replicate_iff.mpr ⟨by rw [List.length_map], fun b hb => let ⟨_, _, e⟩ := List.mem_map.mp hb; e.symm⟩)
    · have e : (List.replicate ((List.range ys.length).filter fun _ => true).length true).all id = true := by simp
      rw [e]; exact k H2 s2
theorem w_same2 {n : Nat} {H1 : Hp} {D : Ends} {a b : Addr} {xs ys : List V} {u : Option V} (hab : (H1 a = some (.lst xs) ∧ H1 b = some (.lst ys)) ∨ (H1 a = some (.tup xs) ∧ H1 b = some (.tup ys))) (hl : xs.length = ys.length) (h3 : xs.length ≤ 1000) (hi1 : ∀ (i : Nat) (x y : V), xs[i]? = some x → ys[i]? = some y → Alk n H1 x y) (k1 : ∀ H', Same H1 H' → D.rt (.bl true) H') :
    b_same2 n K D [some (.ref a), some (.ref b), u] H1 := by
  unfold b_same2
  rcases hab with ⟨ha1, hb1⟩ | ⟨ha1, hb1⟩
  · walk_at "go"
    refine ⟨a, xs, rfl, .inl (.inl (.inl ha1)), ?_⟩
    walk_at "go"
    refine ⟨b, ys, rfl, .inl (.inl (.inl hb1)), ?_⟩
    walk_at "go"
    refine ⟨b, ys, rfl, .inl (.inl (.inl hb1)), ?_⟩
    walk_at "go"
    exact lc_same hl (by simp) h3 (.inl (.inl (.inl ha1))) (.inl (.inl (.inl hb1))) hi1 (fun H' s => .inl (.inl (.inl (s _ _ ha1)))) (fun H' s => .inl (.inl (.inl (s _ _ hb1)))) k1
  · walk_at "go"
    exact lc_same hl (by simp) h3 (.inr (SqT.of ha1)) (.inr (SqT.of hb1)) hi1 (fun H' s => .inr (SqT.of (s _ _ ha1))) (fun H' s => .inr (SqT.of (s _ _ hb1))) k1
theorem c_law_sameS (T : Tx K mg) {n j : Nat} (ih : C8.Cal P w K mg base j "_law_same" (sp_law_same n K) []) : C8.Cal P w K mg base (j + 1) "_law_same" (sp_law_same (n + 1) K) [] := by
  refine calG T.f_law_same (fun _ _ _ _ _ _ us hl => match us, hl with | [_, _], _ => rfl) sc_law_same (fun vs H Q E h => ?_) (fun f cdv A outer s H vs Q E hr h => have hu := hu_of hr; ⟨tSeq (tIfS (t_same1 K) (b_same1 n K) tNext) (tSeq (tIfS (t_same2 K) (b_same2 n K) tNext) (t_same_rest K)),
    pss_cons (ps_if (pt_val (pe_callB call_isi (by rfl) T.b_isinstance bt_isinstance (pa_cons (pv 1) (pa_cons (pe_bltn (by rfl) T.b_dict bt_dict rfl) pa_nil)))) (pss_one (ps_ret (pe_and (pe_callB call_isi (by rfl) T.b_isinstance bt_isinstance (pa_cons (pv 0) (pa_cons (pe_bltn (by rfl) T.b_dict bt_dict rfl) pa_nil))) (pe_one (C8.pe_c ih hr (Nat.le_refl _) (by rfl) (pa_cons (pe_listItems rfl (pv 0) (by rfl) T.b_list bt_list) (pa_cons (pe_listItems rfl (pv 1) (by rfl) T.b_list bt_list) pa_nil))))))) pss_nil) (pss_cons (ps_if (pt_val (pe_callB call_isiT (by rfl) T.b_isinstance bt_isinstance (pa_cons (pv 1) (pa_cons (pe_tup (pa_cons (pe_bltn (by rfl) T.b_list bt_list rfl) (pa_cons (pe_bltn (by rfl) T.b_tuple bt_tuple rfl) pa_nil))) pa_nil)))) (pss_cons (ps_if (PW.pt (pw_or (pt_cmpR op_ne (pe_callB call_isi (by rfl) T.b_isinstance bt_isinstance (pa_cons (pv 0) (pa_cons (pe_bltn (by rfl) T.b_list bt_list rfl) pa_nil))) (pe_callB call_isi (by rfl) T.b_isinstance bt_isinstance (pa_cons (pv 1) (pa_cons (pe_bltn (by rfl) T.b_list bt_list rfl) pa_nil))) (nomark _)) (pw_or1 (pt_cmpR op_ne (pe_callB call_isi (by rfl) T.b_isinstance bt_isinstance (pa_cons (pv 0) (pa_cons (pe_bltn (by rfl) T.b_tuple bt_tuple rfl) pa_nil))) (pe_callB call_isi (by rfl) T.b_isinstance bt_isinstance (pa_cons (pv 1) (pa_cons (pe_bltn (by rfl) T.b_tuple bt_tuple rfl) pa_nil))) (nomark _))))) (pss_one (ps_ret pe_bl)) pss_nil)
      (pss_one (ps_ret (pe_and (pe_cmpR op_eq (pe_callB call_len_seq (by rfl) T.b_len bt_len (pa_cons (pv 0) pa_nil)) (pe_callB call_len_seq (by rfl) T.b_len bt_len (pa_cons (pv 1) pa_nil)) (nomark _)) (pe_one (pe_callB (cr_all rfl) (by rfl) T.b_all bt_all (pa_cons (pe_lc (own := [("_law_k", 2)]) rfl sc_law_same.nd (pi_range1 (by rfl) T.b_range (pa_cons (pe_callB call_len_seq (by rfl) T.b_len bt_len (pa_cons (pv 1) pa_nil)) pa_nil)) (blkOk_by (own := [("_law_k", 2)]) (N := nm_law_same) (sc := (defScope s_law_same)) (by decide +kernel)) (fun _ _ _ _ _ => (pg_name (i := 2) sc_law_same.nd rfl (Or.inl rfl) (hf := Or.inr rfl))) (fun _ _ _ _ _ => pts_nil) (fun _ _ _ _ _ => (C8.pe_c ih hr (Nat.le_refl _) (by rfl) (pa_cons (pe_ix ix_seq (pv 0) (pv 2) (fun _ _ => rfl)) (pa_cons (pe_ix ix_seq (pv 1) (pv 2) (fun _ _ => rfl)) pa_nil))))) pa_nil))))))) pss_nil) (pss_cons (ps_if (PW.pt (pw_or (pt_cmpR op_isN (pv 1) pe_non (nomark _)) (pw_or1 (pt_cmpR op_isN (pv 0) pe_non (nomark _))))) (pss_one (ps_ret (pe_and (pe_cmpR op_isN (pv 1) pe_non (nomark _)) (pe_one (pe_cmpR op_isN (pv 0) pe_non (nomark _)))))) pss_nil)
      (pss_cons (ps_if (PW.pt (pw_or (pt_cmpR op_ne (pe_callB call_isi (by rfl) T.b_isinstance bt_isinstance (pa_cons (pv 0) (pa_cons (pe_bltn (by rfl) T.b_bool bt_bool rfl) pa_nil))) (pe_callB call_isi (by rfl) T.b_isinstance bt_isinstance (pa_cons (pv 1) (pa_cons (pe_bltn (by rfl) T.b_bool bt_bool rfl) pa_nil))) (nomark _)) (pw_or1 (pt_cmpR op_ne (pe_callB call_isi (by rfl) T.b_isinstance bt_isinstance (pa_cons (pv 0) (pa_cons (pe_bltn (by rfl) T.b_int bt_int rfl) pa_nil))) (pe_callB call_isi (by rfl) T.b_isinstance bt_isinstance (pa_cons (pv 1) (pa_cons (pe_bltn (by rfl) T.b_int bt_int rfl) pa_nil))) (nomark _))))) (pss_one (ps_ret pe_bl)) pss_nil)
      (pss_cons (ps_if (PW.pt (pw_or (pt_cmpR op_ne (pe_callB call_isi (by rfl) T.b_isinstance bt_isinstance (pa_cons (pv 0) (pa_cons (pe_bltn (by rfl) T.b_str bt_str rfl) pa_nil))) (pe_callB call_isi (by rfl) T.b_isinstance bt_isinstance (pa_cons (pv 1) (pa_cons (pe_bltn (by rfl) T.b_str bt_str rfl) pa_nil))) (nomark _)) (pw_or1 (pt_val (pe_callB call_isiT (by rfl) T.b_isinstance bt_isinstance (pa_cons (pv 0) (pa_cons (pe_tup (pa_cons (pe_bltn (by rfl) T.b_list bt_list rfl) (pa_cons (pe_bltn (by rfl) T.b_tuple bt_tuple rfl) (pa_cons (pe_bltn (by rfl) T.b_dict bt_dict rfl) pa_nil)))) pa_nil))))))) (pss_one (ps_ret pe_bl)) pss_nil)
      (pss_one (ps_ret (pe_cmpR op_eq (pv 0) (pv 1) (nomark _)))))))), ?_⟩)
  · obtain ⟨x, y, rfl, _⟩ := h
    rfl
  · obtain ⟨x, y, rfl, hA, k⟩ := h
    cases hA with
    | int i =>
      walk_at "go"
      rename_i p hp
      refine w_isTs ["list", "tuple"] upd_same (.base (.int _)) (b := false) (by decide +kernel) ?_
      walk_at "go"
      exact w_same_int fun H' s => k H' ((same_new hp).trans s)
    | str z =>
      walk_at "go"
      rename_i p hp
      refine w_isTs ["list", "tuple"] upd_same (.base (.str _)) (b := false) (by decide +kernel) ?_
      walk_at "go"
      exact w_same_str fun H' s => k H' ((same_new hp).trans s)
    | @tup _ _ a b xs ys ha hb hl h3 hi =>
      walk_at "go"
      rename_i p hp
      refine w_isTs ["list", "tuple"] upd_same (.base (.tup (by rw [upd_ne (ne_of_none hb hp)]; exact hb))) (b := true) (by decide +kernel) ?_
      have s1 := same_new (o := .tup [.ty "list", .ty "tuple"]) hp
      refine ⟨true, rfl, ?_⟩
      rw [if_pos rfl]
      exact w_same2 (.inr ⟨s1 _ _ ha, s1 _ _ hb⟩) hl h3 (fun i x y h1 h2 => (hi i x y h1 h2).same s1) fun H' s => k H' (s1.trans s)
    | @lst _ _ a b xs ys ha hb hl h3 hi =>
      walk_at "go"
      rename_i p hp
      have s1 := same_new (o := .tup [.ty "list", .ty "tuple"]) hp
      exact w_same2 (.inl ⟨s1 _ _ ha, s1 _ _ hb⟩) hl h3 (fun i x y h1 h2 => (hi i x y h1 h2).same s1) fun H' s => k H' (s1.trans s)
    | @dct m _ a b ks ls ha hb hl h3 hk hi =>
      walk_at "go"
      unfold b_same1
      walk_at "go"
      refine ⟨.ref a, rfl, a, ks, rfl, ha, fun H1 p1 ts1 s1 np1 nts1 hp1 hl1 hP1 => ?_⟩
      have s1 : Same H H1 := s1
      walk_at "go"
      refine ⟨.ref b, rfl, b, ls, rfl, s1 _ _ hb, fun H2 p2 ts2 s2 np2 nts2 hp2 hl2 hP2 => ?_⟩
      have s2 : Same H1 H2 := s2
      walk_at "go"
      have e1 : ts1.length = ks.length := paired_len hP1
      have e2 : ts2.length = ls.length := paired_len hP2
      refine ⟨.ref p1, .ref p2, rfl, .lst (s2 _ _ hl1) hl2 (by rw [List.length_map, List.length_map]; omega) (by rw [List.length_map]; omega) fun i x y hx hy => ?_, fun H3 s3 => k H3 ((s1.trans s2).trans s3)⟩
      rw [List.getElem?_map] at hx hy
      obtain ⟨t1, h1, rfl⟩ := Option.map_eq_some_iff.mp hx
      obtain ⟨t2, h2, rfl⟩ := Option.map_eq_some_iff.mp hy
      obtain ⟨q1, g1, f1⟩ := LiI.paired_get hP1 h1
      obtain ⟨q2, g2, f2⟩ := LiI.paired_get hP2 h2
      obtain ⟨r, r1, r2⟩ := hk i q1 q2 g1 g2
      refine .tup (s2 _ _ f1) f2 rfl (by show 2 ≤ 1000; decide) fun i' x y hx hy => ?_
      match i' with
      | 0 =>
        obtain rfl := Option.some.inj hx
        obtain rfl := Option.some.inj hy
        rw [r1, r2]; exact .str _
      | 1 =>
        obtain rfl := Option.some.inj hx
        obtain rfl := Option.some.inj hy
        exact (hi i q1 q2 g1 g2).same (s1.trans s2)
      | i' + 2 => cases hx

theorem c_law_same (T : Tx K mg) : ∀ n : Nat, C8.Cal P w K mg base (n + 1) "_law_same" (sp_law_same n K) []
  | 0 => c_law_same0 T
  | n + 1 => c_law_sameS T (c_law_same T n)
end
/-! ## G15 -/
section
set_option maxHeartbeats 2000000
open PySem PySem.Spec PyProof.Rows L2
/-! ### names against the empty list -/
theorem dp_rows {K : PySem.W.Frag} {H : Hp} : ∀ l : List Row, DpAll K H (rowL l) (l.map fun r => .str (S r))
  | [] => .nil
  | r :: l => .cons (.str (S r)) (dp_rows l)
theorem strOk_row {r : Row} (h : ∀ c ∈ r, c < 1000) : PyData.strOk (S r) = true := by
  show (S r).cps.all (· < 0x110000) = true
  rw [← Array.all_toList, show (S r).cps.toList = r from S_list r, List.all_eq_true]
  intro c hc
  have := h c hc
  exact decide_eq_true (by omega)
theorem shaped_rows (l : List Row) (hc : ∀ r ∈ l, ∀ c ∈ r, c < 1000) : SeqAt.shaped (.list (l.map fun r => .str (S r))) = true := by
  have h1 : ∀ l : List Row, PyData.depthAll (l.map fun r => PyData.str (S r)) = 0 := by
    intro l
    induction l with
    | nil => simp [PyData.depthAll]
    | cons a l ih => simp [PyData.depthAll, PyData.depth, ih]
  have h2 : PyData.canLayAll0 (l.map fun r => PyData.str (S r)) = true := by
    induction l with
    | nil => simp [PyData.canLayAll0]
    | cons a l ih =>
      have := strOk_row (hc a List.mem_cons_self)
      simp [PyData.canLayAll0, PyData.canLay0, ih fun r hr => hc r (List.mem_cons_of_mem _ hr), this]
  unfold SeqAt.shaped
  rw [Bool.and_eq_true]
  constructor
  · simp [PyData.canLay0, h2]
  · simp [PyData.depth, h1]
theorem w_neNil {K : PySem.W.Frag} {H : Hp} {Q : VK} {a b : Addr} {l : List Row} (ha : H a = some (.lst (rowL l))) (hb : H b = some (.lst [])) (hc : ∀ r ∈ l, ∀ c ∈ r, c < 1000) (q : Q (.bl (!decide (l = []))) H) : rNeD K (.ref a) (.ref b) H Q := by
  refine ⟨_, _, .lst (.inl (.inl ha)) (dp_rows l), .lst (.inl (.inl hb)) .nil, shaped_rows l hc, shaped_rows [] (fun _ h => absurd h List.not_mem_nil), ?_⟩
  have e : PyData.eqv (.list (l.map fun r => .str (S r))) (.list []) = decide (l = []) := by
    cases l with
    | nil => rfl
    | cons a l => simp [PyData.eqv, PyData.eqvAll]
  rw [e]; exact q
/-! ### the rest of a book, in plain -/
theorem untold_cells {cs : List Cell} {ws : Ws} (h : untoldN cs ws = []) {i : Nat} (hi : i < cs.length) : ∃ a ∈ ws, a.1[i]? ≠ some 46 := by
  unfold untoldN untoldP at h
  rw [List.map_eq_nil_iff, List.filter_eq_nil_iff] at h
  have := h i (List.mem_range.mpr hi)
  simp only [List.all_eq_true, Classical.not_forall] at this
  obtain ⟨a, ha, hn⟩ := this
  exact ⟨a, ha, fun z => hn (by rw [z]; rfl)⟩
theorem untold_nil {cs : List Cell} {ws : Ws} (h : ∀ i, i < cs.length → ∃ a ∈ ws, a.1[i]? ≠ some 46) : untoldN cs ws = [] := by
  unfold untoldN untoldP
  rw [List.map_eq_nil_iff, List.filter_eq_nil_iff]
  intro i hi hz
  obtain ⟨a, ha, hn⟩ := h i (List.mem_range.mp hi)
  have := List.all_eq_true.mp hz a ha
  exact hn (by simpa using this)
theorem low_key {l : List Row} {ws : Ws} {ps : List Nat} (p : l.Perm ((ontoW ws ps).map (·.1))) {a : Row × Nat} (ha : a ∈ ws) : ∃ b ∈ lowOf l (ontoW ws ps), b.1 = cutR a.1 ps := by
  have h1 : cutR a.1 ps ∈ (ontoW ws ps).map (·.1) := by
    unfold ontoW
    exact ((tally_facts _).2.1 _).mpr (List.mem_map.mpr ⟨_, List.mem_map.mpr ⟨a, ha, rfl⟩, rfl⟩)
  have h2 : cutR a.1 ps ∈ (lowOf l (ontoW ws ps)).map (·.1) := by rw [lowOf_keys]; exact p.mem_iff.mpr h1
  obtain ⟨b, hb, e⟩ := List.mem_map.mp h2
  exact ⟨b, hb, e⟩
theorem untold_onto {cs : List Cell} {ws : Ws} {l : List Row} {ps : List Nat} (h : untoldN cs ws = []) (hl : ∀ a ∈ ws, a.1.length = cs.length) (hp : ∀ i ∈ ps, i < cs.length) (p : l.Perm ((ontoW ws ps).map (·.1))) : untoldN (cutC cs ps) (lowOf l (ontoW ws ps)) = [] := by
  refine untold_nil fun j hj => ?_
  rw [cutC_len] at hj
  obtain ⟨a, ha, hn⟩ := untold_cells h (hp ps[j] (List.getElem_mem _))
  obtain ⟨b, hb, e⟩ := low_key p ha
  refine ⟨b, hb, ?_⟩
  rw [e, cutR_get (by rw [hl a ha]; exact hp) (by rw [List.getElem?_eq_getElem hj])]
  exact hn
/-- what the rest at x answers -/
def RestL (ws : Ws) (x : Row) (l : Rs) : Prop := ∀ f : Row, full f = true → x.length = f.length → ov x f = f → valR l (rest f x) = hB ws x f
theorem rest_steady {ws : Ws} {x : Row} {l : List Row} {r : Rs} (hW : WOk x.length ws) (p : l.Perm ((ontoW ws (dotsP x)).map (·.1))) (hS : SteadyL (dotsP x).length (lowOf l (ontoW ws (dotsP x))) r) : RestL ws x r := by
  intro f hf lf hxf
  rw [hB_rest hW p lf hxf]
  have hfull : full (rest f x) = true := by
    rw [rest_cut lf.symm, ← abv_full hxf lf]; exact hf
  have hlen : (rest f x).length = (dotsP x).length := by rw [rest_cut lf.symm, cutR_len]
  by_cases h : hB (lowOf l (ontoW ws (dotsP x))) (blankR (dotsP x).length) (rest f x) = 0
  · rw [h]
    unfold valR
    rw [look_none fun z => ((hS.key _).mp z).2.2 h]
    rfl
  · obtain ⟨a, h1, h2, h3⟩ := val_mem ((hS.key (rest f x)).mpr ⟨hlen, hfull, h⟩)
    rw [h3, hS.val a h1, h2]
theorem rest_nil {f x : Row} (h : full x = true) (l : x.length = f.length) : rest f x = [] := by
  rw [rest_cut l.symm, dotsP_nil.mpr h]; rfl
theorem rest_full {ws : Ws} {x : Row} (h : full x = true) : RestL ws x [([], 1)] := by
  intro f hf lf hxf
  rw [hB_rest0 h lf hxf, rest_nil h lf]
  rfl
end
/-! ## F32 -/
section
set_option maxHeartbeats 2000000
open PySem PySem.Spec PyProof.Rows L2


variable {P : Program} {w : World} {K : PySem.W.Frag} {mg : Str → Option Value} {base : Heap}
/-- a book and what is known of it -/
structure BkAll (cs : List Cell) (ss : List Row) (ws : Ws) (R : List Row) : Prop where
  hk : CellsOk cs
  hs : SeedsOk cs ss
  hf : Few cs.length ss
  hw : WOk cs.length ws
  un : untoldN cs ws = []
  few : R.length ≤ 20
  bl : blankR cs.length ∈ R
  cl : ∀ q ∈ R, ∀ a ∈ ws, ov q a.1 ∈ R
  rl : ∀ r ∈ R, r.length = cs.length
  sub : ∀ a ∈ ws, a.1 ∈ R
theorem WOk.bok {n : Nat} {ws : Ws} (h : WOk n ws) : BOk n ws := ⟨h.ne, h.few, h.nd, h.len, fun a ha => by have := h.val a ha; omega⟩
theorem BkAll.bk {cs : List Cell} {ss : List Row} {ws : Ws} {R : List Row} (h : BkAll cs ss ws R) : BkOk cs.length ws R :=
  ⟨h.hk.one, h.hw.bok, fun q hq hf => leaves_pos h.hw.len (fun a ha => (h.hw.val a ha).1) h.un hq hf, h.few, h.bl, h.cl, h.sub, h.rl⟩
def sp_law_rest (K : PySem.W.Frag) : Sp := fun vs H Q _ => ∃ p a bp cs ss rs ws R x, vs = [.ref p, .ref a, .str (S x)] ∧ BookAt K H p bp ws ∧ BandAt K H bp cs ss rs ∧ CellsAt H a cs ∧ BkAll cs ss ws R ∧ x.length = cs.length ∧
  ∀ (d : Addr) (H' : Hp) (l : Rs), Same H H' → H d = none → RD H' d l → RestL ws x l → Q (.ref d) H'
abbrev nm_law_rest : List Str := ["_law_book", "_law_cells_here", "_law_x", "_law_names", "_law_at"]
theorem sc_law_rest : FnScope nm_law_rest ["_law_book", "_law_cells_here", "_law_x"] (defScope s_law_rest) := ⟨rfl, rfl, rfl, by decide +kernel, rfl, by decide +kernel, by decide +kernel⟩
abbrev t_law_rest (K : PySem.W.Frag) : TS := (tSeq (tAsg (tLc (iRng1 (tCons (tCB (rLenQ K) (tCons (tVar 1) tNil)) tNil)) (gName 4) (tTest (tOp rEq (tOp rIxS (tVar 2) (tVar 4)) (tC (.str ".")))) (tOp (rIxT K) (tOp (rIxL K) (tVar 1) (tVar 4)) (tC (.int 0))) [4]) (gName 3))
    (tRet (tIf (tTest (tOp (rNeD K) (tVar 3) (tLst tNil))) (tCall (sp_steady_shares K) [] E0 (tCons (tMeth (He.ga K "Book") "onto" (sp_Book_onto K) [] E0 (tVar 0) (tCons (tVar 3) tNil)) tNil)) (tDisp [((tC (.str "")), (tTup (tCons (tC (.int 1)) (tCons (tC (.int 1)) tNil))))]))))
theorem c_law_rest (T : Tx K mg) : C8.Cal P w K mg base 13 "_law_rest" (sp_law_rest K) [] := by
  refine calG T.f_law_rest (fun _ _ _ _ _ _ us hl => match us, hl with | [_, _, _], _ => rfl) sc_law_rest (fun vs H Q E h => ?_) (fun f cdv A outer s H vs Q E hr h => have hu := hu_of hr; ⟨t_law_rest K, (pss_cons (ps_setLc (i := 3) (own := [("_law_at", 4)]) rfl sc_law_rest.nd rfl rfl (sw_true rfl rfl rfl (by decide +kernel)) (pi_range1 (by rfl) T.b_range (pa_cons (pe_callB call_len_seq (by rfl) T.b_len bt_len (pa_cons (pv 1) pa_nil)) pa_nil)) (blkOk_by (own := [("_law_at", 4)]) (N := nm_law_rest) (sc := (defScope s_law_rest)) (by decide +kernel)) (fun _ _ _ _ _ => (pg_name (i := 4) sc_law_rest.nd rfl (Or.inl rfl) (hf := Or.inr rfl))) (fun _ _ _ _ _ => (pts_one (pt_cmpR op_eq (pe_ix ix_str (pv 2) (pv 4) (fun _ _ => rfl)) pe_str (nomark _)))) (fun _ _ _ _ _ => (pe_ix ix_tup (pe_ix ix_list (pv 1) (pv 4) (fun _ _ => rfl)) pe_int (fun _ _ => rfl))))
      (pss_one (ps_ret (pe_ifExp (pt_cmpR (op_neD hr.units) (pv 3) (pe_lst pa_nil) (nomark _)) (C8.pe_c (c_steady_shares T) hr (by decide) (by rfl) (pa_cons (C8.pe_mt (m_Book_onto T) hr (by decide) (pv 0) (pa_cons (pv 3) pa_nil)) pa_nil)) (pe_disp (pps_cons pe_str (pe_tup (pa_cons pe_int (pa_cons pe_int pa_nil))) pps_nil) (by rfl) (by rfl) (fun z => by cases z) (by decide)))))), ?_⟩)
  · obtain ⟨p, a, bp, cs, ss, rs, ws, R, x, rfl, _⟩ := h
    rfl
  · obtain ⟨p, a, bp, cs, ss, rs, ws, R, x, rfl, hW, hBn, hC, hB, hx, k⟩ := h
    have hn6 := hB.hk.few
    have hCq : SqL K H a (cs.map fun c => .ref c.p) := .inl (.inl hC.l)
    walk_at "go"
    refine lc_valL (List.range cs.length) (fun i => .str (S (nameAt cs i))) (fun i => x[i]? == some 46) (by rw [List.length_range]; exact walk_rng) (by rw [List.length_range]; omega) (fun _ _ => trivial) ?_ ?_
    · rintro i c v H2 H3 R0 R1 hc s2 ⟨rfl, rfl⟩ k1 k2
      obtain ⟨hi, rfl⟩ := range_some hc
      have h1 : x[c]? = some (x[c]'(by omega)) := by simp [hx ▸ hi]
      have hC2 : SqL K H3 a (cs.map fun c => .ref c.p) := .inl (.inl (s2 _ _ hC.l))
      have hc1 : cs[c]? = some cs[c] := by simp [hi]
      have hcn : nameAt cs c = cs[c].nm := by unfold nameAt; rw [List.getElem?_map, hc1]; rfl
      walk_at "go"
      refine w_dec (fun e => ?_) (fun e => ?_)
      · walk_at "go"
        refine w_ixL (xs := cs.map fun c => .ref c.p) hC2 (by rw [List.getElem?_map, hc1]; rfl) ?_
        have h4 := ((hC.c cs[c] (List.getElem_mem _)).same s2)
        unfold CellOk at h4
        walk_at "go"
        rw [← hcn]
        exact k1 _ (by rw [h1, e]; rfl) (Same.refl _)
      · exact k2 _ (by rw [h1]; simp [e]) (Same.refl _)
    · intro D H2 nD s2 hD
      have hdp : ((List.range cs.length).filter fun i => x[i]? == some 46) = dotsP x := by unfold dotsP; rw [hx]
      have hD' : H2 D = some (.lst (rowL (namesOf cs ((List.range cs.length).filter fun i => x[i]? == some 46)))) := by
        rw [hD]
        unfold namesOf
        show _ = some (HO.lst (List.map _ (List.map _ _)))
        rw [List.map_map]
        rfl
      have hsm : ∀ r ∈ namesOf cs ((List.range cs.length).filter fun i => x[i]? == some 46), ∀ c ∈ r, c < 1000 := fun r hr c hc => by
        obtain ⟨i, hi, rfl⟩ := List.mem_map.mp hr
        have hi2 := List.mem_range.mp (List.mem_filter.mp hi).1
        rw [nameAt_cell hi2] at hc
        have := (hB.hk.names _ (cellAt_mem hi2)).2.2 c hc
        omega
      walk_at "go"
      rename_i q nq
      refine w_neNil (by rw [upd_ne (ne_of_none hD' nq)]; exact hD') upd_same hsm ?_
      have s3 := s2.trans (same_new (o := .lst []) nq)
      have hD3 := same_new (o := .lst []) nq _ _ hD'
      generalize upd H2 q (.lst []) = H3 at s3 hD3 ⊢
      walk_at "go"
      have hnl : (namesOf cs ((List.range cs.length).filter fun i => x[i]? == some 46) = []) ↔ dotsP x = [] := by
        rw [hdp]; unfold namesOf; exact List.map_eq_nil_iff
      refine w_ndec (fun e => ?_) (fun e => ?_)
      · have hne : ((List.range cs.length).filter fun i => x[i]? == some 46) ≠ [] := by rw [hdp]; exact fun z => e (hnl.mpr z)
        have hWb := hW
        obtain ⟨dx, fs, d, h1, h2, h3, hd, h5, h6, h7, h8⟩ := hW
        have h13 := s3 _ _ h1
        walk_at "go"
        refine ⟨p, D, bp, cs, ss, rs, ws, _, rfl, hWb.same s3, hBn.same s3, hB.hk, hB.hs, hB.hf, hB.hw, hD3, hne, fun q2 bq H4 l ss' rs' s4 nq2 hB4 lp ls hK4 => ?_⟩
        walk_at "go"
        rw [hdp] at hB4 lp hK4
        have hltx : ∀ i ∈ dotsP x, i < cs.length := fun i hi => by have := dotsP_lt i hi; omega
        have hW2 : WOk x.length ws := by rw [hx]; exact hB.hw
        have hO := lowOf_ok lp (ontoW_BOk hW2 (dotsP x))
        have hcl := cut_Clo hW2.len (fun r hr => by rw [hx]; exact hB.rl r hr) lp hB.few (by rw [hx]; exact hB.bl) hB.cl
        have hpl : (dotsP x).length ≤ 6 := by
          unfold dotsP
          have := List.length_filter_le (fun k => x[k]? == some 46) (List.range x.length)
          rw [List.length_range] at this
          omega
        have hp1 : 1 ≤ (dotsP x).length := List.length_pos_iff.mpr fun z => e (hnl.mpr z)
        refine ⟨q2, bq, lowOf l (ontoW ws (dotsP x)), cutC cs (dotsP x), ss', rs', R.map (fun r => cutR r (dotsP x)), rfl, hK4, hB4, by rw [cutC_len]; exact hp1, by rw [cutC_len]; exact hpl, by rw [cutC_len]; exact hO, untold_onto hB.un hB.hw.len hltx lp, ?_, fun d5 H5 r s5 nd5 hR5 hS5 => ?_⟩
        · rw [cutC_len]; exact ⟨hcl.1, hcl.2.1, hcl.2.2⟩
        · rw [cutC_len] at hS5
          refine k d5 H5 r ((s3.trans s4).trans s5) ?_ hR5 (rest_steady hW2 lp hS5)
          cases e : H d5 with
          | none => rfl
          | some o => have := (s3.trans s4) _ _ e; rw [nd5] at this; cases this
      · have hfx : full x = true := dotsP_nil.mp (hnl.mp e)
        walk_at "go"
        rename_i p1 np1 p2 np2
        have hne : p2 ≠ p1 := fun z => by rw [z, upd_same] at np2; cases np2
        have hrd : RD (upd (upd (upd H3 p1 (.dK [])) p2 (.tup [.int 1, .int 1])) p1 (.dK (mergeK [] [(kR [], V.ref p2)]))) p1 [([], 1)] := by
          refine ⟨_, upd_same, .cons ⟨rfl, p2, rfl, ?_⟩ .nil⟩
          unfold Rt
          rw [upd_ne hne]
          exact upd_same
        have n0 : H p1 = none := by
          cases e : H p1 with
          | none => rfl
          | some o => have := s3 _ _ e; rw [np1] at this; cases this
        refine ⟨by rw [upd_ne hne.symm]; exact upd_same, [(kR [], V.ref p2)], ?_, by show 1 ≤ 15; decide, ?_⟩
        · show [(V.str (Str.ofString ""), V.ref p2)] = [(V.str (S []), V.ref p2)]
          rw [lit_nil]
        · exact k p1 _ [([], 1)] (same_mut ((s3.trans (same_new np1)).trans (same_new np2)) n0) n0 hrd (rest_full hfx)
end
/-! ## G16 -/
section
set_option maxHeartbeats 2000000
open PySem PySem.Spec PyProof.Rows L2
/-! ### all but some stays -/
def SB (l : List Addr) (H H' : Hp) : Prop := ∀ b o, b ∉ l → H b = some o → H' b = some o
theorem SB.refl {l : List Addr} {H : Hp} : SB l H H := fun _ _ _ h => h
theorem SB.trans {l : List Addr} {H1 H2 H3 : Hp} (a : SB l H1 H2) (b : SB l H2 H3) : SB l H1 H3 := fun x o h k => b x o h (a x o h k)
theorem SB.of {l : List Addr} {H H' : Hp} (s : Same H H') : SB l H H' := fun b o _ h => s b o h
theorem SB.mut {l : List Addr} {H H' : Hp} {p : Addr} {o : HO} (s : SB l H H') (hp : p ∈ l) : SB l H (upd H' p o) := fun b u hb h => by
  rw [upd_ne (fun z => hb (by rw [z]; exact hp))]; exact s b u hb h
theorem SB.new {l : List Addr} {H H' : Hp} {p : Addr} {o : HO} (s : SB l H H') (hp : H' p = none) : SB l H (upd H' p o) := fun b u hb h => by
  have := s b u hb h
  rw [upd_ne (ne_of_none this hp)]; exact this
theorem SB.more {l m : List Addr} {H H' : Hp} (s : SB l H H') (h : ∀ a ∈ l, a ∈ m) : SB m H H' := fun b o hb k => s b o (fun z => hb (h b z)) k
theorem RD.sb {l : List Addr} {H H' : Hp} {d : Addr} {r : Rs} (h : RD H d r) (s : SB l H H') (hd : d ∉ l) (hl : ∀ a ∈ l, ∀ xs, H a ≠ some (.tup xs)) : RD H' d r := by
  obtain ⟨kvs, h1, h2⟩ := h
  refine ⟨kvs, s _ _ hd h1, Paired.mapP h2 fun a kv z => ⟨z.1, ?_⟩⟩
  obtain ⟨p, k1, k2⟩ := z.2
  exact ⟨p, k1, s _ _ (fun hm => hl p hm _ k2) k2⟩
theorem sb_upd {H : Hp} {p : Addr} {o : HO} : SB [p] H (upd H p o) := SB.refl.mut List.mem_cons_self
theorem nin1 {a p : Addr} (h : a ≠ p) : a ∉ [p] := by rw [List.mem_singleton]; exact h
theorem ntup1 {H : Hp} {p : Addr} {o : HO} (h : H p = some o) (n : ∀ xs, o ≠ .tup xs) : ∀ a ∈ [p], ∀ xs, H a ≠ some (.tup xs) := fun a ha xs z => by
  rw [List.mem_singleton.mp ha, h] at z
  exact n xs (Option.some.inj z)
theorem mvs_cons (b : Row × Nat) (l : Ws) (q : Row) : mvs (b :: l) q = if ov q b.1 = q then mvs l q else (ov q b.1, b.2) :: mvs l q := by
  unfold mvs
  rw [List.filter_cons]
  by_cases e : ov q b.1 = q
  · rw [if_pos e, if_neg (by simp [e])]
  · rw [if_neg e, if_pos (by simp [e]), List.map_cons]
theorem mem_leaves {ws : Ws} {q : Row} {b : Row × Nat} (hb : b ∈ ws) (h : ov q b.1 ≠ q) : b.2 ≤ leaves ws q := by
  unfold leaves
  have hm : b ∈ ws.filter fun a => !decide (ov q a.1 = q) := List.mem_filter.mpr ⟨hb, by simp [h]⟩
  have : ∀ (l : Ws), b ∈ l → b.2 ≤ (l.map (·.2)).sum := by
    intro l hl
    induction l with
    | nil => cases hl
    | cons c l ih =>
      rw [List.map_cons, List.sum_cons]
      rcases List.mem_cons.mp hl with z | z
      · rw [← z]; omega
      · have := ih z; omega
  exact this _ hm
theorem RD.ext {H H' : Hp} {d : Addr} {r : Rs} (h : RD H d r) (s : LamX.ExtN H H') : RD H' d r := by
  obtain ⟨kvs, h1, h2⟩ := h
  refine ⟨kvs, s _ _ h1 (fun ps z => by cases z), Paired.mapP h2 fun a kv z => ⟨z.1, ?_⟩⟩
  obtain ⟨p, k1, k2⟩ := z.2
  exact ⟨p, k1, s _ _ k2 (fun ps z => by cases z)⟩
theorem RD.len {H : Hp} {d : Addr} {r : Rs} {kvs : List (Key × V)} (h : RD H d r) (e : H d = some (.dK kvs)) : kvs.length = r.length := by
  obtain ⟨k2, h1, h2⟩ := h
  rw [e] at h1
  obtain rfl : kvs = k2 := by injection h1 with h1; injection h1
  exact (Paired.length h2).symm
theorem ext_mut {H H' : Hp} {p : Addr} {o : HO} (s : LamX.ExtN H H') (h : Fr0 H p) : LamX.ExtN H (upd H' p o) := fun b u e n => by
  have hb : b ≠ p := fun z => by
    rw [z] at e
    obtain ⟨ps, rfl⟩ := h _ e
    exact n ps rfl
  rw [upd_ne hb]; exact s b u e n
theorem tabs_sb {T : List (Addr × Str)} {l : List Addr} {H H' : Hp} (t : LamX.Tabs T H) (s : SB l H H') (hl : ∀ a ∈ l, ∃ kvs, H a = some (.dK kvs)) : LamX.Tabs T H' := fun p hp => by
  have nin : ∀ {a : Addr} {o : HO}, H a = some o → (∀ kvs, o ≠ .dK kvs) → a ∉ l := fun {a o} e n hm => by
    obtain ⟨kvs, z⟩ := hl a hm
    rw [e] at z
    exact n kvs (Option.some.inj z)
  obtain ⟨ps, h1, h2, h3⟩ := t p hp
  refine ⟨ps, s _ _ (nin h1 (fun kvs z => by cases z)) h1, h2, fun pos cv hc => ?_⟩
  obtain ⟨c, e1, e2⟩ := h3 pos cv hc
  exact ⟨c, e1, s _ _ (nin e2 (fun kvs z => by unfold LamX.CodeO at z; cases z)) e2⟩
/-! ### fractions -/
theorem qmul_raw (a : Rat) (x L : Nat) : qmul a.num a.den (x : Int) L = a * ((x : Rat) / (L : Rat)) := by
  unfold qmul
  rw [← Rat.mkRat_mul_mkRat, Rat.mkRat_self, mk_div]
theorem num_leM {a : Rat} {M : Nat} (h0 : 0 ≤ a) (h1 : a ≤ (M : Rat)) : a.num.natAbs ≤ M * a.den := by
  have hn : 0 ≤ a.num := Rat.num_nonneg.mpr h0
  have h2 := (Rat.le_iff (a := a) (b := (M : Rat))).mp h1
  have e1 : ((M : Rat)).num = (M : Int) := rfl
  have e2 : ((M : Rat)).den = 1 := rfl
  rw [e1, e2] at h2
  have h3 : a.num ≤ (M : Int) * (a.den : Int) := by simpa using h2
  have h4 : ((a.num.natAbs : Nat) : Int) ≤ ((M * a.den : Nat) : Int) := by
    rw [Int.natCast_mul]
    omega
  exact_mod_cast h4
theorem num_zero {a : Rat} : a.num = 0 ↔ a = 0 := Rat.num_eq_zero
theorem div_le1 {x L : Nat} (hL : 0 < L) (h : x ≤ L) : (x : Rat) / (L : Rat) ≤ 1 := by
  have hl : (0 : Rat) < (L : Rat) := by exact_mod_cast hL
  have hx : (x : Rat) ≤ (L : Rat) := by exact_mod_cast h
  have h5 := Rat.inv_pos.mpr hl
  have h6 : (x : Rat) * (L : Rat)⁻¹ ≤ (L : Rat) * (L : Rat)⁻¹ := Rat.mul_le_mul_of_nonneg_right hx (by grind)
  rw [Rat.mul_inv_cancel _ (by grind)] at h6
  rw [Rat.div_def]; exact h6
theorem div_leF {F L : Nat} (hL : 0 < L) : (F : Rat) / (L : Rat) ≤ (F : Rat) := by
  have hl : (1 : Rat) ≤ (L : Rat) := by exact_mod_cast hL
  have h0 : (0 : Rat) ≤ (F : Rat) := by exact_mod_cast Nat.zero_le F
  have hp : (0 : Rat) < (L : Rat) := by grind
  have h1 := div_nn F L
  have h2 : (L : Rat) * ((F : Rat) / (L : Rat)) = F := by rw [Rat.mul_comm]; exact Rat.div_mul_cancel (by grind)
  have h3 : (1 : Rat) * ((F : Rat) / (L : Rat)) ≤ (L : Rat) * ((F : Rat) / (L : Rat)) := Rat.mul_le_mul_of_nonneg_right hl h1
  rw [h2, Rat.one_mul] at h3
  exact h3
/-- the stay at a row: its bounds -/
theorem stay_ok {c0 : Rat} {F lv N : Nat} (h0 : 0 ≤ c0) (h1 : c0 ≤ 1) (d0 : Dv c0 N) (hN : 0 < N) (hlv : 0 < lv) (hF : F < 40000000) (hl : (N * lv).log2 < 800) : (c0 * ((F : Rat) / (lv : Rat))).den.log2 < 800 ∧ (c0 * ((F : Rat) / (lv : Rat))).num.natAbs.log2 < 900 := by
  have hM : 0 < N * lv := Nat.mul_pos hN hlv
  have hd := d0.part F hlv
  have e1 := hd.den hM
  have e2 := log2_mono e1
  have p1 := div_nn F lv
  have p2 := div_leF (F := F) hlv
  have h3 : 0 ≤ c0 * ((F : Rat) / (lv : Rat)) := Rat.mul_nonneg h0 p1
  have h4 : c0 * ((F : Rat) / (lv : Rat)) ≤ (F : Rat) := by
    have : c0 * ((F : Rat) / (lv : Rat)) ≤ 1 * ((F : Rat) / (lv : Rat)) := Rat.mul_le_mul_of_nonneg_right h1 p1
    grind
  have h5 := num_leM h3 h4
  have h6 : F * (c0 * ((F : Rat) / (lv : Rat))).den ≤ 40000000 * (N * lv) := Nat.mul_le_mul (by omega) e1
  have h7 := log2_mono (Nat.le_trans h5 h6)
  have h8 := log2_mulle 40000000 (N * lv) (by decide) hM
  have h9 : (40000000 : Nat).log2 < 30 := by decide +kernel
  omega
theorem stay_zero {c0 : Rat} {F lv : Nat} (hF : 0 < F) (hlv : 0 < lv) : c0 * ((F : Rat) / (lv : Rat)) = 0 ↔ c0 = 0 := by
  have h1 : (0 : Rat) < (F : Rat) := by exact_mod_cast hF
  have h2 : (0 : Rat) < (lv : Rat) := by exact_mod_cast hlv
  have h3 : (0 : Rat) < (F : Rat) / (lv : Rat) := by
    rw [Rat.div_def]
    exact Rat.mul_pos h1 (Rat.inv_pos.mpr h2)
  constructor
  · intro h
    rcases Rat.mul_eq_zero.mp h with z | z
    · exact z
    · rw [z] at h3; exact absurd h3 (Rat.lt_irrefl)
  · intro h; rw [h, Rat.zero_mul]
theorem stay_part {c0 : Rat} {F lv x : Nat} (hF : 0 < F) : c0 * ((F : Rat) / (lv : Rat)) * ((x : Rat) / (F : Rat)) = c0 * ((x : Rat) / (lv : Rat)) := by
  have h1 : (F : Rat) ≠ 0 := by
    have : (0 : Rat) < (F : Rat) := by exact_mod_cast hF
    grind
  have h2 := Rat.mul_inv_cancel (F : Rat) h1
  rw [Rat.div_def, Rat.div_def, Rat.div_def]
  grind
/-! ### the walk by size, in plain -/
def c0f (r : Row) : Row × Rat := (r, if told r = 0 then 1 else 0)
theorem told_blank {n : Nat} {r : Row} (hl : r.length = n) : told r = 0 ↔ r = blankR n := by
  unfold told blankR
  have h1 := List.count_le_length (l := r) (a := 46)
  constructor
  · intro h
    have h2 : r.count 46 = r.length := by omega
    rw [← hl]
    exact List.eq_replicate_iff.mpr ⟨rfl, fun b hb => (List.count_eq_length.mp h2 b hb).symm⟩
  · intro h
    rw [h]; simp
theorem tot_c0 {n : Nat} (φ : Row → Rat) : ∀ {rs : List Row}, rs.Nodup → (∀ r ∈ rs, r.length = n) → tot φ [] (rs.map c0f) = if blankR n ∈ rs then φ (blankR n) else 0
  | [], _, _ => by rw [List.map_nil, tot_nil, if_neg List.not_mem_nil]
  | r :: rs, nd, hl => by
    obtain ⟨h1, h2⟩ := List.nodup_cons.mp nd
    have ih := tot_c0 φ h2 fun x hx => hl x (List.mem_cons_of_mem _ hx)
    have hr := told_blank (hl r List.mem_cons_self)
    rw [List.map_cons, tot_cons, ih, if_neg List.not_mem_nil]
    show (if told r = 0 then (1 : Rat) else 0) * φ r + _ = _
    by_cases e : r = blankR n
    · rw [if_pos (hr.mpr e), if_neg (by rw [← e]; exact h1), if_pos (by rw [e]; exact List.mem_cons_self), e]
      grind
    · rw [if_neg (fun z => e (hr.mp z))]
      by_cases k : blankR n ∈ rs
      · rw [if_pos k, if_pos (List.mem_cons_of_mem _ k)]; grind
      · rw [if_neg k, if_neg (fun z => (List.mem_cons.mp z).elim (fun w => e w.symm) k)]; grind
theorem chi_start {n : Nat} {ws : Ws} {rs : List Row} (nd : rs.Nodup) (hl : ∀ r ∈ rs, r.length = n) (hb : blankR n ∈ rs) : ChI n ws [] (rs.map c0f) 1 where
  nd := by rw [List.map_map]; exact (List.map_id' rs).symm ▸ nd
  len a ha := by obtain ⟨r, hr, rfl⟩ := List.mem_map.mp ha; exact hl r hr
  nn a ha := by
    obtain ⟨r, hr, rfl⟩ := List.mem_map.mp ha
    show (0 : Rat) ≤ if told r = 0 then 1 else 0
    split <;> grind
  har φ _ := by rw [tot_c0 φ nd hl, if_pos hb]
  df q h := absurd h List.not_mem_nil
  dv a ha := by
    obtain ⟨r, hr, rfl⟩ := List.mem_map.mp ha
    show Dv (if told r = 0 then 1 else 0) 1
    split
    · exact Dv.int 1 1
    · exact Dv.zero
theorem ins_lot : ∀ {x q : Row}, x.length = q.length → ins x (lot q) = decide (ov q x = q) := by
  intro x q h
  rw [Bool.eq_iff_iff, decide_eq_true_iff]
  unfold ins
  rw [List.all_eq_true]
  constructor
  · intro k
    apply List.ext_getElem?
    intro i
    rw [ov_get]
    by_cases hi : i < x.length
    · have k := k i (List.mem_range.mpr hi)
      have h1 : x[i]? = some x[i] := by simp [hi]
      have h2 : q[i]? = some (q[i]'(by omega)) := by simp [show i < q.length by omega]
      rw [h1, h2]
      show some (if q[i]'(by omega) = 46 then x[i] else q[i]'(by omega)) = _
      by_cases e : q[i]'(by omega) = 46
      · rw [if_pos e]
        rw [h1] at k
        unfold lot at k
        rw [List.getElem?_map, h2] at k
        simp only [Option.map_some, e] at k
        simp at k
        rw [k, e]
      · rw [if_neg e]
    · have h1 : x[i]? = none := by simp; omega
      have h2 : q[i]? = none := by simp; omega
      rw [h2]; rfl
  · intro k i hi
    have hi := List.mem_range.mp hi
    have h1 : x[i]? = some x[i] := by simp [hi]
    have h2 : q[i]? = some (q[i]'(by omega)) := by simp [show i < q.length by omega]
    have k2 : (ov q x)[i]? = q[i]? := by rw [k]
    rw [ov_get, h1, h2] at k2
    have k2 : some (if q[i]'(by omega) = 46 then x[i] else q[i]'(by omega)) = some (q[i]'(by omega)) := k2
    rw [h1]
    unfold lot
    rw [List.getElem?_map, h2]
    by_cases e : q[i]'(by omega) = 46
    · rw [if_pos e] at k2
      have k2 := Option.some.inj k2
      rw [k2, e]; rfl
    · simp [e]
theorem faces_leaves {ws : Ws} {q : Row} (hl : ∀ a ∈ ws, a.1.length = q.length) : ((ws.filter fun a => ins a.1 (lot q)).map (·.2)).sum + leaves ws q = facesW ws := by
  have e : (ws.filter fun a => ins a.1 (lot q)) = ws.filter fun a => decide (ov q a.1 = q) := List.filter_congr fun a ha => ins_lot (hl a ha)
  rw [e]
  unfold leaves facesW
  exact (filter_sum _ ws).symm
theorem chm_skip {n : Nat} {ws : Ws} {D : List Row} {c : Rs} {N : Nat} {q : Row} {m m' : Ws} (I : ChM n ws D c N q 0 m) : ChM n ws D c N q 0 m' := ⟨I.nd, I.len, I.nn, fun φ hφ => by
  have := I.har φ hφ
  grind, I.dv⟩
end
/-! ## G17 -/
section
set_option maxHeartbeats 2000000
open PySem PySem.Spec PyProof.Rows L2
/-! ### all but the tables of code objects stays -/
theorem CellsAt.ext {H H' : Hp} {a : Addr} {cs : List Cell} (h : CellsAt H a cs) (s : LamX.ExtN H H') : CellsAt H' a cs :=
  ⟨s _ _ h.l (fun ps z => by cases z), fun c hc => s _ _ (h.c c hc) (fun ps z => by cases z)⟩
theorem BandAt.ext {K : PySem.W.Frag} {H H' : Hp} {p : Addr} {cs : List Cell} {ss rs : List Row} (h : BandAt K H p cs ss rs) (s : LamX.ExtN H H') : BandAt K H' p cs ss rs := by
  obtain ⟨dx, fs, a, b, k, h1, h2, h3, h4, h5, h6, h7, h8⟩ := h
  exact ⟨dx, fs, a, b, k, s _ _ h1 (fun ps z => by cases z), h2, h3, h4, h5.ext s, s _ _ h6 (fun ps z => by cases z), s _ _ h7 (fun ps z => by cases z), h8⟩
theorem BookAt.ext {K : PySem.W.Frag} {H H' : Hp} {p bp : Addr} {ws : Ws} (h : BookAt K H p bp ws) (s : LamX.ExtN H H') : BookAt K H' p bp ws := by
  obtain ⟨dx, fs, d, h1, h2, h3, h4, h5⟩ := h
  exact ⟨dx, fs, d, s _ _ h1 (fun ps z => by cases z), h2, h3, s _ _ h4 (fun ps z => by cases z), h5⟩
/-- what the law has made -/
structure LawSt (K : PySem.W.Frag) (H : Hp) (a c hp bk : Addr) (cs : List Cell) (ss rs rsh : List Row) (ws : Ws) : Prop where
  cells : CellsAt H a cs
  rows : H c = some (.lst (rowL rs))
  band : BandAt K H hp cs ss rsh
  book : BookAt K H bk hp ws
theorem LawSt.same {K : PySem.W.Frag} {H H' : Hp} {a c hp bk : Addr} {cs : List Cell} {ss rs rsh : List Row} {ws : Ws} (h : LawSt K H a c hp bk cs ss rs rsh ws) (s : Same H H') : LawSt K H' a c hp bk cs ss rs rsh ws :=
  ⟨h.cells.same s, s _ _ h.rows, h.band.same s, h.book.same s⟩
theorem LawSt.ext {K : PySem.W.Frag} {H H' : Hp} {a c hp bk : Addr} {cs : List Cell} {ss rs rsh : List Row} {ws : Ws} (h : LawSt K H a c hp bk cs ss rs rsh ws) (s : LamX.ExtN H H') : LawSt K H' a c hp bk cs ss rs rsh ws :=
  ⟨h.cells.ext s, s _ _ h.rows (fun ps z => by cases z), h.band.ext s, h.book.ext s⟩
theorem few_of {n : Nat} {ss rs : List Row} (h : RowsOk n ss rs) : Few n ss := ⟨rs, h.few, fun r hr => (h.mem r).mpr hr⟩
theorem bk_all {cs : List Cell} {ss rs : List Row} {ws : Ws} (hk : CellsOk cs) (hs : SeedsOk cs ss) (ro : RowsOk cs.length ss rs) (hw : WOk cs.length ws) (sub : ∀ a ∈ ws, a.1 ∈ rs) (un : untoldN cs ws = []) : BkAll cs ss ws rs := by
  have hsl : ∀ s ∈ ss, s.length = cs.length := fun s h => (hs.fit s h).1
  refine ⟨hk, hs, few_of ro, hw, un, ro.few, (ro.mem _).mpr Prd.nil, fun q hq a ha => (ro.mem _).mpr (Prd.mul hsl ((ro.mem q).mp hq) ((ro.mem _).mp (sub a ha))), fun r hr => Prd.len hsl ((ro.mem r).mp hr), sub⟩
/-- the weights without their common divisor -/
theorem low_wok {n : Nat} {l : List Row} {ws : Ws} (p : l.Perm (ws.map (·.1))) (h : WOk n ws) : WOk n (lowOf l ws) := by
  have b := lowOf_ok p h.bok
  refine ⟨b.ne, b.few, b.nd, b.len, fun a ha => ⟨(b.val a ha).1, ?_⟩⟩
  obtain ⟨r, hr, rfl⟩ := List.mem_map.mp ha
  obtain ⟨c, hc, e⟩ := List.mem_map.mp (p.mem_iff.mp hr)
  show (lookA ws r).getD 0 / gcdW ws ≤ 999
  have e2 : lookA ws r = some c.2 := by rw [← e]; exact look_mem h.nd hc
  rw [e2]
  exact Nat.le_trans (Nat.div_le_self _ _) (h.val c hc).2
theorem low_sub {l : List Row} {ws : Ws} {rs : List Row} (p : l.Perm (ws.map (·.1))) (h : ∀ a ∈ ws, a.1 ∈ rs) : ∀ a ∈ lowOf l ws, a.1 ∈ rs := by
  intro a ha
  obtain ⟨r, hr, rfl⟩ := List.mem_map.mp ha
  obtain ⟨c, hc, e⟩ := List.mem_map.mp (p.mem_iff.mp hr)
  rw [← e]; exact h c hc
/-! ### dicts of ratios, compared -/
theorem alk_rt {H : Hp} {a b : Addr} {q : Rat} (h : Rt H a q) (k : Rt H b q) {n : Nat} : Alk (n + 1) H (.ref a) (.ref b) := by
  refine .tup h k rfl (by simp) fun i x y e1 e2 => ?_
  match i, e1, e2 with
  | 0, e1, e2 =>
    obtain rfl := Option.some.inj e1
    obtain rfl := Option.some.inj e2
    exact .int _
  | 1, e1, e2 =>
    obtain rfl := Option.some.inj e1
    obtain rfl := Option.some.inj e2
    exact .int _
  | i + 2, e1, _ => cases e1
theorem alk_rd {H : Hp} {a b : Addr} {l : Rs} (h : RD H a l) (k : RD H b l) (hl : l.length ≤ 1000) {n : Nat} : Alk (n + 4) H (.ref a) (.ref b) := by
  obtain ⟨ks, h1, h2⟩ := h
  obtain ⟨ls, k1, k2⟩ := k
  have e1 := Paired.length h2
  have e2 := Paired.length k2
  have at_ : ∀ (i : Nat) (p q : Key × V), ks[i]? = some p → ls[i]? = some q → ∃ x : Row × Rat, (p.1 = kR x.1 ∧ RatV H x.2 p.2) ∧ (q.1 = kR x.1 ∧ RatV H x.2 q.2) := by
    intro i p q hp hq
    obtain ⟨hi, _⟩ := List.getElem?_eq_some_iff.mp hp
    have hx : l[i]? = some (l[i]'(by omega)) := List.getElem?_eq_getElem _
    obtain ⟨p', a1, a2⟩ := L2.paired_get h2 hx
    obtain ⟨q', b1, b2⟩ := L2.paired_get k2 hx
    rw [hp] at a1; rw [hq] at b1
    obtain rfl := Option.some.inj a1
    obtain rfl := Option.some.inj b1
    exact ⟨_, a2, b2⟩
  refine Alk.dct (n := n + 1) h1 k1 (by omega) (by omega) (fun i p q hp hq => ?_) (fun i p q hp hq => ?_)
  · obtain ⟨x, h3, h4⟩ := at_ i p q hp hq
    exact ⟨x.1, h3.1, h4.1⟩
  · obtain ⟨x, ⟨_, a, ea, ra⟩, ⟨_, b, eb, rb⟩⟩ := at_ i p q hp hq
    rw [ea, eb]
    exact alk_rt ra rb
theorem steady_one {n : Nat} {ws : Ws} {l l' : Rs} (h : SteadyL n ws l) (k : SteadyL n ws l') : l = l' := by
  have hk : l.map (·.1) = l'.map (·.1) := srt_same h.nd k.nd (fun x => by rw [h.key, k.key]) h.sr k.sr
  have e : ∀ {m : Rs}, SteadyL n ws m → m = (m.map (·.1)).map fun f => (f, hB ws (blankR n) f) := fun {m} hm => by
    rw [List.map_map]
    conv => lhs; rw [← List.map_id m]
    refine List.map_congr_left fun a ha => ?_
    show a = (a.1, _)
    rw [← hm.val a ha]
  rw [e h, e k, hk]
theorem steady_len {n : Nat} {ws : Ws} {R : List Row} (b : BkOk n ws R) {l : Rs} (h : SteadyL n ws l) (hc : ∀ f, f.length = n → full f = true → hB ws (blankR n) f ≠ 0 → f ∈ R) : l.length ≤ 20 := by
  have h1 := nodup_len _ R h.nd fun f hf => by
    obtain ⟨a1, a2, a3⟩ := (h.key f).mp hf
    exact hc f a1 a2 a3
  rw [List.length_map] at h1
  have := b.few
  omega
theorem steady_val {n : Nat} {ws : Ws} {l : Rs} (h : SteadyL n ws l) {f : Row} (hf : f ∈ l.map (·.1)) : valR l f = hB ws (blankR n) f := by
  obtain ⟨a, h1, h2, h3⟩ := val_mem hf
  rw [h3, h.val a h1, h2]
theorem steady_not {n : Nat} {ws : Ws} {l : Rs} (h : SteadyL n ws l) {f : Row} (lf : f.length = n) (ff : full f = true) (hf : f ∉ l.map (·.1)) : hB ws (blankR n) f = 0 := by
  refine Decidable.byContradiction fun z => hf ((h.key f).mpr ⟨lf, ff, z⟩)
theorem rd_none {H : Hp} {d : Addr} {l : Rs} (h : RD H d l) {r : Row} (hr : r ∉ l.map (·.1)) {kvs : List (Key × V)} (e : H d = some (.dK kvs)) : valV kvs (kR r) = none := by
  obtain ⟨kvs', h1, h2⟩ := h.isSome
  rw [e] at h1
  obtain rfl : kvs = kvs' := by injection h1 with h1; injection h1
  have := h2 r
  rw [decide_eq_false hr] at this
  cases z : valV kvs (kR r) with
  | none => rfl
  | some v => rw [z] at this; cases this
theorem valR_none {l : Rs} {r : Row} (h : r ∉ l.map (·.1)) : valR l r = 0 := by
  unfold valR
  rw [look_none h]; rfl
/-! ### the dict of rests -/
def RsD (H : Hp) (pr : Addr) (ws : Ws) (no : List Addr) (X : List Row) : Prop := ∃ kvs, H pr = some (.dK kvs) ∧ kvs.length ≤ X.length ∧ ∀ r ∈ X, ∃ q l, valV kvs (kR r) = some (.ref q) ∧ q ∉ no ∧ RD H q l ∧ RestL ws r l
theorem RsD.sb {H H' : Hp} {pr : Addr} {ws : Ws} {no m : List Addr} {X : List Row} (h : RsD H pr ws no X) (s : SB m H H') (hp : pr ∉ m) (hm : ∀ a ∈ m, a ∈ no) (ht : ∀ a ∈ m, ∀ xs, H a ≠ some (.tup xs)) : RsD H' pr ws no X := by
  obtain ⟨kvs, h1, h2, h3⟩ := h
  refine ⟨kvs, s _ _ hp h1, h2, fun r hr => ?_⟩
  obtain ⟨q, l, a1, a2, a3, a4⟩ := h3 r hr
  exact ⟨q, l, a1, a2, a3.sb s (fun z => a2 (hm _ z)) ht, a4⟩
theorem RsD.put {H : Hp} {pr q : Addr} {ws : Ws} {no : List Addr} {X : List Row} {r : Row} {l : Rs} {kvs : List (Key × V)} (h : RsD H pr ws no X) (e : H pr = some (.dK kvs)) (hq : q ∉ no) (hpr : pr ∈ no) (hR : RD H q l) (hl : RestL ws r l) : RsD (upd H pr (.dK (putK kvs (kR r) (.ref q)))) pr ws no (X ++ [r]) := by
  obtain ⟨kvs', h1, h2, h3⟩ := h
  rw [e] at h1
  obtain rfl : kvs = kvs' := by injection h1 with h1; injection h1
  have st : ∀ {q : Addr} {l : Rs}, q ∉ no → RD H q l → RD (upd H pr (.dK (putK kvs (kR r) (.ref q)))) q l := fun hq h => h.sb sb_upd (nin1 fun z => hq (z ▸ hpr)) (ntup1 e fun xs z => by cases z)
  have st2 : ∀ {q' : Addr} {l : Rs}, q' ∉ no → RD H q' l → RD (upd H pr (.dK (putK kvs (kR r) (.ref q)))) q' l := fun hq h => h.sb sb_upd (nin1 fun z => hq (z ▸ hpr)) (ntup1 e fun xs z => by cases z)
  refine ⟨_, upd_same, ?_, fun x hx => ?_⟩
  · have := length_putK kvs (kR r) (.ref q)
    rw [List.length_append, List.length_singleton]
    omega
  · rw [valV_put]
    by_cases z : x = r
    · rw [z, if_pos rfl]
      exact ⟨q, l, rfl, hq, st2 hq hR, hl⟩
    · rw [if_neg (fun w => z (by
        have := kR_dec x r
        rw [decide_eq_true w] at this
        exact of_decide_eq_true this.symm))]
      rcases List.mem_append.mp hx with w | w
      · obtain ⟨q2, l2, a1, a2, a3, a4⟩ := h3 x w
        exact ⟨q2, l2, a1, a2, st2 a2 a3, a4⟩
      · exact absurd (List.mem_singleton.mp w) z
/-! ### a dict that is locked -/
theorem lock_tup {H : Hp} {d : Addr} {od : Obj} {kvs : List (Key × V)} (hd : H d = some (.dK kvs)) : ∀ a ∈ [d], ∀ xs, H a ≠ some (.tup xs) := ntup1 hd fun xs z => by cases z
theorem unlock {H H' : Hp} {d : Addr} {od : Obj} {kvs : List (Key × V)} {m : List Addr} (hd : H d = some (.dK kvs)) (s : SB m (upd H d (.frz od (.dK kvs))) H') : SB m H (upd H' d (.dK kvs)) := fun b o hb e => by
  by_cases z : b = d
  · rw [z] at e ⊢
    rw [upd_same, ← hd]; exact e
  · rw [upd_ne z]
    exact s _ _ hb (by rw [upd_ne z]; exact e)
/-! ### _law_got(lambda: f(book)) -/
theorem pe_gotX {X : Cx} {x : Str} {p lpos pos p1 p2 p3 : Pos} {params : Arguments} {scope : Scope} {P1 P2 : Addr} (T : Tx X.K X.mg) (U : TxU X.K X.mg) (L : LTb X.K X.mg X.base P1 P2) (c : CalX X.prog X.w X.K X.mg X.base 5 x (sp_untold_x X.K)) (hcode : X.env.code = .ref (codeA X.K "law"))
    (hmT : (P1, X.env.qual ++ "<lambda>") ∈ TTb P1 P2) (hu : ∀ p ∈ TTb P1 P2, p.1 = P1 → p.2 = X.env.qual ++ "<lambda>") (hr : Room 7 X.A) (hg : Gl X "_law_got") (hL : LamX.lamSB X.env.scope scope = true) (hx : scope.names.lookup x = some .globalImplicit) (hb : scope.names.lookup ("_law_book" : Str) = some .free)
    (hN : X.N[20]? = some ("_law_book" : Str)) (hdef : defaultsOf params X.env = ([], []))
    (hbind : ∀ (q : Str) (cl : List (Str × Addr)) (pm cv ctv : Value), bindArgs (PySem.W.kla_fn "<lambda>" q params (.Call (.Name x p1) [.Name "_law_book" p2] [] p3) scope cl pm cv ctv) ⟨[], []⟩ = pure []) (hdb : (x == ("__debug__" : Str)) = false) :
    PE X (.Call (.Name "_law_got" p) [.Lambda params (.Call (.Name x p1) [.Name "_law_book" p2] [] p3) scope lpos] [] pos) (LamX.tLam (TTb P1 P2) (TTgot X.K) fun E => tCall (sp_untold_x X.K) [] E (tCons (tVar 20) tNil)) := by
  obtain ⟨gm, fd, F⟩ := T.f_law_got
  obtain ⟨oc, od, dV, kV, doc, pm, an, cdv, ct, osl, e, lk, hcd, _, _⟩ := id F.ex
  subst e
  refine LamX.pe_lamcall (k := 5) (Ng := nm_law_got) (a := "_law_ask") hg gm F.kp lk hcd (F.bindsN (fun _ _ _ _ _ _ us hl => match us, hl with | [_], _ => rfl)) sc_law_got rfl (.inl rfl) (got_gives T U (hr.mono (by decide))) L.t1 hcode hmT hu hr (LamX.lamS_by hL) hdef hbind (fun A outer s H E f c' hr' => ?_)
  exact pe_cx c hr' (by decide) (passes_call (takes_of rfl rfl rfl rfl) fun _ _ _ _ h => h) hx (pa_cons (pe_var (i := 20) hN (.inr (.inr hb)) (by decide) (by decide)) pa_nil) hdb
end
/-! ## G18 -/
section
set_option maxHeartbeats 2000000
open PySem PySem.Spec PyProof.Rows L2
theorem wsum_zeroL {φ : Row → Rat} : ∀ {l : Ws}, (∀ a ∈ l, φ a.1 = 0) → wsum φ l = 0
  | [], _ => rfl
  | a :: l, h => by
    rw [wsum_cons, wsum_zeroL fun b hb => h b (List.mem_cons_of_mem _ hb), h a List.mem_cons_self]
    grind
theorem hB_mem {ws : Ws} {n : Nat} {R : List Row} (hl : ∀ a ∈ ws, a.1.length = n) (hc : ∀ q ∈ R, ∀ a ∈ ws, ov q a.1 ∈ R) (f : Row) :
    ∀ (k : Nat) (q : Row), q.length = n → dots q ≤ k → q ∈ R → hB ws q f ≠ 0 → f ∈ R := by
  intro k
  have h01 : ∀ (q : Row), q ∈ R → full q = true → hB ws q f ≠ 0 → f ∈ R := fun q hm h hz => by
    rw [hB_full h] at hz
    by_cases e : q = f
    · rw [← e]; exact hm
    · rw [if_neg e] at hz; exact absurd rfl hz
  induction k with
  | zero =>
    intro q lq hd hm
    exact h01 q hm ((full_dots q).mpr (by omega))
  | succ k ih =>
    intro q lq hd hm hz
    cases h1 : full q with
    | true => exact h01 q hm h1 hz
    | false =>
      by_cases hk : dots q ≤ k
      · exact ih q lq hk hm hz
      · refine Decidable.byContradiction fun hn => hz ?_
        rw [hB_eq hl lq h1, wsum_zeroL fun a ha => ?_]
        · rw [Rat.div_def]; grind
        · have h3 := mvs_dots hl lq a ha
          obtain ⟨b, hb, rfl⟩ := List.mem_map.mp ha
          exact Decidable.byContradiction fun hz2 => hn (ih _ h3.1 (by have := h3.2; omega) (hc q hm b (List.mem_filter.mp hb).1) hz2)
theorem BkOk.mem {n : Nat} {ws : Ws} {R : List Row} (h : BkOk n ws R) {f : Row} (hz : hB ws (blankR n) f ≠ 0) : f ∈ R :=
  hB_mem h.bok.len h.cl f _ _ (h.rl _ h.bl) (Nat.le_refl _) h.bl hz
theorem SteadyL.few {n : Nat} {ws : Ws} {R : List Row} {l : Rs} (h : SteadyL n ws l) (b : BkOk n ws R) : l.length ≤ 20 := steady_len b h fun f _ _ hz => b.mem hz
theorem BkOk.clo {n : Nat} {ws : Ws} {R : List Row} (h : BkOk n ws R) : Clo n ws R := ⟨h.few, h.bl, h.cl⟩
theorem first_few {n : Nat} {ws : Ws} (h : BOk n ws) : (firstD n ws).length ≤ 40 := by
  unfold firstD
  rw [List.length_map]
  exact Nat.le_trans (List.length_filter_le _ _) h.few
/-! ### the law's state -/
structure Wk (K : PySem.W.Frag) (P1 P2 : Addr) (H0 H : Hp) (a c hp bk wd : Addr) (cs : List Cell) (ss rs rsh : List Row) (ws : Ws) : Prop where
  st : LawSt K H0 a c hp bk cs ss rs rsh ws
  ex : LamX.ExtN H0 H
  tb : LamX.Tabs (TTb P1 P2) H
  nw : H0 wd = none
  w : H wd = some (.dK (WD ws))
theorem Wk.now {K : PySem.W.Frag} {P1 P2 : Addr} {H0 H : Hp} {a c hp bk wd : Addr} {cs : List Cell} {ss rs rsh : List Row} {ws : Ws} (W : Wk K P1 P2 H0 H a c hp bk wd cs ss rs rsh ws) : LawSt K H a c hp bk cs ss rs rsh ws := W.st.ext W.ex
theorem Wk.same {K : PySem.W.Frag} {P1 P2 : Addr} {H0 H H' : Hp} {a c hp bk wd : Addr} {cs : List Cell} {ss rs rsh : List Row} {ws : Ws} (W : Wk K P1 P2 H0 H a c hp bk wd cs ss rs rsh ws) (s : Same H H') : Wk K P1 P2 H0 H' a c hp bk wd cs ss rs rsh ws :=
  ⟨W.st, W.ex.trans (LamX.ExtN.of s), W.tb.ext s, W.nw, s _ _ W.w⟩
theorem Wk.ext {K : PySem.W.Frag} {P1 P2 : Addr} {H0 H H' : Hp} {a c hp bk wd : Addr} {cs : List Cell} {ss rs rsh : List Row} {ws : Ws} (W : Wk K P1 P2 H0 H a c hp bk wd cs ss rs rsh ws) (s : LamX.ExtN H H') (t : LamX.Tabs (TTb P1 P2) H') : Wk K P1 P2 H0 H' a c hp bk wd cs ss rs rsh ws :=
  ⟨W.st, W.ex.trans s, t, W.nw, s _ _ W.w (fun ps z => by cases z)⟩
/-- a dict of ours is written -/
theorem Wk.put {K : PySem.W.Frag} {P1 P2 : Addr} {H0 H : Hp} {a c hp bk wd p : Addr} {cs : List Cell} {ss rs rsh : List Row} {ws : Ws} {kvs kvs' : List (Key × V)} (W : Wk K P1 P2 H0 H a c hp bk wd cs ss rs rsh ws) (n : H0 p = none) (e : H p = some (.dK kvs)) (ne : wd ≠ p) : Wk K P1 P2 H0 (upd H p (.dK kvs')) a c hp bk wd cs ss rs rsh ws :=
  ⟨W.st, ext_mut W.ex (fun o z => by rw [n] at z; cases z), tabs_sb W.tb sb_upd (fun b hb => by rw [List.mem_singleton.mp hb]; exact ⟨_, e⟩), W.nw, by rw [upd_ne ne]; exact W.w⟩
theorem SB.none {H0 H H' : Hp} {m : List Addr} (s : SB m H H') (e : LamX.ExtN H0 H) (h : ∀ a ∈ m, H0 a = none) : LamX.ExtN H0 H' := fun b o hb n => s b o (fun z => by rw [h b z] at hb; cases hb) (e b o hb n)
theorem atI_lastL {α : Type} {xs : List α} {v : α} (h : xs.getLast? = some v) : atI xs (-1) = some v := by
  obtain ⟨ys, rfl⟩ := List.getLast?_eq_some_iff.mp h
  exact atI_last ys v
/-! ### a walked dict of ratios -/
theorem walk_keysRD {d : Addr} {od : Obj} {l : Rs} {kvs : List (Key × V)} {H0 : Hp} (h : Paired (fun (a : Row × Rat) (kv : Key × V) => kv.1 = kR a.1 ∧ RatV H0 a.2 kv.2) l kvs) : Walk (Itk d od kvs) l.length (fun H => H d = some (.frz od (.dK kvs))) (fun i H v H' => H' = H ∧ ∃ a, l[i]? = some a ∧ v = .str (S a.1)) := by
  have hw := walk_keys (d := d) (o := od) (kvs := kvs)
  have hl : kvs.length = l.length := (Paired.length h).symm
  rw [hl] at hw
  refine hw.mono (fun _ h => h) fun i H v H' hi _ y => ?_
  obtain ⟨h1, k, u, h2, h3⟩ := y
  obtain ⟨hk, _⟩ := List.getElem?_eq_some_iff.mp h2
  have hx : l[i]? = some (l[i]'(by omega)) := List.getElem?_eq_getElem _
  obtain ⟨kv, a1, a2⟩ := L2.paired_get h hx
  rw [h2] at a1
  obtain rfl := Option.some.inj a1
  refine ⟨h1, _, hx, ?_⟩
  rw [h3, show k = kR _ from a2.1]; rfl
theorem w_dget2RD {H : Hp} {d z : Addr} {l : Rs} {r : Row} {R : Option V → Prop} (h : RD H d l) (hz : Rt H z 0) (k : ∀ o : Option V, (∃ p, o.getD (.ref z) = .ref p ∧ Rt H p (valR l r)) → R o) : ∃ o, DGet H d (.str (S r)) o ∧ R o := by
  by_cases hr : r ∈ l.map (·.1)
  · obtain ⟨kvs, p, e1, e2, e3⟩ := h.look hr
    exact ⟨_, .inl ⟨kvs, kR r, .inl e1, rfl, rfl⟩, k _ ⟨p, by rw [e2]; rfl, e3⟩⟩
  · obtain ⟨kvs, e1, _⟩ := id h
    exact ⟨_, .inl ⟨kvs, kR r, .inl e1, rfl, rfl⟩, k _ ⟨z, by rw [rd_none h hr e1]; rfl, by rw [valR_none hr]; exact hz⟩⟩
theorem first_nd {n : Nat} {ws : Ws} (h : (ws.map (·.1)).Nodup) : ((firstD n ws).map (·.1)).Nodup := by
  unfold firstD
  rw [List.map_map]
  exact h.sublist (List.filter_sublist.map _)
theorem valR_nd {l : Rs} {a : Row × Rat} (nd : (l.map (·.1)).Nodup) (h : a ∈ l) : valR l a.1 = a.2 := by
  unfold valR
  rw [look_mem nd h]; rfl
/-- one deed's part of a share -/
theorem BkOk.piece {n : Nat} {ws : Ws} {R : List Row} (h : BkOk n ws R) {a : Row × Rat} (ha : a ∈ firstD n ws) (f : Row) : (a.2 * hB ws a.1 f).den.log2 < 800 ∧ (a.2 * hB ws a.1 f).num.natAbs.log2 < 800 := by
  have hbl : (blankR n).length = n := by unfold blankR; simp
  have hlv : 0 < leaveW n ws := by rw [← leaves_blank h.bok.len h.bok.nd]; exact h.lp _ hbl (blank_full h.n1)
  obtain ⟨k1, _, _, k4, k5, ⟨w, k2⟩, _⟩ := h.first ha
  obtain ⟨p1, p2⟩ := h.prod n
  obtain ⟨b1, b2, b3⟩ := h.hb k1 f
  have hdv : Dv (a.2 * hB ws a.1 f) (prodL ws R n * leaveW n ws) := by
    have := b3.part w hlv
    rw [k2, Rat.mul_comm]; exact this
  have hlog : (prodL ws R n * leaveW n ws).log2 < 800 := by
    have h2 := log2_mulle (prodL ws R n) (leaveW n ws) p1 hlv
    have h3 : (leaveW n ws) ≤ 40000000 := by
      have := h.bok.faces
      unfold leaveW
      omega
    have h4 := log2_mono h3
    have h5 : (40000000 : Nat).log2 < 30 := by decide +kernel
    omega
  have h1 : a.2 * hB ws a.1 f ≤ 1 := by
    have : a.2 * hB ws a.1 f ≤ 1 * hB ws a.1 f := Rat.mul_le_mul_of_nonneg_right k5 b1
    grind
  exact dv_log (Rat.mul_nonneg k4 b1) h1 (Nat.mul_pos p1 hlv) hlog hdv
theorem BkOk.hlog {n : Nat} {ws : Ws} {R : List Row} (h : BkOk n ws R) {q : Row} (hq : q ∈ R) (f : Row) : (hB ws q f).den.log2 < 800 ∧ (hB ws q f).num.natAbs.log2 < 800 := by
  obtain ⟨p1, p2⟩ := h.prod n
  obtain ⟨b1, b2, b3⟩ := h.hb hq f
  exact dv_log b1 b2 p1 (by omega) b3
theorem RsD.look {H : Hp} {pr : Addr} {ws : Ws} {no : List Addr} {X : List Row} {r : Row} (h : RsD H pr ws no X) (hr : r ∈ X) : ∃ kvs q l, H pr = some (.dK kvs) ∧ valV kvs (kR r) = some (.ref q) ∧ RD H q l ∧ RestL ws r l := by
  obtain ⟨kvs, h1, _, h3⟩ := h
  obtain ⟨q, l, a1, _, a3, a4⟩ := h3 r hr
  exact ⟨kvs, q, l, h1, a1, a3, a4⟩
theorem RsD.ext {H H' : Hp} {pr : Addr} {ws : Ws} {no : List Addr} {X : List Row} (h : RsD H pr ws no X) (s : LamX.ExtN H H') : RsD H' pr ws no X := by
  obtain ⟨kvs, h1, h2, h3⟩ := h
  refine ⟨kvs, s _ _ h1 (fun ps z => by cases z), h2, fun r hr => ?_⟩
  obtain ⟨q, l, a1, a2, a3, a4⟩ := h3 r hr
  exact ⟨q, l, a1, a2, a3.ext s, a4⟩
theorem RsD.same {H H' : Hp} {pr : Addr} {ws : Ws} {no : List Addr} {X : List Row} (h : RsD H pr ws no X) (s : Same H H') : RsD H' pr ws no X := h.ext (LamX.ExtN.of s)
/-- the deeds but the blank row -/
def nonB (n : Nat) (ws : Ws) : Ws := ws.filter fun a => !decide (a.1 = blankR n)
theorem firstD_nonB (n : Nat) (ws : Ws) : firstD n ws = (nonB n ws).map fun a => (a.1, mkRat a.2 (leaveW n ws)) := rfl
theorem first_keys (n : Nat) (ws : Ws) : (firstD n ws).map (·.1) = (nonB n ws).map (·.1) := by
  rw [firstD_nonB, List.map_map]; rfl
theorem nonB_take {n : Nat} {ws : Ws} {i : Nat} {b : Row × Nat} (h : ws[i]? = some b) : nonB n (ws.take (i + 1)) = nonB n (ws.take i) ++ (if b.1 = blankR n then [] else [b]) := by
  unfold nonB
  rw [List.take_succ, h, List.filter_append]
  by_cases e : b.1 = blankR n
  · rw [if_pos e]; simp [e]
  · rw [if_neg e]; simp [e]
theorem leaveW_blank {n : Nat} {ws : Ws} (nd : (ws.map (·.1)).Nodup) : facesW ws - (lookA ws (blankR n)).getD 0 = leaveW n ws := rfl
end
/-! ## F33 -/
section
set_option maxHeartbeats 2000000
open PySem PySem.Spec PyProof.Rows L2


variable {P : Program} {w : World} {K : PySem.W.Frag} {mg : Str → Option Value} {base : Heap}
structure WkI (n : Nat) (ws : Ws) (rs D : List Row) (c : Rs) (N : Nat) : Prop where
  ci : ChI n ws D c N
  n0 : 0 < N
  nb : N ≤ 40000000 ^ D.length
  ky : c.map (·.1) = rs
  dn : D.Nodup
  ds : ∀ r ∈ D, r ∈ rs
theorem w_gt4T {i j l m : Nat} {T : Addr} {x y z w : V} {σ : L2.St} {H : Hp} {R : L2.St → Hp → Prop} (e : H T = some (.tup [x, y, z, w])) (h : R ((((σ.set i (some x)).set j (some y)).set l (some z)).set m (some w)) H) : gTup K 4 (gCons (gName i) (gCons (gName j) (gCons (gName l) (gCons (gName m) gNil)))) (.ref T) σ H R :=
  ⟨T, [x, y, z, w], rfl, SqT.of e, rfl, x, [y, z, w], rfl, y, [z, w], rfl, z, [w], rfl, w, [], rfl, rfl, h⟩
def sp_law_walk (P1 P2 : Addr) (K : PySem.W.Frag) : Sp := fun vs H Q _ => ∃ a d rs ws, ∃ n : Nat, vs = [.ref a, .ref d] ∧ LamX.Tabs (TTb P1 P2) H ∧ H a = some (.lst (rowL rs)) ∧ H d = some (.dK (WD ws)) ∧ rs.Nodup ∧ n ≤ 6 ∧ BkOk n ws rs ∧
  ∀ (p ps pt : Addr) (H' : Hp) (l : Rs), LamX.ExtN H H' → LamX.Tabs (TTb P1 P2) H' → H' p = some (.tup [.ref ps, .ref pt]) → RD H' pt l → SteadyL n ws l → Q (.ref p) H'
theorem wk_put {D : Ends} {H : Hp} {ws : Ws} {pc ps d : Addr} {od : Obj} {c st : Rs} {q r xr : Row} {xw F lv N : Nat} {c0 : Rat} {v0 v4 : Option V} (hc : RD H pc c) (hs : RD H ps st) (hd : H d = some (.frz od (.dK (WD ws)))) (hcl : c.length ≤ 20)
    (hr : r ∈ c.map (·.1)) (hq : q ∈ st.map (·.1)) (hx : lookA ws xr = some xw) (hsv : valR st q = c0 * ((F : Rat) / (lv : Rat))) (h1 : 0 ≤ valR c r ∧ valR c r ≤ 1) (h0 : 0 ≤ c0 ∧ c0 ≤ 1) (d1 : Dv (valR c r) (N * lv)) (d0 : Dv c0 N) (hN : 0 < N) (hlv : 0 < lv) (hl : (N * lv).log2 < 800)
    (hF : 0 < F) (hFm : F < 40000000) (hxl : xw ≤ lv) (hlF : lv ≤ F)
    (k : ∀ H', RD H' pc (putA c r (valR c r + c0 * ((xw : Rat) / (lv : Rat)))) → SB [pc] H H' → D.nx [v0, some (.ref d), some (.ref pc), some (.ref ps), v4, some (.int F), some (.str (S q)), some (.str (S xr)), some (.str (S r))] H') :
    (sDPut (tVar 2) (tVar 8) (tCall (sp_law_add K) [] E0 (tCons (tDGet (tVar 2) (tVar 8)) (tCons (tCall (sp_law_by K) [] E0 (tCons (tDGet (tVar 3) (tVar 6)) (tCons (tTup (tCons (tDGet (tVar 1) (tVar 7)) (tCons (tVar 5) tNil))) tNil))) tNil)))) D [v0, some (.ref d), some (.ref pc), some (.ref ps), v4, some (.int F), some (.str (S q)), some (.str (S xr)), some (.str (S r))] H := by
  have hM : 0 < N * lv := Nat.mul_pos hN hlv
  obtain ⟨kv1, p1, e1, l1, r1⟩ := hc.look hr
  obtain ⟨kv2, p2, e2, l2, r2⟩ := hs.look hq
  rw [hsv] at r2
  have hst := stay_ok h0.1 h0.2 d0 hN hlv hFm hl
  have hFl : F.log2 < 30 := by
    have h2 : F.log2 ≤ (40000000 : Nat).log2 := log2_mono (by omega)
    have h3 : (40000000 : Nat).log2 < 30 := by decide +kernel
    omega
  have hxF : xw.log2 < 30 := by
    have h2 : xw.log2 ≤ (40000000 : Nat).log2 := log2_mono (by omega)
    have h3 : (40000000 : Nat).log2 < 30 := by decide +kernel
    omega
  walk_at "go"
  refine ⟨pc, _, rfl, .inl ⟨kv1, kR r, .inl e1, rfl, l1.symm⟩, ?_⟩
  walk_at "go"
  refine ⟨ps, _, rfl, .inl ⟨kv2, kR q, .inl e2, rfl, l2.symm⟩, ?_⟩
  walk_at "go"
  refine w_dgetR (l := ws) (.inr ⟨od, hd⟩) hx ?_
  walk_at "go"
  rename_i p3 np3
  have s1 := same_new (o := .tup [.int (xw : Nat), .int (F : Nat)]) np3
  refine ⟨p2, p3, _, _, xw, F, rfl, s1 _ _ r2, upd_same, Rat.den_pos _, hF, by omega, by rw [Int.natAbs_natCast]; omega, by omega, fun p4 H2 np4 s2 r4 => ?_⟩
  rw [qmul_raw, stay_part hF] at r4
  have s2 := s1.trans s2
  walk_at "go"
  have g1 := dv_log h1.1 h1.2 hM hl d1
  have hxp : 0 ≤ c0 * ((xw : Rat) / (lv : Rat)) ∧ c0 * ((xw : Rat) / (lv : Rat)) ≤ 1 := by
    have a1 := div_nn xw lv
    have a2 := div_le1 hlv hxl
    refine ⟨Rat.mul_nonneg h0.1 a1, ?_⟩
    have : c0 * ((xw : Rat) / (lv : Rat)) ≤ 1 * ((xw : Rat) / (lv : Rat)) := Rat.mul_le_mul_of_nonneg_right h0.2 a1
    grind
  have g2 := dv_log hxp.1 hxp.2 hM hl (d0.part xw hlv)
  refine ⟨p1, p4, _, _, _, _, rfl, s2 _ _ r1, r4, Rat.den_pos _, Rat.den_pos _, by omega, by omega, by omega, fun p5 H3 np5 s3 r5 => ?_⟩
  rw [qadd_eq] at r5
  have s3 := s2.trans s3
  walk_at "go"
  refine ⟨pc, _, rfl, .inl ⟨kv1, kR r, s3 _ _ e1, rfl, ?_, rfl⟩, ?_⟩
  · rw [hc.len e1]
    exact Nat.lt_of_le_of_lt hcl (by decide)
  · exact k _ ((hc.same s3).put r5 (s3 _ _ e1)) ((SB.of s3).mut List.mem_cons_self)
abbrev nm_law_walk : List Str := ["_law_rows_here", "_law_w", "_law_coming", "_law_stays", "_law_steady", "_law_faces_here", "_law_row", "_law_x", "_law_new"]
theorem sc_law_walk : FnScope nm_law_walk ["_law_rows_here", "_law_w"] (defScope s_law_walk) := ⟨rfl, rfl, rfl, by decide +kernel, rfl, by decide +kernel, by decide +kernel⟩
abbrev t_law_walk (P1 P2 : Addr) (K : PySem.W.Frag) : TS := (tSeq (tAsg (tTup (tCons tDNewK (tCons tDNewK (tCons tDNewK (tCons (tCall (sp_law_faces K) [] E0 (tCons (tVar 1) tNil)) tNil))))) (gTup K 4 (gCons (gName 2) (gCons (gName 3) (gCons (gName 4) (gCons (gName 5) gNil))))))
    (tSeq (tFor (iList K (tVar 0)) (gName 6) (sDPut (tVar 2) (tVar 6) (tIf (tTest (tOp rEq (tCall (sp_law_size K) [] E0 (tCons (tVar 6) tNil)) (tC (.int 0)))) (tTup (tCons (tC (.int 1)) (tCons (tC (.int 1)) tNil))) (tTup (tCons (tC (.int 0)) (tCons (tC (.int 1)) tNil))))))
    (tSeq (tFor (iList K (tCall (sp_law_by_size P1 P2 K) [] E0 (tCons (tVar 0) tNil))) (gName 6) (tIfS (tTest (tOp rInS (tC (.str ".")) (tVar 6))) (tSeq (sDPut (tVar 3) (tVar 6) (tCall (sp_law_by K) [] E0 (tCons (tDGet (tVar 2) (tVar 6)) (tCons (tTup (tCons (tVar 5) (tCons (tOp rSubI (tVar 5) (tCall (sp_law_v K) [] E0 (tCons (tVar 1) (tCons (tCall (sp_law_lot K) [] E0 (tCons (tVar 6) tNil)) tNil)))) tNil))) tNil))))
    (tLock (tFor (iKeysM (tVar 1)) (gName 7) (tSeq (tAsg (tCall (sp_law_over K) [] E0 (tCons (tVar 6) (tCons (tVar 7) tNil))) (gName 8))
    (tIfS (tAnd (tTest (tOp rNe (tVar 8) (tVar 6))) (tTest (tOp rNe (tOp (rIxT K) (tDGet (tVar 3) (tVar 6)) (tC (.int 0))) (tC (.int 0))))) (sDPut (tVar 2) (tVar 8) (tCall (sp_law_add K) [] E0 (tCons (tDGet (tVar 2) (tVar 8)) (tCons (tCall (sp_law_by K) [] E0 (tCons (tDGet (tVar 3) (tVar 6)) (tCons (tTup (tCons (tDGet (tVar 1) (tVar 7)) (tCons (tVar 5) tNil))) tNil))) tNil)))) tNext))))) tNext))
    (tSeq (tFor (iList K (tCB (rSortedS K) (tCons (tVar 0) tNil))) (gName 6) (tIfS (tAnd (tTest (tOp rNotInS (tC (.str ".")) (tVar 6))) (tTest (tOp rNe (tOp (rIxT K) (tDGet (tVar 2) (tVar 6)) (tC (.int 0))) (tC (.int 0))))) (sDPut (tVar 4) (tVar 6) (tDGet (tVar 2) (tVar 6))) tNext))
    (tRet (tTup (tCons (tVar 3) (tCons (tVar 4) tNil))))))))
theorem c_law_walk (T : Tx K mg) {P1 P2 : Addr} (L : LTb K mg base P1 P2) : C8.Cal P w K mg base 6 "_law_walk" (sp_law_walk P1 P2 K) [] := by
  refine calG T.f_law_walk (fun _ _ _ _ _ _ us hl => match us, hl with | [_, _], _ => rfl) sc_law_walk (fun vs H Q E h => ?_) (fun f cdv A outer s H vs Q E hr h => have hu := hu_of hr; ⟨t_law_walk P1 P2 K, (pss_cons (ps_asg (pe_tup (pa_cons pe_dnewK (pa_cons pe_dnewK (pa_cons pe_dnewK (pa_cons (C8.pe_c (c_law_faces T) hr (by decide) (by rfl) (pa_cons (pv 1) pa_nil)) pa_nil))))) (pg_tup rfl (pgs_cons (pg_name (i := 2) sc_law_walk.nd rfl (Or.inl rfl) (hf := Or.inr rfl)) (pgs_cons (pg_name (i := 3) sc_law_walk.nd rfl (Or.inl rfl) (hf := Or.inr rfl)) (pgs_cons (pg_name (i := 4) sc_law_walk.nd rfl (Or.inl rfl) (hf := Or.inr rfl)) (pgs_cons (pg_name (i := 5) sc_law_walk.nd rfl (Or.inl rfl) (hf := Or.inr rfl)) pgs_nil))))))
      (pss_cons (ps_for PassesOwn.never rfl (pi_list (pv 0)) (pg_name (i := 6) sc_law_walk.nd rfl (Or.inl rfl) (hf := Or.inr rfl)) (pss_one (ps_dput hu (pv 2) (pv 6) (pe_ifExp (pt_cmpR op_eq (C8.pe_c (c_law_size T) hr (by decide) (by rfl) (pa_cons (pv 6) pa_nil)) pe_int (nomark _)) (pe_tup (pa_cons pe_int (pa_cons pe_int pa_nil))) (pe_tup (pa_cons pe_int (pa_cons pe_int pa_nil)))) rfl)))
      (pss_cons (ps_for PassesOwn.never rfl (pi_list (C8.pe_c (c_law_by_size T L) hr (by decide) (by rfl) (pa_cons (pv 0) pa_nil))) (pg_name (i := 6) sc_law_walk.nd rfl (Or.inl rfl) (hf := Or.inr rfl)) (pss_one (ps_if (pt_cmpR op_in_sign pe_str (pv 6) rfl) (pss_cons (ps_dput hu (pv 3) (pv 6) (C8.pe_c (c_law_by T) hr (by decide) (by rfl) (pa_cons (pe_dget hu (pv 2) (pv 6) (fun _ _ => rfl)) (pa_cons (pe_tup (pa_cons (pv 5) (pa_cons (pe_op op_sub (pv 5) (C8.pe_c (c_law_v T) hr (by decide) (by rfl) (pa_cons (pv 1) (pa_cons (C8.pe_c (c_law_lot T) hr (by decide) (by rfl) (pa_cons (pv 6) pa_nil)) pa_nil)))) pa_nil))) pa_nil))) rfl)
      (pss_one (ps_lock (ps_for PassesOwn.never rfl (pi_keysM (pv 1)) (pg_name (i := 7) sc_law_walk.nd rfl (Or.inl rfl) (hf := Or.inr rfl)) (pss_cons (ps_set (i := 8) sc_law_walk.nd rfl (Or.inl rfl) (C8.pe_c (c_law_over T) hr (by decide) (by rfl) (pa_cons (pv 6) (pa_cons (pv 7) pa_nil))))
      (pss_one (ps_if (PW.pt (pw_and (pt_cmpR op_ne (pv 8) (pv 6) (nomark _)) (pw_and1 (pt_cmpR op_ne (pe_ix ix_tup (pe_dget hu (pv 3) (pv 6) (fun _ _ => rfl)) pe_int (fun _ _ => rfl)) pe_int (nomark _))))) (pss_one (ps_dput hu (pv 2) (pv 8) (C8.pe_c (c_law_add T) hr (by decide) (by rfl) (pa_cons (pe_dget hu (pv 2) (pv 8) (fun _ _ => rfl)) (pa_cons (C8.pe_c (c_law_by T) hr (by decide) (by rfl) (pa_cons (pe_dget hu (pv 3) (pv 6) (fun _ _ => rfl)) (pa_cons (pe_tup (pa_cons (pe_dget hu (pv 1) (pv 7) (fun _ _ => rfl)) (pa_cons (pv 5) pa_nil))) pa_nil))) pa_nil))) rfl)) pss_nil))))))) pss_nil)))
      (pss_cons (ps_for PassesOwn.never rfl (pi_list (pe_callB cr_sortedS (by rfl) T.b_sorted bt_sorted (pa_cons (pv 0) pa_nil))) (pg_name (i := 6) sc_law_walk.nd rfl (Or.inl rfl) (hf := Or.inr rfl)) (pss_one (ps_if (PW.pt (pw_and (pt_cmpR op_notIn_sign pe_str (pv 6) rfl) (pw_and1 (pt_cmpR op_ne (pe_ix ix_tup (pe_dget hu (pv 2) (pv 6) (fun _ _ => rfl)) pe_int (fun _ _ => rfl)) pe_int (nomark _))))) (pss_one (ps_dput hu (pv 4) (pv 6) (pe_dget hu (pv 2) (pv 6) (fun _ _ => rfl)) rfl)) pss_nil)))
      (pss_one (ps_ret (pe_tup (pa_cons (pv 3) (pa_cons (pv 4) pa_nil))))))))), ?_⟩)
  · obtain ⟨a, d, rs, ws, n, rfl, _⟩ := h
    rfl
  · obtain ⟨a, d, rs, ws, n, rfl, hT, ha, hd, hnd, hn6, hB, k⟩ := h
    have hwf := hB.bok.few
    have hrl : ∀ r ∈ rs, r.length = n := hB.rl
    have hrf := hB.few
    walk_at "go"
    rename_i pc npc ps nps pt npt
    have s1 : Same H (upd (upd (upd H pc (.dK [])) ps (.dK [])) pt (.dK [])) := ((same_new npc).trans (same_new nps)).trans (same_new npt)
    have hps : ps ≠ pc := fun z => by rw [z, upd_same] at nps; cases nps
    have hptp : pt ≠ ps := fun z => by rw [z, upd_same] at npt; cases npt
    have hptc : pt ≠ pc := fun z => by rw [z, upd_ne hps.symm, upd_same] at npt; cases npt
    have nps0 : H ps = none := by rw [upd_ne hps] at nps; exact nps
    have npt0 : H pt = none := by rw [upd_ne hptp, upd_ne hptc] at npt; exact npt
    have c1 : upd (upd (upd H pc (.dK [])) ps (.dK [])) pt (.dK []) pc = some (.dK []) := by rw [upd_ne hptc.symm, upd_ne hps.symm, upd_same]
    have c2 : upd (upd (upd H pc (.dK [])) ps (.dK [])) pt (.dK []) ps = some (.dK []) := by rw [upd_ne hptp.symm, upd_same]
    have c3 : upd (upd (upd H pc (.dK [])) ps (.dK [])) pt (.dK []) pt = some (.dK []) := upd_same
    generalize upd (upd (upd H pc (.dK [])) ps (.dK [])) pt (.dK []) = H1 at s1 c1 c2 c3 ⊢
    refine ⟨d, ws, rfl, s1 _ _ hd, fun H2 s2 => ?_⟩
    have hF0 : (ws.map (·.2)).sum = facesW ws := rfl
    rw [hF0]
    generalize hF : facesW ws = F
    walk_at "go"
    rename_i p0 np0
    refine w_gt4T upd_same ?_
    have s3 := (s1.trans s2).trans (same_new (o := .tup [.ref pc, .ref ps, .ref pt, .int (F : Nat)]) np0)
    have s23 := s2.trans (same_new (o := .tup [.ref pc, .ref ps, .ref pt, .int (F : Nat)]) np0)
    have c1 := s23 _ _ c1
    have c2 := s23 _ _ c2
    have c3 := s23 _ _ c3
    show tSeq _ _ _ _ _
    generalize upd H2 p0 (.tup [.ref pc, .ref ps, .ref pt, .int (F : Nat)]) = H3 at s3 c1 c2 c3 ⊢
    clear s23 s2
    have hH3 : SqL K H3 a (rowL rs) := .inl (.inl (s3 _ _ ha))
    walk_at "go"
    refine for_G (n := rs.length) walk_listM (fun i σ H' => ∃ u6, SB [pc] H3 H' ∧ RD H' pc ((rs.take i).map c0f) ∧ σ = [some (.ref a), some (.ref d), some (.ref pc), some (.ref ps), some (.ref pt), some (.int (F : Nat)), u6, none, none])
      ⟨_, SB.refl, ⟨_, c1, .nil⟩, rfl⟩ (fun i σ H' _ h => let ⟨_, s, _⟩ := h; .inl (.inl (s _ _ (by rw [List.mem_singleton]; exact ne_of (s3 _ _ ha) c1 (by intro z; cases z)) (s3 _ _ ha)))) ?_ ?_
    · rintro i x σ H4 H5 hi ⟨u6, sb4, r4, rfl⟩ ⟨rfl, r, hr, rfl⟩
      have hrm := List.mem_of_getElem? hr
      walk_at "go"
      refine ⟨r, rfl, by rw [hrl r hrm]; omega, fun H6 s6 => ?_⟩
      walk_at "go"
      have hnew : r ∉ ((rs.take i).map c0f).map (·.1) := by
        rw [List.map_map, show ((fun x : Row × Rat => x.1) ∘ c0f) = id from rfl, List.map_id]
        exact nd_take hnd hr
      have htk : (rs.take (i + 1)).map c0f = putA ((rs.take i).map c0f) r (if told r = 0 then 1 else 0) := by
        rw [putA_new hnew, List.take_succ, hr, List.map_append]; rfl
      have fin : ∀ (q : Rat) (p : Addr) (H7 : Hp), Same H6 H7 → Rt H7 p q → q = (if told r = 0 then 1 else 0) → ∃ (kvs : List (Key × V)), H7 pc = some (.dK kvs) ∧ kvs.length ≤ 20 ∧ SB [pc] H3 (upd H7 pc (.dK (putK kvs (kR r) (.ref p)))) ∧ RD (upd H7 pc (.dK (putK kvs (kR r) (.ref p)))) pc ((rs.take (i + 1)).map c0f) := fun q p H7 s7 hp hq => by
        have r7 := (r4.same s6).same s7
        obtain ⟨kvs, e, _⟩ := id r7
        refine ⟨kvs, e, ?_, (sb4.trans (SB.of (s6.trans s7))).mut List.mem_cons_self, ?_⟩
        · rw [r7.len e, List.length_map]
          exact Nat.le_trans (List.length_take_le _ _) (by omega)
        · rw [htk, ← hq]; exact r7.put hp e
      refine w_dec (fun e => ?_) (fun e => ?_)
      · walk_at "go"
        rename_i p np
        obtain ⟨kvs, k1, k2, k3, k4⟩ := fin 1 p _ (same_new np) upd_same (by rw [if_pos (by exact_mod_cast e)])
        refine ⟨pc, _, rfl, .inl ⟨kvs, kR r, k1, rfl, Nat.lt_of_le_of_lt k2 (by decide), rfl⟩, ?_⟩
        exact ⟨_, k3, k4, rfl⟩
      · walk_at "go"
        rename_i p np
        obtain ⟨kvs, k1, k2, k3, k4⟩ := fin 0 p _ (same_new np) upd_same (by rw [if_neg (by exact_mod_cast e)])
        refine ⟨pc, _, rfl, .inl ⟨kvs, kR r, k1, rfl, Nat.lt_of_le_of_lt k2 (by decide), rfl⟩, ?_⟩
        exact ⟨_, k3, k4, rfl⟩
    · rintro σ H4 ⟨u6, sb4, r4, rfl⟩
      rw [List.take_length] at r4
      have ne1 : ∀ {b : Addr} {o : HO}, H b = some o → b ∉ [pc] := fun {b o} e => by rw [List.mem_singleton]; exact ne_of_none e npc
      have s4 : Same H H4 := fun b o e => sb4 b o (ne1 e) (s3 b o e)
      have c2 := sb4 _ _ (by rw [List.mem_singleton]; exact hps) c2
      have c3 := sb4 _ _ (by rw [List.mem_singleton]; exact hptc) c3
      clear sb4 c1
      walk_at "go"
      refine ⟨a, rs, rfl, hT.ext s4, s4 _ _ ha, by omega, fun r hr => by rw [hrl r hr]; omega, fun pz H5 lz e5 t5 lp lsr hpz fr => ?_⟩
      have r5 := r4.ext e5
      have c2 := e5 _ _ c2 (fun ps z => by cases z)
      have c3 := e5 _ _ c3 (fun ps z => by cases z)
      have e5 := (LamX.ExtN.of s4).trans e5
      clear r4 s4
      have hpzq : SqL K H5 pz (rowL lz) := .inl (.inl hpz)
      have npcA : ∀ {b : Addr} {o : HO}, H5 b = some o → (∀ kvs, o ≠ .dK kvs) → b ∉ [pc, ps] := fun {b o} e h => by
        obtain ⟨kvs, e2, _⟩ := id r5
        intro hm
        rcases List.mem_cons.mp hm with z | z
        · rw [z, e2] at e; exact h _ (Option.some.inj e).symm
        · rw [List.mem_singleton.mp z, c2] at e; exact h _ (Option.some.inj e).symm
      have hdin : d ∉ [pc, ps] := fun hm => by
        rcases List.mem_cons.mp hm with z | z
        · rw [z, npc] at hd; cases hd
        · rw [List.mem_singleton.mp z, nps0] at hd; cases hd
      have hd5 : H5 d = some (.dK (WD ws)) := e5 _ _ hd (fun ps z => by cases z)
      have hnl : ∀ r ∈ lz, r ∈ rs := fun r hr => lp.mem_iff.mp hr
      have ndz : lz.Nodup := lp.nodup_iff.mpr hnd
      have hF0 : 0 < F := by
        have h1 := hB.lp (blankR n) (by unfold blankR; simp) (blank_full hB.n1)
        have h2 := leaves_le ws (blankR n)
        omega
      have hFm : F < 40000000 := by rw [← hF]; exact hB.bok.faces
      walk_at "go"
      refine for_G (n := lz.length) walk_listM (fun i σ H' => ∃ c st D N u6 u7 u8, SB [pc, ps] H5 H' ∧ RD H' pc c ∧ RD H' ps st ∧ WkI n ws rs D c N ∧ (st.map (·.1)).Nodup ∧ (∀ r ∈ st.map (·.1), r ∈ rs) ∧ (∀ r, r ∈ D ↔ (r ∈ lz.take i ∧ full r = false)) ∧
          σ = [some (.ref a), some (.ref d), some (.ref pc), some (.ref ps), some (.ref pt), some (.int (F : Nat)), u6, u7, u8])
        ⟨rs.map c0f, [], [], 1, _, _, _, SB.refl, r5, ⟨_, c2, .nil⟩, ⟨chi_start hnd hrl hB.bl, Nat.one_pos, Nat.le_refl _, by rw [List.map_map]; exact List.map_id' rs, List.nodup_nil, fun r h => absurd h List.not_mem_nil⟩, List.nodup_nil, fun r h => absurd h List.not_mem_nil, fun r => by simp, rfl⟩
        (fun i σ H' _ h => let ⟨_, _, _, _, _, _, _, s, _⟩ := h; .inl (.inl (s _ _ (npcA hpz (fun kvs z => by cases z)) hpz))) ?_ ?_
      · rintro i x σ H6 H7 hi ⟨c, st, D, N, u6, u7, u8, sb, rc, rs_, I, stn, sts, hD, rfl⟩ ⟨rfl, q, hq, rfl⟩
        have hqz := List.mem_of_getElem? hq
        have hqr := hnl q hqz
        have hql := hrl q hqr
        have htk : lz.take (i + 1) = lz.take i ++ [q] := by rw [List.take_succ, hq]; rfl
        walk_at "go"
        rw [lit_dot]
        refine w_inS ?_
        have e : (decide (46 ∈ (S q).cps.toList)) = !full q := by
          rw [show (S q).cps.toList = q from S_list q, ← full_mem, Bool.not_not]
        rw [e]
        walk_at "go"
        cases hqf : full q with
        | true =>
          walk_at "go"
          refine ⟨c, st, D, N, _, _, _, sb, rc, rs_, I, stn, sts, fun r => ?_, rfl⟩
          rw [hD r, htk, List.mem_append, List.mem_singleton]
          constructor
          · rintro ⟨h1, h2⟩; exact ⟨.inl h1, h2⟩
          · rintro ⟨h1 | h1, h2⟩
            · exact ⟨h1, h2⟩
            · rw [h1, hqf] at h2; cases h2
        | false =>
          have hqD : q ∉ D := fun z => nd_take ndz hq ((hD q).mp z).1
          have hqk : q ∈ c.map (·.1) := by rw [I.ky]; exact hqr
          obtain ⟨aq, haq, eaq, evq⟩ := val_mem hqk
          have hc1 : valR c q ≤ 1 := by rw [evq]; exact I.ci.le1 haq (by rw [eaq]; exact hqD)
          have hc0 : 0 ≤ valR c q := val_nn I.ci.nn q
          have hcd := val_dv I.ci.dv q
          have hlv : 0 < leaves ws q := hB.lp q hql hqf
          have hwl : ∀ a ∈ ws, a.1.length = q.length := fun a ha => by rw [hB.bok.len a ha, hql]
          have hDl : D.length ≤ 20 := Nat.le_trans (nodup_len D rs I.dn I.ds) hrf
          have hNl : N.log2 < 600 := pow_log I.n0 I.nb (by omega)
          have hlF : leaves ws q ≤ F := by rw [← hF]; exact leaves_le ws q
          have hMl : (N * leaves ws q).log2 < 800 := by
            have h1 := log2_mulle N (leaves ws q) I.n0 hlv
            have h2 : (leaves ws q).log2 ≤ (40000000 : Nat).log2 := log2_mono (by omega)
            have h3 : (40000000 : Nat).log2 < 30 := by decide +kernel
            omega
          have hcl : c.length ≤ 20 := by
            have := congrArg List.length I.ky
            rw [List.length_map] at this
            omega
          have hstl : st.length ≤ 20 := by
            have := nodup_len _ rs stn sts
            rw [List.length_map] at this
            omega
          have hdt : ∀ x ∈ D, told x ≤ told q := fun x hx => by
            obtain ⟨j, hj, ej⟩ := List.getElem_of_mem ((hD x).mp hx).1
            rw [List.length_take] at hj
            rw [List.getElem_take] at ej
            obtain ⟨hi2, eq2⟩ := List.getElem?_eq_some_iff.mp hq
            have := List.pairwise_iff_getElem.mp lsr j i (by omega) hi2 (by omega)
            rw [ej, eq2] at this
            exact this
          obtain ⟨kv1, p1, k1, l1, r1⟩ := rc.look hqk
          have hd7 := sb _ _ hdin hd5
          walk_at "go"
          refine ⟨pc, _, rfl, .inl ⟨kv1, kR q, .inl k1, rfl, l1.symm⟩, ?_⟩
          walk_at "go"
          refine ⟨q, rfl, by omega, fun H8 s8 => ?_⟩
          walk_at "go"
          have hlot : (lot q).length = q.length := by unfold lot; rw [List.length_map]
          refine ⟨d, ws, lot q, rfl, s8 _ _ hd7, hwf, fun a ha => by rw [hlot]; exact hwl a ha, by omega, hB.bok.nd, fun H9 s9 => ?_⟩
          walk_at "go"
          have elv : ((F : Nat) : Int) - (((ws.filter fun a => ins a.1 (lot q)).map (·.2)).sum : Nat) = ((leaves ws q : Nat) : Int) := by
            have := faces_leaves hwl
            omega
          rw [elv]
          rename_i p2 np2
          have s9 := (s8.trans s9).trans (same_new (o := .tup [.int (F : Nat), .int (leaves ws q : Nat)]) np2)
          refine ⟨p1, p2, _, _, F, leaves ws q, rfl, s9 _ _ r1, upd_same, Rat.den_pos _, hlv, ?_, ?_, ?_, fun p3 H10 np3 s10 r3 => ?_⟩
          · have := (dv_log hc0 hc1 I.n0 hNl hcd).2; omega
          · rw [Int.natAbs_natCast]
            have h2 : F.log2 ≤ (40000000 : Nat).log2 := log2_mono (by omega)
            have h3 : (40000000 : Nat).log2 < 30 := by decide +kernel
            omega
          · have h1 := (dv_log hc0 hc1 I.n0 hNl hcd).1
            have h2 : (leaves ws q).log2 ≤ (40000000 : Nat).log2 := log2_mono (by omega)
            have h3 : (40000000 : Nat).log2 < 30 := by decide +kernel
            omega
          rw [qmul_raw] at r3
          have s10 := s9.trans s10
          walk_at "go"
          have rs10 := rs_.same s10
          obtain ⟨kvs2, k2, _⟩ := id rs10
          refine ⟨ps, _, rfl, .inl ⟨kvs2, kR q, k2, rfl, by rw [rs10.len k2]; exact Nat.lt_of_le_of_lt hstl (by decide), rfl⟩, ?_⟩
          have rs11 := rs10.put (r := q) r3 k2
          have rc11 := (rc.same s10).sb (sb_upd (p := ps) (o := .dK (putK kvs2 (kR q) (.ref p3)))) (nin1 hps.symm) (ntup1 k2 (fun xs z => by cases z))
          have sb11 : SB [ps] H7 (upd H10 ps (.dK (putK kvs2 (kR q) (.ref p3)))) := (SB.of s10).mut List.mem_cons_self
          have hd11 := sb11 _ _ (fun z => hdin (List.mem_cons_of_mem _ z)) hd7
          generalize upd H10 ps (.dK (putK kvs2 (kR q) (.ref p3))) = H11 at rs11 rc11 sb11 hd11 ⊢
          have hstv : valR (putA st q (valR c q * ((F : Rat) / (leaves ws q : Rat)))) q = valR c q * ((F : Rat) / (leaves ws q : Rat)) := val_put
          have hstk : q ∈ (putA st q (valR c q * ((F : Rat) / (leaves ws q : Rat)))).map (·.1) := putB_mem.mpr (.inl rfl)
          have hstn : ((putA st q (valR c q * ((F : Rat) / (leaves ws q : Rat)))).map (·.1)).Nodup := putA_nodup stn
          have hsts : ∀ r ∈ (putA st q (valR c q * ((F : Rat) / (leaves ws q : Rat)))).map (·.1), r ∈ rs := fun r hr => (putB_mem.mp hr).elim (fun z => z ▸ hqr) (sts r)
          generalize putA st q (valR c q * ((F : Rat) / (leaves ws q : Rat))) = st2 at rs11 hstv hstk hstn hsts ⊢
          have hdpc : d ≠ pc := fun z => hdin (by rw [z]; exact List.mem_cons_self)
          have hdps : d ≠ ps := fun z => hdin (by rw [z]; exact List.mem_cons_of_mem _ List.mem_cons_self)
          refine w_lock hd11 fun od => ?_
          have rcL := rc11.sb (sb_upd (p := d) (o := .frz od (.dK (WD ws)))) (nin1 hdpc.symm) (ntup1 hd11 (fun xs z => by cases z))
          have rsL := rs11.sb (sb_upd (p := d) (o := .frz od (.dK (WD ws)))) (nin1 hdps.symm) (ntup1 hd11 (fun xs z => by cases z))
          have sbL : SB [d] H11 (upd H11 d (.frz od (.dK (WD ws)))) := sb_upd
          have hdL : upd H11 d (.frz od (.dK (WD ws))) d = some (.frz od (.dK (WD ws))) := upd_same
          generalize upd H11 d (.frz od (.dK (WD ws))) = HL at rcL rsL sbL hdL ⊢
          walk_at "go"
          refine for_G (n := ws.length) walk_keysKD (fun j σ H' => ∃ c' u7 u8, SB [pc] HL H' ∧ RD H' pc c' ∧ ChM n ws D c' N q (valR c q) (mvs (ws.drop j) q) ∧ c'.map (·.1) = rs ∧ valR c' q = valR c q ∧
              σ = [some (.ref a), some (.ref d), some (.ref pc), some (.ref ps), some (.ref pt), some (.int (F : Nat)), some (.str (S q)), u7, u8])
            ⟨c, _, _, SB.refl, rcL, I.ci.enter hql hqf hqD hlv fun _ => rfl, I.ky, rfl, rfl⟩ (fun j σ H' _ h => let ⟨_, _, _, s, _⟩ := h; s _ _ (nin1 hdpc) hdL) ?_ ?_
          · rintro j x σ H12 H13 hj ⟨c', u7, u8, sb', rc', cm, ky', cv, rfl⟩ ⟨rfl, b, hb, rfl⟩
            have hbm := List.mem_of_getElem? hb
            have hdr : ws.drop j = b :: ws.drop (j + 1) := by
              obtain ⟨h, e⟩ := List.getElem?_eq_some_iff.mp hb
              rw [List.drop_eq_getElem_cons h, e]
            rw [hdr, mvs_cons] at cm
            walk_at "go"
            refine ⟨q, b.1, rfl, by rw [hwl b hbm], by omega, fun H14 s14 => ?_⟩
            have rc14 := rc'.same s14
            have rs14 := (rsL.sb sb' (nin1 hps) (fun z hz xs e => by
              obtain ⟨kvs, e2, _⟩ := id rcL
              rw [List.mem_singleton.mp hz, e2] at e; cases e)).same s14
            have hd14 := s14 _ _ (sb' _ _ (nin1 hdpc) hdL)
            walk_at "go"
            refine w_ndec (fun e => ?_) (fun e => ?_)
            · rw [if_neg e] at cm
              obtain ⟨kv3, p4, e4, l4, r4⟩ := rs14.look hstk
              rw [hstv] at r4
              have r4v := r4.val
              walk_at "go"
              refine ⟨ps, _, rfl, .inl ⟨kv3, kR q, .inl e4, rfl, l4.symm⟩, ?_⟩
              walk_at "go"
              have hrl2 : (ov q b.1).length = n := by rw [ov_len, hwl b hbm, hql]; exact Nat.min_self n
              have hrq : dots (ov q b.1) < dots q := by
                rcases (ov_count q b.1 (hwl b hbm).symm).2 with z | z
                · exact absurd z e
                · exact z
              have htd : told q < told (ov q b.1) := tld_lt (by rw [hrl2, hql]) hrq
              have hrD : ov q b.1 ∉ q :: D := fun z => by
                rcases List.mem_cons.mp z with w | w
                · exact e w
                · have := hdt _ w; omega
              have hrr : ov q b.1 ∈ rs := hB.cl q hqr b hbm
              refine w_ndec (fun e5 => ?_) (fun e5 => ?_)
              · have hr1 : valR c' (ov q b.1) ≤ 1 := by
                  obtain ⟨ar, har, ear, evr⟩ := val_mem (c := c') (by rw [ky']; exact hrr)
                  rw [evr]
                  exact cm.le1 hc0 har (by rw [ear]; exact hrD)
                refine wk_put (c0 := valR c q) (N := N) (lv := leaves ws q) (c := c') (st := st2) (q := q) (r := ov q b.1) (xr := b.1) (xw := b.2) rc14 rs14 hd14 ?_ (by rw [ky']; exact hrr) hstk (look_mem hB.bok.nd hbm) hstv ⟨val_nn cm.nn _, hr1⟩ ⟨hc0, hc1⟩ (val_dv cm.dv _) hcd I.n0 hlv hMl hF0 hFm (mem_leaves hbm e) hlF fun H15 r15 s15 => ?_
                · have := congrArg List.length ky'
                  rw [List.length_map] at this
                  omega
                · refine ⟨_, _, _, (sb'.trans (SB.of s14)).trans s15, r15, cm.step hrD hrl2 hc0 hcd hlv, ?_, ?_, rfl⟩
                  · rw [putB_keys, if_pos (by rw [ky']; exact hrr)]; exact ky'
                  · rw [val_put_ne (fun z => e z.symm)]; exact cv
              · have hz : valR c q = 0 := (stay_zero hF0 hlv).mp (num_zero.mp e5)
                refine ⟨c', _, _, sb'.trans (SB.of s14), rc14, ?_, ky', cv, rfl⟩
                rw [hz] at cm ⊢
                exact chm_skip cm
            · rw [if_pos e] at cm
              walk_at "go"
              exact ⟨c', _, _, sb'.trans (SB.of s14), rc14, cm, ky', cv, rfl⟩
          · rintro σ H12 ⟨c', u7, u8, sb', rc', cm, ky', cv, rfl⟩
            rw [List.drop_length] at cm
            have hd12 := sb' _ _ (nin1 hdpc) hdL
            refine ⟨hd12, ?_⟩
            have hex := cm.exit I.ci.df hqf
            have rc2 := rc'.sb (sb_upd (p := d) (o := .dK (WD ws))) (nin1 hdpc.symm) (ntup1 hd12 (fun xs z => by cases z))
            have rs12 := rsL.sb sb' (nin1 hps) (fun z hz xs e => by
              obtain ⟨kvs, e2, _⟩ := id rcL
              rw [List.mem_singleton.mp hz, e2] at e; cases e)
            have rs2 := rs12.sb (sb_upd (p := d) (o := .dK (WD ws))) (nin1 hdps.symm) (ntup1 hd12 (fun xs z => by cases z))
            refine ⟨c', st2, q :: D, N * leaves ws q, _, _, _, fun b o hb e => ?_, rc2, rs2, ⟨hex, Nat.mul_pos I.n0 hlv, ?_, ky', List.nodup_cons.mpr ⟨hqD, I.dn⟩, fun r hr => (List.mem_cons.mp hr).elim (fun z => z ▸ hqr) (I.ds r)⟩, hstn, hsts, fun r => ?_, rfl⟩
            · by_cases z : b = d
              · rw [z] at e ⊢
                rw [upd_same, ← hd5]; exact e
              · rw [upd_ne z]
                have g1 : b ∉ [ps] := fun w => hb (List.mem_cons_of_mem _ w)
                have g2 : b ∉ [pc] := fun w => hb (by rw [List.mem_singleton.mp w]; exact List.mem_cons_self)
                exact sb' _ _ g2 (sbL _ _ (nin1 z) (sb11 _ _ g1 (sb _ _ hb e)))
            · rw [List.length_cons, Nat.pow_succ]
              exact Nat.mul_le_mul I.nb (by omega)
            · rw [List.mem_cons, hD r, htk, List.mem_append, List.mem_singleton]
              constructor
              · rintro (z | ⟨z1, z2⟩)
                · rw [z]; exact ⟨.inr rfl, hqf⟩
                · exact ⟨.inl z1, z2⟩
              · rintro ⟨z | z, z2⟩
                · exact .inr ⟨z, z2⟩
                · exact .inl z
      · rintro σ H6 ⟨c, st, D, N, u6, u7, u8, sb, rc, rs_, I, stn, sts, hD, rfl⟩
        rw [List.take_length] at hD
        have hpt5 : pt ∉ [pc, ps] := fun hm => by
          rcases List.mem_cons.mp hm with z | z
          · exact hptc z
          · exact hptp (List.mem_singleton.mp z)
        have c3o := c3
        have c3 := sb _ _ hpt5 c3
        have ha6 := sb _ _ (npcA (e5 _ _ ha (fun ps z => by cases z)) (fun kvs z => by cases z)) (e5 _ _ ha (fun ps z => by cases z))
        walk_at "go"
        refine w_sortedR (l := rs) (.inl (.inl ha6)) (by omega) fun l' p6 lp' ls np6 => ?_
        have s7 := same_new (o := .lst (l'.map fun r => .str (S r))) np6
        have hp6 : SqL K (upd H6 p6 (.lst (l'.map fun r => .str (S r)))) p6 (rowL l') := .inl (.inl upd_same)
        have hp60 : upd H6 p6 (.lst (l'.map fun r => .str (S r))) p6 = some (.lst (rowL l')) := upd_same
        have rc7 := rc.same s7
        have c37 := s7 _ _ c3
        generalize upd H6 p6 (.lst (l'.map fun r => .str (S r))) = H7 at s7 hp6 hp60 rc7 c37 ⊢
        have hl'l : l'.length ≤ 20 := by rw [lp'.length_eq]; exact hrf
        have ndl : l'.Nodup := lp'.nodup_iff.mpr hnd
        have hpt : pt ≠ p6 := ne_of c37 hp60 (by intro z; cases z)
        have hval : ∀ f, full f = true → valR c f = NT.hB ws (blankR n) f := fun f hf => I.ci.last hB.bok.len hB.lp (fun x hx hxf => (hD x.1).mpr ⟨lp.mem_iff.mpr (by rw [← I.ky]; exact List.mem_map.mpr ⟨x, hx, rfl⟩), hxf⟩) hf
        walk_at "go"
        refine for_G (n := l'.length) walk_listM (fun i σ H' => ∃ u6, SB [pt] H7 H' ∧ RD H' pt (((l'.take i).filter fun r => full r && !decide (valR c r = 0)).map fun r => (r, valR c r)) ∧ σ = [some (.ref a), some (.ref d), some (.ref pc), some (.ref ps), some (.ref pt), some (.int (F : Nat)), u6, u7, u8])
          ⟨_, SB.refl, ⟨_, c37, .nil⟩, rfl⟩ (fun i σ H' _ h => let ⟨_, s, _⟩ := h; .inl (.inl (s _ _ (nin1 hpt.symm) hp60))) ?_ ?_
        · rintro i x σ H8 H9 hi ⟨u6, sb8, rt, rfl⟩ ⟨rfl, r, hr, rfl⟩
          have hrm := lp'.mem_iff.mp (List.mem_of_getElem? hr)
          have rc8 := rc7.sb sb8 (nin1 hptc.symm) (ntup1 c37 (fun xs z => by cases z))
          obtain ⟨kv1, p1, k1, l1, r1⟩ := rc8.look (r := r) (by rw [I.ky]; exact hrm)
          have r1v := r1.val
          have htk : (l'.take (i + 1)).filter (fun r => full r && !decide (valR c r = 0)) = (l'.take i).filter (fun r => full r && !decide (valR c r = 0)) ++ (if (full r && !decide (valR c r = 0)) = true then [r] else []) := by
            rw [List.take_succ, hr, List.filter_append]
            cases e : (full r && !decide (valR c r = 0)) with
            | true => simp [e]
            | false => simp [e]
          walk_at "go"
          rw [lit_dot]
          refine w_notInS ?_
          have e : (!decide (46 ∈ (S r).cps.toList)) = full r := by rw [show (S r).cps.toList = r from S_list r]; exact full_mem r
          rw [e]
          walk_at "go"
          cases hrf2 : full r with
          | false =>
            walk_at "go"
            refine ⟨_, sb8, ?_, rfl⟩
            rw [htk, hrf2]
            simpa using rt
          | true =>
            walk_at "go"
            refine ⟨pc, _, rfl, .inl ⟨kv1, kR r, .inl k1, rfl, l1.symm⟩, ?_⟩
            walk_at "go"
            refine w_ndec (fun e5 => ?_) (fun e5 => ?_)
            · walk_at "go"
              refine ⟨pc, _, rfl, .inl ⟨kv1, kR r, .inl k1, rfl, l1.symm⟩, ?_⟩
              walk_at "go"
              obtain ⟨kvt, kt, _⟩ := id rt
              refine ⟨pt, _, rfl, .inl ⟨kvt, kR r, kt, rfl, ?_, rfl⟩, ?_⟩
              · rw [rt.len kt, List.length_map]
                have h1 := List.length_filter_le (fun r => full r && !decide (valR c r = 0)) (l'.take i)
                have h2 := List.length_take_le i l'
                exact Nat.lt_of_le_of_lt (show _ ≤ 20 by omega) (by decide)
              · have hz : valR c r ≠ 0 := fun z => e5 (num_zero.mpr z)
                have hput := rt.put (r := r) r1 kt
                refine ⟨_, sb8.mut List.mem_cons_self, ?_, rfl⟩
                rw [putA_new] at hput
                · rw [htk, if_pos (by simp [hrf2, hz]), List.map_append]; exact hput
                · intro hm
                  obtain ⟨x, hx, e6⟩ := List.mem_map.mp hm
                  obtain ⟨y, hy, rfl⟩ := List.mem_map.mp hx
                  have hy := (List.mem_filter.mp hy).1
                  have e6 : y = r := e6
                  rw [e6] at hy
                  exact nd_take ndl hr hy
            · have hz : valR c r = 0 := num_zero.mp e5
              walk_at "go"
              refine ⟨_, sb8, ?_, rfl⟩
              rw [htk, hz]
              simpa using rt
        · rintro σ H8 ⟨u6, sb8, rt, rfl⟩
          rw [List.take_length] at rt
          walk_at "go"
          rename_i p np
          have sbA : SB [pc, ps, pt] H5 (upd H8 p (.tup [.ref ps, .ref pt])) := by
            refine SB.new ?_ np
            refine SB.trans (SB.trans (sb.more ?_) (SB.of s7)) (sb8.more ?_)
            · intro x hx
              rcases List.mem_cons.mp hx with z | z
              · rw [z]; exact List.mem_cons_self
              · rw [List.mem_singleton.mp z]; exact List.mem_cons_of_mem _ List.mem_cons_self
            · intro x hx
              rw [List.mem_singleton.mp hx]
              exact List.mem_cons_of_mem _ (List.mem_cons_of_mem _ List.mem_cons_self)
          have hn3 : ∀ {b : Addr} {o : HO}, H b = some o → b ∉ [pc, ps, pt] := fun {b o} e hm => by
            rcases List.mem_cons.mp hm with z | z
            · rw [z, npc] at e; cases e
            · rcases List.mem_cons.mp z with z | z
              · rw [z, nps0] at e; cases e
              · rw [List.mem_singleton.mp z, npt0] at e; cases e
          refine k p ps pt _ _ (fun b o e h => sbA _ _ (hn3 e) (e5 _ _ e h)) ?_ upd_same (rt.same (same_new np)) ?_
          · refine tabs_sb t5 sbA fun b hb => ?_
            rcases List.mem_cons.mp hb with z | z
            · rw [z]; obtain ⟨kvs, e, _⟩ := id r5; exact ⟨kvs, e⟩
            · rcases List.mem_cons.mp z with z | z
              · rw [z]; exact ⟨_, c2⟩
              · rw [List.mem_singleton.mp z]; exact ⟨_, c3o⟩
          · have hkey : ((l'.filter fun r => full r && !decide (valR c r = 0)).map fun r => (r, valR c r)).map (·.1) = l'.filter fun r => full r && !decide (valR c r = 0) := by
              rw [List.map_map]; exact List.map_id' _
            refine ⟨by rw [hkey]; exact ls.sublist List.filter_sublist, by rw [hkey]; exact ndl.sublist List.filter_sublist, fun f => ?_, fun x hx => ?_⟩
            · rw [hkey, List.mem_filter, lp'.mem_iff]
              constructor
              · rintro ⟨h1, h2⟩
                have h2 := Bool.and_eq_true_iff.mp h2
                refine ⟨hrl f h1, h2.1, ?_⟩
                rw [← hval f h2.1]
                simpa using h2.2
              · rintro ⟨h1, h2, h3⟩
                rw [← hval f h2] at h3
                refine ⟨?_, by simp [h2, h3]⟩
                by_cases hm : f ∈ rs
                · exact hm
                · exact absurd (by unfold valR; rw [look_none (by rw [I.ky]; exact hm)]; rfl) h3
            · obtain ⟨r, hr, rfl⟩ := List.mem_map.mp hx
              have h2 := Bool.and_eq_true_iff.mp (List.mem_filter.mp hr).2
              exact hval r h2.1
end
/-! ## F34 -/
section
set_option maxHeartbeats 2000000
open PySem PySem.Spec PyProof.Rows L2


variable {P : Program} {w : World} {K : PySem.W.Frag} {mg : Str → Option Value} {base : Heap}
theorem law_F {P1 P2 : Addr} {D : Ends} {H0 H : Hp} {a c hp bk wd pd pf pst : Addr} {cs : List Cell} {ss rs rsh : List Row} {ws : Ws} {l : Rs} {o0 o1 o3 o5 o6 o8 o9 o10 o11 o13 o14 o17 o18 o19 : Option V} (W : Wk K P1 P2 H0 H a c hp bk wd cs ss rs rsh ws) (B : BkAll cs ss ws rs) (so : RowsOk cs.length ss rs) (hd : RD H pd (firstD cs.length ws)) (nd : H0 pd = none) (hf : RD H pf (firstD cs.length ws)) (nf : H0 pf = none) (hs : RD H pst l) (ns : H0 pst = none) (hS : SteadyL cs.length ws l)
    (e1 : pd ≠ pf) (e2 : pd ≠ pst) (e3 : wd ≠ pf) (e4 : wd ≠ pst) (e5 : pf ≠ pst) (k : ∀ H', D.rt (.bl true) H') :
    (tSeq (sDPut (tVar 15) (tOp (rIxL K) (tVar 4) (tUn rNegI (tC (.int 1)))) (tTup (tCons (tC (.int 0)) (tCons (tC (.int 1)) tNil)))) (tSeq (sDPut (tVar 16) (tOp (rIxL K) (tVar 4) (tC (.int 0))) (tTup (tCons (tC (.int 0)) (tCons (tC (.int 1)) tNil)))) (tSeq (tAsg (tLst (tCons (tCall (sp_first_tellers K) [] E0 (tCons (tVar 20) tNil)) (tCons (tCall (sp_steady_shares K) [] E0 (tCons (tVar 20) tNil)) tNil))) (gName 19)) (tRet (tCall (sp_law_same 5 K) [] E0 (tCons (tVar 19) (tCons (tLst (tCons (tVar 12) (tCons (tOp (rIxT K) (tCall (sp_law_walk P1 P2 K) [] E0 (tCons (tVar 4) (tCons (tVar 7) tNil))) (tC (.int 1))) tNil))) tNil))))))) D [o0, o1, some (.ref a), o3, some (.ref c), o5, o6, some (.ref wd), o8, o9, o10, o11, some (.ref pd), o13, o14, some (.ref pf), some (.ref pst), o17, o18, o19, some (.ref bk)] H := by
  have hbk := B.bk
  obtain ⟨r0, hr0⟩ : ∃ r, rs.getLast? = some r := by
    cases z : rs.getLast? with
    | none => rw [List.getLast?_eq_none_iff] at z; have := B.bl; rw [z] at this; cases this
    | some r => exact ⟨r, rfl⟩
  obtain ⟨r1, hr1⟩ : ∃ r, rs[0]? = some r := by
    cases z : rs with
    | nil => have := B.bl; rw [z] at this; cases this
    | cons r _ => exact ⟨r, rfl⟩
  walk_at "go"
  rename_i p1 np1
  have W1 := W.same (same_new (o := .tup [.int 0, .int 1]) np1)
  have hd1 := hd.same (same_new (o := .tup [.int 0, .int 1]) np1)
  have hf1 := hf.same (same_new (o := .tup [.int 0, .int 1]) np1)
  have hs1 := hs.same (same_new (o := .tup [.int 0, .int 1]) np1)
  have t1 : Rt (upd H p1 (.tup [.int 0, .int 1])) p1 0 := upd_same
  generalize upd H p1 (.tup [.int 0, .int 1]) = H1 at W1 hd1 hf1 hs1 t1 ⊢
  refine ⟨c, rowL rs, -1, .str (S r0), rfl, rfl, .inl (.inl W1.now.rows), atI_lastL (by rw [List.getLast?_map, hr0]; rfl), ?_⟩
  obtain ⟨kf, kf1, _⟩ := id hf1
  have kfl := hf1.len kf1
  have ffl := first_few (n := cs.length) hbk.bok
  refine ⟨pf, _, rfl, .inl ⟨kf, kR r0, kf1, rfl, by rw [kfl]; exact Nat.lt_of_le_of_lt ffl (by decide), rfl⟩, ?_⟩
  have W2 := W1.put (kvs' := putK kf (kR r0) (.ref p1)) nf kf1 e3
  have hd2 := hd1.sb (sb_upd (p := pf) (o := .dK (putK kf (kR r0) (.ref p1)))) (nin1 e1) (ntup1 kf1 (fun xs z => by cases z))
  have hs2 := hs1.sb (sb_upd (p := pf) (o := .dK (putK kf (kR r0) (.ref p1)))) (nin1 e5.symm) (ntup1 kf1 (fun xs z => by cases z))
  generalize upd H1 pf (.dK (putK kf (kR r0) (.ref p1))) = H2 at W2 hd2 hs2 ⊢
  walk_at "go"
  rename_i p3 np3
  have W3 := W2.same (same_new (o := .tup [.int 0, .int 1]) np3)
  have hd3 := hd2.same (same_new (o := .tup [.int 0, .int 1]) np3)
  have hs3 := hs2.same (same_new (o := .tup [.int 0, .int 1]) np3)
  generalize upd H2 p3 (.tup [.int 0, .int 1]) = H3 at W3 hd3 hs3 ⊢
  refine ⟨c, rowL rs, 0, .str (S r1), rfl, rfl, .inl (.inl W3.now.rows), atI_nat (by rw [List.getElem?_map, hr1]; rfl), ?_⟩
  obtain ⟨kf, kf1, _⟩ := id hs3
  have kfl := hs3.len kf1
  have ffl := hS.few hbk
  refine ⟨pst, _, rfl, .inl ⟨kf, kR r1, kf1, rfl, by rw [kfl]; exact Nat.lt_of_le_of_lt ffl (by decide), rfl⟩, ?_⟩
  have W4 := W3.put (kvs' := putK kf (kR r1) (.ref p3)) ns kf1 e4
  have hd4 := hd3.sb (sb_upd (p := pst) (o := .dK (putK kf (kR r1) (.ref p3)))) (nin1 e2) (ntup1 kf1 (fun xs z => by cases z))
  generalize upd H3 pst (.dK (putK kf (kR r1) (.ref p3))) = H4 at W4 hd4 ⊢
  walk_at "go"
  refine ⟨bk, hp, ws, cs, ss, rsh, rfl, W4.now.book, W4.now.band, B.hk.one, B.hk.few, hbk.bok, B.un, fun q1 H5 s5 nq1 hq1 => ?_⟩
  have W5 := W4.same s5
  have hd5 := hd4.same s5
  walk_at "go"
  refine ⟨bk, hp, ws, cs, ss, rsh, rs, rfl, W5.now.book, W5.now.band, B.hk.one, B.hk.few, hbk.bok, B.un, hbk.clo, fun q2 H6 l6 s6 nq2 hq2 hS6 => ?_⟩
  have W6 := W5.same s6
  have hd6 := hd5.same s6
  have hq16 := hq1.same s6
  walk_at "go"
  rename_i p7 np7
  have s7 := same_new (o := .lst [.ref q1, .ref q2]) np7
  have W7 := W6.same s7
  have hd7 := hd6.same s7
  have hq17 := hq16.same s7
  have hq27 := hq2.same s7
  have hp7 : upd H6 p7 (.lst [.ref q1, .ref q2]) p7 = _ := upd_same
  generalize upd H6 p7 (.lst [.ref q1, .ref q2]) = H7 at W7 hd7 hq17 hq27 hp7 ⊢
  walk_at "go"
  refine ⟨c, wd, rs, ws, cs.length, rfl, W7.tb, W7.now.rows, W7.w, so.nd, B.hk.few, hbk, fun p8 q3 q4 H8 l8 e8 t8 hp8 hq4 hS8 => ?_⟩
  have hd8 := hd7.ext e8
  have hq18 := hq17.ext e8
  have hq28 := hq27.ext e8
  have hp78 := e8 _ _ hp7 (fun ps z => by cases z)
  walk_at "go"
  rename_i p9 np9
  have s9 := same_new (o := .lst [.ref pd, .ref q4]) np9
  refine ⟨.ref p7, .ref p9, rfl, ?_, fun H' _ => k H'⟩
  rw [steady_one hS6 hS8] at hq28
  refine .lst (s9 _ _ hp78) upd_same rfl (by simp) fun i x y hx hy => ?_
  match i, hx, hy with
  | 0, hx, hy =>
    obtain rfl := Option.some.inj hx
    obtain rfl := Option.some.inj hy
    exact alk_rd (hq18.same s9) (hd8.same s9) (Nat.le_trans (first_few hbk.bok) (by decide))
  | 1, hx, hy =>
    obtain rfl := Option.some.inj hx
    obtain rfl := Option.some.inj hy
    exact alk_rd (hq28.same s9) (hq4.same s9) (Nat.le_trans (hS8.few hbk) (by decide))
  | i + 2, hx, _ => cases hx
/-! ### the shares of the full rows -/
theorem law_E {P1 P2 : Addr} {D : Ends} {H0 H : Hp} {a c hp bk wd pd pr pf pst : Addr} {cs : List Cell} {ss rs rsh : List Row} {ws : Ws} {l : Rs} {o0 o1 o3 o5 o6 o8 o9 o10 o11 o14 o17 o18 o19 : Option V} (W : Wk K P1 P2 H0 H a c hp bk wd cs ss rs rsh ws) (B : BkAll cs ss ws rs) (so : RowsOk cs.length ss rs) (hd : RD H pd (firstD cs.length ws)) (nd : H0 pd = none) (hf : RD H pf (firstD cs.length ws)) (nf : H0 pf = none) (hs : RD H pst l) (ns : H0 pst = none) (hS : SteadyL cs.length ws l)
    (hr : RsD H pr ws [wd, pd, pr] ((firstD cs.length ws).map (·.1)))
    (e1 : pd ≠ pf) (e2 : pd ≠ pst) (e3 : wd ≠ pf) (e4 : wd ≠ pst) (e5 : pf ≠ pst) (e6 : wd ≠ pd) (e7 : pr ≠ pd) (k : ∀ H', D.rt (.bl true) H') :
    (tSeq (tFor (iList K (tCall (sp_law_full K) [] E0 (tCons (tVar 4) tNil))) (gName 17) (tSeq (tAsg (tTup (tCons (tC (.int 0)) (tCons (tC (.int 1)) tNil))) (gName 18))
    (tSeq (tLock (tFor (iKeysM (tVar 12)) (gName 14) (tIfS (tTest (tOp rEq (tCall (sp_law_over K) [] E0 (tCons (tVar 14) (tCons (tVar 17) tNil))) (tVar 17))) (tAsg (tCall (sp_law_add K) [] E0 (tCons (tVar 18) (tCons (tCall (sp_law_by K) [] E0 (tCons (tDGet (tVar 12) (tVar 14)) (tCons (tDGet2 (tDGet (tVar 13) (tVar 14)) (tCall (sp_law_other K) [] E0 (tCons (tVar 17) (tCons (tVar 14) tNil))) (tTup (tCons (tC (.int 0)) (tCons (tC (.int 1)) tNil)))) tNil))) tNil))) (gName 18)) tNext)))
    (tIfS (tNot (tB (tCall (sp_law_same 1 K) [] E0 (tCons (tDGet2 (tVar 16) (tVar 17) (tTup (tCons (tC (.int 0)) (tCons (tC (.int 1)) tNil)))) (tCons (tVar 18) tNil))))) (tRet (tC (.bl false))) tNext)))) (tSeq (sDPut (tVar 15) (tOp (rIxL K) (tVar 4) (tUn rNegI (tC (.int 1)))) (tTup (tCons (tC (.int 0)) (tCons (tC (.int 1)) tNil)))) (tSeq (sDPut (tVar 16) (tOp (rIxL K) (tVar 4) (tC (.int 0))) (tTup (tCons (tC (.int 0)) (tCons (tC (.int 1)) tNil)))) (tSeq (tAsg (tLst (tCons (tCall (sp_first_tellers K) [] E0 (tCons (tVar 20) tNil)) (tCons (tCall (sp_steady_shares K) [] E0 (tCons (tVar 20) tNil)) tNil))) (gName 19)) (tRet (tCall (sp_law_same 5 K) [] E0 (tCons (tVar 19) (tCons (tLst (tCons (tVar 12) (tCons (tOp (rIxT K) (tCall (sp_law_walk P1 P2 K) [] E0 (tCons (tVar 4) (tCons (tVar 7) tNil))) (tC (.int 1))) tNil))) tNil)))))))) D [o0, o1, some (.ref a), o3, some (.ref c), o5, o6, some (.ref wd), o8, o9, o10, o11, some (.ref pd), some (.ref pr), o14, some (.ref pf), some (.ref pst), o17, o18, o19, some (.ref bk)] H := by
  have hbk := B.bk
  have hrl : ∀ r ∈ rs, r.length = cs.length := B.rl
  have hn6 := B.hk.few
  walk_at "go"
  refine ⟨c, rs, rfl, .inl (.inl W.now.rows), Nat.le_trans B.few (by decide), fun p1 H1 np1 s1 hp1 => ?_⟩
  have W1 := W.same s1
  have hd1 := hd.same s1
  have hf1 := hf.same s1
  have hs1 := hs.same s1
  have hr1 := hr.sb (SB.of (l := []) s1) List.not_mem_nil (fun a h => absurd h List.not_mem_nil) (fun a h => absurd h List.not_mem_nil)
  have hp1q : SqL K H1 p1 (rowL (rs.filter full)) := .inl (.inl hp1)
  walk_at "go"
  refine for_G (n := (rs.filter full).length) walk_listM (fun i σ H' => ∃ u14 u17 u18, Same H1 H' ∧ σ = [o0, o1, some (.ref a), o3, some (.ref c), o5, o6, some (.ref wd), o8, o9, o10, o11, some (.ref pd), some (.ref pr), u14, some (.ref pf), some (.ref pst), u17, u18, o19, some (.ref bk)])
    ⟨_, _, _, Same.refl _, rfl⟩ (fun i σ H' _ h => let ⟨_, _, _, s, _⟩ := h; .inl (.inl (s _ _ hp1))) ?_ ?_
  · rintro i x σ H2 H3 hi ⟨u14, u17, u18, s2, rfl⟩ ⟨rfl, f, hf0, rfl⟩
    have hfm := List.mem_filter.mp (List.mem_of_getElem? hf0)
    have lf := hrl f hfm.1
    have ff : full f = true := hfm.2
    walk_at "go"
    rename_i p3 np3
    have s3 := s2.trans (same_new (o := .tup [.int 0, .int 1]) np3)
    have t3 : Rt (upd H3 p3 (.tup [.int 0, .int 1])) p3 0 := upd_same
    generalize upd H3 p3 (.tup [.int 0, .int 1]) = H4 at s3 t3 ⊢
    have hd4 := hd1.same s3
    have hs4 := hs1.same s3
    have hr4 := hr1.sb (SB.of (l := []) s3) List.not_mem_nil (fun a h => absurd h List.not_mem_nil) (fun a h => absurd h List.not_mem_nil)
    obtain ⟨kd, kd4, kdp⟩ := id hd4
    refine w_lock kd4 fun od => ?_
    have hrL := hr4.sb (sb_upd (p := pd) (o := .frz od (.dK kd))) (nin1 e7) (fun a h => by rw [List.mem_singleton.mp h]; simp) (ntup1 kd4 (fun xs z => by cases z))
    have tL : Rt (upd H4 pd (.frz od (.dK kd))) p3 0 := by
      have : p3 ≠ pd := ne_of t3 kd4 (by intro z; cases z)
      unfold Rt at t3 ⊢
      rw [upd_ne this]; exact t3
    have dL : upd H4 pd (.frz od (.dK kd)) pd = some (.frz od (.dK kd)) := upd_same
    have rL : ∀ {p : Addr} {q : Rat}, Rt H4 p q → Rt (upd H4 pd (.frz od (.dK kd))) p q := fun {p q} t => by
      have : p ≠ pd := ne_of t kd4 (by intro z; cases z)
      unfold Rt at t ⊢
      rw [upd_ne this]; exact t
    generalize eL : upd H4 pd (.frz od (.dK kd)) = HL at hrL tL dL rL ⊢
    walk_at "go"
    refine for_G (n := (firstD cs.length ws).length) (walk_keysRD kdp) (fun j σ H' => ∃ u14 q, Same HL H' ∧ Rt H' q (accR cs.length ws f j) ∧ σ = [o0, o1, some (.ref a), o3, some (.ref c), o5, o6, some (.ref wd), o8, o9, o10, o11, some (.ref pd), some (.ref pr), u14, some (.ref pf), some (.ref pst), some (.str (S f)), some (.ref q), o19, some (.ref bk)])
      ⟨_, p3, Same.refl _, tL, rfl⟩ (fun j σ H' _ h => let ⟨_, _, s, _⟩ := h; s _ _ dL) ?_ ?_
    · rintro j x σ H5 H6 hj ⟨u14, q, s5, tq, rfl⟩ ⟨rfl, b, hb, rfl⟩
      have hbm := List.mem_of_getElem? hb
      obtain ⟨b1, b2, b3, b4, b5, b6, b7, b8⟩ := hbk.first hbm
      walk_at "go"
      refine ⟨b.1, f, rfl, by rw [b2, lf], by rw [b2]; omega, fun H7 s67 => ?_⟩
      have s7 := s5.trans s67
      have tq7 : Rt H7 q _ := s67 _ _ tq
      walk_at "go"
      refine w_dec (fun e => ?_) (fun e => ?_)
      · have e : ov b.1 f = f := by simpa using e
        have hbk1 : b.1 ∈ (firstD cs.length ws).map (·.1) := List.mem_map.mpr ⟨b, hbm, rfl⟩
        obtain ⟨kd', p4, f1, f2, f3⟩ := hd4.look hbk1
        rw [kd4] at f1
        obtain rfl : kd = kd' := by injection f1 with f1; injection f1
        rw [valR_nd (first_nd hbk.bok.nd) hbm] at f3
        have tp4 : Rt H7 p4 b.2 := s7 _ _ (rL f3)
        obtain ⟨kr, q5, l5, g1, g2, g3, g4⟩ := hrL.look hbk1
        have g17 := s7 _ _ g1
        have g37 := g3.same s7
        obtain ⟨k5, k51, _⟩ := id g37
        walk_at "go"
        refine ⟨pd, _, rfl, .inl ⟨kd, kR b.1, .inr ⟨od, s7 _ _ dL⟩, rfl, f2.symm⟩, ?_⟩
        walk_at "go"
        refine ⟨pr, _, rfl, .inl ⟨kr, kR b.1, .inl g17, rfl, g2.symm⟩, ?_⟩
        walk_at "go"
        refine ⟨q5, rfl, .inl ⟨k5, .inl k51⟩, ?_⟩
        walk_at "go"
        refine ⟨f, b.1, rfl, by rw [b2, lf], by omega, fun H8 s8 => ?_⟩
        walk_at "go"
        rename_i p9 np9
        have s89 := s8.trans (same_new (o := .tup [.int 0, .int 1]) np9)
        have t9 : Rt (upd H8 p9 (.tup [.int 0, .int 1])) p9 0 := upd_same
        generalize upd H8 p9 (.tup [.int 0, .int 1]) = H9 at s89 t9 ⊢
        refine w_dget2RD (g37.same s89) t9 fun o10 ⟨p10, e10, t10⟩ => ?_
        rw [e10]
        rw [g4 f ff (by rw [b2, lf]) e] at t10
        obtain ⟨m1, m2⟩ := hbk.hlog b1 f
        obtain ⟨m3, m4⟩ := hbk.piece hbm f
        obtain ⟨_, _, m5, m6⟩ := accR_ok hbk lf j
        walk_at "go"
        refine ⟨p4, p10, _, _, _, _, rfl, s89 _ _ tp4, t10, Rat.den_pos _, Rat.den_pos _, by omega, by omega, by omega, fun p11 H11 np11 s11 t11 => ?_⟩
        rw [qmul_eq] at t11
        walk_at "go"
        refine ⟨q, p11, _, _, _, _, rfl, s11 _ _ (s89 _ _ tq7), t11, Rat.den_pos _, Rat.den_pos _, by omega, by omega, by omega, fun p12 H12 np12 s12 t12 => ?_⟩
        rw [qadd_eq] at t12
        walk_at "go"
        refine ⟨_, p12, ((s7.trans s89).trans s11).trans s12, ?_, rfl⟩
        rw [accR_step hb, if_pos e]; exact t12
      · have e : ¬ ov b.1 f = f := by simpa using e
        walk_at "go"
        refine ⟨_, q, s7, ?_, rfl⟩
        rw [accR_step hb, if_neg e]; exact tq7
    · rintro σ H5 ⟨u14, q, s5, tq, rfl⟩
      rw [accR_last hbk lf] at tq
      refine ⟨s5 _ _ dL, ?_⟩
      have s45 : Same H4 (upd H5 pd (.dK kd)) := by
        rw [← eL] at s5
        exact same_unlock kd4 s5
      have qpd : q ≠ pd := ne_of tq (s5 _ _ dL) (by intro z; cases z)
      have tq : Rt (upd H5 pd (.dK kd)) q (hB ws (blankR cs.length) f) := by
        unfold Rt at tq ⊢
        rw [upd_ne qpd]; exact tq
      generalize upd H5 pd (.dK kd) = H6 at s45 tq ⊢
      have hs6 := hs4.same s45
      obtain ⟨k6, k61, _⟩ := id hs6
      walk_at "go"
      refine ⟨pst, rfl, .inl ⟨k6, .inl k61⟩, ?_⟩
      walk_at "go"
      rename_i p7 np7
      have s67 := same_new (o := .tup [.int 0, .int 1]) np7
      have t7 : Rt (upd H6 p7 (.tup [.int 0, .int 1])) p7 0 := upd_same
      generalize upd H6 p7 (.tup [.int 0, .int 1]) = H7 at s67 t7 ⊢
      refine w_dget2RD (hs6.same s67) t7 fun o8x ⟨p8, e8, t8⟩ => ?_
      rw [e8]
      have ev : valR l f = hB ws (blankR cs.length) f := by
        by_cases hm : f ∈ l.map (·.1)
        · exact steady_val hS hm
        · rw [valR_none hm, steady_not hS lf ff hm]
      rw [ev] at t8
      walk_at "go"
      refine ⟨.ref p8, .ref q, rfl, alk_rt t8 (s67 _ _ tq), fun H8 s8 => ?_⟩
      walk_at "go"
      exact ⟨_, _, _, ((s3.trans s45).trans s67).trans s8, rfl⟩
  · rintro σ H2 ⟨u14, u17, u18, s2, rfl⟩
    have hr2 := hr1.sb (SB.of (l := []) s2) List.not_mem_nil (fun a h => absurd h List.not_mem_nil) (fun a h => absurd h List.not_mem_nil)
    exact law_F (W1.same s2) B so (hd1.same s2) nd (hf1.same s2) nf (hs1.same s2) ns hS e1 e2 e3 e4 e5 k
theorem none_same {H H' : Hp} (s : Same H H') {p : Addr} (h : H' p = none) : H p = none := by
  cases e : H p with
  | none => rfl
  | some o => have := s _ _ e; rw [h] at this; cases this
/-! ### the chances and the shares against the due ones -/
theorem law_D {P1 P2 : Addr} {D : Ends} {H0 H : Hp} {a c hp bk wd pd pr : Addr} {cs : List Cell} {ss rs rsh : List Row} {ws : Ws} {o0 o1 o3 o5 o6 o8 o9 o10 o11 o14 o15 o16 o17 o18 o19 : Option V} (W : Wk K P1 P2 H0 H a c hp bk wd cs ss rs rsh ws) (sm : Same H0 H) (B : BkAll cs ss ws rs) (so : RowsOk cs.length ss rs) (hd : RD H pd (firstD cs.length ws)) (nd : H0 pd = none)
    (hr : RsD H pr ws [wd, pd, pr] ((firstD cs.length ws).map (·.1))) (e6 : wd ≠ pd) (e7 : pr ≠ pd) (k : ∀ H', D.rt (.bl true) H') :
    (tSeq (tPar 15 16 (tCons (tCall (sp_first_tellers K) [] E0 (tCons (tVar 20) tNil)) (tCons (tCall (sp_steady_shares K) [] E0 (tCons (tVar 20) tNil)) tNil))) (tSeq (tIfS (tOr (tNot (tB (tCall (sp_law_same 4 K) [] E0 (tCons (tVar 15) (tCons (tVar 12) tNil))))) (tNot (tB (tCall (sp_law_same 4 K) [] E0 (tCons (tVar 16) (tCons (tOp (rIxT K) (tCall (sp_law_walk P1 P2 K) [] E0 (tCons (tVar 4) (tCons (tVar 7) tNil))) (tC (.int 1))) tNil)))))) (tRet (tC (.bl false))) tNext) (tSeq (tFor (iList K (tCall (sp_law_full K) [] E0 (tCons (tVar 4) tNil))) (gName 17) (tSeq (tAsg (tTup (tCons (tC (.int 0)) (tCons (tC (.int 1)) tNil))) (gName 18))
    (tSeq (tLock (tFor (iKeysM (tVar 12)) (gName 14) (tIfS (tTest (tOp rEq (tCall (sp_law_over K) [] E0 (tCons (tVar 14) (tCons (tVar 17) tNil))) (tVar 17))) (tAsg (tCall (sp_law_add K) [] E0 (tCons (tVar 18) (tCons (tCall (sp_law_by K) [] E0 (tCons (tDGet (tVar 12) (tVar 14)) (tCons (tDGet2 (tDGet (tVar 13) (tVar 14)) (tCall (sp_law_other K) [] E0 (tCons (tVar 17) (tCons (tVar 14) tNil))) (tTup (tCons (tC (.int 0)) (tCons (tC (.int 1)) tNil)))) tNil))) tNil))) (gName 18)) tNext)))
    (tIfS (tNot (tB (tCall (sp_law_same 1 K) [] E0 (tCons (tDGet2 (tVar 16) (tVar 17) (tTup (tCons (tC (.int 0)) (tCons (tC (.int 1)) tNil)))) (tCons (tVar 18) tNil))))) (tRet (tC (.bl false))) tNext)))) (tSeq (sDPut (tVar 15) (tOp (rIxL K) (tVar 4) (tUn rNegI (tC (.int 1)))) (tTup (tCons (tC (.int 0)) (tCons (tC (.int 1)) tNil)))) (tSeq (sDPut (tVar 16) (tOp (rIxL K) (tVar 4) (tC (.int 0))) (tTup (tCons (tC (.int 0)) (tCons (tC (.int 1)) tNil)))) (tSeq (tAsg (tLst (tCons (tCall (sp_first_tellers K) [] E0 (tCons (tVar 20) tNil)) (tCons (tCall (sp_steady_shares K) [] E0 (tCons (tVar 20) tNil)) tNil))) (gName 19)) (tRet (tCall (sp_law_same 5 K) [] E0 (tCons (tVar 19) (tCons (tLst (tCons (tVar 12) (tCons (tOp (rIxT K) (tCall (sp_law_walk P1 P2 K) [] E0 (tCons (tVar 4) (tCons (tVar 7) tNil))) (tC (.int 1))) tNil))) tNil)))))))))) D [o0, o1, some (.ref a), o3, some (.ref c), o5, o6, some (.ref wd), o8, o9, o10, o11, some (.ref pd), some (.ref pr), o14, o15, o16, o17, o18, o19, some (.ref bk)] H := by
  have hbk := B.bk
  walk_at "go"
  refine ⟨bk, hp, ws, cs, ss, rsh, rfl, W.now.book, W.now.band, B.hk.one, B.hk.few, hbk.bok, B.un, fun pf H1 s1 npf hf1 => ?_⟩
  have W1 := W.same s1
  have hd1 := hd.same s1
  have hr1 := hr.sb (SB.of (l := []) s1) List.not_mem_nil (fun a h => absurd h List.not_mem_nil) (fun a h => absurd h List.not_mem_nil)
  walk_at "go"
  refine ⟨bk, hp, ws, cs, ss, rsh, rs, rfl, W1.now.book, W1.now.band, B.hk.one, B.hk.few, hbk.bok, B.un, hbk.clo, fun pst H2 l s2 npst hs2 hS2 => ?_⟩
  have W2 := W1.same s2
  have hd2 := hd1.same s2
  have hf2 := hf1.same s2
  have hr2 := hr1.sb (SB.of (l := []) s2) List.not_mem_nil (fun a h => absurd h List.not_mem_nil) (fun a h => absurd h List.not_mem_nil)
  have nf : H0 pf = none := none_same sm npf
  have ns : H0 pst = none := none_same (sm.trans s1) npst
  have someD : ∀ {H : Hp} {d : Addr} {l : Rs}, RD H d l → ∃ o, H d = some o := fun h => by obtain ⟨kvs, e, _⟩ := h; exact ⟨_, e⟩
  obtain ⟨od, hod⟩ := someD hd
  obtain ⟨od1, hod1⟩ := someD hd1
  obtain ⟨of1, hof1⟩ := someD hf1
  have e1 : pd ≠ pf := ne_of_none hod npf
  have e2 : pd ≠ pst := ne_of_none hod1 npst
  have e3 : wd ≠ pf := ne_of_none W.w npf
  have e4 : wd ≠ pst := ne_of_none W1.w npst
  have e5 : pf ≠ pst := ne_of_none hof1 npst
  walk_at "go"
  refine ⟨.ref pf, .ref pd, rfl, alk_rd hf2 hd2 (Nat.le_trans (first_few hbk.bok) (by decide)), fun H3 s3 => ?_⟩
  have W3 := W2.same s3
  have hd3 := hd2.same s3
  have hf3 := hf2.same s3
  have hs3 := hs2.same s3
  have hr3 := hr2.sb (SB.of (l := []) s3) List.not_mem_nil (fun a h => absurd h List.not_mem_nil) (fun a h => absurd h List.not_mem_nil)
  walk_at "go"
  refine ⟨c, wd, rs, ws, cs.length, rfl, W3.tb, W3.now.rows, W3.w, so.nd, B.hk.few, hbk, fun p8 q3 q4 H8 l8 e8 t8 hp8 hq4 hS8 => ?_⟩
  have W8 := W3.ext e8 t8
  have hs8 := hs3.ext e8
  walk_at "go"
  rw [steady_one hS2 hS8] at hs8
  refine ⟨.ref pst, .ref q4, rfl, alk_rd hs8 hq4 (Nat.le_trans (hS8.few hbk) (by decide)), fun H9 s9 => ?_⟩
  refine ⟨true, rfl, ?_⟩
  rw [if_neg (by decide)]
  exact law_E (W8.same s9) B so ((hd3.ext e8).same s9) nd ((hf3.ext e8).same s9) nf (hs8.same s9) ns hS8 ((hr3.ext e8).same s9) e1 e2 e3 e4 e5 e6 e7 k
/-! ### the due chances, the rests -/
theorem law_C {P1 P2 : Addr} {D : Ends} {H0 H : Hp} {a c hp bk wd : Addr} {cs : List Cell} {ss rs rsh : List Row} {ws : Ws} {o0 o1 o3 o5 o6 o8 o11 o12 o13 o14 o15 o16 o17 o18 o19 : Option V} (W : Wk K P1 P2 H0 H a c hp bk wd cs ss rs rsh ws) (sm : Same H0 H) (B : BkAll cs ss ws rs) (so : RowsOk cs.length ss rs) (k : ∀ H', D.rt (.bl true) H') :
    (tSeq (tPar 12 13 (tCons tDNewK (tCons tDNewK tNil))) (tSeq (tLock (tFor (iKeysM (tVar 7)) (gName 14) (tIfS (tTest (tOp rNe (tVar 14) (tVar 10))) (tSeq (sDPut (tVar 12) (tVar 14) (tCall (sp_law_ratio K) [] E0 (tCons (tDGet (tVar 7) (tVar 14)) (tCons (tOp rSubI (tVar 9) (tDGet2 (tVar 7) (tVar 10) (tC (.int 0)))) tNil))))
    (sDPut (tVar 13) (tVar 14) (tCall (sp_law_rest K) [] E0 (tCons (tVar 20) (tCons (tVar 2) (tCons (tVar 14) tNil)))))) tNext))) (tSeq (tPar 15 16 (tCons (tCall (sp_first_tellers K) [] E0 (tCons (tVar 20) tNil)) (tCons (tCall (sp_steady_shares K) [] E0 (tCons (tVar 20) tNil)) tNil))) (tSeq (tIfS (tOr (tNot (tB (tCall (sp_law_same 4 K) [] E0 (tCons (tVar 15) (tCons (tVar 12) tNil))))) (tNot (tB (tCall (sp_law_same 4 K) [] E0 (tCons (tVar 16) (tCons (tOp (rIxT K) (tCall (sp_law_walk P1 P2 K) [] E0 (tCons (tVar 4) (tCons (tVar 7) tNil))) (tC (.int 1))) tNil)))))) (tRet (tC (.bl false))) tNext) (tSeq (tFor (iList K (tCall (sp_law_full K) [] E0 (tCons (tVar 4) tNil))) (gName 17) (tSeq (tAsg (tTup (tCons (tC (.int 0)) (tCons (tC (.int 1)) tNil))) (gName 18))
    (tSeq (tLock (tFor (iKeysM (tVar 12)) (gName 14) (tIfS (tTest (tOp rEq (tCall (sp_law_over K) [] E0 (tCons (tVar 14) (tCons (tVar 17) tNil))) (tVar 17))) (tAsg (tCall (sp_law_add K) [] E0 (tCons (tVar 18) (tCons (tCall (sp_law_by K) [] E0 (tCons (tDGet (tVar 12) (tVar 14)) (tCons (tDGet2 (tDGet (tVar 13) (tVar 14)) (tCall (sp_law_other K) [] E0 (tCons (tVar 17) (tCons (tVar 14) tNil))) (tTup (tCons (tC (.int 0)) (tCons (tC (.int 1)) tNil)))) tNil))) tNil))) (gName 18)) tNext)))
    (tIfS (tNot (tB (tCall (sp_law_same 1 K) [] E0 (tCons (tDGet2 (tVar 16) (tVar 17) (tTup (tCons (tC (.int 0)) (tCons (tC (.int 1)) tNil)))) (tCons (tVar 18) tNil))))) (tRet (tC (.bl false))) tNext)))) (tSeq (sDPut (tVar 15) (tOp (rIxL K) (tVar 4) (tUn rNegI (tC (.int 1)))) (tTup (tCons (tC (.int 0)) (tCons (tC (.int 1)) tNil)))) (tSeq (sDPut (tVar 16) (tOp (rIxL K) (tVar 4) (tC (.int 0))) (tTup (tCons (tC (.int 0)) (tCons (tC (.int 1)) tNil)))) (tSeq (tAsg (tLst (tCons (tCall (sp_first_tellers K) [] E0 (tCons (tVar 20) tNil)) (tCons (tCall (sp_steady_shares K) [] E0 (tCons (tVar 20) tNil)) tNil))) (gName 19)) (tRet (tCall (sp_law_same 5 K) [] E0 (tCons (tVar 19) (tCons (tLst (tCons (tVar 12) (tCons (tOp (rIxT K) (tCall (sp_law_walk P1 P2 K) [] E0 (tCons (tVar 4) (tCons (tVar 7) tNil))) (tC (.int 1))) tNil))) tNil)))))))))))) D [o0, o1, some (.ref a), o3, some (.ref c), o5, o6, some (.ref wd), o8, some (.int (facesW ws : Nat)), some (.str (S (blankR cs.length))), o11, o12, o13, o14, o15, o16, o17, o18, o19, some (.ref bk)] H := by
  have hbk := B.bk
  have hn6 := B.hk.few
  walk_at "go"
  rename_i pd npd pr npr
  have W1 := (W.same (same_new (o := .dK []) npd)).same (same_new (o := .dK []) npr)
  have sm1 := (sm.trans (same_new (o := .dK []) npd)).trans (same_new (o := .dK []) npr)
  have nd : H0 pd = none := none_same sm npd
  have nr : H0 pr = none := none_same (sm.trans (same_new (o := .dK []) npd)) npr
  have e7 : pr ≠ pd := fun z => by rw [z, upd_same] at npr; cases npr
  have e6 : wd ≠ pd := ne_of_none W.w npd
  have e8 : wd ≠ pr := ne_of_none (W.same (same_new (o := .dK []) npd)).w npr
  have d1 : upd (upd H pd (.dK [])) pr (.dK []) pd = some (.dK []) := by rw [upd_ne e7.symm, upd_same]
  have r1 : upd (upd H pd (.dK [])) pr (.dK []) pr = some (.dK []) := upd_same
  generalize upd (upd H pd (.dK [])) pr (.dK []) = H1 at W1 sm1 d1 r1 ⊢
  refine w_lock W1.w fun od => ?_
  have dL : upd H1 wd (.frz od (.dK (WD ws))) pd = some (.dK []) := by rw [upd_ne e6.symm]; exact d1
  have rL : upd H1 wd (.frz od (.dK (WD ws))) pr = some (.dK []) := by rw [upd_ne e8.symm]; exact r1
  have wL : upd H1 wd (.frz od (.dK (WD ws))) wd = some (.frz od (.dK (WD ws))) := upd_same
  have smL : Same H0 (upd H1 wd (.frz od (.dK (WD ws)))) := same_mut sm1 W1.nw
  generalize eL : upd H1 wd (.frz od (.dK (WD ws))) = HL at dL rL wL smL ⊢
  walk_at "go"
  refine for_G (n := ws.length) walk_keysKD (fun i σ H' => ∃ u14, SB [pd, pr] HL H' ∧ RD H' pd ((nonB cs.length (ws.take i)).map fun a => (a.1, mkRat a.2 (leaveW cs.length ws))) ∧ RsD H' pr ws [wd, pd, pr] ((nonB cs.length (ws.take i)).map (·.1)) ∧ σ = [o0, o1, some (.ref a), o3, some (.ref c), o5, o6, some (.ref wd), o8, some (.int (facesW ws : Nat)), some (.str (S (blankR cs.length))), o11, some (.ref pd), some (.ref pr), u14, o15, o16, o17, o18, o19, some (.ref bk)])
    ⟨_, SB.refl, ⟨_, dL, .nil⟩, ⟨_, rL, Nat.le_refl _, fun r h => absurd h List.not_mem_nil⟩, rfl⟩ (fun i σ H' _ h => let ⟨_, s, _⟩ := h; s _ _ (by simp [e6, e8]) wL) ?_ ?_
  · rintro i x σ H2 H3 hi ⟨u14, s2, hd2, hr2, rfl⟩ ⟨rfl, b, hb, rfl⟩
    have hbm := List.mem_of_getElem? hb
    walk_at "go"
    refine w_ndec (fun e => ?_) (fun e => ?_)
    · walk_at "go"
      have w3 := s2 _ _ (by simp [e6, e8]) wL
      have ex3 : LamX.ExtN H0 H3 := s2.none (LamX.ExtN.of smL) (fun b hb => by
        rcases List.mem_cons.mp hb with z | z
        · rw [z]; exact nd
        · rw [List.mem_singleton.mp z]; exact nr)
      refine w_dgetR (l := ws) (.inr ⟨od, w3⟩) (look_mem hbk.bok.nd hbm) ?_
      walk_at "go"
      refine ⟨wd, rfl, .inl ⟨_, .inr ⟨od, w3⟩⟩, ?_⟩
      walk_at "go"
      refine w_dget2W (l := ws) (r := blankR cs.length) (.inr ⟨od, w3⟩) fun o ho => ?_
      rw [ho]
      have hle : (lookA ws (blankR cs.length)).getD 0 ≤ facesW ws := by
        have := look_sum (ws := ws) (r := blankR cs.length)
        exact this
      have elv : ((facesW ws : Nat) : Int) - (((lookA ws (blankR cs.length)).getD 0 : Nat) : Int) = ((leaveW cs.length ws : Nat) : Int) := by
        unfold leaveW; omega
      walk_at "go"
      rw [elv]
      have hlv : 0 < leaveW cs.length ws := leave_pos B.hk.one hbk.bok B.un
      have hll : (leaveW cs.length ws).log2 < 9000 := by
        have h1 := hbk.bok.faces
        have h2 : (leaveW cs.length ws).log2 ≤ (40000000 : Nat).log2 := log2_mono (by unfold leaveW; omega)
        have h3 : (40000000 : Nat).log2 < 30 := by decide +kernel
        omega
      refine ⟨(b.2 : Nat), leaveW cs.length ws, rfl, hlv, hll, fun p4 H4 np4 s4 t4 => ?_⟩
      walk_at "go"
      have s24 := s2.trans (SB.of s4)
      have hd4 := hd2.same s4
      have hr4 := hr2.same s4
      have ex4 := ex3.trans (LamX.ExtN.of s4)
      obtain ⟨kd, kd1, _⟩ := id hd4
      have hll4 : ((nonB cs.length (ws.take i)).map fun a => (a.1, mkRat (a.2 : Int) (leaveW cs.length ws))).length ≤ 40 := by
        rw [List.length_map]
        exact Nat.le_trans (List.length_filter_le _ _) (Nat.le_trans (List.length_take_le' _ _) hbk.bok.few)
      refine ⟨pd, _, rfl, .inl ⟨kd, kR b.1, kd1, rfl, by rw [hd4.len kd1]; exact Nat.lt_of_le_of_lt hll4 (by decide), rfl⟩, ?_⟩
      have hnew : b.1 ∉ ((nonB cs.length (ws.take i)).map fun a => (a.1, mkRat (a.2 : Int) (leaveW cs.length ws))).map (·.1) := by
        rw [List.map_map]
        intro hm
        obtain ⟨x, hx, ex⟩ := List.mem_map.mp hm
        have hx := (List.mem_filter.mp hx).1
        obtain ⟨j, hj, ej⟩ := List.getElem_of_mem hx
        rw [List.length_take] at hj
        rw [List.getElem_take] at ej
        obtain ⟨hi2, eb⟩ := List.getElem?_eq_some_iff.mp hb
        have hnd := hbk.bok.nd
        have := List.pairwise_iff_getElem.mp (List.pairwise_map.mp hnd) j i (by omega) hi2 (by omega)
        apply this
        rw [ej, eb]
        exact ex
      have hd5 := hd4.put (r := b.1) t4 kd1
      rw [putA_new hnew] at hd5
      have hr5 := hr4.sb (sb_upd (p := pd) (o := .dK (putK kd (kR b.1) (.ref p4)))) (nin1 e7) (fun a h => by rw [List.mem_singleton.mp h]; simp) (ntup1 kd1 (fun xs z => by cases z))
      have ex5 : LamX.ExtN H0 (upd H4 pd (.dK (putK kd (kR b.1) (.ref p4)))) := ext_mut ex4 (fun o z => by rw [nd] at z; cases z)
      have s25 : SB [pd, pr] HL (upd H4 pd (.dK (putK kd (kR b.1) (.ref p4)))) := s24.mut List.mem_cons_self
      generalize upd H4 pd (.dK (putK kd (kR b.1) (.ref p4))) = H5 at hd5 hr5 ex5 s25 ⊢
      have st5 := W.st.ext ex5
      walk_at "go"
      refine ⟨bk, a, hp, cs, ss, rsh, ws, rs, b.1, rfl, st5.book, st5.band, st5.cells, B, hbk.bok.len b hbm, fun p6 H6 l6 s6 np6 hq6 hR6 => ?_⟩
      have s26 := s25.trans (SB.of s6)
      have hd6 := hd5.same s6
      have hr6 := hr5.same s6
      walk_at "go"
      obtain ⟨kr, kr1, kr2, _⟩ := id hr6
      have hrl : kr.length ≤ 40 := by
        refine Nat.le_trans kr2 ?_
        rw [List.length_map]
        exact Nat.le_trans (List.length_filter_le _ _) (Nat.le_trans (List.length_take_le' _ _) hbk.bok.few)
      refine ⟨pr, _, rfl, .inl ⟨kr, kR b.1, kr1, rfl, Nat.lt_of_le_of_lt hrl (by decide), rfl⟩, ?_⟩
      have hno : p6 ∉ [wd, pd, pr] := fun hm => by
        rcases List.mem_cons.mp hm with z | z
        · have := s25 _ _ (by simp [e6, e8]) wL
          rw [← z, np6] at this; cases this
        · rcases List.mem_cons.mp z with z | z
          · obtain ⟨kvs, e, _⟩ := hd5
            rw [← z, np6] at e; cases e
          · obtain ⟨kvs, e, _⟩ := hr5
            rw [← List.mem_singleton.mp z, np6] at e; cases e
      have hr7 := hr6.put kr1 hno (by simp) hq6 hR6
      have hd7 := hd6.sb (sb_upd (p := pr) (o := .dK (putK kr (kR b.1) (.ref p6)))) (nin1 e7.symm) (ntup1 kr1 (fun xs z => by cases z))
      refine ⟨_, s26.mut (List.mem_cons_of_mem _ List.mem_cons_self), ?_, ?_, rfl⟩
      · rw [nonB_take hb, if_neg e, List.map_append]; exact hd7
      · rw [nonB_take hb, if_neg e, List.map_append]; exact hr7
    · walk_at "go"
      refine ⟨_, s2, ?_, ?_, rfl⟩
      · rw [nonB_take hb, if_pos e, List.append_nil]; exact hd2
      · rw [nonB_take hb, if_pos e, List.append_nil]; exact hr2
  · rintro σ H2 ⟨u14, s2, hd2, hr2, rfl⟩
    rw [List.take_length] at hd2 hr2
    have w2 := s2 _ _ (by simp [e6, e8]) wL
    refine ⟨w2, ?_⟩
    have s12 : SB [pd, pr] H1 (upd H2 wd (.dK (WD ws))) := by
      rw [← eL] at s2
      exact unlock W1.w s2
    have hd3 := hd2.sb (sb_upd (p := wd) (o := .dK (WD ws))) (nin1 e6.symm) (ntup1 w2 (fun xs z => by cases z))
    have hr3 := hr2.sb (sb_upd (p := wd) (o := .dK (WD ws))) (nin1 e8.symm) (fun a h => by rw [List.mem_singleton.mp h]; simp) (ntup1 w2 (fun xs z => by cases z))
    have w3 : upd H2 wd (.dK (WD ws)) wd = some (.dK (WD ws)) := upd_same
    generalize upd H2 wd (.dK (WD ws)) = H3 at s12 hd3 hr3 w3 ⊢
    have sm3 : Same H0 H3 := fun b o e => s12 b o (fun hm => by
      rcases List.mem_cons.mp hm with z | z
      · rw [z, nd] at e; cases e
      · rw [List.mem_singleton.mp z, nr] at e; cases e) (sm1 b o e)
    have W3 : Wk K P1 P2 H0 H3 a c hp bk wd cs ss rs rsh ws := ⟨W.st, LamX.ExtN.of sm3, tabs_sb W1.tb s12 (fun b hb => by
      rcases List.mem_cons.mp hb with z | z
      · rw [z]; exact ⟨_, d1⟩
      · rw [List.mem_singleton.mp z]; exact ⟨_, r1⟩), W.nw, w3⟩
    rw [← first_keys] at hr3
    exact law_D W3 sm3 B so hd3 nd hr3 e6 e7 k
theorem untold_small {cs : List Cell} {ws : Ws} (hk : CellsOk cs) : ∀ r ∈ untoldN cs ws, ∀ c ∈ r, c < 1000 := by
  intro r hr c hc
  unfold untoldN at hr
  obtain ⟨i, hi, e⟩ := List.mem_map.mp hr
  have hil : i < cs.length := List.mem_range.mp (List.mem_filter.mp hi).1
  have e2 : r = (cs[i]).nm := by rw [← e]; unfold nameAt; rw [List.getElem?_map, List.getElem?_eq_getElem hil]; rfl
  rw [e2] at hc
  have := (hk.names _ (List.getElem_mem hil)).2.2 c hc
  omega
theorem law_B {P1 P2 : Addr} {D : Ends} {H0 H : Hp} {a c hp bk wd : Addr} {cs : List Cell} {ss rs rsh : List Row} {ws : Ws} {o0 o1 o3 o5 o6 o8 o9 o10 o11 o12 o13 o14 o15 o16 o17 o18 o19 : Option V} (W : Wk K P1 P2 H0 H a c hp bk wd cs ss rs rsh ws) (sm : Same H0 H) (hk : CellsOk cs) (hs : SeedsOk cs ss) (so : RowsOk cs.length ss rs) (hw : WOk cs.length ws) (sub : ∀ a ∈ ws, a.1 ∈ rs) (k : ∀ H', D.rt (.bl true) H') :
    (tSeq (tPar3 8 9 10 (tCons (tCall (sp_law_untold K) [] E0 (tCons (tVar 7) (tCons (tVar 2) tNil))) (tCons (tCall (sp_law_faces K) [] E0 (tCons (tVar 7) tNil)) (tCons (tOp rMulS (tC (.str ".")) (tCB (rLenQ K) (tCons (tVar 2) tNil))) tNil)))) (tSeq (tIfS (tTest (tOp (rNeD K) (tVar 8) (tLst tNil))) (tSeq (tAsg (tLst (tCons (LamX.tLam (TTb P1 P2) (TTgot K) fun E => tCall (sp_untold_x K) [] E (tCons (tVar 20) tNil)) (tCons (LamX.tLam (TTb P1 P2) (TTgot K) fun E => tCall (sp_untold_x K) [] E (tCons (tVar 20) tNil)) tNil))) (gName 11))
    (tRet (tCall (sp_law_same 2 K) [] E0 (tCons (tVar 11) (tCons (tOp rRep (tLst (tCons (tTup (tCons (tC (.str "Untold")) (tCons (tOp (rIxL K) (tVar 8) (tC (.int 0))) tNil))) tNil)) (tC (.int 2))) tNil))))) tNext) (tSeq (tPar 12 13 (tCons tDNewK (tCons tDNewK tNil))) (tSeq (tLock (tFor (iKeysM (tVar 7)) (gName 14) (tIfS (tTest (tOp rNe (tVar 14) (tVar 10))) (tSeq (sDPut (tVar 12) (tVar 14) (tCall (sp_law_ratio K) [] E0 (tCons (tDGet (tVar 7) (tVar 14)) (tCons (tOp rSubI (tVar 9) (tDGet2 (tVar 7) (tVar 10) (tC (.int 0)))) tNil))))
    (sDPut (tVar 13) (tVar 14) (tCall (sp_law_rest K) [] E0 (tCons (tVar 20) (tCons (tVar 2) (tCons (tVar 14) tNil)))))) tNext))) (tSeq (tPar 15 16 (tCons (tCall (sp_first_tellers K) [] E0 (tCons (tVar 20) tNil)) (tCons (tCall (sp_steady_shares K) [] E0 (tCons (tVar 20) tNil)) tNil))) (tSeq (tIfS (tOr (tNot (tB (tCall (sp_law_same 4 K) [] E0 (tCons (tVar 15) (tCons (tVar 12) tNil))))) (tNot (tB (tCall (sp_law_same 4 K) [] E0 (tCons (tVar 16) (tCons (tOp (rIxT K) (tCall (sp_law_walk P1 P2 K) [] E0 (tCons (tVar 4) (tCons (tVar 7) tNil))) (tC (.int 1))) tNil)))))) (tRet (tC (.bl false))) tNext) (tSeq (tFor (iList K (tCall (sp_law_full K) [] E0 (tCons (tVar 4) tNil))) (gName 17) (tSeq (tAsg (tTup (tCons (tC (.int 0)) (tCons (tC (.int 1)) tNil))) (gName 18))
    (tSeq (tLock (tFor (iKeysM (tVar 12)) (gName 14) (tIfS (tTest (tOp rEq (tCall (sp_law_over K) [] E0 (tCons (tVar 14) (tCons (tVar 17) tNil))) (tVar 17))) (tAsg (tCall (sp_law_add K) [] E0 (tCons (tVar 18) (tCons (tCall (sp_law_by K) [] E0 (tCons (tDGet (tVar 12) (tVar 14)) (tCons (tDGet2 (tDGet (tVar 13) (tVar 14)) (tCall (sp_law_other K) [] E0 (tCons (tVar 17) (tCons (tVar 14) tNil))) (tTup (tCons (tC (.int 0)) (tCons (tC (.int 1)) tNil)))) tNil))) tNil))) (gName 18)) tNext)))
    (tIfS (tNot (tB (tCall (sp_law_same 1 K) [] E0 (tCons (tDGet2 (tVar 16) (tVar 17) (tTup (tCons (tC (.int 0)) (tCons (tC (.int 1)) tNil)))) (tCons (tVar 18) tNil))))) (tRet (tC (.bl false))) tNext)))) (tSeq (sDPut (tVar 15) (tOp (rIxL K) (tVar 4) (tUn rNegI (tC (.int 1)))) (tTup (tCons (tC (.int 0)) (tCons (tC (.int 1)) tNil)))) (tSeq (sDPut (tVar 16) (tOp (rIxL K) (tVar 4) (tC (.int 0))) (tTup (tCons (tC (.int 0)) (tCons (tC (.int 1)) tNil)))) (tSeq (tAsg (tLst (tCons (tCall (sp_first_tellers K) [] E0 (tCons (tVar 20) tNil)) (tCons (tCall (sp_steady_shares K) [] E0 (tCons (tVar 20) tNil)) tNil))) (gName 19)) (tRet (tCall (sp_law_same 5 K) [] E0 (tCons (tVar 19) (tCons (tLst (tCons (tVar 12) (tCons (tOp (rIxT K) (tCall (sp_law_walk P1 P2 K) [] E0 (tCons (tVar 4) (tCons (tVar 7) tNil))) (tC (.int 1))) tNil))) tNil)))))))))))))) D [o0, o1, some (.ref a), o3, some (.ref c), o5, o6, some (.ref wd), o8, o9, o10, o11, o12, o13, o14, o15, o16, o17, o18, o19, some (.ref bk)] H := by
  have hn6 := hk.few
  have hca := W.now.cells
  walk_at "go"
  refine ⟨wd, a, ws, cs, rfl, W.w, W.now.cells, hn6, hw.few, hw.len, fun q H1 s1 nq hq => ?_⟩
  have W1 := W.same s1
  walk_at "go"
  refine ⟨wd, ws, rfl, W1.w, fun H2 s2 => ?_⟩
  have W2 := W1.same s2
  have hq2 := s2 _ _ hq
  have hcl : SqL K H2 a (cs.map fun c => .ref c.p) := .inl (.inl W2.now.cells.l)
  walk_at "go"
  rename_i p3 np3
  have s3 := same_new (o := .lst []) np3
  have hq3 := s3 _ _ hq2
  have W3 := W2.same s3
  have sm3 := ((sm.trans s1).trans s2).trans s3
  have hp3 : upd H2 p3 (.lst []) p3 = some (.lst []) := upd_same
  generalize upd H2 p3 (.lst []) = H3 at hq3 W3 sm3 hp3 ⊢
  refine w_neNil (l := untoldN cs ws) hq3 hp3 (untold_small hk) ?_
  refine ⟨_, rfl, ?_⟩
  cases hun : untoldN cs ws with
  | nil =>
    rw [if_neg (by simp)]
    exact law_C W3 sm3 (bk_all hk hs so hw sub hun) so k
  | cons nm more =>
    rw [if_pos (by simp)]
    rw [hun] at hq3
    walk_at "go"
    refine ⟨W3.tb, fun H4 e4 t4 H5 s5 => ?_⟩
    have W5 := (W3.ext e4 t4).same s5
    have hq5 := s5 _ _ (e4 _ _ hq3 (fun ps z => by cases z))
    walk_at "go"
    refine ⟨bk, hp, ws, cs, ss, rsh, nm, more, rfl, W5.now.book, W5.now.band, hn6, hw.few, hw.len, hun, fun d6 H6 s6 nd6 hd6 => ?_⟩
    refine ⟨d6, nm, rfl, rfl, hd6, fun p7 H7 s7 np7 hp7 => ?_⟩
    have W7 := (W5.same s6).same s7
    have hq7 := s7 _ _ (s6 _ _ hq5)
    walk_at "go"
    refine ⟨W7.tb, fun H8 e8 t8 H9 s9 => ?_⟩
    have W9 := (W7.ext e8 t8).same s9
    have hq9 := s9 _ _ (e8 _ _ hq7 (fun ps z => by cases z))
    have hp9 := s9 _ _ (e8 _ _ hp7 (fun ps z => by cases z))
    walk_at "go"
    refine ⟨bk, hp, ws, cs, ss, rsh, nm, more, rfl, W9.now.book, W9.now.band, hn6, hw.few, hw.len, hun, fun d10 H10 s10 nd10 hd10 => ?_⟩
    refine ⟨d10, nm, rfl, rfl, hd10, fun p11 H11 s11 np11 hp11 => ?_⟩
    have hq11 := s11 _ _ (s10 _ _ hq9)
    have hp7' := s11 _ _ (s10 _ _ hp9)
    walk_at "go"
    rename_i p12 np12
    have s12 := same_new (o := .lst [.ref p7, .ref p11]) np12
    have hq12 := s12 _ _ hq11
    have h7 := s12 _ _ hp7'
    have h11 := s12 _ _ hp11
    have h12 : upd H11 p12 (.lst [.ref p7, .ref p11]) p12 = some (.lst [.ref p7, .ref p11]) := upd_same
    generalize upd H11 p12 (.lst [.ref p7, .ref p11]) = H12 at hq12 h7 h11 h12 ⊢
    refine w_ixL (i := 0) (.inl (.inl hq12)) (v := .str (S nm)) rfl ?_
    walk_at "go"
    rename_i p13 np13 p14 np14
    have s13 := same_new (o := .tup [.str "Untold", .str (S nm)]) np13
    have s14 := same_new (o := .lst [.ref p13]) np14
    have h13 : upd (upd H12 p13 (.tup [.str "Untold", .str (S nm)])) p14 (.lst [.ref p13]) p13 = some (tupU nm) := s14 _ _ upd_same
    have h14 : upd (upd H12 p13 (.tup [.str "Untold", .str (S nm)])) p14 (.lst [.ref p13]) p14 = some (.lst [.ref p13]) := upd_same
    have h7 := s14 _ _ (s13 _ _ h7)
    have h11 := s14 _ _ (s13 _ _ h11)
    have h12 := s14 _ _ (s13 _ _ h12)
    generalize upd (upd H12 p13 (.tup [.str "Untold", .str (S nm)])) p14 (.lst [.ref p13]) = H14 at h13 h14 h7 h11 h12 ⊢
    refine ⟨p14, 2, [.ref p13], rfl, rfl, h14, by decide, by decide, (by show 2 ≤ sizeLine; decide), fun p15 np15 => ?_⟩
    have s15 := same_new (o := .lst (List.replicate (2 : Int).toNat [V.ref p13]).flatten) np15
    have h15 : upd H14 p15 (.lst (List.replicate (2 : Int).toNat [V.ref p13]).flatten) p15 = some (.lst [.ref p13, .ref p13]) := upd_same
    have h13 := s15 _ _ h13
    have h7 := s15 _ _ h7
    have h11 := s15 _ _ h11
    have h12 := s15 _ _ h12
    generalize upd H14 p15 (.lst (List.replicate (2 : Int).toNat [V.ref p13]).flatten) = H15 at h15 h13 h7 h11 h12 ⊢
    have tt : ∀ {p : Addr}, H15 p = some (tupU nm) → Alk 1 H15 (.ref p) (.ref p13) := fun {p} h => by
      refine .tup h h13 rfl (by simp) fun i x y e1 e2 => ?_
      match i, e1, e2 with
      | 0, e1, e2 =>
        obtain rfl := Option.some.inj e1
        obtain rfl := Option.some.inj e2
        exact .str _
      | 1, e1, e2 =>
        obtain rfl := Option.some.inj e1
        obtain rfl := Option.some.inj e2
        exact .str _
      | i + 2, e1, _ => cases e1
    walk_at "go"
    refine ⟨.ref p12, .ref p15, rfl, .lst h12 h15 rfl (by simp) fun i x y e1 e2 => ?_, fun H16 _ => k H16⟩
    match i, e1, e2 with
    | 0, e1, e2 =>
      obtain rfl := Option.some.inj e1
      obtain rfl := Option.some.inj e2
      exact tt h7
    | 1, e1, e2 =>
      obtain rfl := Option.some.inj e1
      obtain rfl := Option.some.inj e2
      exact tt h11
    | i + 2, e1, _ => cases e1
end
/-! ## F35 -/
section
set_option maxHeartbeats 2000000
open PySem PySem.Spec PyProof.Rows L2


variable {P : Program} {w : World} {K : PySem.W.Frag} {mg : Str → Option Value} {base : Heap}
theorem BandAt.sbB {K : PySem.W.Frag} {H H' : Hp} {p : Addr} {cs : List Cell} {ss rs : List Row} {B : Bg} {m : Nat} (h : BandAt K H p cs ss rs) (b : BagAt B m H) (s : SBut B.b H H') : BandAt K H' p cs ss rs := by
  obtain ⟨dx, fs, a, b', k, h1, h2, h3, h4, h5, h6, h7, h8⟩ := h
  obtain ⟨i, kk, r, bl, e1, _⟩ := id b
  have n1 : a ≠ B.b := ne_of h5.l e1 (fun z => by
    injection z with z
    have := congrArg (fun l => l[1]?) z
    simp only [List.getElem?_map] at this
    obtain ⟨c, _, hc⟩ := Option.map_eq_some_iff.mp (show Option.map _ _ = some (V.int (i : Nat)) from this)
    cases hc)
  have n2 : b' ≠ B.b := ne_of h6 e1 (fun z => by
    injection z with z
    have := congrArg (fun l => l[0]?) z
    simp only [rowL, List.getElem?_map] at this
    obtain ⟨c, _, hc⟩ := Option.map_eq_some_iff.mp (show Option.map _ _ = some (V.ref B.c) from this)
    cases hc)
  exact ⟨dx, fs, a, b', k, s _ _ (ne_of h1 e1 (by intro z; cases z)) h1, h2, h3, h4, h5.sb b s n1, s _ _ n2 h6, s _ _ (ne_of h7 e1 (by intro z; cases z)) h7, h8⟩
theorem tabs_bag {T : List (Addr × Str)} {H H' : Hp} {B : Bg} {m : Nat} (t : LamX.Tabs T H) (b : BagAt B m H) (s : SBut B.b H H') : LamX.Tabs T H' := fun p hp => by
  obtain ⟨xs, e⟩ := b.someB
  obtain ⟨ps, h1, h2, h3⟩ := t p hp
  refine ⟨ps, s _ _ (ne_of h1 e (fun z => by cases z)) h1, h2, fun pos cv hc => ?_⟩
  obtain ⟨c, e1, e2⟩ := h3 pos cv hc
  exact ⟨c, e1, s _ _ (ne_of e2 e (fun z => by unfold LamX.CodeO at z; cases z)) e2⟩
theorem BandAt.updD {K : PySem.W.Frag} {H : Hp} {d bp : Addr} {o : HO} {cs : List Cell} {ss rs : List Row} {ws : Ws} (hB : BandAt K H bp cs ss rs) (hd : H d = some (.dK (WD ws))) (hne : ws ≠ []) : BandAt K (upd H d o) bp cs ss rs := by
  obtain ⟨dx, fs, a, b, kk, h1, h2, h3, h4, h5, h6, h7, h8⟩ := hB
  have up : ∀ {x : Addr} {u : HO}, H x = some u → u ≠ .dK (WD ws) → upd H d o x = some u := fun {x u} e n => by rw [upd_ne (ne_of e hd n)]; exact e
  refine ⟨dx, fs, a, b, kk, up h1 (by intro z; cases z), h2, h3, h4, ⟨up h5.l (by intro z; cases z), fun c hc => ?_⟩, up h6 (by intro z; cases z), up h7 (known_ne hne), h8⟩
  exact up (h5.c c hc) (by intro z; cases z)
theorem law_5 {P1 P2 : Addr} {D : Ends} {H : Hp} {a c hp d : Addr} {cs : List Cell} {ss rs rsh : List Row} {ws : Ws} {o0 o1 o3 o7 o8 o9 o10 o11 o12 o13 o14 o15 o16 o17 o18 o19 o20 : Option V} (tb : LamX.Tabs (TTb P1 P2) H) (hk : CellsOk cs) (hs : SeedsOk cs ss) (so : RowsOk cs.length ss rs) (hm : ∀ r, r ∈ rsh ↔ Prd cs.length ss r) (hc : CellsAt H a cs) (hr : H c = some (.lst (rowL rs))) (hb : BandAt K H hp cs ss rsh) (hd : H d = some (.dK (WD ws))) (hI : LoadI rs 999 ws) (hne : ws ≠ []) (k : ∀ H', D.rt (.bl true) H') :
    (tSeq (tAsg (tTup (tCons (tMake (He.ga K "Book") (sp_Book_init K) [] E0 (tCons (tVar 5) (tCons (tVar 6) tNil))) (tCons (tCall (sp_law_plain K) [] E0 (tCons (tVar 6) tNil)) tNil))) (gTup K 2 (gCons (gName 20) (gCons (gName 7) gNil)))) (tSeq (tPar3 8 9 10 (tCons (tCall (sp_law_untold K) [] E0 (tCons (tVar 7) (tCons (tVar 2) tNil))) (tCons (tCall (sp_law_faces K) [] E0 (tCons (tVar 7) tNil)) (tCons (tOp rMulS (tC (.str ".")) (tCB (rLenQ K) (tCons (tVar 2) tNil))) tNil)))) (tSeq (tIfS (tTest (tOp (rNeD K) (tVar 8) (tLst tNil))) (tSeq (tAsg (tLst (tCons (LamX.tLam (TTb P1 P2) (TTgot K) fun E => tCall (sp_untold_x K) [] E (tCons (tVar 20) tNil)) (tCons (LamX.tLam (TTb P1 P2) (TTgot K) fun E => tCall (sp_untold_x K) [] E (tCons (tVar 20) tNil)) tNil))) (gName 11))
    (tRet (tCall (sp_law_same 2 K) [] E0 (tCons (tVar 11) (tCons (tOp rRep (tLst (tCons (tTup (tCons (tC (.str "Untold")) (tCons (tOp (rIxL K) (tVar 8) (tC (.int 0))) tNil))) tNil)) (tC (.int 2))) tNil))))) tNext) (tSeq (tPar 12 13 (tCons tDNewK (tCons tDNewK tNil))) (tSeq (tLock (tFor (iKeysM (tVar 7)) (gName 14) (tIfS (tTest (tOp rNe (tVar 14) (tVar 10))) (tSeq (sDPut (tVar 12) (tVar 14) (tCall (sp_law_ratio K) [] E0 (tCons (tDGet (tVar 7) (tVar 14)) (tCons (tOp rSubI (tVar 9) (tDGet2 (tVar 7) (tVar 10) (tC (.int 0)))) tNil))))
    (sDPut (tVar 13) (tVar 14) (tCall (sp_law_rest K) [] E0 (tCons (tVar 20) (tCons (tVar 2) (tCons (tVar 14) tNil)))))) tNext))) (tSeq (tPar 15 16 (tCons (tCall (sp_first_tellers K) [] E0 (tCons (tVar 20) tNil)) (tCons (tCall (sp_steady_shares K) [] E0 (tCons (tVar 20) tNil)) tNil))) (tSeq (tIfS (tOr (tNot (tB (tCall (sp_law_same 4 K) [] E0 (tCons (tVar 15) (tCons (tVar 12) tNil))))) (tNot (tB (tCall (sp_law_same 4 K) [] E0 (tCons (tVar 16) (tCons (tOp (rIxT K) (tCall (sp_law_walk P1 P2 K) [] E0 (tCons (tVar 4) (tCons (tVar 7) tNil))) (tC (.int 1))) tNil)))))) (tRet (tC (.bl false))) tNext) (tSeq (tFor (iList K (tCall (sp_law_full K) [] E0 (tCons (tVar 4) tNil))) (gName 17) (tSeq (tAsg (tTup (tCons (tC (.int 0)) (tCons (tC (.int 1)) tNil))) (gName 18))
    (tSeq (tLock (tFor (iKeysM (tVar 12)) (gName 14) (tIfS (tTest (tOp rEq (tCall (sp_law_over K) [] E0 (tCons (tVar 14) (tCons (tVar 17) tNil))) (tVar 17))) (tAsg (tCall (sp_law_add K) [] E0 (tCons (tVar 18) (tCons (tCall (sp_law_by K) [] E0 (tCons (tDGet (tVar 12) (tVar 14)) (tCons (tDGet2 (tDGet (tVar 13) (tVar 14)) (tCall (sp_law_other K) [] E0 (tCons (tVar 17) (tCons (tVar 14) tNil))) (tTup (tCons (tC (.int 0)) (tCons (tC (.int 1)) tNil)))) tNil))) tNil))) (gName 18)) tNext)))
    (tIfS (tNot (tB (tCall (sp_law_same 1 K) [] E0 (tCons (tDGet2 (tVar 16) (tVar 17) (tTup (tCons (tC (.int 0)) (tCons (tC (.int 1)) tNil)))) (tCons (tVar 18) tNil))))) (tRet (tC (.bl false))) tNext)))) (tSeq (sDPut (tVar 15) (tOp (rIxL K) (tVar 4) (tUn rNegI (tC (.int 1)))) (tTup (tCons (tC (.int 0)) (tCons (tC (.int 1)) tNil)))) (tSeq (sDPut (tVar 16) (tOp (rIxL K) (tVar 4) (tC (.int 0))) (tTup (tCons (tC (.int 0)) (tCons (tC (.int 1)) tNil)))) (tSeq (tAsg (tLst (tCons (tCall (sp_first_tellers K) [] E0 (tCons (tVar 20) tNil)) (tCons (tCall (sp_steady_shares K) [] E0 (tCons (tVar 20) tNil)) tNil))) (gName 19)) (tRet (tCall (sp_law_same 5 K) [] E0 (tCons (tVar 19) (tCons (tLst (tCons (tVar 12) (tCons (tOp (rIxT K) (tCall (sp_law_walk P1 P2 K) [] E0 (tCons (tVar 4) (tCons (tVar 7) tNil))) (tC (.int 1))) tNil))) tNil))))))))))))))) D [o0, o1, some (.ref a), o3, some (.ref c), some (.ref hp), some (.ref d), o7, o8, o9, o10, o11, o12, o13, o14, o15, o16, o17, o18, o19, o20] H := by
  have hsl : ∀ s ∈ ss, s.length = cs.length := fun s h => (hs.fit s h).1
  have hl40 : ws.length ≤ 40 := Nat.le_trans hI.len (Nat.le_trans so.few (by decide))
  have hw : WOk cs.length ws := ⟨hne, hl40, hI.nd, fun a ha => Prd.len hsl ((so.mem _).mp (hI.sub a ha)), hI.val⟩
  walk_at "go"
  intro x dx nx nd hne'
  have sx : Same H (upd (upd H dx (.own x)) x (.ins (He.ga K "Book") dx [])) := (same_new nd).trans (same_new (by rw [upd_ne hne'.symm]; exact nx))
  refine ⟨x, dx, hp, d, cs, ss, rsh, ws, rfl, upd_same, hb.same sx, sx _ _ hd, hne, hl40, ⟨hI.nd, fun a ha => (hm _).mpr ((so.mem _).mp (hI.sub a ha)), hI.val⟩, fun H1 l S1 lp ls hB1 => ⟨rfl, ?_⟩⟩
  have s1 : Same H H1 := same_of nx nd hne' S1
  have hd1 := s1 _ _ hd
  walk_at "go"
  refine ⟨d, ws, rfl, hd1, hl40, hI.nd, hne, hw.bok.val, fun wd H2 l' s2 nwd lp' ls' hwd => ?_⟩
  obtain rfl : l' = l := srt_unique (lp'.trans lp.symm) ls' ls
  iterate 4 (walk_at "g1")
  rename_i p3 np3
  have s3 := same_new (o := .tup [.ref x, .ref wd]) np3
  have W : Wk K P1 P2 H1 (upd H2 p3 (.tup [.ref x, .ref wd])) a c hp x wd cs ss rs rsh (lowOf l' ws) :=
    ⟨⟨hc.same s1, s1 _ _ hr, hb.same s1, hB1⟩, LamX.ExtN.of (s2.trans s3), tb.ext ((s1.trans s2).trans s3), nwd, s3 _ _ hwd⟩
  exact law_B W (s2.trans s3) hk hs so (low_wok lp hw) (low_sub lp hI.sub) k
def sp_law (P1 P2 : Addr) (K : PySem.W.Frag) : Sp := fun vs H Q _ => ∃ a, ∃ zs : List Int, vs = [.ref a] ∧ SqL K H a (zs.map V.int) ∧ zs.length ≤ 1000 ∧ H P1 = some (.tbl #[]) ∧ H P2 = some (.tbl #[]) ∧ ∀ H', Q (.bl true) H'
abbrev nm_law : List Str := ["_law_script", "_law_bag_here", "_law_cells_here", "_law_some", "_law_rows_here", "_law_hub", "_law_load_here", "_law_w", "_law_missing", "_law_faces_here", "_law_blank", "_law_found", "_law_due", "_law_rests", "_law_x", "_law_first", "_law_steady", "_law_row", "_law_share", "_law_again", "_law_book"]
theorem sc_law : FnScope nm_law ["_law_script"] (defScope s_law) := ⟨rfl, rfl, rfl, by decide +kernel, rfl, by decide +kernel, by decide +kernel⟩
abbrev t_law (P1 P2 : Addr) (K : PySem.W.Frag) : TS := (tSeq (tAsg (tCall (sp_law_bag K) [] E0 (tCons (tVar 0) tNil)) (gName 1))
    (tSeq (tAsg (tCall (sp_law_band K) [] E0 (tCons (tVar 1) (tCons (tC (.int 20)) tNil))) (gTup K 3 (gCons (gName 2) (gCons (gName 3) (gCons (gName 4) gNil)))))
    (tSeq (tAsg (tMake (He.ga K "Band") (sp_Band_init K) [.int 800] E0 (tCons (tVar 2) (tCons (tVar 3) tNil))) (gName 5))
    (tSeq (tAsg (tCall (sp_law_load K) [] E0 (tCons (tVar 1) (tCons (tVar 4) (tCons (tVar 3) (tCons (tOp rGtI (tCall (sp_law_draw K) [] E0 (tCons (tVar 1) (tCons (tC (.int 8)) tNil))) (tC (.int 0))) tNil))))) (gName 6))
    (tSeq (tIfS (tTest (tOp rEq (tCall (sp_law_draw K) [] E0 (tCons (tVar 1) (tCons (tC (.int 4)) tNil))) (tC (.int 0)))) (sDPut (tVar 6) (tOp rMulS (tC (.str ".")) (tCB (rLenQ K) (tCons (tVar 2) tNil))) (tOp rAddI (tC (.int 1)) (tCall (sp_law_draw K) [] E0 (tCons (tVar 1) (tCons (tC (.int 20)) tNil))))) tNext)
    (tSeq (tAsg (tTup (tCons (tMake (He.ga K "Book") (sp_Book_init K) [] E0 (tCons (tVar 5) (tCons (tVar 6) tNil))) (tCons (tCall (sp_law_plain K) [] E0 (tCons (tVar 6) tNil)) tNil))) (gTup K 2 (gCons (gName 20) (gCons (gName 7) gNil))))
    (tSeq (tPar3 8 9 10 (tCons (tCall (sp_law_untold K) [] E0 (tCons (tVar 7) (tCons (tVar 2) tNil))) (tCons (tCall (sp_law_faces K) [] E0 (tCons (tVar 7) tNil)) (tCons (tOp rMulS (tC (.str ".")) (tCB (rLenQ K) (tCons (tVar 2) tNil))) tNil))))
    (tSeq (tIfS (tTest (tOp (rNeD K) (tVar 8) (tLst tNil))) (tSeq (tAsg (tLst (tCons (LamX.tLam (TTb P1 P2) (TTgot K) fun E => tCall (sp_untold_x K) [] E (tCons (tVar 20) tNil)) (tCons (LamX.tLam (TTb P1 P2) (TTgot K) fun E => tCall (sp_untold_x K) [] E (tCons (tVar 20) tNil)) tNil))) (gName 11))
    (tRet (tCall (sp_law_same 2 K) [] E0 (tCons (tVar 11) (tCons (tOp rRep (tLst (tCons (tTup (tCons (tC (.str "Untold")) (tCons (tOp (rIxL K) (tVar 8) (tC (.int 0))) tNil))) tNil)) (tC (.int 2))) tNil))))) tNext)
    (tSeq (tPar 12 13 (tCons tDNewK (tCons tDNewK tNil)))
    (tSeq (tLock (tFor (iKeysM (tVar 7)) (gName 14) (tIfS (tTest (tOp rNe (tVar 14) (tVar 10))) (tSeq (sDPut (tVar 12) (tVar 14) (tCall (sp_law_ratio K) [] E0 (tCons (tDGet (tVar 7) (tVar 14)) (tCons (tOp rSubI (tVar 9) (tDGet2 (tVar 7) (tVar 10) (tC (.int 0)))) tNil))))
    (sDPut (tVar 13) (tVar 14) (tCall (sp_law_rest K) [] E0 (tCons (tVar 20) (tCons (tVar 2) (tCons (tVar 14) tNil)))))) tNext)))
    (tSeq (tPar 15 16 (tCons (tCall (sp_first_tellers K) [] E0 (tCons (tVar 20) tNil)) (tCons (tCall (sp_steady_shares K) [] E0 (tCons (tVar 20) tNil)) tNil)))
    (tSeq (tIfS (tOr (tNot (tB (tCall (sp_law_same 4 K) [] E0 (tCons (tVar 15) (tCons (tVar 12) tNil))))) (tNot (tB (tCall (sp_law_same 4 K) [] E0 (tCons (tVar 16) (tCons (tOp (rIxT K) (tCall (sp_law_walk P1 P2 K) [] E0 (tCons (tVar 4) (tCons (tVar 7) tNil))) (tC (.int 1))) tNil)))))) (tRet (tC (.bl false))) tNext)
    (tSeq (tFor (iList K (tCall (sp_law_full K) [] E0 (tCons (tVar 4) tNil))) (gName 17) (tSeq (tAsg (tTup (tCons (tC (.int 0)) (tCons (tC (.int 1)) tNil))) (gName 18))
    (tSeq (tLock (tFor (iKeysM (tVar 12)) (gName 14) (tIfS (tTest (tOp rEq (tCall (sp_law_over K) [] E0 (tCons (tVar 14) (tCons (tVar 17) tNil))) (tVar 17))) (tAsg (tCall (sp_law_add K) [] E0 (tCons (tVar 18) (tCons (tCall (sp_law_by K) [] E0 (tCons (tDGet (tVar 12) (tVar 14)) (tCons (tDGet2 (tDGet (tVar 13) (tVar 14)) (tCall (sp_law_other K) [] E0 (tCons (tVar 17) (tCons (tVar 14) tNil))) (tTup (tCons (tC (.int 0)) (tCons (tC (.int 1)) tNil)))) tNil))) tNil))) (gName 18)) tNext)))
    (tIfS (tNot (tB (tCall (sp_law_same 1 K) [] E0 (tCons (tDGet2 (tVar 16) (tVar 17) (tTup (tCons (tC (.int 0)) (tCons (tC (.int 1)) tNil)))) (tCons (tVar 18) tNil))))) (tRet (tC (.bl false))) tNext))))
    (tSeq (sDPut (tVar 15) (tOp (rIxL K) (tVar 4) (tUn rNegI (tC (.int 1)))) (tTup (tCons (tC (.int 0)) (tCons (tC (.int 1)) tNil))))
    (tSeq (sDPut (tVar 16) (tOp (rIxL K) (tVar 4) (tC (.int 0))) (tTup (tCons (tC (.int 0)) (tCons (tC (.int 1)) tNil))))
    (tSeq (tAsg (tLst (tCons (tCall (sp_first_tellers K) [] E0 (tCons (tVar 20) tNil)) (tCons (tCall (sp_steady_shares K) [] E0 (tCons (tVar 20) tNil)) tNil))) (gName 19))
    (tRet (tCall (sp_law_same 5 K) [] E0 (tCons (tVar 19) (tCons (tLst (tCons (tVar 12) (tCons (tOp (rIxT K) (tCall (sp_law_walk P1 P2 K) [] E0 (tCons (tVar 4) (tCons (tVar 7) tNil))) (tC (.int 1))) tNil))) tNil))))))))))))))))))))
theorem ok_law (T : Tx K mg) (U : TxU K mg) {P1 P2 : Addr} (L : LTb K mg base P1 P2) {fd : FuncData} (F : FunD K "law" "law" (defArgs s_law) (defBody s_law) (defScope s_law) [] [] (He.ga K "law") fd) : FnOk P w K mg base C8.CX0 15 (He.ga K "law") fd ["_law_script"] (sp_law P1 P2 K) := by
  obtain ⟨oc, od, dV, kV, doc, pm, an, cdv, ct, osl, e, lk, hcd, _, _⟩ := id F.ex
  subst e
  obtain ⟨c, rfl⟩ := He.codeIn_ref hcd
  have ec : codeA K "law" = c := He.codeOf_eq (p := ("law", none)) lk rfl
  refine fn_of lk hcd sc_law (fun vs H Q E h => ?_) fun A outer s H vs Q E hr h => ?_
  · obtain ⟨a, zs, rfl, _⟩ := h
    rfl
  · rw [← ec] at hr ⊢
    have hu := hu_of hr
    refine ⟨t_law P1 P2 K, PSs.nox ((pss_cons (ps_set (i := 1) sc_law.nd rfl (Or.inl rfl) (C8.pe_c (c_law_bag T) hr (by decide) (by rfl) (pa_cons (pv 0) pa_nil)))
      (pss_cons (ps_asg (C8.pe_c (c_law_band T) hr (by decide) (by rfl) (pa_cons (pv 1) (pa_cons pe_int pa_nil))) (pg_tup rfl (pgs_cons (pg_name (i := 2) sc_law.nd rfl (Or.inl rfl) (hf := Or.inr rfl)) (pgs_cons (pg_name (i := 3) sc_law.nd rfl (Or.inl rfl) (hf := Or.inr rfl)) (pgs_cons (pg_name (i := 4) sc_law.nd rfl (Or.inl rfl) (hf := Or.inr rfl)) pgs_nil)))))
      (pss_cons (ps_set (i := 5) sc_law.nd rfl (Or.inl rfl) (C8.pe_mk (k_Band T) hr (by decide) (by rfl) (pa_cons (pv 2) (pa_cons (pv 3) pa_nil))))
      (pss_cons (ps_set (i := 6) sc_law.nd rfl (Or.inl rfl) (C8.pe_c (c_law_load T) hr (by decide) (by rfl) (pa_cons (pv 1) (pa_cons (pv 4) (pa_cons (pv 3) (pa_cons (pe_cmpR op_gt (C8.pe_c (c_law_draw T) hr (by decide) (by rfl) (pa_cons (pv 1) (pa_cons pe_int pa_nil))) pe_int (nomark _)) pa_nil))))))
      (pss_cons (ps_if (pt_cmpR op_eq (C8.pe_c (c_law_draw T) hr (by decide) (by rfl) (pa_cons (pv 1) (pa_cons pe_int pa_nil))) pe_int (nomark _)) (pss_one (ps_dput hu (pv 6) (pe_op op_mul_str pe_str (pe_callB call_len_seq (by rfl) T.b_len bt_len (pa_cons (pv 2) pa_nil))) (pe_op op_add pe_int (C8.pe_c (c_law_draw T) hr (by decide) (by rfl) (pa_cons (pv 1) (pa_cons pe_int pa_nil)))) rfl)) pss_nil)
      (pss_cons (ps_asg (pe_tup (pa_cons (C8.pe_mk (k_Book T) hr (by decide) (by rfl) (pa_cons (pv 5) (pa_cons (pv 6) pa_nil))) (pa_cons (C8.pe_c (c_law_plain T) hr (by decide) (by rfl) (pa_cons (pv 6) pa_nil)) pa_nil))) (pg_tup rfl (pgs_cons (pg_name (i := 20) sc_law.nd rfl (Or.inr rfl) (hf := Or.inl rfl)) (pgs_cons (pg_name (i := 7) sc_law.nd rfl (Or.inl rfl) (hf := Or.inr rfl)) pgs_nil))))
      (pss_cons (ps_par3 (i := 8) (j := 9) (l := 10) (by rfl) sc_law.nd rfl rfl rfl (by decide) (by decide) (by decide) rfl rfl rfl (pa_cons (C8.pe_c (c_law_untold T) hr (by decide) (by rfl) (pa_cons (pv 7) (pa_cons (pv 2) pa_nil))) (pa_cons (C8.pe_c (c_law_faces T) hr (by decide) (by rfl) (pa_cons (pv 7) pa_nil)) (pa_cons (pe_op op_mul_str pe_str (pe_callB call_len_seq (by rfl) T.b_len bt_len (pa_cons (pv 2) pa_nil))) pa_nil))) (by rfl))
      (pss_cons (ps_if (pt_cmpR (op_neD hr.units) (pv 8) (pe_lst pa_nil) (nomark _)) (pss_cons (ps_set (i := 11) sc_law.nd rfl (Or.inl rfl) (pe_lst (pa_cons (pe_gotX T U L (x_first_tellers T U) (by rfl) (by exact List.mem_cons_self) (fun p hp e => by rcases List.mem_cons.mp hp with z | z; (rw [z]; rfl); (rw [List.mem_singleton.mp z] at e; exact absurd e.symm L.ne)) (hr.mono (by decide)) (by rfl) (by show LamX.lamSB (defScope s_law) _ = true; decide +kernel) (by rfl) (by rfl) (by rfl) (by rfl) (fun _ _ _ _ _ => rfl) (by decide)) (pa_cons (pe_gotX T U L (x_steady_shares T U) (by rfl) (by exact List.mem_cons_self) (fun p hp e => by rcases List.mem_cons.mp hp with z | z; (rw [z]; rfl); (rw [List.mem_singleton.mp z] at e; exact absurd e.symm L.ne)) (hr.mono (by decide)) (by rfl) (by show LamX.lamSB (defScope s_law) _ = true; decide +kernel) (by rfl) (by rfl) (by rfl) (by rfl) (fun _ _ _ _ _ => rfl) (by decide)) pa_nil))))
      (pss_one (ps_ret (C8.pe_c (c_law_same T 2) hr (by decide) (by rfl) (pa_cons (pv 11) (pa_cons (pe_op op_rep (pe_lst (pa_cons (pe_tup (pa_cons pe_str (pa_cons (pe_ix ix_list (pv 8) pe_int (fun _ _ => rfl)) pa_nil))) pa_nil)) pe_int) pa_nil)))))) pss_nil)
      (pss_cons (ps_par (i := 12) (j := 13) (by rfl) sc_law.nd rfl rfl (by decide) rfl rfl (pa_cons pe_dnewK (pa_cons pe_dnewK pa_nil)) (by rfl))
      (pss_cons (ps_lock (ps_for PassesOwn.never rfl (pi_keysM (pv 7)) (pg_name (i := 14) sc_law.nd rfl (Or.inl rfl) (hf := Or.inr rfl)) (pss_one (ps_if (pt_cmpR op_ne (pv 14) (pv 10) (nomark _)) (pss_cons (ps_dput hu (pv 12) (pv 14) (C8.pe_c (c_law_ratio T) hr (by decide) (by rfl) (pa_cons (pe_dget hu (pv 7) (pv 14) (fun _ _ => rfl)) (pa_cons (pe_op op_sub (pv 9) (pe_dget2 hu (pv 7) (pv 10) pe_int ⟨rfl, rfl, rfl, rfl⟩)) pa_nil))) rfl)
      (pss_one (ps_dput hu (pv 13) (pv 14) (C8.pe_c (c_law_rest T) hr (by decide) (by rfl) (pa_cons (pv 20) (pa_cons (pv 2) (pa_cons (pv 14) pa_nil)))) rfl))) pss_nil))))
      (pss_cons (ps_par (i := 15) (j := 16) (by rfl) sc_law.nd rfl rfl (by decide) rfl rfl (pa_cons (C8.pe_c (c_first_tellers T) hr (by decide) (by rfl) (pa_cons (pv 20) pa_nil)) (pa_cons (C8.pe_c (c_steady_shares T) hr (by decide) (by rfl) (pa_cons (pv 20) pa_nil)) pa_nil)) (by rfl))
      (pss_cons (ps_if (PW.pt (pw_or (pt_not (pt_val (C8.pe_c (c_law_same T 4) hr (by decide) (by rfl) (pa_cons (pv 15) (pa_cons (pv 12) pa_nil))))) (pw_or1 (pt_not (pt_val (C8.pe_c (c_law_same T 4) hr (by decide) (by rfl) (pa_cons (pv 16) (pa_cons (pe_ix ix_tup (C8.pe_c (c_law_walk T L) hr (by decide) (by rfl) (pa_cons (pv 4) (pa_cons (pv 7) pa_nil))) pe_int (fun _ _ => rfl)) pa_nil)))))))) (pss_one (ps_ret pe_bl)) pss_nil)
      (pss_cons (ps_for PassesOwn.never rfl (pi_list (C8.pe_c (c_law_full T) hr (by decide) (by rfl) (pa_cons (pv 4) pa_nil))) (pg_name (i := 17) sc_law.nd rfl (Or.inl rfl) (hf := Or.inr rfl)) (pss_cons (ps_set (i := 18) sc_law.nd rfl (Or.inl rfl) (pe_tup (pa_cons pe_int (pa_cons pe_int pa_nil))))
      (pss_cons (ps_lock (ps_for PassesOwn.never rfl (pi_keysM (pv 12)) (pg_name (i := 14) sc_law.nd rfl (Or.inl rfl) (hf := Or.inr rfl)) (pss_one (ps_if (pt_cmpR op_eq (C8.pe_c (c_law_over T) hr (by decide) (by rfl) (pa_cons (pv 14) (pa_cons (pv 17) pa_nil))) (pv 17) (nomark _)) (pss_one (ps_set (i := 18) sc_law.nd rfl (Or.inl rfl) (C8.pe_c (c_law_add T) hr (by decide) (by rfl) (pa_cons (pv 18) (pa_cons (C8.pe_c (c_law_by T) hr (by decide) (by rfl) (pa_cons (pe_dget hu (pv 12) (pv 14) (fun _ _ => rfl)) (pa_cons (pe_dget2 hu (pe_dget hu (pv 13) (pv 14) (fun _ _ => rfl)) (C8.pe_c (c_law_other T) hr (by decide) (by rfl) (pa_cons (pv 17) (pa_cons (pv 14) pa_nil))) (pe_tup (pa_cons pe_int (pa_cons pe_int pa_nil))) ⟨rfl, rfl, rfl, rfl⟩) pa_nil))) pa_nil))))) pss_nil))))
      (pss_one (ps_if (pt_not (pt_val (C8.pe_c (c_law_same T 1) hr (by decide) (by rfl) (pa_cons (pe_dget2 hu (pv 16) (pv 17) (pe_tup (pa_cons pe_int (pa_cons pe_int pa_nil))) ⟨rfl, rfl, rfl, rfl⟩) (pa_cons (pv 18) pa_nil))))) (pss_one (ps_ret pe_bl)) pss_nil)))))
      (pss_cons (ps_dput hu (pv 15) (pe_ix ix_list (pv 4) (pe_un un_neg pe_int) (fun _ _ => rfl)) (pe_tup (pa_cons pe_int (pa_cons pe_int pa_nil))) rfl)
      (pss_cons (ps_dput hu (pv 16) (pe_ix ix_list (pv 4) pe_int (fun _ _ => rfl)) (pe_tup (pa_cons pe_int (pa_cons pe_int pa_nil))) rfl)
      (pss_cons (ps_set (i := 19) sc_law.nd rfl (Or.inl rfl) (pe_lst (pa_cons (C8.pe_c (c_first_tellers T) hr (by decide) (by rfl) (pa_cons (pv 20) pa_nil)) (pa_cons (C8.pe_c (c_steady_shares T) hr (by decide) (by rfl) (pa_cons (pv 20) pa_nil)) pa_nil))))
      (pss_one (ps_ret (C8.pe_c (c_law_same T 5) hr (by decide) (by rfl) (pa_cons (pv 19) (pa_cons (pe_lst (pa_cons (pv 12) (pa_cons (pe_ix ix_tup (C8.pe_c (c_law_walk T L) hr (by decide) (by rfl) (pa_cons (pv 4) (pa_cons (pv 7) pa_nil))) pe_int (fun _ _ => rfl)) pa_nil))) pa_nil)))))))))))))))))))))), ?_⟩
    obtain ⟨a0, zs, rfl, hz, hzl, ht1, ht2, k⟩ := h
    have hT : LamX.Tabs (TTb P1 P2) H := fun p hp => by
      rcases List.mem_cons.mp hp with z | z
      · rw [z]; exact LamX.TabS.nil ht1
      · rw [List.mem_singleton.mp z]; exact LamX.TabS.nil ht2
    have e0 : start nm_law [.ref a0] = [some (.ref a0), none, none, none, none, none, none, none, none, none, none, none, none, none, none, none, none, none, none, none, none] := rfl
    rw [e0]
    walk_at "go"
    refine ⟨a0, zs, rfl, hz, hzl, fun B H1 s1 nb1 nc1 hB1 => ?_⟩
    have t1 := hT.ext s1
    walk_at "go"
    refine ⟨B, 0, rfl, hB1, by decide, fun p2 H2 a b c cs ss rs S2 hB2 hp2 na nb nc hca hk hss hs hrs so => ?_⟩
    refine w_gt3T hp2 ?_
    walk_at "go"
    have t2 := tabs_bag t1 hB1 S2
    intro x dx nx nd hne'
    have sx : Same H2 (upd (upd H2 dx (.own x)) x (.ins (He.ga K "Band") dx [])) := (same_new nd).trans (same_new (by rw [upd_ne hne'.symm]; exact nx))
    refine ⟨x, dx, a, b, cs, ss, rfl, upd_same, hca.same sx, hk, sx _ _ hss, hs, few_of so, fun H3 rsh S3 hb3 hm => ⟨rfl, ?_⟩⟩
    have s3 : Same H2 H3 := same_of nx nd hne' S3
    have hB3 := hB2.same s3
    have hca3 := hca.same s3
    have hss3 := s3 _ _ hss
    have hrs3 := s3 _ _ hrs
    have t3 := t2.ext s3
    walk_at "go"
    refine ⟨B, _, 8, rfl, hB3, by omega, by decide, by decide, fun d4 H4 S4 hB4 _ => ?_⟩
    have hca4 := hca3.sb hB3 S4 na
    have hss4 := S4 _ _ nb hss3
    have hrs4 := S4 _ _ nc hrs3
    have hb4 := hb3.sbB hB3 S4
    have t4 := tabs_bag t3 hB3 S4
    walk_at "go"
    refine ⟨B, c, b, _, _, cs, ss, rs, rfl, hB4, by omega, hrs4, nc, hss4, nb, hk, hs, so, fun d H5 ws S5 hB5 nd5 ndb ndc hd5 hI hne => ?_⟩
    have hca5 := hca4.sb hB4 S5 na
    have hss5 := S5 _ _ nb hss4
    have hrs5 := S5 _ _ nc hrs4
    have hb5 := hb4.sbB hB4 S5
    have t5 := tabs_bag t4 hB4 S5
    walk_at "go"
    refine ⟨B, _, 4, rfl, hB5, by omega, by decide, by decide, fun d6 H6 S6 hB6 _ => ?_⟩
    have hca6 := hca5.sb hB5 S6 na
    have hrs6 := S6 _ _ nc hrs5
    have hb6 := hb5.sbB hB5 S6
    have t6 := tabs_bag t5 hB5 S6
    have hd6 := S6 _ _ ndb hd5
    have hn6 := hk.few
    walk_at "go"
    have hsl : ∀ s ∈ ss, s.length = cs.length := fun s h => (hs.fit s h).1
    refine w_dec (fun e => ?_) (fun e => ?_)
    · walk_at "go"
      refine ⟨B, _, 20, rfl, hB6, by omega, by decide, by decide, fun d7 H7 S7 hB7 lt7 => ?_⟩
      have hca7 := hca6.sb hB6 S7 na
      have hrs7 := S7 _ _ nc hrs6
      have hb7 := hb6.sbB hB6 S7
      have t7 := tabs_bag t6 hB6 S7
      have hd7 := S7 _ _ ndb hd6
      have hcl7 : SqL K H7 a (cs.map fun c => .ref c.p) := .inl (.inl hca7.l)
      walk_at "go"
      have ev : (1 : Int) + (d7 : Nat) = ((1 + d7 : Nat) : Int) := by omega
      rw [ev]
      have hbl : blankR cs.length ∈ rs := (so.mem _).mpr Prd.nil
      have I8 := hI.put (n := 1 + d7) hbl (by omega) (by omega)
      refine w_dputR (l := ws) (r := List.replicate cs.length 46) (v := 1 + d7) hd7 (Nat.le_trans hI.len (Nat.le_trans so.few (by decide))) ?_
      have up : ∀ {x : Addr} {u : HO}, H7 x = some u → u ≠ .dK (WD ws) → upd H7 d (.dK (WD (putA ws (List.replicate cs.length 46) (1 + d7)))) x = some u := fun {x u} e n => by rw [upd_ne (ne_of e hd7 n)]; exact e
      exact law_5 (tabs_sb t7 sb_upd (fun b hb => by rw [List.mem_singleton.mp hb]; exact ⟨_, hd7⟩)) hk hs so hm ⟨up hca7.l (by intro z; cases z), fun c hc => up (hca7.c c hc) (by intro z; cases z)⟩ (up hrs7 (by intro z; cases z)) (hb7.updD hd7 hne) upd_same I8.1 I8.2 k
    · exact law_5 t6 hk hs so hm hca6 hrs6 hb6 hd6 hI hne k
end
end NT
/-! ## H3 -/
section
set_option maxHeartbeats 2000000
namespace NT
open PySem PySem.Spec PyProof.Rows L2
theorem txu_of {K : PySem.W.Frag} {mg : Str → Option Value} {h : Heap} (X : K.In h) (G : h.Ns mainGlobals mg) (c : He.SaysD hfa hfn K) (m : excB K = true) : TxU K mg := by
  obtain ⟨h1, m⟩ := He.ba m
  obtain ⟨h2, m⟩ := He.ba m
  obtain ⟨h3, m⟩ := He.ba m
  obtain ⟨h4, m⟩ := He.ba m
  obtain ⟨h5, m⟩ := He.ba m
  obtain ⟨h6, m⟩ := He.ba m
  obtain ⟨h7, m⟩ := He.ba m
  obtain ⟨h8, m⟩ := He.ba m
  obtain ⟨h9, m⟩ := He.ba m
  obtain ⟨h10, h11⟩ := He.ba m
  exact ⟨He.glo_ok X G (c.fact 102 (f := .glo "TellsError") rfl), He.glo_ok X G (c.fact 103 (f := .glo "Untold") rfl), oexB_ok h1, He.eqO_ok h2, of_decide_eq_true h3, He.eqO_ok h4, He.eqO_ok h5,
    ⟨xfB_ok h6, h7, He.eqO_ok h8, He.eqO_ok h9, of_decide_eq_true h10, of_decide_eq_true h11⟩, He.exm_ok (c.fact 104 (f := .exm "Untold" "TellsError" true) rfl)⟩
theorem law_at {w : World} {K : PySem.W.Frag} {mg : Str → Option Value} {fa : Addr} {h : Heap} (KX : K.In h) (c : SaysL h K) (G : h.Ns mainGlobals mg) (hmg : mg ("law" : Str) = some (.ref fa)) :
    LamX.LawAtS PySem.Challenge.rw_newesttells_k71_whole_first_tellers w K C8.CX0 15 63 "_law_script" mg fa h := by
  obtain ⟨fd, F⟩ := c.d.def_ 59 (d := d_law) rfl
  have e := hmg.symm.trans (He.glo_ok KX G (c.d.fact 81 (f := .glo "law") rfl))
  cases e
  obtain ⟨x1, x2, x3, x4⟩ := ex_parts c.ex
  have hm : ∀ p ∈ [He.cT K lawD, He.cT K sizeD], ∃ d ∈ lawT, p = He.cT K d := fun p hp => by
    rcases List.mem_cons.mp hp with z | z
    · exact ⟨lawD, List.mem_cons_self, z⟩
    · exact ⟨sizeD, List.mem_cons_of_mem _ List.mem_cons_self, List.mem_singleton.mp z⟩
  have b := FunD.bindsA (ps := ["_law_script"]) F fun _ _ _ _ _ _ us hl => match us, hl with | [_], _ => rfl
  refine ⟨fd, [He.cT K lawD, He.cT K sizeD], sp_law (He.cT K lawD).2 (He.cT K sizeD).2 K, fun p hp => ?_, fun p hp => ?_, fun p hp => ?_, fun s v => b s [v] rfl, fun H a ns hl _ hP hS => ⟨a, ns, rfl, hS, Nat.le_trans hl (by decide), hP _ List.mem_cons_self, hP _ (List.mem_cons_of_mem _ List.mem_cons_self), fun _ => rfl⟩, fun base _ _ TB => ?_⟩
  · obtain ⟨d, hd, rfl⟩ := hm p hp
    exact c.emp d hd
  · obtain ⟨d, hd, rfl⟩ := hm p hp
    exact c.out d hd
  · obtain ⟨d, hd, rfl⟩ := hm p hp
    exact PySem.W.codeHd_of_K KX (c.hd d hd)
  · exact ok_law (tx_of KX G c.d c.ex c.pf c.ps) (txu_of KX G c.d x3) ⟨TB _ List.mem_cons_self, TB _ (List.mem_cons_of_mem _ List.mem_cons_self), x4⟩ F
end NT
theorem PySem.Challenge.cw_newesttells_k71_whole_first_tellers_holds : PySem.Challenge.rw_newesttells_k71_whole_first_tellers.Holds := by
  refine NT.holds_of (LamX.walk_ofTsE (l := PySem.Challenge.rw_newesttells_k71_whole_first_tellers) (n := 63) (k := 15) (x := "_law_script") (CX := fun _ => C8.CX0) rfl (by decide) (by kernel_rfl) ⟨rfl, by decide, by decide⟩ ?F (fun _ _ _ _ _ z => z))
  intro w mg fa h Y G hmg0
  obtain ⟨K, KX, c⟩ := Y
  have hmg : mg ("law" : PySem.Str) = some (.ref fa) := by
    have e : (HandSHeadRun.topDef (PySem.W.OpenLaw.row PySem.Challenge.rw_newesttells_k71_whole_first_tellers).prog 109).name = ("law" : PySem.Str) := by kernel_rfl
    rw [← e]
    exact hmg0
  exact ⟨K, KX, NT.law_at KX c G hmg⟩
end
