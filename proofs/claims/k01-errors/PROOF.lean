import PyProof.Rows.All
import Wide.All
import OpenK.AllK
import Wide.FinOn
import PyProof.ReprRoads
import KE.KExcIs
import HandS.ForMost
import HandS.ForExc
import HandS.ExcInit
import HandS.ExcIs
import HandS.IsInst
import HandS.ExcField
import HandS.ExcValue
import HandS.TryOnly
import PyProof.ReprLen
import HandS.Walk
import PySem.Challenge.RW_whostrayed_k01_errors
set_option Elab.async false
set_option linter.all false
set_option maxRecDepth 100000
set_option maxHeartbeats 4000000
/-! Own errors as values: made, kept in lists, read, asked for their classes. -/
namespace Er
open PySem L2 PySem.Spec PyProof.Rows
section
variable {X : Cx} {pins : List (Addr × Obj)} {σ : L2.St} {H : Hp} {s : Shared} {a C fI : Addr} {e o : Expr} {es : List Expr} {ta : TA} {te : TE} {x f : Str} {p pos : Pos}
/-- C(e, ..) as a value, C's own __init__ keeping sp -/
def tMk (C : Addr) (sp : Sp) (ta : TA) : TE := fun σ H Q => ta σ H fun vs H1 => vs.length ≤ 1000 ∧ ∀ a, H1 a = none → sp (.ref a :: vs) (upd H1 a (exo a C none))
  (fun v H2 => v = .non ∧ Q (.ref a) H2) (fun _ _ _ => False)
theorem pe_mk {CX : CXT} {k : Nat} {fd : FuncData} {ps : List Str} {sp : Sp} (T : OexC X.K C)
    (iC : PySem.W.findIn X.K (.ref C) "__init__" = some (some (.ref fI)))
    (tI : PySem.W.typeIn X.K (.ref fI) = some (.type "function"))
    (F1 : FnOk X.prog X.w X.K X.mg X.base CX k fI fd ps sp) (hr : Room (k + 1) X.A) (hb : Binds X.K fd ps [])
    (hx : Passes CX X (fun _ _ _ => False)) (hg : Gl X x) (hm : X.mg x = some (.ref C)) (ha : PA X (e :: es) ta)
    (hdb : (x == ("__debug__" : Str)) = false := by decide)
    (he : starEach (e :: es) X.env = (false, eval e X.env) :: starEach es X.env := by rfl)
    (hpl : (backTo pos (starEach es X.env)).any (·.1) = false := by rfl) :
    PE X (.Call (.Name x p) (e :: es) [] pos) (tMk C sp ta) := by
  refine ⟨fun pins s σ H Q I h => ?_⟩
  obtain ⟨nm, q, N, bs, bm, sn, sub, ab, col, dd, k0, k1, k2, k3, k5, hC, hbm⟩ := T.cls
  refine wpAny_Call_Name_kw (ld_glob I hg hm ?_ hdb)
  refine PySem.W.callWith_K (h₀ := X.base) I.ok.mod.kin T.kC ?_ he hpl
  refine thn (ha.run pos pins s σ H _ I h) fun us s1 ⟨vs, H1, I1, r1, hz, q1⟩ => ⟨I1.kIn, ?_⟩
  obtain ⟨hp, g, dr, tk, os⟩ := s1
  have hsz : hp.objs.size ≤ hp.objs.size + 1 := Nat.le_succ _
  have hn : H1 (hp.objs.size + 1) = none := I1.hok.fresh hsz
  have hq := q1 (hp.objs.size + 1) hn
  -- the heap with the new exception
  generalize eh : (hp.push (PySem.W.kdv_tup us)).push (PySem.HandSPX.excO C hp.objs.size) = hp2
  have kk : ∀ b o, hp.get? b = some o → hp2.get? b = some o := by
    subst eh
    exact fun b o e => Heap.get?_push_of_some _ (Heap.get?_push_of_some _ e)
  have hget : hp2.get? (hp.objs.size + 1) = some (PySem.HandSPX.excO C hp.objs.size) := by
    subst eh
    heap_get
  have I2 : Inv X pins σ (upd H1 (hp.objs.size + 1) (exo (hp.objs.size + 1) C none)) ⟨hp2, g, dr, tk, os⟩ :=
    I1.laid (t' := tk) kk hsz (exo_ok hget)
  have r2 : Vals (V.ref (hp.objs.size + 1) :: vs) (Value.ref (hp.objs.size + 1) :: us) := .cons rfl r1
  have hl : (Value.ref (hp.objs.size + 1) :: us).length = ps.length := by
    rw [← r2.length]
    exact F1.len _ _ _ _ hq
  have hus : us.length ≤ sizeLine := by
    rw [← Paired.length r1, sizeLine_eq]
    omega
  have hb2 := hb ⟨hp2, g, dr, tk, os⟩ (Value.ref (hp.objs.size + 1) :: us) I2.kIn (by rw [List.append_nil]; exact hl)
  rw [List.append_nil] at hb2
  have run := F1.run _ X.stack _ _ ⟨Value.ref (hp.objs.size + 1) :: us, []⟩ _ _ _ (fun _ _ _ => False)
    (hr.make C us []) (I2.env0.make C us []) hb2 r2 hq
  subst eh
  refine wpAny_call (PySem.HandSPX.call_own F.excBase_ValueError (fun Y => PySem.HandSPX.refsVE_contains Y bm hbm)
    (I1.kIn _ _ hC) (PySem.W.looks_findIn I1.kIn iC) (fun self => PySem.W.bind_fn I1.kIn self tI) hus
    (codeAny_mono run fun r s' hq' => ?_))
  cases r with
  | error er => exact hx pins σ _ _ er s' I2 hq'
  | ok fl =>
    cases fl with
    | ret u =>
      obtain ⟨v, H2, os2, bare2, un2, hok2, rv, ev, q2⟩ := hq'
      subst ev
      obtain ⟨h2, g2, d2, t2, os'⟩ := s'
      have nha : ∀ {b : Addr} {o : Obj}, hp.get? b = some o → b ≠ hp.objs.size + 1 := fun z =>
        Nat.ne_of_lt (Nat.lt_of_lt_of_le (Heap.lt_size z) hsz)
      have up : ∀ {b : Addr}, b ≠ hp.objs.size + 1 → H1 b = none → upd H1 (hp.objs.size + 1) (exo (hp.objs.size + 1) C none) b = none :=
        fun hb n => by rw [upd_ne hb]; exact n
      have up2 : ∀ {b : Addr} {o : HO}, H1 b = some o → upd H1 (hp.objs.size + 1) (exo (hp.objs.size + 1) C none) b = some o :=
        fun z => by rw [upd_ne (ne_of_none z hn)]; exact z
      have U : Un (frs X.stack) [] H1 H2 hp h2 := {
        keep := fun b o z n hf hx => un2.keep b o (kk b o z) (up (nha z) n) hf hx
        slot := fun b o z n hf hx => un2.slot b o (kk b o z) (up (nha z) n) hf hx
        free := fun b o z n hx => un2.free b o (kk b o z) (up (nha z) n) hx
        there := fun b o z hx => un2.there b o (kk b o z) hx
        tups := fun b xs z => un2.tups b xs (up2 z)
        frzs := fun b o v z => un2.frzs b o v (up2 z)
        tbls := fun b ps z => un2.tbls b ps (up2 z) }
      exact ⟨rv, V.ref (hp.objs.size + 1), H2, I1.call' (ch := []) os2 U hok2 bare2 (fun b z => absurd z (by simp)), rfl, q2⟩
    | next => exact False.elim hq'
    | brk => exact False.elim hq'
    | cont => exact False.elim hq'
/-- C(), C without an own __init__ -/
def tMk0 (C : Addr) : TE := fun _ H Q => ∀ a, H a = none → Q (.ref a) (upd H a (exo a C none))
theorem pe_mk0 {bmB : List Value} {B newId initId : String} (F : ExcBaseFacts B newId initId bmB) (q : PySem.W.excIn X.K C bmB newId = true)
    (gC : X.mg x = some (.ref C)) (kC : PySem.W.keepIn X.K (.ref C) = true) (hg : Gl X x)
    (hdb : (x == ("__debug__" : Str)) = false := by decide) : PE X (.Call (.Name x p) [] [] pos) (tMk0 C) := by
  refine ⟨fun pins s σ H Q I h => ?_⟩
  refine wpAny_Call_Name_kw (ld_glob I hg gC ?_ hdb)
  refine PySem.W.callWith_K0 I.kIn kC ?_
  obtain ⟨bm, N, nm, qn, bs, hdct, sn, sub, ab, col, dd, k0, k1, k2, k3, k5, mN, hC, hN, hni, T⟩ := exc_obj I.kIn q
  obtain ⟨hp, g, d, t, os⟩ := s
  refine wpAny_call_exc_subT F T hC hN hni (fun h' a hm => ?_) (by show 0 ≤ sizeLine; omega)
  have hn : H a = none := I.hok.gone hm.new
  obtain ⟨t1, ht, _, _⟩ := hm.there
  exact ⟨.ref a, upd H a (exo a C none), I.laidN hm.keeps hm.new hn (exo_ok ht), rfl, h a hn⟩
/-- e.f, e an own error that is kept -/
def tFld (K : PySem.W.Frag) (f : Str) (te : TE) : TE := fun σ H Q => te σ H fun x H1 => ∃ (a C dx : Addr) (fs : List (Str × V)) (v : V),
  x = .ref a ∧ XfC K C ∧ PySem.W.findIn K (.ref C) f = some none ∧ H1 a = some (exo a C (some dx)) ∧ H1 dx = some (exd dx fs) ∧ fs.lookup f = some v ∧ Q v H1
theorem pe_fldV (he : PE X e te) (hb : attributeBase e f X.env (eval e X.env) = eval e X.env := by rfl) : PE X (.Attribute e f pos) (tFld X.K f te) := by
  refine ⟨fun pins s σ H Q I h => ?_⟩
  refine attr_of hb (thn (he.run pins s σ H _ I h) fun u s1 hh => ?_)
  obtain ⟨x, H1, I1, rx, a, C, dx, fs, v, ex, T, hno, ea, ed, l, q⟩ := hh
  subst ex
  obtain rfl : u = Value.ref a := rx
  obtain ⟨t1, ha⟩ := exo_at I1.hok ea
  obtain ⟨mA, hns, hr⟩ := exd_at I1.hok ed
  obtain ⟨od, ho, hl⟩ := lookIn_ns hns
  obtain ⟨u, hu, ru⟩ := RelO.some_of (v := v) (o := mA f) (by rw [← l]; exact hr f)
  refine PySem.HandSPX.exc_get I1.kIn ⟨ha, rfl, rfl, ho⟩ T.ga T.gg T.exC (PySem.W.findObj_own T.hdC hno rfl (by rw [hl, hu])) (handed_of ru) ?_
  exact ⟨v, H1, I1.tok _, ru, q⟩
/-- isinstance(e, c), e an own error that is kept -/
def rIsV (K : PySem.W.Frag) : List V → Hp → VK → Prop := fun xs H Q => ∃ (a C : Addr) (d : Option Addr) (c : V) (cv : Value) (b : Bool),
  xs = [.ref a, c] ∧ ExcC K C ∧ ClsV c cv ∧ H a = some (exo a C d) ∧ (∀ dx, d = some dx → ∃ fs, H dx = some (exd dx fs)) ∧ PySem.W.kitOne K (.ref C) cv = some b ∧ Q (.bl b) H
theorem call_isV : CallR X (.builtin "isinstance") (rIsV X.K) := by
  intro pins s σ H xs us Q I r h
  obtain ⟨a, D, d, c, cv, b, rfl, T, k, ea, ed, e, q⟩ := h
  obtain ⟨u1, u2, rfl, r1, r2⟩ := vals2 r
  cases r1
  have ec := k.eq r2
  subst ec
  obtain ⟨t1, ha⟩ := exo_at I.hok ea
  obtain ⟨cd, hcd, _⟩ := PySem.W.any_some T.hd
  have hcl : (PySem.W.clsIn X.K D).isSome = true := by rw [hcd]; rfl
  have J : ∃ od : Option Obj, PySem.W.InstAt s.heap a ({ cls := .ref D, dict := d, data := .fields #[.ref t1, .none, .none, .none, .bool false, .none] } : Obj) D od := by
    cases d with
    | none => exact ⟨none, ha, rfl, rfl, trivial⟩
    | some dx =>
      obtain ⟨fs, hd⟩ := ed dx rfl
      obtain ⟨mA, hns, hr⟩ := exd_at I.hok hd
      obtain ⟨od, ho, hl⟩ := lookIn_ns hns
      exact ⟨some od, ha, rfl, rfl, ho⟩
  obtain ⟨od, J⟩ := J
  refine PySem.W.kia_one (PySem.W.kitx_exc (od := od) hcl T.hg T.hk T.hs T.ha T.hn T.ht T.hm) I.kIn J e (fun z => nomatch z) fun tk => ?_
  exact ⟨.bl b, H, I.tok tk, rfl, q⟩
end
end Er

/-! The errors' __init__, each. -/
namespace Er
open PySem L2
def top (i : Nat) : Stmt := PySem.Challenge.pw_whostrayed_k01_errors.main.body.getD i (.Pass ⟨0, 0, 0, 0⟩)
/-- an error's __init__ stores its arguments -/
def spI (C : Addr) (n : Nat) (fs : List V → List (Str × V)) : Sp := fun vs H Q _ => ∃ (a : Addr) (ys : List V), vs = .ref a :: ys ∧ ys.length = n ∧ H a = some (exo a C none) ∧
  ∀ (dx : Addr) (H' : Hp), H dx = none → dx ≠ a → H' a = some (exo a C (some dx)) → H' dx = some (exd dx (fs ys)) → (∀ b o, H b = some o → b ≠ a → H' b = some o) → Q .non H'
abbrev NoF (K : PySem.W.Frag) (C : Addr) (f : Str) : Prop := PySem.W.findIn K (.ref C) f = some none
/-- the fields as the exception's dict has them: the last one ahead -/
def fld : List Str → List V → List (Str × V)
  | f :: fs, y :: ys => fld fs ys ++ [(f, y)]
  | _, _ => []
section
variable {P : Program} {w : World} {K : PySem.W.Frag} {mg : Str → Option Value} {base : Heap} {f C : Addr} {fd : FuncData}
abbrev sI_BadText : Stmt := inClass (top 2) 0
theorem sc_BadText : FnScope ["self", "line", "word"] ["self", "line", "word"] (defScope sI_BadText) := ⟨rfl, rfl, rfl, by decide +kernel, rfl, by decide +kernel, by decide +kernel⟩
theorem ok_BadText (F : Fun K "__init__" "BadText.__init__" sI_BadText f fd) (T : OexC K C) (n1 : NoF K C "line") (n2 : NoF K C "word") : FnOk P w K mg base CX0 1 f fd ["self", "line", "word"] (spI C 2 (fld ["line", "word"])) := by
  refine F.ok sc_BadText (fun vs H Q E h => ?_) (fun cdv A outer s H vs Q E hr h => ?_)
  · obtain ⟨a, ys, rfl, hl, _⟩ := h
    simp [hl]
  · obtain ⟨a, ys, rfl, hl, ha, k⟩ := h
    obtain ⟨y1, y2, rfl⟩ : ∃ y1 y2, ys = [y1, y2] := match ys, hl with | [y1, y2], _ => ⟨_, _, rfl⟩
    refine ⟨_, pss_cons (ps_ost (pv 0) (pv 1)) (pss_one (ps_ost (pv 0) (pv 2))), ?_⟩
    refine ⟨_, rfl, _, rfl, a, C, rfl, T, n1, .inl ⟨ha, fun dx hd ne => ?_⟩⟩
    refine ⟨_, rfl, _, rfl, a, C, rfl, T, n2, .inr ⟨dx, _, upd_same, by rw [upd_ne ne, upd_same], (by show 1 ≤ 900; decide), ?_⟩⟩
    refine k dx _ hd ne (by rw [upd_ne ne.symm, upd_same]) upd_same fun b o e hb => ?_
    rw [upd_ne (ne_of_none e hd), upd_ne hb, upd_ne (ne_of_none e hd)]
    exact e
abbrev sI_BadName : Stmt := inClass (top 5) 0
theorem sc_BadName : FnScope ["self", "name"] ["self", "name"] (defScope sI_BadName) := ⟨rfl, rfl, rfl, by decide +kernel, rfl, by decide +kernel, by decide +kernel⟩
theorem ok_BadName (F : Fun K "__init__" "BadName.__init__" sI_BadName f fd) (T : OexC K C) (n1 : NoF K C "name") : FnOk P w K mg base CX0 1 f fd ["self", "name"] (spI C 1 (fld ["name"])) := by
  refine F.ok sc_BadName (fun vs H Q E h => ?_) (fun cdv A outer s H vs Q E hr h => ?_)
  · obtain ⟨a, ys, rfl, hl, _⟩ := h
    simp [hl]
  · obtain ⟨a, ys, rfl, hl, ha, k⟩ := h
    obtain ⟨y1, rfl⟩ : ∃ y1, ys = [y1] := match ys, hl with | [y1], _ => ⟨_, rfl⟩
    refine ⟨_, pss_one (ps_ost (pv 0) (pv 1)), ?_⟩
    refine ⟨_, rfl, _, rfl, a, C, rfl, T, n1, .inl ⟨ha, fun dx hd ne => ?_⟩⟩
    refine k dx _ hd ne upd_same (by rw [upd_ne ne, upd_same]; rfl) fun b o e hb => ?_
    rw [upd_ne hb, upd_ne (ne_of_none e hd)]
    exact e
abbrev sI_BadNumber : Stmt := inClass (top 6) 0
theorem sc_BadNumber : FnScope ["self", "what", "number"] ["self", "what", "number"] (defScope sI_BadNumber) := ⟨rfl, rfl, rfl, by decide +kernel, rfl, by decide +kernel, by decide +kernel⟩
theorem ok_BadNumber (F : Fun K "__init__" "BadNumber.__init__" sI_BadNumber f fd) (T : OexC K C) (n1 : NoF K C "what") (n2 : NoF K C "number") : FnOk P w K mg base CX0 1 f fd ["self", "what", "number"] (spI C 2 (fld ["what", "number"])) := by
  refine F.ok sc_BadNumber (fun vs H Q E h => ?_) (fun cdv A outer s H vs Q E hr h => ?_)
  · obtain ⟨a, ys, rfl, hl, _⟩ := h
    simp [hl]
  · obtain ⟨a, ys, rfl, hl, ha, k⟩ := h
    obtain ⟨y1, y2, rfl⟩ : ∃ y1 y2, ys = [y1, y2] := match ys, hl with | [y1, y2], _ => ⟨_, _, rfl⟩
    refine ⟨_, pss_cons (ps_ost (pv 0) (pv 1)) (pss_one (ps_ost (pv 0) (pv 2))), ?_⟩
    refine ⟨_, rfl, _, rfl, a, C, rfl, T, n1, .inl ⟨ha, fun dx hd ne => ?_⟩⟩
    refine ⟨_, rfl, _, rfl, a, C, rfl, T, n2, .inr ⟨dx, _, upd_same, by rw [upd_ne ne, upd_same], (by show 1 ≤ 900; decide), ?_⟩⟩
    refine k dx _ hd ne (by rw [upd_ne ne.symm, upd_same]) upd_same fun b o e hb => ?_
    rw [upd_ne (ne_of_none e hd), upd_ne hb, upd_ne (ne_of_none e hd)]
    exact e
abbrev sI_BadRow : Stmt := inClass (top 7) 0
theorem sc_BadRow : FnScope ["self", "what", "row"] ["self", "what", "row"] (defScope sI_BadRow) := ⟨rfl, rfl, rfl, by decide +kernel, rfl, by decide +kernel, by decide +kernel⟩
theorem ok_BadRow (F : Fun K "__init__" "BadRow.__init__" sI_BadRow f fd) (T : OexC K C) (n1 : NoF K C "what") (n2 : NoF K C "row") : FnOk P w K mg base CX0 1 f fd ["self", "what", "row"] (spI C 2 (fld ["what", "row"])) := by
  refine F.ok sc_BadRow (fun vs H Q E h => ?_) (fun cdv A outer s H vs Q E hr h => ?_)
  · obtain ⟨a, ys, rfl, hl, _⟩ := h
    simp [hl]
  · obtain ⟨a, ys, rfl, hl, ha, k⟩ := h
    obtain ⟨y1, y2, rfl⟩ : ∃ y1 y2, ys = [y1, y2] := match ys, hl with | [y1, y2], _ => ⟨_, _, rfl⟩
    refine ⟨_, pss_cons (ps_ost (pv 0) (pv 1)) (pss_one (ps_ost (pv 0) (pv 2))), ?_⟩
    refine ⟨_, rfl, _, rfl, a, C, rfl, T, n1, .inl ⟨ha, fun dx hd ne => ?_⟩⟩
    refine ⟨_, rfl, _, rfl, a, C, rfl, T, n2, .inr ⟨dx, _, upd_same, by rw [upd_ne ne, upd_same], (by show 1 ≤ 900; decide), ?_⟩⟩
    refine k dx _ hd ne (by rw [upd_ne ne.symm, upd_same]) upd_same fun b o e hb => ?_
    rw [upd_ne (ne_of_none e hd), upd_ne hb, upd_ne (ne_of_none e hd)]
    exact e
abbrev sI_NoName : Stmt := inClass (top 8) 0
theorem sc_NoName : FnScope ["self", "name"] ["self", "name"] (defScope sI_NoName) := ⟨rfl, rfl, rfl, by decide +kernel, rfl, by decide +kernel, by decide +kernel⟩
theorem ok_NoName (F : Fun K "__init__" "NoName.__init__" sI_NoName f fd) (T : OexC K C) (n1 : NoF K C "name") : FnOk P w K mg base CX0 1 f fd ["self", "name"] (spI C 1 (fld ["name"])) := by
  refine F.ok sc_NoName (fun vs H Q E h => ?_) (fun cdv A outer s H vs Q E hr h => ?_)
  · obtain ⟨a, ys, rfl, hl, _⟩ := h
    simp [hl]
  · obtain ⟨a, ys, rfl, hl, ha, k⟩ := h
    obtain ⟨y1, rfl⟩ : ∃ y1, ys = [y1] := match ys, hl with | [y1], _ => ⟨_, rfl⟩
    refine ⟨_, pss_one (ps_ost (pv 0) (pv 1)), ?_⟩
    refine ⟨_, rfl, _, rfl, a, C, rfl, T, n1, .inl ⟨ha, fun dx hd ne => ?_⟩⟩
    refine k dx _ hd ne upd_same (by rw [upd_ne ne, upd_same]; rfl) fun b o e hb => ?_
    rw [upd_ne hb, upd_ne (ne_of_none e hd)]
    exact e
abbrev sI_TakenName : Stmt := inClass (top 9) 0
theorem sc_TakenName : FnScope ["self", "name"] ["self", "name"] (defScope sI_TakenName) := ⟨rfl, rfl, rfl, by decide +kernel, rfl, by decide +kernel, by decide +kernel⟩
theorem ok_TakenName (F : Fun K "__init__" "TakenName.__init__" sI_TakenName f fd) (T : OexC K C) (n1 : NoF K C "name") : FnOk P w K mg base CX0 1 f fd ["self", "name"] (spI C 1 (fld ["name"])) := by
  refine F.ok sc_TakenName (fun vs H Q E h => ?_) (fun cdv A outer s H vs Q E hr h => ?_)
  · obtain ⟨a, ys, rfl, hl, _⟩ := h
    simp [hl]
  · obtain ⟨a, ys, rfl, hl, ha, k⟩ := h
    obtain ⟨y1, rfl⟩ : ∃ y1, ys = [y1] := match ys, hl with | [y1], _ => ⟨_, rfl⟩
    refine ⟨_, pss_one (ps_ost (pv 0) (pv 1)), ?_⟩
    refine ⟨_, rfl, _, rfl, a, C, rfl, T, n1, .inl ⟨ha, fun dx hd ne => ?_⟩⟩
    refine k dx _ hd ne upd_same (by rw [upd_ne ne, upd_same]; rfl) fun b o e hb => ?_
    rw [upd_ne hb, upd_ne (ne_of_none e hd)]
    exact e
abbrev sI_Unlike : Stmt := inClass (top 10) 0
theorem sc_Unlike : FnScope ["self", "what"] ["self", "what"] (defScope sI_Unlike) := ⟨rfl, rfl, rfl, by decide +kernel, rfl, by decide +kernel, by decide +kernel⟩
theorem ok_Unlike (F : Fun K "__init__" "Unlike.__init__" sI_Unlike f fd) (T : OexC K C) (n1 : NoF K C "what") : FnOk P w K mg base CX0 1 f fd ["self", "what"] (spI C 1 (fld ["what"])) := by
  refine F.ok sc_Unlike (fun vs H Q E h => ?_) (fun cdv A outer s H vs Q E hr h => ?_)
  · obtain ⟨a, ys, rfl, hl, _⟩ := h
    simp [hl]
  · obtain ⟨a, ys, rfl, hl, ha, k⟩ := h
    obtain ⟨y1, rfl⟩ : ∃ y1, ys = [y1] := match ys, hl with | [y1], _ => ⟨_, rfl⟩
    refine ⟨_, pss_one (ps_ost (pv 0) (pv 1)), ?_⟩
    refine ⟨_, rfl, _, rfl, a, C, rfl, T, n1, .inl ⟨ha, fun dx hd ne => ?_⟩⟩
    refine k dx _ hd ne upd_same (by rw [upd_ne ne, upd_same]; rfl) fun b o e hb => ?_
    rw [upd_ne hb, upd_ne (ne_of_none e hd)]
    exact e
abbrev sI_NotThere : Stmt := inClass (top 11) 0
theorem sc_NotThere : FnScope ["self", "what"] ["self", "what"] (defScope sI_NotThere) := ⟨rfl, rfl, rfl, by decide +kernel, rfl, by decide +kernel, by decide +kernel⟩
theorem ok_NotThere (F : Fun K "__init__" "NotThere.__init__" sI_NotThere f fd) (T : OexC K C) (n1 : NoF K C "what") : FnOk P w K mg base CX0 1 f fd ["self", "what"] (spI C 1 (fld ["what"])) := by
  refine F.ok sc_NotThere (fun vs H Q E h => ?_) (fun cdv A outer s H vs Q E hr h => ?_)
  · obtain ⟨a, ys, rfl, hl, _⟩ := h
    simp [hl]
  · obtain ⟨a, ys, rfl, hl, ha, k⟩ := h
    obtain ⟨y1, rfl⟩ : ∃ y1, ys = [y1] := match ys, hl with | [y1], _ => ⟨_, rfl⟩
    refine ⟨_, pss_one (ps_ost (pv 0) (pv 1)), ?_⟩
    refine ⟨_, rfl, _, rfl, a, C, rfl, T, n1, .inl ⟨ha, fun dx hd ne => ?_⟩⟩
    refine k dx _ hd ne upd_same (by rw [upd_ne ne, upd_same]; rfl) fun b o e hb => ?_
    rw [upd_ne hb, upd_ne (ne_of_none e hd)]
    exact e
abbrev sI_TooMany : Stmt := inClass (top 12) 0
theorem sc_TooMany : FnScope ["self", "what", "many", "limit"] ["self", "what", "many", "limit"] (defScope sI_TooMany) := ⟨rfl, rfl, rfl, by decide +kernel, rfl, by decide +kernel, by decide +kernel⟩
theorem ok_TooMany (F : Fun K "__init__" "TooMany.__init__" sI_TooMany f fd) (T : OexC K C) (n1 : NoF K C "what") (n2 : NoF K C "many") (n3 : NoF K C "limit") : FnOk P w K mg base CX0 1 f fd ["self", "what", "many", "limit"] (spI C 3 (fld ["what", "many", "limit"])) := by
  refine F.ok sc_TooMany (fun vs H Q E h => ?_) (fun cdv A outer s H vs Q E hr h => ?_)
  · obtain ⟨a, ys, rfl, hl, _⟩ := h
    simp [hl]
  · obtain ⟨a, ys, rfl, hl, ha, k⟩ := h
    obtain ⟨y1, y2, y3, rfl⟩ : ∃ y1 y2 y3, ys = [y1, y2, y3] := match ys, hl with | [y1, y2, y3], _ => ⟨_, _, _, rfl⟩
    refine ⟨_, pss_cons (ps_ost (pv 0) (pv 1)) (pss_cons (ps_ost (pv 0) (pv 2)) (pss_one (ps_ost (pv 0) (pv 3)))), ?_⟩
    refine ⟨_, rfl, _, rfl, a, C, rfl, T, n1, .inl ⟨ha, fun dx hd ne => ?_⟩⟩
    refine ⟨_, rfl, _, rfl, a, C, rfl, T, n2, .inr ⟨dx, _, upd_same, by rw [upd_ne ne, upd_same], (by show 1 ≤ 900; decide), ?_⟩⟩
    refine ⟨_, rfl, _, rfl, a, C, rfl, T, n3, .inr ⟨dx, _, by rw [upd_ne ne.symm, upd_same], upd_same, (by show 2 ≤ 900; decide), ?_⟩⟩
    refine k dx _ hd ne (by rw [upd_ne ne.symm, upd_ne ne.symm, upd_same]) upd_same fun b o e hb => ?_
    rw [upd_ne (ne_of_none e hd), upd_ne (ne_of_none e hd), upd_ne hb, upd_ne (ne_of_none e hd)]
    exact e
abbrev sI_Misread : Stmt := inClass (top 3) 0
theorem sc_Misread : FnScope ["self", "line", "column"] ["self", "line", "column"] (defScope sI_Misread) := ⟨rfl, rfl, rfl, by decide +kernel, rfl, by decide +kernel, by decide +kernel⟩
theorem ok_Misread (F : Fun K "__init__" "Misread.__init__" sI_Misread f fd) (T : OexC K C) (n1 : NoF K C "line") (n2 : NoF K C "column") : FnOk P w K mg base CX0 1 f fd ["self", "line", "column"] (spI C 2 (fld ["line", "column"])) := by
  refine F.ok sc_Misread (fun vs H Q E h => ?_) (fun cdv A outer s H vs Q E hr h => ?_)
  · obtain ⟨a, ys, rfl, hl, _⟩ := h
    simp [hl]
  · obtain ⟨a, ys, rfl, hl, ha, k⟩ := h
    obtain ⟨y1, y2, rfl⟩ : ∃ y1 y2, ys = [y1, y2] := match ys, hl with | [y1, y2], _ => ⟨_, _, rfl⟩
    refine ⟨_, pss_cons (ps_ost (pv 0) (pv 1)) (pss_one (ps_ost (pv 0) (pv 2))), ?_⟩
    refine ⟨_, rfl, _, rfl, a, C, rfl, T, n1, .inl ⟨ha, fun dx hd ne => ?_⟩⟩
    refine ⟨_, rfl, _, rfl, a, C, rfl, T, n2, .inr ⟨dx, _, upd_same, by rw [upd_ne ne, upd_same], (by show 1 ≤ 900; decide), ?_⟩⟩
    refine k dx _ hd ne (by rw [upd_ne ne.symm, upd_same]) upd_same fun b o e hb => ?_
    rw [upd_ne (ne_of_none e hd), upd_ne hb, upd_ne (ne_of_none e hd)]
    exact e
abbrev sI_Misplaced : Stmt := inClass (top 4) 0
theorem sc_Misplaced : FnScope ["self", "line", "column", "why", "name"] ["self", "line", "column", "why", "name"] (defScope sI_Misplaced) := ⟨rfl, rfl, rfl, by decide +kernel, rfl, by decide +kernel, by decide +kernel⟩
theorem ok_Misplaced (F : Fun K "__init__" "Misplaced.__init__" sI_Misplaced f fd) (T : OexC K C) (n1 : NoF K C "line") (n2 : NoF K C "column") (n3 : NoF K C "why") (n4 : NoF K C "name") : FnOk P w K mg base CX0 1 f fd ["self", "line", "column", "why", "name"] (spI C 4 (fld ["line", "column", "why", "name"])) := by
  refine F.ok sc_Misplaced (fun vs H Q E h => ?_) (fun cdv A outer s H vs Q E hr h => ?_)
  · obtain ⟨a, ys, rfl, hl, _⟩ := h
    simp [hl]
  · obtain ⟨a, ys, rfl, hl, ha, k⟩ := h
    obtain ⟨y1, y2, y3, y4, rfl⟩ : ∃ y1 y2 y3 y4, ys = [y1, y2, y3, y4] := match ys, hl with | [y1, y2, y3, y4], _ => ⟨_, _, _, _, rfl⟩
    refine ⟨_, pss_cons (ps_ost (pv 0) (pv 1)) (pss_cons (ps_ost (pv 0) (pv 2)) (pss_cons (ps_ost (pv 0) (pv 3)) (pss_one (ps_ost (pv 0) (pv 4))))), ?_⟩
    refine ⟨_, rfl, _, rfl, a, C, rfl, T, n1, .inl ⟨ha, fun dx hd ne => ?_⟩⟩
    refine ⟨_, rfl, _, rfl, a, C, rfl, T, n2, .inr ⟨dx, _, upd_same, by rw [upd_ne ne, upd_same], (by show 1 ≤ 900; decide), ?_⟩⟩
    refine ⟨_, rfl, _, rfl, a, C, rfl, T, n3, .inr ⟨dx, _, by rw [upd_ne ne.symm, upd_same], upd_same, (by show 2 ≤ 900; decide), ?_⟩⟩
    refine ⟨_, rfl, _, rfl, a, C, rfl, T, n4, .inr ⟨dx, _, by rw [upd_ne ne.symm, upd_ne ne.symm, upd_same], upd_same, (by show 3 ≤ 900; decide), ?_⟩⟩
    refine k dx _ hd ne (by rw [upd_ne ne.symm, upd_ne ne.symm, upd_ne ne.symm, upd_same]) upd_same fun b o e hb => ?_
    rw [upd_ne (ne_of_none e hd), upd_ne (ne_of_none e hd), upd_ne (ne_of_none e hd), upd_ne hb, upd_ne (ne_of_none e hd)]
    exact e
abbrev sI_NotKept : Stmt := inClass (top 13) 0
theorem sc_NotKept : FnScope ["self", "promise", "witness"] ["self", "promise", "witness"] (defScope sI_NotKept) := ⟨rfl, rfl, rfl, by decide +kernel, rfl, by decide +kernel, by decide +kernel⟩
theorem ok_NotKept (F : Fun K "__init__" "NotKept.__init__" sI_NotKept f fd) (T : OexC K C) (n1 : NoF K C "promise") (n2 : NoF K C "witness") : FnOk P w K mg base CX0 1 f fd ["self", "promise", "witness"] (spI C 2 (fld ["promise", "witness"])) := by
  refine F.ok sc_NotKept (fun vs H Q E h => ?_) (fun cdv A outer s H vs Q E hr h => ?_)
  · obtain ⟨a, ys, rfl, hl, _⟩ := h
    simp [hl]
  · obtain ⟨a, ys, rfl, hl, ha, k⟩ := h
    obtain ⟨y1, y2, rfl⟩ : ∃ y1 y2, ys = [y1, y2] := match ys, hl with | [y1, y2], _ => ⟨_, _, rfl⟩
    refine ⟨_, pss_cons (ps_ost (pv 0) (pv 1)) (pss_one (ps_ost (pv 0) (pv 2))), ?_⟩
    refine ⟨_, rfl, _, rfl, a, C, rfl, T, n1, .inl ⟨ha, fun dx hd ne => ?_⟩⟩
    refine ⟨_, rfl, _, rfl, a, C, rfl, T, n2, .inr ⟨dx, _, upd_same, by rw [upd_ne ne, upd_same], (by show 1 ≤ 900; decide), ?_⟩⟩
    refine k dx _ hd ne (by rw [upd_ne ne.symm, upd_same]) upd_same fun b o e hb => ?_
    rw [upd_ne (ne_of_none e hd), upd_ne hb, upd_ne (ne_of_none e hd)]
    exact e
end
end Er

/-! _law_fields, _law_kinds. -/
namespace Er
open PySem L2
/-- what the written part says of an error class -/
structure ErrC (K : PySem.W.Frag) (C : Addr) : Prop where
  o : OexC K C
  x : XfC K C
  i : ExcC K C
/-- the error at a has the field f, v -/
def FldOk (K : PySem.W.Frag) (H : Hp) (a : Addr) (f : Str) (v : V) : Prop := ∃ (C dx : Addr) (fs : List (Str × V)),
  XfC K C ∧ NoF K C f ∧ H a = some (exo a C (some dx)) ∧ H dx = some (exd dx fs) ∧ fs.lookup f = some v
theorem FldOk.same {K : PySem.W.Frag} {H H' : Hp} {a : Addr} {f : Str} {v : V} (s : Same H H') (h : FldOk K H a f v) : FldOk K H' a f v := by
  obtain ⟨C, dx, fs, h1, h2, h3, h4, h5⟩ := h
  exact ⟨C, dx, fs, h1, h2, s _ _ h3, s _ _ h4, h5⟩
abbrev sFields : Stmt := top 21
abbrev sMade : Stmt := top 22
abbrev sKinds : Stmt := top 23
def kn : List Str := ["line", "word", "column", "why", "name", "what", "number", "row", "many", "limit", "promise", "witness"]
def spF (K : PySem.W.Frag) : Sp := fun vs H Q _ => ∃ (a l : Addr) (nms : List Str) (ys : List V), vs = [.ref a, .ref l] ∧ H l = some (.lst (nms.map V.str)) ∧ nms.length = ys.length ∧ nms.length ≤ 100 ∧
  (∀ (i : Nat) (nm : Str), nms[i]? = some nm → nm ∈ kn ∧ ∃ v, ys[i]? = some v ∧ FldOk K H a nm v) ∧ ∀ (p : Addr) (H' : Hp), H' p = some (.lst ys) → Same H H' → Q (.ref p) H'
theorem take_one {α : Type} : ∀ {l : List α} {i : Nat} {x : α}, l[i]? = some x → l.take (i + 1) = l.take i ++ [x]
  | [], i, x, h => by simp at h
  | a :: l, 0, x, h => by
    obtain rfl : a = x := by simpa using h
    rfl
  | a :: l, i + 1, x, h => by
    have ih := take_one (l := l) (i := i) (x := x) (by simpa using h)
    simp [List.take_succ_cons, ih]
section
variable {P : Program} {w : World} {K : PySem.W.Frag} {mg : Str → Option Value} {base : Heap}
theorem sc_F : FnScope ["one", "names", "found", "name"] ["one", "names"] (defScope sFields) := ⟨rfl, rfl, rfl, by decide +kernel, rfl, by decide +kernel, by decide +kernel⟩
theorem str_of {a b : Str} (h : decide (V.str a = V.str b) = true) : a = b := by
  have h := of_decide_eq_true h
  injection h
theorem str_not {a b : Str} (h : ¬ decide (V.str a = V.str b) = true) : a ≠ b := fun e => h (by rw [e]; simp)
/-- found.append(one.f) -/
theorem app_fld {f : Str} {X : Cx} (hK : X.K = K) {D : Ends} {a p : Addr} {H : Hp} {xs : List V} {v : V} {σ : L2.St} (h0 : σ[0]? = some (some (.ref a))) (h2 : σ[2]? = some (some (.ref p))) (hp : H p = some (.lst xs)) (hl : xs.length < sizeLine)
    (hF : FldOk K H a f v) (q : D.nx σ (upd H p (.lst (xs ++ [v])))) :
    tDrop (tBM X.K "list" rAppend (tVar 2) (tCons (tFld X.K f (tVar 0)) tNil)) D σ H := by
  subst hK
  obtain ⟨C, dx, fs, h1, h3, h4, h5, h6⟩ := hF
  exact ⟨_, h2, .inl ⟨rfl, _, .inl (.inl hp)⟩, _, h0, a, C, dx, fs, v, rfl, h1, h3, h4, h5, h6, p, _, _, rfl, rfl, hp, hl, q⟩

theorem ok_fields {f : Addr} {fd : FuncData} (F : Fun K "_law_fields" "_law_fields" sFields f fd) : FnOk P w K mg base CX0 1 f fd ["one", "names"] (spF K) := by
  refine F.ok sc_F (fun vs H Q E h => ?_) (fun cdv A outer s H vs Q E hr h => ?_)
  · obtain ⟨a, l, nms, ys, rfl, _⟩ := h
    rfl
  · obtain ⟨a, l, nms, ys, rfl, hl, hlen, hsm, hf, k⟩ := h
    refine ⟨_, pss_cons (ps_set (i := 2) sc_F.nd rfl (Or.inl rfl) (pe_lst pa_nil)) (pss_cons (ps_for PassesOwn.never rfl (pi_list (pv 1)) (pg_name (i := 3) sc_F.nd rfl (Or.inl rfl)) (pss_one (ps_if (pt_cmpR op_eq (pv 3) pe_str (nomark _)) (pss_one (ps_expr (pe_bm PySem.F.plainAttrs_list PySem.F.slot_list_append PySem.F.type_list_append mt_append (pv 2) (pa_cons (pe_fldV (pv 0)) pa_nil)))) (pss_one (ps_if (pt_cmpR op_eq (pv 3) pe_str (nomark _)) (pss_one (ps_expr (pe_bm PySem.F.plainAttrs_list PySem.F.slot_list_append PySem.F.type_list_append mt_append (pv 2) (pa_cons (pe_fldV (pv 0)) pa_nil)))) (pss_one (ps_if (pt_cmpR op_eq (pv 3) pe_str (nomark _)) (pss_one (ps_expr (pe_bm PySem.F.plainAttrs_list PySem.F.slot_list_append PySem.F.type_list_append mt_append (pv 2) (pa_cons (pe_fldV (pv 0)) pa_nil)))) (pss_one (ps_if (pt_cmpR op_eq (pv 3) pe_str (nomark _)) (pss_one (ps_expr (pe_bm PySem.F.plainAttrs_list PySem.F.slot_list_append PySem.F.type_list_append mt_append (pv 2) (pa_cons (pe_fldV (pv 0)) pa_nil)))) (pss_one (ps_if (pt_cmpR op_eq (pv 3) pe_str (nomark _)) (pss_one (ps_expr (pe_bm PySem.F.plainAttrs_list PySem.F.slot_list_append PySem.F.type_list_append mt_append (pv 2) (pa_cons (pe_fldV (pv 0)) pa_nil)))) (pss_one (ps_if (pt_cmpR op_eq (pv 3) pe_str (nomark _)) (pss_one (ps_expr (pe_bm PySem.F.plainAttrs_list PySem.F.slot_list_append PySem.F.type_list_append mt_append (pv 2) (pa_cons (pe_fldV (pv 0)) pa_nil)))) (pss_one (ps_if (pt_cmpR op_eq (pv 3) pe_str (nomark _)) (pss_one (ps_expr (pe_bm PySem.F.plainAttrs_list PySem.F.slot_list_append PySem.F.type_list_append mt_append (pv 2) (pa_cons (pe_fldV (pv 0)) pa_nil)))) (pss_one (ps_if (pt_cmpR op_eq (pv 3) pe_str (nomark _)) (pss_one (ps_expr (pe_bm PySem.F.plainAttrs_list PySem.F.slot_list_append PySem.F.type_list_append mt_append (pv 2) (pa_cons (pe_fldV (pv 0)) pa_nil)))) (pss_one (ps_if (pt_cmpR op_eq (pv 3) pe_str (nomark _)) (pss_one (ps_expr (pe_bm PySem.F.plainAttrs_list PySem.F.slot_list_append PySem.F.type_list_append mt_append (pv 2) (pa_cons (pe_fldV (pv 0)) pa_nil)))) (pss_one (ps_if (pt_cmpR op_eq (pv 3) pe_str (nomark _)) (pss_one (ps_expr (pe_bm PySem.F.plainAttrs_list PySem.F.slot_list_append PySem.F.type_list_append mt_append (pv 2) (pa_cons (pe_fldV (pv 0)) pa_nil)))) (pss_one (ps_if (pt_cmpR op_eq (pv 3) pe_str (nomark _)) (pss_one (ps_expr (pe_bm PySem.F.plainAttrs_list PySem.F.slot_list_append PySem.F.type_list_append mt_append (pv 2) (pa_cons (pe_fldV (pv 0)) pa_nil)))) (pss_one (ps_expr (pe_bm PySem.F.plainAttrs_list PySem.F.slot_list_append PySem.F.type_list_append mt_append (pv 2) (pa_cons (pe_fldV (pv 0)) pa_nil))))))))))))))))))))))))))) (pss_one (ps_ret (pv 2)))), ?_⟩
    refine ⟨by show 0 ≤ sizeLine; decide, fun q hq => ?_⟩
    have s0 : Same H (upd H q (.lst [])) := fun b o e => by rw [upd_ne (ne_of_none e hq)]; exact e
    refine ⟨_, rfl, l, rfl, ⟨_, .inl (.inl (s0 _ _ hl))⟩, for_list (K := K) (a := l) (xs := nms.map V.str) (fun i σ H1 => ∃ v : Option V, σ = [some (.ref a), some (.ref l), some (.ref q), v] ∧ Same H H1 ∧ H1 q = some (.lst (ys.take i)))
      ⟨none, rfl, s0, upd_same⟩ (fun i σ H1 _ ⟨_, _, s1, _⟩ => .inl (.inl (s1 _ _ hl))) ?_ ?_⟩
    · rintro i y σ H1 hi ⟨v0, rfl, s1, hq1⟩
      rw [List.getElem?_map] at hi
      cases e : nms[i]? with
      | none => rw [e] at hi; cases hi
      | some nm =>
        rw [e] at hi
        obtain rfl := Option.some.inj hi
        obtain ⟨hkn, v, hv, hF⟩ := hf i nm e
        have hF := hF.same s1
        have hsz : (ys.take i).length < sizeLine := small1000 (by rw [List.length_take]; omega)
        have post : ∀ D : Ends, (∀ σ2 H2, (∃ v : Option V, σ2 = [some (.ref a), some (.ref l), some (.ref q), v] ∧ Same H H2 ∧ H2 q = some (.lst (ys.take (i + 1)))) → D.nx σ2 H2) → D.nx [some (.ref a), some (.ref l), some (.ref q), some (.str nm)] (upd H1 q (.lst (ys.take i ++ [v]))) := fun D hD => hD _ _
          ⟨_, rfl, fun b o z => by rw [upd_ne (ne_of_none z hq)]; exact s1 b o z, by rw [upd_same, take_one hv]⟩
        refine ⟨_, rfl, rfl, _, rfl, ite2 (fun h => ?_) (fun h0 => ?_)⟩
        · obtain rfl := str_of h
          exact app_fld rfl rfl rfl hq1 hsz hF (post ⟨_, _, _, _⟩ fun σ2 H2 z => z)
        refine ⟨_, rfl, rfl, _, rfl, ite2 (fun h => ?_) (fun h1 => ?_)⟩
        · obtain rfl := str_of h
          exact app_fld rfl rfl rfl hq1 hsz hF (post ⟨_, _, _, _⟩ fun σ2 H2 z => z)
        refine ⟨_, rfl, rfl, _, rfl, ite2 (fun h => ?_) (fun h2 => ?_)⟩
        · obtain rfl := str_of h
          exact app_fld rfl rfl rfl hq1 hsz hF (post ⟨_, _, _, _⟩ fun σ2 H2 z => z)
        refine ⟨_, rfl, rfl, _, rfl, ite2 (fun h => ?_) (fun h3 => ?_)⟩
        · obtain rfl := str_of h
          exact app_fld rfl rfl rfl hq1 hsz hF (post ⟨_, _, _, _⟩ fun σ2 H2 z => z)
        refine ⟨_, rfl, rfl, _, rfl, ite2 (fun h => ?_) (fun h4 => ?_)⟩
        · obtain rfl := str_of h
          exact app_fld rfl rfl rfl hq1 hsz hF (post ⟨_, _, _, _⟩ fun σ2 H2 z => z)
        refine ⟨_, rfl, rfl, _, rfl, ite2 (fun h => ?_) (fun h5 => ?_)⟩
        · obtain rfl := str_of h
          exact app_fld rfl rfl rfl hq1 hsz hF (post ⟨_, _, _, _⟩ fun σ2 H2 z => z)
        refine ⟨_, rfl, rfl, _, rfl, ite2 (fun h => ?_) (fun h6 => ?_)⟩
        · obtain rfl := str_of h
          exact app_fld rfl rfl rfl hq1 hsz hF (post ⟨_, _, _, _⟩ fun σ2 H2 z => z)
        refine ⟨_, rfl, rfl, _, rfl, ite2 (fun h => ?_) (fun h7 => ?_)⟩
        · obtain rfl := str_of h
          exact app_fld rfl rfl rfl hq1 hsz hF (post ⟨_, _, _, _⟩ fun σ2 H2 z => z)
        refine ⟨_, rfl, rfl, _, rfl, ite2 (fun h => ?_) (fun h8 => ?_)⟩
        · obtain rfl := str_of h
          exact app_fld rfl rfl rfl hq1 hsz hF (post ⟨_, _, _, _⟩ fun σ2 H2 z => z)
        refine ⟨_, rfl, rfl, _, rfl, ite2 (fun h => ?_) (fun h9 => ?_)⟩
        · obtain rfl := str_of h
          exact app_fld rfl rfl rfl hq1 hsz hF (post ⟨_, _, _, _⟩ fun σ2 H2 z => z)
        refine ⟨_, rfl, rfl, _, rfl, ite2 (fun h => ?_) (fun h10 => ?_)⟩
        · obtain rfl := str_of h
          exact app_fld rfl rfl rfl hq1 hsz hF (post ⟨_, _, _, _⟩ fun σ2 H2 z => z)
        have hw : nm = "witness" := by
          unfold kn at hkn
          simp only [List.mem_cons, List.not_mem_nil, or_false] at hkn
          rcases hkn with z | z | z | z | z | z | z | z | z | z | z | z
          · exact absurd z (str_not h0)
          · exact absurd z (str_not h1)
          · exact absurd z (str_not h2)
          · exact absurd z (str_not h3)
          · exact absurd z (str_not h4)
          · exact absurd z (str_not h5)
          · exact absurd z (str_not h6)
          · exact absurd z (str_not h7)
          · exact absurd z (str_not h8)
          · exact absurd z (str_not h9)
          · exact absurd z (str_not h10)
          · exact z
        subst hw
        exact app_fld rfl rfl rfl hq1 hsz hF (post ⟨_, _, _, _⟩ fun σ2 H2 z => z)
    · rintro σ H1 ⟨v0, rfl, s1, hq1⟩
      rw [List.length_map, hlen, List.take_length] at hq1
      exact ⟨_, rfl, k q H1 hq1 s1⟩
end
end Er

/-! What the text's top says; _law_kinds. -/
namespace Er
open PySem L2
/-- the names of the fields, class by class -/
def nms : Nat → List Str
  | 0 => ["line", "word"]
  | 1 => ["name"]
  | 2 => ["what", "number"]
  | 3 => ["what", "row"]
  | 4 => ["name"]
  | 5 => ["name"]
  | 6 => ["what"]
  | 7 => ["what"]
  | 8 => ["what", "many", "limit"]
  | 9 => ["line", "column"]
  | 10 => ["line", "column", "why", "name"]
  | 11 => ["promise", "witness"]
  | 12 => []
  | 13 => []
  | _ => []
structure Txt (K : PySem.W.Frag) (mg : Str → Option Value) (c fI : Nat → Addr) (cD : Addr) : Prop where
  err : ∀ i, i < 14 → ErrC K (c i)
  noF : ∀ i, i < 12 → ∀ f ∈ nms i, NoF K (c i) f
  ini : ∀ i, i < 12 → PySem.W.findIn K (.ref (c i)) "__init__" = some (some (.ref (fI i))) ∧ PySem.W.typeIn K (.ref (fI i)) = some (.type "function")
  kit : ∀ i j, i < 14 → j < 14 → PySem.W.kitOne K (.ref (c i)) (.ref (c j)) = some (i == j)
  kitD : ∀ i, i < 14 → PySem.W.kitOne K (.ref (c i)) (.ref cD) = some true
  kitV : ∀ i, i < 14 → PySem.W.kitOne K (.ref (c i)) (.type "ValueError") = some true
  kp : ∀ i, i < 14 → PySem.W.keepIn K (.ref (c i)) = true
  exc : ∀ i, 12 ≤ i → i < 14 → PySem.W.excIn K (c i) [.type "ValueError", .type "Exception", .type "BaseException", .type "object"] "ValueError.__new__" = true
  gD : mg "DealError" = some (.ref cD)
  isi : mg "isinstance" = none
  len : mg "len" = none
  int : mg "int" = none
  list : mg "list" = none
  repr : mg "repr" = none
  range : mg "range" = none
  enum : mg "enumerate" = none
  vErr : mg "ValueError" = none
  g0 : mg "BadText" = some (.ref (c 0))
  g1 : mg "BadName" = some (.ref (c 1))
  g2 : mg "BadNumber" = some (.ref (c 2))
  g3 : mg "BadRow" = some (.ref (c 3))
  g4 : mg "NoName" = some (.ref (c 4))
  g5 : mg "TakenName" = some (.ref (c 5))
  g6 : mg "Unlike" = some (.ref (c 6))
  g7 : mg "NotThere" = some (.ref (c 7))
  g8 : mg "TooMany" = some (.ref (c 8))
  g9 : mg "Misread" = some (.ref (c 9))
  g10 : mg "Misplaced" = some (.ref (c 10))
  g11 : mg "NotKept" = some (.ref (c 11))
  g12 : mg "NothingToUndo" = some (.ref (c 12))
  g13 : mg "NothingToRedo" = some (.ref (c 13))
/-- at a stands an error of the class C -/
def ErrV (H : Hp) (a C : Addr) : Prop := ∃ d : Option Addr, H a = some (exo a C d) ∧ ∀ dx, d = some dx → ∃ fs, H dx = some (exd dx fs)
theorem ErrV.same {H H' : Hp} {a C : Addr} (s : Same H H') (h : ErrV H a C) : ErrV H' a C := by
  obtain ⟨d, h1, h2⟩ := h
  exact ⟨d, s _ _ h1, fun dx e => let ⟨fs, z⟩ := h2 dx e; ⟨fs, s _ _ z⟩⟩
def kinds (i : Nat) : List V := (List.range 14).map fun j => V.bl (i == j)
def spK (c : Nat → Addr) : Sp := fun vs H Q _ => ∃ (a : Addr) (i : Nat), vs = [.ref a] ∧ i < 14 ∧ ErrV H a (c i) ∧ ∀ (p : Addr) (H' : Hp), H' p = some (.lst (kinds i)) → Same H H' → Q (.ref p) H'
section
variable {P : Program} {w : World} {K : PySem.W.Frag} {mg : Str → Option Value} {base : Heap} {c fI : Nat → Addr} {cD : Addr}
theorem isiC (T : Txt K mg c fI cD) {σ : L2.St} {H : Hp} {Q : VK} {a : Addr} {i : Nat} (j : Nat) (h0 : σ[0]? = some (some (.ref a))) (hi : i < 14) (hj : j < 14) (E : ErrV H a (c i)) (q : Q (.bl (i == j)) H) :
    tCB (rIsV K) (tCons (tVar 0) (tCons (tC (.ref (c j))) tNil)) σ H Q := by
  obtain ⟨d, h1, h2⟩ := E
  exact ⟨_, h0, a, c i, d, .ref (c j), .ref (c j), _, rfl, (T.err i hi).i, .own _, h1, h2, T.kit i j hi hj, q⟩
theorem sm {n : Nat} (h : n ≤ 1000) : n ≤ sizeLine := Nat.le_of_lt (small1000 h)
theorem same_new {H H' : Hp} {p : Addr} {o : HO} (s : Same H H') (hp : H' p = none) : Same H (upd H' p o) := fun b u e => by
  rw [upd_ne (ne_of_none (s b u e) hp)]
  exact s b u e
theorem sc_K : FnScope ["one", "found"] ["one"] (defScope sKinds) := ⟨rfl, rfl, rfl, by decide +kernel, rfl, by decide +kernel, by decide +kernel⟩

theorem ok_kinds {f : Addr} {fd : FuncData} (F : Fun K "_law_kinds" "_law_kinds" sKinds f fd) (T : Txt K mg c fI cD) : FnOk P w K mg base CX0 1 f fd ["one"] (spK c) := by
  refine F.ok sc_K (fun vs H Q E h => ?_) (fun cdv A outer s H vs Q E hr h => ?_)
  · obtain ⟨a, i, rfl, _⟩ := h
    rfl
  · obtain ⟨a, i, rfl, hi, hE, k⟩ := h
    refine ⟨_, pss_cons (ps_set (i := 1) sc_K.nd rfl (Or.inl rfl) (pe_lst (pa_cons (pe_callB call_isV (by rfl) T.isi (by decide +kernel) (pa_cons (pv 0) (pa_cons (pe_glob (v := .ref (c 0)) rfl T.g0 rfl) pa_nil))) (pa_cons (pe_callB call_isV (by rfl) T.isi (by decide +kernel) (pa_cons (pv 0) (pa_cons (pe_glob (v := .ref (c 1)) rfl T.g1 rfl) pa_nil))) (pa_cons (pe_callB call_isV (by rfl) T.isi (by decide +kernel) (pa_cons (pv 0) (pa_cons (pe_glob (v := .ref (c 2)) rfl T.g2 rfl) pa_nil))) (pa_cons (pe_callB call_isV (by rfl) T.isi (by decide +kernel) (pa_cons (pv 0) (pa_cons (pe_glob (v := .ref (c 3)) rfl T.g3 rfl) pa_nil))) pa_nil)))))) (pss_cons (ps_set (i := 1) sc_K.nd rfl (Or.inl rfl) (pe_op op_cat (pv 1) (pe_lst (pa_cons (pe_callB call_isV (by rfl) T.isi (by decide +kernel) (pa_cons (pv 0) (pa_cons (pe_glob (v := .ref (c 4)) rfl T.g4 rfl) pa_nil))) (pa_cons (pe_callB call_isV (by rfl) T.isi (by decide +kernel) (pa_cons (pv 0) (pa_cons (pe_glob (v := .ref (c 5)) rfl T.g5 rfl) pa_nil))) (pa_cons (pe_callB call_isV (by rfl) T.isi (by decide +kernel) (pa_cons (pv 0) (pa_cons (pe_glob (v := .ref (c 6)) rfl T.g6 rfl) pa_nil))) (pa_cons (pe_callB call_isV (by rfl) T.isi (by decide +kernel) (pa_cons (pv 0) (pa_cons (pe_glob (v := .ref (c 7)) rfl T.g7 rfl) pa_nil))) pa_nil))))))) (pss_cons (ps_set (i := 1) sc_K.nd rfl (Or.inl rfl) (pe_op op_cat (pv 1) (pe_lst (pa_cons (pe_callB call_isV (by rfl) T.isi (by decide +kernel) (pa_cons (pv 0) (pa_cons (pe_glob (v := .ref (c 8)) rfl T.g8 rfl) pa_nil))) (pa_cons (pe_callB call_isV (by rfl) T.isi (by decide +kernel) (pa_cons (pv 0) (pa_cons (pe_glob (v := .ref (c 9)) rfl T.g9 rfl) pa_nil))) (pa_cons (pe_callB call_isV (by rfl) T.isi (by decide +kernel) (pa_cons (pv 0) (pa_cons (pe_glob (v := .ref (c 10)) rfl T.g10 rfl) pa_nil))) (pa_cons (pe_callB call_isV (by rfl) T.isi (by decide +kernel) (pa_cons (pv 0) (pa_cons (pe_glob (v := .ref (c 11)) rfl T.g11 rfl) pa_nil))) pa_nil))))))) (pss_one (ps_ret (pe_op op_cat (pv 1) (pe_lst (pa_cons (pe_callB call_isV (by rfl) T.isi (by decide +kernel) (pa_cons (pv 0) (pa_cons (pe_glob (v := .ref (c 12)) rfl T.g12 rfl) pa_nil))) (pa_cons (pe_callB call_isV (by rfl) T.isi (by decide +kernel) (pa_cons (pv 0) (pa_cons (pe_glob (v := .ref (c 13)) rfl T.g13 rfl) pa_nil))) pa_nil)))))))), ?_⟩
    refine isiC T 0 rfl hi (by decide) hE ?_
    refine isiC T 1 rfl hi (by decide) hE ?_
    refine isiC T 2 rfl hi (by decide) hE ?_
    refine isiC T 3 rfl hi (by decide) hE ?_
    refine ⟨sm (show 4 ≤ 1000 by decide), fun q0 hq0 => ?_⟩
    have s0 := same_new (o := .lst [V.bl (i == 0), V.bl (i == 1), V.bl (i == 2), V.bl (i == 3)]) (Same.refl H) hq0
    refine ⟨_, rfl, ?_⟩
    refine isiC T 4 rfl hi (by decide) (hE.same s0) ?_
    refine isiC T 5 rfl hi (by decide) (hE.same s0) ?_
    refine isiC T 6 rfl hi (by decide) (hE.same s0) ?_
    refine isiC T 7 rfl hi (by decide) (hE.same s0) ?_
    refine ⟨sm (show 4 ≤ 1000 by decide), fun q4 hq4 => ?_⟩
    have t4 := same_new (o := .lst [V.bl (i == 4), V.bl (i == 5), V.bl (i == 6), V.bl (i == 7)]) s0 hq4
    refine ⟨_, _, _, _, rfl, rfl, (upd_ne (ne_of_none upd_same hq4)).trans upd_same, upd_same, sm (show 8 ≤ 1000 by decide), fun qx4 hx4 => ?_⟩
    have s4 := same_new (o := .lst [V.bl (i == 0), V.bl (i == 1), V.bl (i == 2), V.bl (i == 3), V.bl (i == 4), V.bl (i == 5), V.bl (i == 6), V.bl (i == 7)]) t4 hx4
    refine ⟨_, rfl, ?_⟩
    refine isiC T 8 rfl hi (by decide) (hE.same s4) ?_
    refine isiC T 9 rfl hi (by decide) (hE.same s4) ?_
    refine isiC T 10 rfl hi (by decide) (hE.same s4) ?_
    refine isiC T 11 rfl hi (by decide) (hE.same s4) ?_
    refine ⟨sm (show 4 ≤ 1000 by decide), fun q8 hq8 => ?_⟩
    have t8 := same_new (o := .lst [V.bl (i == 8), V.bl (i == 9), V.bl (i == 10), V.bl (i == 11)]) s4 hq8
    refine ⟨_, _, _, _, rfl, rfl, (upd_ne (ne_of_none upd_same hq8)).trans upd_same, upd_same, sm (show 12 ≤ 1000 by decide), fun qx8 hx8 => ?_⟩
    have s8 := same_new (o := .lst [V.bl (i == 0), V.bl (i == 1), V.bl (i == 2), V.bl (i == 3), V.bl (i == 4), V.bl (i == 5), V.bl (i == 6), V.bl (i == 7), V.bl (i == 8), V.bl (i == 9), V.bl (i == 10), V.bl (i == 11)]) t8 hx8
    refine ⟨_, rfl, ?_⟩
    refine isiC T 12 rfl hi (by decide) (hE.same s8) ?_
    refine isiC T 13 rfl hi (by decide) (hE.same s8) ?_
    refine ⟨sm (show 2 ≤ 1000 by decide), fun q12 hq12 => ?_⟩
    have t12 := same_new (o := .lst [V.bl (i == 12), V.bl (i == 13)]) s8 hq12
    refine ⟨_, _, _, _, rfl, rfl, (upd_ne (ne_of_none upd_same hq12)).trans upd_same, upd_same, sm (show 14 ≤ 1000 by decide), fun qx12 hx12 => ?_⟩
    have s12 := same_new (o := .lst [V.bl (i == 0), V.bl (i == 1), V.bl (i == 2), V.bl (i == 3), V.bl (i == 4), V.bl (i == 5), V.bl (i == 6), V.bl (i == 7), V.bl (i == 8), V.bl (i == 9), V.bl (i == 10), V.bl (i == 11), V.bl (i == 12), V.bl (i == 13)]) t12 hx12
    exact k _ _ upd_same s12
end
end Er

/-! _law_made_errors. -/
namespace Er
open PySem L2
/-- x is the pair of an error of the class i with its fields' names -/
def El (c : Nat → Addr) (H : Hp) (vs : List V) (i : Nat) (x : V) : Prop := ∃ (t a l : Addr) (d : Option Addr), x = .ref t ∧ H t = some (.tup [.ref a, .ref l]) ∧ H l = some (.lst ((nms i).map V.str)) ∧ H a = some (exo a (c i) d) ∧
  ((i < 12 ∧ ∃ dx, d = some dx ∧ H dx = some (exd dx (fld (nms i) ((vs ++ vs).take (nms i).length)))) ∨ (nms i = [] ∧ d = none))
theorem El.same {c : Nat → Addr} {H H' : Hp} {vs : List V} {i : Nat} {x : V} (s : Same H H') (h : El c H vs i x) : El c H' vs i x := by
  obtain ⟨t, a, l, d, e, h1, h2, h3, h4⟩ := h
  refine ⟨t, a, l, d, e, s _ _ h1, s _ _ h2, s _ _ h3, ?_⟩
  rcases h4 with ⟨hi, dx, e1, h4⟩ | h4
  · exact .inl ⟨hi, dx, e1, s _ _ h4⟩
  · exact .inr h4
theorem El.err {c : Nat → Addr} {H : Hp} {vs : List V} {i : Nat} {x : V} (h : El c H vs i x) : ∃ t a l, x = .ref t ∧ H t = some (.tup [.ref a, .ref l]) ∧ H l = some (.lst ((nms i).map V.str)) ∧ ErrV H a (c i) := by
  obtain ⟨t, a, l, d, e, h1, h2, h3, h4⟩ := h
  refine ⟨t, a, l, e, h1, h2, d, h3, fun dx e1 => ?_⟩
  rcases h4 with ⟨hi, dx', e2, h4⟩ | ⟨_, e2⟩
  · rw [e1] at e2
    cases e2
    exact ⟨_, h4⟩
  · rw [e1] at e2; cases e2
abbrev Els (c : Nat → Addr) (H : Hp) (vs : List V) (n : Nat) (xs : List V) : Prop := ∀ j x, xs[j]? = some x → El c H vs (n + j) x
theorem Els.same {c : Nat → Addr} {H H' : Hp} {vs : List V} {n : Nat} {xs : List V} (s : Same H H') (h : Els c H vs n xs) : Els c H' vs n xs := fun j x e => (h j x e).same s
theorem Els.nil {c : Nat → Addr} {H : Hp} {vs : List V} {n : Nat} : Els c H vs n [] := fun j x e => by simp at e
theorem Els.cons {c : Nat → Addr} {H : Hp} {vs : List V} {n : Nat} {x : V} {xs : List V} (h : El c H vs n x) (h' : Els c H vs (n + 1) xs) : Els c H vs n (x :: xs) := fun j y e => by
  cases j with
  | zero =>
    obtain rfl : x = y := by simpa using e
    exact h
  | succ j =>
    have z := h' j y (by simpa using e)
    rwa [Nat.add_assoc, Nat.add_comm 1 j] at z
theorem Els.app {c : Nat → Addr} {H : Hp} {vs : List V} {n m : Nat} {xs ys : List V} (h : Els c H vs n xs) (hm : m = n + xs.length) (h' : Els c H vs m ys) : Els c H vs n (xs ++ ys) := fun j y e => by
  by_cases hj : j < xs.length
  · rw [List.getElem?_append_left hj] at e
    exact h j y e
  · rw [List.getElem?_append_right (by omega)] at e
    have z := h' _ y e
    rwa [hm, show n + xs.length + (j - xs.length) = n + j by omega] at z
def spM (c : Nat → Addr) : Sp := fun vs H Q _ => vs.length = 3 ∧ ∀ (p : Addr) (xs : List V) (H' : Hp), H' p = some (.lst xs) → xs.length = 12 → Els c H' vs 0 xs → Same H H' → Q (.ref p) H'
/-- the errors' __init__ keep their promises -/
structure Inits (P : Program) (w : World) (K : PySem.W.Frag) (mg : Str → Option Value) (base : Heap) (c fI : Nat → Addr) (fdI : Nat → FuncData) : Prop where
  G : ∀ i, i < 12 → FnOk P w K mg base CX0 1 (fI i) (fdI i) ("self" :: nms i) (spI (c i) (nms i).length (fld (nms i)))
  b : ∀ i, i < 12 → Binds K (fdI i) ("self" :: nms i) []
section
variable {P : Program} {w : World} {K : PySem.W.Frag} {mg : Str → Option Value} {base : Heap} {c fI : Nat → Addr} {cD : Addr} {fdI : Nat → FuncData}
theorem made {i : Nat} {vs : List V} {ta : TA} {tl : TE} {σ : L2.St} {H : Hp} {Q : VK} (hi : i < 12) (hl : (nms i).length ≤ (vs ++ vs).length) (hn : (nms i).length ≤ 100)
    (hta : ∀ R : List V → Hp → Prop, R ((vs ++ vs).take (nms i).length) H → ta σ H R)
    (htl : ∀ (H1 : Hp) (R : VK), (∀ l, H1 l = none → R (.ref l) (upd H1 l (.lst ((nms i).map V.str)))) → tl σ H1 R) (q : ∀ x H', Same H H' → El c H' vs i x → Q x H') :
    tTup (tCons (tMk (c i) (spI (c i) (nms i).length (fld (nms i))) ta) (tCons tl tNil)) σ H Q := by
  have hlen : ((vs ++ vs).take (nms i).length).length = (nms i).length := by rw [List.length_take]; omega
  refine hta _ ⟨by rw [hlen]; omega, fun a ha => ⟨a, _, rfl, hlen, upd_same, fun dx H' hd ne h1 h2 hk => ⟨rfl, htl _ _ fun l hl2 => ⟨sm (show 2 ≤ 1000 by decide), fun t ht => q _ _ ?_ ?_⟩⟩⟩⟩
  · refine same_new (same_new (fun b o e => ?_) hl2) ht
    exact hk b o (by rw [upd_ne (ne_of_none e ha)]; exact e) (ne_of_none e ha)
  · have up : ∀ {b : Addr} {o : HO}, H' b = some o → upd (upd H' l (.lst ((nms i).map V.str))) t (.tup [.ref a, .ref l]) b = some o := fun {b o} e => by
      have e1 : upd H' l (.lst ((nms i).map V.str)) b = some o := by rw [upd_ne (ne_of_none e hl2)]; exact e
      rw [upd_ne (ne_of_none e1 ht)]
      exact e1
    exact ⟨t, a, l, some dx, rfl, upd_same, by rw [upd_ne (ne_of_none upd_same ht), upd_same], up h1, .inl ⟨hi, dx, rfl, up h2⟩⟩
theorem sc_M : FnScope ["one", "two", "three", "rows"] ["one", "two", "three"] (defScope sMade) := ⟨rfl, rfl, rfl, by decide +kernel, rfl, by decide +kernel, by decide +kernel⟩

theorem ok_made {f : Addr} {fd : FuncData} (F : Fun K "_law_made_errors" "_law_made_errors" sMade f fd) (T : Txt K mg c fI cD) (I : Inits P w K mg base c fI fdI) : FnOk P w K mg base CX0 3 f fd ["one", "two", "three"] (spM c) := by
  refine F.ok sc_M (fun vs H Q E h => h.1) (fun cdv A outer s H vs Q E hr h => ?_)
  obtain ⟨hl3, k⟩ := h
  obtain ⟨v1, v2, v3, rfl⟩ : ∃ v1 v2 v3, vs = [v1, v2, v3] := match vs, hl3 with | [v1, v2, v3], _ => ⟨_, _, _, rfl⟩
  refine ⟨_, pss_cons (ps_set (i := 3) sc_M.nd rfl (Or.inl rfl) (pe_lst (pa_cons (pe_tup (pa_cons (pe_mk (T.err 0 (by decide)).o (T.ini 0 (by decide)).1 (T.ini 0 (by decide)).2 (I.G 0 (by decide)) hr (I.b 0 (by decide)) pass0 rfl T.g0 (pa_cons (pv 0) (pa_cons (pv 1) pa_nil))) (pa_cons (pe_lst (pa_cons pe_str (pa_cons pe_str pa_nil))) pa_nil))) (pa_cons (pe_tup (pa_cons (pe_mk (T.err 1 (by decide)).o (T.ini 1 (by decide)).1 (T.ini 1 (by decide)).2 (I.G 1 (by decide)) hr (I.b 1 (by decide)) pass0 rfl T.g1 (pa_cons (pv 0) pa_nil)) (pa_cons (pe_lst (pa_cons pe_str pa_nil)) pa_nil))) (pa_cons (pe_tup (pa_cons (pe_mk (T.err 2 (by decide)).o (T.ini 2 (by decide)).1 (T.ini 2 (by decide)).2 (I.G 2 (by decide)) hr (I.b 2 (by decide)) pass0 rfl T.g2 (pa_cons (pv 0) (pa_cons (pv 1) pa_nil))) (pa_cons (pe_lst (pa_cons pe_str (pa_cons pe_str pa_nil))) pa_nil))) pa_nil))))) (pss_cons (ps_set (i := 3) sc_M.nd rfl (Or.inl rfl) (pe_op op_cat (pv 3) (pe_lst (pa_cons (pe_tup (pa_cons (pe_mk (T.err 3 (by decide)).o (T.ini 3 (by decide)).1 (T.ini 3 (by decide)).2 (I.G 3 (by decide)) hr (I.b 3 (by decide)) pass0 rfl T.g3 (pa_cons (pv 0) (pa_cons (pv 1) pa_nil))) (pa_cons (pe_lst (pa_cons pe_str (pa_cons pe_str pa_nil))) pa_nil))) (pa_cons (pe_tup (pa_cons (pe_mk (T.err 4 (by decide)).o (T.ini 4 (by decide)).1 (T.ini 4 (by decide)).2 (I.G 4 (by decide)) hr (I.b 4 (by decide)) pass0 rfl T.g4 (pa_cons (pv 0) pa_nil)) (pa_cons (pe_lst (pa_cons pe_str pa_nil)) pa_nil))) (pa_cons (pe_tup (pa_cons (pe_mk (T.err 5 (by decide)).o (T.ini 5 (by decide)).1 (T.ini 5 (by decide)).2 (I.G 5 (by decide)) hr (I.b 5 (by decide)) pass0 rfl T.g5 (pa_cons (pv 0) pa_nil)) (pa_cons (pe_lst (pa_cons pe_str pa_nil)) pa_nil))) pa_nil)))))) (pss_cons (ps_set (i := 3) sc_M.nd rfl (Or.inl rfl) (pe_op op_cat (pv 3) (pe_lst (pa_cons (pe_tup (pa_cons (pe_mk (T.err 6 (by decide)).o (T.ini 6 (by decide)).1 (T.ini 6 (by decide)).2 (I.G 6 (by decide)) hr (I.b 6 (by decide)) pass0 rfl T.g6 (pa_cons (pv 0) pa_nil)) (pa_cons (pe_lst (pa_cons pe_str pa_nil)) pa_nil))) (pa_cons (pe_tup (pa_cons (pe_mk (T.err 7 (by decide)).o (T.ini 7 (by decide)).1 (T.ini 7 (by decide)).2 (I.G 7 (by decide)) hr (I.b 7 (by decide)) pass0 rfl T.g7 (pa_cons (pv 0) pa_nil)) (pa_cons (pe_lst (pa_cons pe_str pa_nil)) pa_nil))) (pa_cons (pe_tup (pa_cons (pe_mk (T.err 8 (by decide)).o (T.ini 8 (by decide)).1 (T.ini 8 (by decide)).2 (I.G 8 (by decide)) hr (I.b 8 (by decide)) pass0 rfl T.g8 (pa_cons (pv 0) (pa_cons (pv 1) (pa_cons (pv 2) pa_nil)))) (pa_cons (pe_lst (pa_cons pe_str (pa_cons pe_str (pa_cons pe_str pa_nil)))) pa_nil))) pa_nil)))))) (pss_cons (ps_set (i := 3) sc_M.nd rfl (Or.inl rfl) (pe_op op_cat (pv 3) (pe_lst (pa_cons (pe_tup (pa_cons (pe_mk (T.err 9 (by decide)).o (T.ini 9 (by decide)).1 (T.ini 9 (by decide)).2 (I.G 9 (by decide)) hr (I.b 9 (by decide)) pass0 rfl T.g9 (pa_cons (pv 0) (pa_cons (pv 1) pa_nil))) (pa_cons (pe_lst (pa_cons pe_str (pa_cons pe_str pa_nil))) pa_nil))) (pa_cons (pe_tup (pa_cons (pe_mk (T.err 10 (by decide)).o (T.ini 10 (by decide)).1 (T.ini 10 (by decide)).2 (I.G 10 (by decide)) hr (I.b 10 (by decide)) pass0 rfl T.g10 (pa_cons (pv 0) (pa_cons (pv 1) (pa_cons (pv 2) (pa_cons (pv 0) pa_nil))))) (pa_cons (pe_lst (pa_cons pe_str (pa_cons pe_str (pa_cons pe_str (pa_cons pe_str pa_nil))))) pa_nil))) pa_nil))))) (pss_one (ps_ret (pe_op op_cat (pv 3) (pe_lst (pa_cons (pe_tup (pa_cons (pe_mk (T.err 11 (by decide)).o (T.ini 11 (by decide)).1 (T.ini 11 (by decide)).2 (I.G 11 (by decide)) hr (I.b 11 (by decide)) pass0 rfl T.g11 (pa_cons (pv 0) (pa_cons (pv 1) pa_nil))) (pa_cons (pe_lst (pa_cons pe_str (pa_cons pe_str pa_nil))) pa_nil))) pa_nil)))))))), ?_⟩
  unfold tSeq tAsg tLst tCons
  have S := Same.refl H
  refine made (c := c) (i := 0) (vs := [v1, v2, v3]) (ta := (tCons (tVar 0) (tCons (tVar 1) tNil))) (tl := (tLst (tCons (tC (V.str "line")) (tCons (tC (V.str "word")) tNil)))) (by decide) (show 2 ≤ 6 by decide) (by decide) ?_ ?_ fun x0 H0 s0 e0 => ?_
  · intro R q; exact ⟨_, rfl, _, rfl, q⟩
  · intro H1 R q; exact ⟨sm (show 2 ≤ 1000 by decide), fun l hl => q l hl⟩
  have S := S.trans s0
  refine made (c := c) (i := 1) (vs := [v1, v2, v3]) (ta := (tCons (tVar 0) tNil)) (tl := (tLst (tCons (tC (V.str "name")) tNil))) (by decide) (show 1 ≤ 6 by decide) (by decide) ?_ ?_ fun x1 H1 s1 e1 => ?_
  · intro R q; exact ⟨_, rfl, q⟩
  · intro H1 R q; exact ⟨sm (show 1 ≤ 1000 by decide), fun l hl => q l hl⟩
  have S := S.trans s1
  have e0 := e0.same s1
  refine made (c := c) (i := 2) (vs := [v1, v2, v3]) (ta := (tCons (tVar 0) (tCons (tVar 1) tNil))) (tl := (tLst (tCons (tC (V.str "what")) (tCons (tC (V.str "number")) tNil)))) (by decide) (show 2 ≤ 6 by decide) (by decide) ?_ ?_ fun x2 H2 s2 e2 => ?_
  · intro R q; exact ⟨_, rfl, _, rfl, q⟩
  · intro H1 R q; exact ⟨sm (show 2 ≤ 1000 by decide), fun l hl => q l hl⟩
  have S := S.trans s2
  have e0 := e0.same s2
  have e1 := e1.same s2
  refine ⟨sm (show 3 ≤ 1000 by decide), fun q0 hq0 => ?_⟩
  have sn := same_new (o := .lst [x0, x1, x2]) (Same.refl _) hq0
  have S := S.trans sn
  have e0 := e0.same sn
  have e1 := e1.same sn
  have e2 := e2.same sn
  have E : Els c _ [v1, v2, v3] 0 _ := (Els.cons e0 (Els.cons e1 (Els.cons e2 Els.nil)))
  have hp := upd_same (H := H2) (a := q0) (o := .lst [x0, x1, x2])
  refine ⟨_, rfl, ?_⟩
  refine made (c := c) (i := 3) (vs := [v1, v2, v3]) (ta := (tCons (tVar 0) (tCons (tVar 1) tNil))) (tl := (tLst (tCons (tC (V.str "what")) (tCons (tC (V.str "row")) tNil)))) (by decide) (show 2 ≤ 6 by decide) (by decide) ?_ ?_ fun x3 H3 s3 e3 => ?_
  · intro R q; exact ⟨_, rfl, _, rfl, q⟩
  · intro H1 R q; exact ⟨sm (show 2 ≤ 1000 by decide), fun l hl => q l hl⟩
  have S := S.trans s3
  have hp := s3 _ _ hp
  have E := E.same s3
  refine made (c := c) (i := 4) (vs := [v1, v2, v3]) (ta := (tCons (tVar 0) tNil)) (tl := (tLst (tCons (tC (V.str "name")) tNil))) (by decide) (show 1 ≤ 6 by decide) (by decide) ?_ ?_ fun x4 H4 s4 e4 => ?_
  · intro R q; exact ⟨_, rfl, q⟩
  · intro H1 R q; exact ⟨sm (show 1 ≤ 1000 by decide), fun l hl => q l hl⟩
  have S := S.trans s4
  have hp := s4 _ _ hp
  have E := E.same s4
  have e3 := e3.same s4
  refine made (c := c) (i := 5) (vs := [v1, v2, v3]) (ta := (tCons (tVar 0) tNil)) (tl := (tLst (tCons (tC (V.str "name")) tNil))) (by decide) (show 1 ≤ 6 by decide) (by decide) ?_ ?_ fun x5 H5 s5 e5 => ?_
  · intro R q; exact ⟨_, rfl, q⟩
  · intro H1 R q; exact ⟨sm (show 1 ≤ 1000 by decide), fun l hl => q l hl⟩
  have S := S.trans s5
  have hp := s5 _ _ hp
  have E := E.same s5
  have e3 := e3.same s5
  have e4 := e4.same s5
  refine ⟨sm (show 3 ≤ 1000 by decide), fun q3 hq3 => ?_⟩
  have sn := same_new (o := .lst [x3, x4, x5]) (Same.refl _) hq3
  have S := S.trans sn
  have hp := sn _ _ hp
  have E := E.same sn
  have e3 := e3.same sn
  have e4 := e4.same sn
  have e5 := e5.same sn
  have E2 : Els c _ [v1, v2, v3] 3 _ := (Els.cons e3 (Els.cons e4 (Els.cons e5 Els.nil)))
  have E := E.app rfl E2
  refine ⟨_, _, _, _, rfl, rfl, hp, upd_same, sm (show 6 ≤ 1000 by decide), fun r3 hr3 => ?_⟩
  have sn := same_new (o := .lst ([x0, x1, x2] ++ [x3, x4, x5])) (Same.refl _) hr3
  have S := S.trans sn
  have E := E.same sn
  have hp := upd_same (H := upd H5 q3 (.lst [x3, x4, x5])) (a := r3) (o := .lst ([x0, x1, x2] ++ [x3, x4, x5]))
  refine ⟨_, rfl, ?_⟩
  refine made (c := c) (i := 6) (vs := [v1, v2, v3]) (ta := (tCons (tVar 0) tNil)) (tl := (tLst (tCons (tC (V.str "what")) tNil))) (by decide) (show 1 ≤ 6 by decide) (by decide) ?_ ?_ fun x6 H6 s6 e6 => ?_
  · intro R q; exact ⟨_, rfl, q⟩
  · intro H1 R q; exact ⟨sm (show 1 ≤ 1000 by decide), fun l hl => q l hl⟩
  have S := S.trans s6
  have hp := s6 _ _ hp
  have E := E.same s6
  refine made (c := c) (i := 7) (vs := [v1, v2, v3]) (ta := (tCons (tVar 0) tNil)) (tl := (tLst (tCons (tC (V.str "what")) tNil))) (by decide) (show 1 ≤ 6 by decide) (by decide) ?_ ?_ fun x7 H7 s7 e7 => ?_
  · intro R q; exact ⟨_, rfl, q⟩
  · intro H1 R q; exact ⟨sm (show 1 ≤ 1000 by decide), fun l hl => q l hl⟩
  have S := S.trans s7
  have hp := s7 _ _ hp
  have E := E.same s7
  have e6 := e6.same s7
  refine made (c := c) (i := 8) (vs := [v1, v2, v3]) (ta := (tCons (tVar 0) (tCons (tVar 1) (tCons (tVar 2) tNil)))) (tl := (tLst (tCons (tC (V.str "what")) (tCons (tC (V.str "many")) (tCons (tC (V.str "limit")) tNil))))) (by decide) (show 3 ≤ 6 by decide) (by decide) ?_ ?_ fun x8 H8 s8 e8 => ?_
  · intro R q; exact ⟨_, rfl, _, rfl, _, rfl, q⟩
  · intro H1 R q; exact ⟨sm (show 3 ≤ 1000 by decide), fun l hl => q l hl⟩
  have S := S.trans s8
  have hp := s8 _ _ hp
  have E := E.same s8
  have e6 := e6.same s8
  have e7 := e7.same s8
  refine ⟨sm (show 3 ≤ 1000 by decide), fun q6 hq6 => ?_⟩
  have sn := same_new (o := .lst [x6, x7, x8]) (Same.refl _) hq6
  have S := S.trans sn
  have hp := sn _ _ hp
  have E := E.same sn
  have e6 := e6.same sn
  have e7 := e7.same sn
  have e8 := e8.same sn
  have E2 : Els c _ [v1, v2, v3] 6 _ := (Els.cons e6 (Els.cons e7 (Els.cons e8 Els.nil)))
  have E := E.app rfl E2
  refine ⟨_, _, _, _, rfl, rfl, hp, upd_same, sm (show 9 ≤ 1000 by decide), fun r6 hr6 => ?_⟩
  have sn := same_new (o := .lst (([x0, x1, x2] ++ [x3, x4, x5]) ++ [x6, x7, x8])) (Same.refl _) hr6
  have S := S.trans sn
  have E := E.same sn
  have hp := upd_same (H := upd H8 q6 (.lst [x6, x7, x8])) (a := r6) (o := .lst (([x0, x1, x2] ++ [x3, x4, x5]) ++ [x6, x7, x8]))
  refine ⟨_, rfl, ?_⟩
  refine made (c := c) (i := 9) (vs := [v1, v2, v3]) (ta := (tCons (tVar 0) (tCons (tVar 1) tNil))) (tl := (tLst (tCons (tC (V.str "line")) (tCons (tC (V.str "column")) tNil)))) (by decide) (show 2 ≤ 6 by decide) (by decide) ?_ ?_ fun x9 H9 s9 e9 => ?_
  · intro R q; exact ⟨_, rfl, _, rfl, q⟩
  · intro H1 R q; exact ⟨sm (show 2 ≤ 1000 by decide), fun l hl => q l hl⟩
  have S := S.trans s9
  have hp := s9 _ _ hp
  have E := E.same s9
  refine made (c := c) (i := 10) (vs := [v1, v2, v3]) (ta := (tCons (tVar 0) (tCons (tVar 1) (tCons (tVar 2) (tCons (tVar 0) tNil))))) (tl := (tLst (tCons (tC (V.str "line")) (tCons (tC (V.str "column")) (tCons (tC (V.str "why")) (tCons (tC (V.str "name")) tNil)))))) (by decide) (show 4 ≤ 6 by decide) (by decide) ?_ ?_ fun x10 H10 s10 e10 => ?_
  · intro R q; exact ⟨_, rfl, _, rfl, _, rfl, _, rfl, q⟩
  · intro H1 R q; exact ⟨sm (show 4 ≤ 1000 by decide), fun l hl => q l hl⟩
  have S := S.trans s10
  have hp := s10 _ _ hp
  have E := E.same s10
  have e9 := e9.same s10
  refine ⟨sm (show 2 ≤ 1000 by decide), fun q9 hq9 => ?_⟩
  have sn := same_new (o := .lst [x9, x10]) (Same.refl _) hq9
  have S := S.trans sn
  have hp := sn _ _ hp
  have E := E.same sn
  have e9 := e9.same sn
  have e10 := e10.same sn
  have E2 : Els c _ [v1, v2, v3] 9 _ := (Els.cons e9 (Els.cons e10 Els.nil))
  have E := E.app rfl E2
  refine ⟨_, _, _, _, rfl, rfl, hp, upd_same, sm (show 11 ≤ 1000 by decide), fun r9 hr9 => ?_⟩
  have sn := same_new (o := .lst ((([x0, x1, x2] ++ [x3, x4, x5]) ++ [x6, x7, x8]) ++ [x9, x10])) (Same.refl _) hr9
  have S := S.trans sn
  have E := E.same sn
  have hp := upd_same (H := upd H10 q9 (.lst [x9, x10])) (a := r9) (o := .lst ((([x0, x1, x2] ++ [x3, x4, x5]) ++ [x6, x7, x8]) ++ [x9, x10]))
  refine ⟨_, rfl, ?_⟩
  refine made (c := c) (i := 11) (vs := [v1, v2, v3]) (ta := (tCons (tVar 0) (tCons (tVar 1) tNil))) (tl := (tLst (tCons (tC (V.str "promise")) (tCons (tC (V.str "witness")) tNil)))) (by decide) (show 2 ≤ 6 by decide) (by decide) ?_ ?_ fun x11 H11 s11 e11 => ?_
  · intro R q; exact ⟨_, rfl, _, rfl, q⟩
  · intro H1 R q; exact ⟨sm (show 2 ≤ 1000 by decide), fun l hl => q l hl⟩
  have S := S.trans s11
  have hp := s11 _ _ hp
  have E := E.same s11
  refine ⟨sm (show 1 ≤ 1000 by decide), fun q11 hq11 => ?_⟩
  have sn := same_new (o := .lst [x11]) (Same.refl _) hq11
  have S := S.trans sn
  have hp := sn _ _ hp
  have E := E.same sn
  have e11 := e11.same sn
  have E2 : Els c _ [v1, v2, v3] 11 _ := (Els.cons e11 Els.nil)
  have E := E.app rfl E2
  refine ⟨_, _, _, _, rfl, rfl, hp, upd_same, sm (show 12 ≤ 1000 by decide), fun r11 hr11 => ?_⟩
  have sn := same_new (o := .lst (((([x0, x1, x2] ++ [x3, x4, x5]) ++ [x6, x7, x8]) ++ [x9, x10]) ++ [x11])) (Same.refl _) hr11
  have S := S.trans sn
  have E := E.same sn
  exact k _ _ _ upd_same rfl E S
end
end Er

/-! The pen: _law_pen, _law_draw, _law_pick. -/
namespace Er
open PySem L2
abbrev sPen : Stmt := top 17
abbrev sDraw : Stmt := top 18
abbrev sPick : Stmt := top 19
def pk (l : Addr) (at_ dg ct fo : Int) : List (Key × V) := [(.inr "cells", .ref l), (.inr "at", .int at_), (.inr "digits", .int dg), (.inr "count", .int ct), (.inr "fold", .int fo)]
section
variable {H : Hp} {p l : Addr} {at_ dg ct fo z : Int}
theorem pk_cells (h : H p = some (.dK (pk l at_ dg ct fo))) : DGet H p (.str "cells") (some (.ref l)) := DGet.k (k := Sum.inr "cells") h
theorem pk_at (h : H p = some (.dK (pk l at_ dg ct fo))) : DGet H p (.str "at") (some (.int at_)) := DGet.k (k := Sum.inr "at") h
theorem pk_dg (h : H p = some (.dK (pk l at_ dg ct fo))) : DGet H p (.str "digits") (some (.int dg)) := DGet.k (k := Sum.inr "digits") h
theorem pk_ct (h : H p = some (.dK (pk l at_ dg ct fo))) : DGet H p (.str "count") (some (.int ct)) := DGet.k (k := Sum.inr "count") h
theorem pk_fo (h : H p = some (.dK (pk l at_ dg ct fo))) : DGet H p (.str "fold") (some (.int fo)) := DGet.k (k := Sum.inr "fold") h
theorem put_at (h : H p = some (.dK (pk l at_ dg ct fo))) : DPut H p (.str "at") (.int z) (upd H p (.dK (pk l z dg ct fo))) := DPut.k (k := Sum.inr "at") (v := .int z) h (by show 5 < sizeLine; decide)
theorem put_dg (h : H p = some (.dK (pk l at_ dg ct fo))) : DPut H p (.str "digits") (.int z) (upd H p (.dK (pk l at_ z ct fo))) := DPut.k (k := Sum.inr "digits") (v := .int z) h (by show 5 < sizeLine; decide)
theorem put_ct (h : H p = some (.dK (pk l at_ dg ct fo))) : DPut H p (.str "count") (.int z) (upd H p (.dK (pk l at_ dg z fo))) := DPut.k (k := Sum.inr "count") (v := .int z) h (by show 5 < sizeLine; decide)
theorem put_fo (h : H p = some (.dK (pk l at_ dg ct fo))) : DPut H p (.str "fold") (.int z) (upd H p (.dK (pk l at_ dg ct z))) := DPut.k (k := Sum.inr "fold") (v := .int z) h (by show 5 < sizeLine; decide)
end
structure PenIs (H : Hp) (p : Addr) (n : Nat) (l : Addr) (ns : List Int) (at_ dg ct fo : Int) : Prop where
  d : H p = some (.dK (pk l at_ dg ct fo))
  c : H l = some (.lst (ns.map V.int))
  len : ns.length ≤ 1000
  a0 : 0 ≤ at_
  d0 : 0 ≤ dg
  c0 : 0 ≤ ct
  c1 : ct ≤ n
  f0 : 0 ≤ fo
  f1 : fo < 2147482811
def Pen (H : Hp) (p : Addr) (n : Nat) : Prop := ∃ l ns at_ dg ct fo, PenIs H p n l ns at_ dg ct fo
theorem PenIs.ne {H : Hp} {p : Addr} {n : Nat} {l : Addr} {ns : List Int} {at_ dg ct fo : Int} (h : PenIs H p n l ns at_ dg ct fo) : l ≠ p := ne_of h.c h.d (by intro z; cases z)
def Oth (p : Addr) (H H' : Hp) : Prop := ∀ b o, H b = some o → b ≠ p → H' b = some o
def spPen (K : PySem.W.Frag) : Sp := fun vs H Q _ => ∃ (a : Addr) (ns : List Int), vs = [.ref a] ∧ SqL K H a (ns.map V.int) ∧ ns.length ≤ 63 ∧ ∀ (p : Addr) (H' : Hp), Pen H' p 0 → H p = none → Same H H' → Q (.ref p) H'
def spDraw : Sp := fun vs H Q _ => ∃ (p : Addr) (m : Int) (n : Nat), vs = [.ref p, .int m] ∧ 0 < m ∧ m < 1000 ∧ Pen H p n ∧ n < 1000 ∧ ∀ (k : Int) (H' : Hp), 0 ≤ k → k < m → Pen H' p (n + 1) → Oth p H H' → Q (.int k) H'
def spPick : Sp := fun vs H Q _ => ∃ (p a : Addr) (xs : List V) (n : Nat), vs = [.ref p, .ref a] ∧ H a = some (.lst xs) ∧ 0 < xs.length ∧ xs.length < 1000 ∧ Pen H p n ∧ n < 1000 ∧
  ∀ (x : V) (H' : Hp), x ∈ xs → Pen H' p (n + 1) → Oth p H H' → Q x H'
section
variable {P : Program} {w : World} {K : PySem.W.Frag} {mg : Str → Option Value} {base : Heap} {c fI : Nat → Addr} {cD : Addr}
theorem sc_P : FnScope ["script", "fold", "cell"] ["script"] (defScope sPen) := ⟨rfl, rfl, rfl, by decide +kernel, rfl, by decide +kernel, by decide +kernel⟩
theorem ok_pen {f : Addr} {fd : FuncData} (F : Fun K "_law_pen" "_law_pen" sPen f fd) (T : Txt K mg c fI cD) : FnOk P w K mg base CX0 1 f fd ["script"] (spPen K) := by
  refine F.ok sc_P (fun vs H Q E h => ?_) (fun cdv A outer s H vs Q E hr h => ?_)
  · obtain ⟨a, ns, rfl, _⟩ := h
    rfl
  · obtain ⟨a, ns, rfl, hS, hlen, k⟩ := h
    refine ⟨_, pss_cons (ps_set (i := 1) sc_P.nd rfl (Or.inl rfl) pe_int) (pss_cons (ps_for PassesOwn.never rfl (pi_list (pv 0)) (pg_name (i := 2) sc_P.nd rfl (Or.inl rfl))
      (pss_one (ps_set (i := 1) sc_P.nd rfl (Or.inl rfl) (pe_op op_mod (pe_callTy call_int1 (by rfl) T.int PyProof.Rows.boot_int (pa_cons (pe_op op_add (pe_op op_mul (pv 1) pe_int) (pv 2)) pa_nil)) pe_int))))
      (pss_one (ps_ret (pe_disp (pps_cons pe_str (pe_callTy call_list_of (by rfl) T.list (by decide +kernel) (pa_cons (pv 0) pa_nil)) (pps_cons pe_str pe_int (pps_cons pe_str pe_int (pps_cons pe_str pe_int (pps_cons pe_str (pv 1) pps_nil)))))
        (by rfl) (by rfl) (fun z => by cases z) (by decide))))), ?_⟩
    refine ⟨_, rfl, a, rfl, ⟨_, hS⟩, for_list (K := K) (a := a) (xs := ns.map V.int) (fun i σ H1 => ∃ (fo : Int) (v : Option V), σ = [some (.ref a), some (.int fo), v] ∧ H1 = H ∧ 0 ≤ fo ∧ fo < 1000000579)
      ⟨61, none, rfl, rfl, by decide, by decide⟩ (fun i σ H1 _ ⟨_, _, _, e, _⟩ => by rw [e]; exact hS) ?_ ?_⟩
    · rintro i y σ H1 hi ⟨fo, v, rfl, rfl, h0, h1⟩
      rw [List.getElem?_map] at hi
      cases e : ns[i]? with
      | none => rw [e] at hi; cases hi
      | some z =>
        rw [e] at hi
        obtain rfl := Option.some.inj hi
        refine ⟨_, rfl, _, _, rfl, rfl, .inl ⟨by omega, by omega⟩, _, rfl, _, _, rfl, rfl, .inl ⟨_, rfl, _, _, rfl, rfl, (show (0 : Int) < 1000000579 by decide), ?_⟩⟩
        exact ⟨_, _, rfl, rfl, Int.emod_nonneg _ (by decide), Int.emod_lt_of_pos _ (by decide)⟩
    · rintro σ H1 ⟨fo, v, rfl, rfl, h0, h1⟩
      intro p hp
      have hS' : SqL K (upd H1 p (.dK [])) a (ns.map V.int) := Same.seq (same_new (Same.refl _) hp) hS
      refine ⟨_, rfl, a, _, rfl, .inl hS', fun l hl => ⟨_, rfl, ?_⟩⟩
      have hlp : p ≠ l := ne_of_none upd_same hl
      refine ⟨by rw [upd_ne hlp, upd_same], pk l 0 0 0 fo, rfl, (show 5 ≤ 15 by decide), ?_⟩
      refine k p _ ⟨l, ns, 0, 0, 0, fo, ?_, ?_, by omega, by decide, by decide, by decide, by decide, h0, by omega⟩ hp fun b o z => ?_
      · rw [upd_same]; rfl
      · rw [upd_ne hlp.symm, upd_same]
      · have e1 := same_new (o := .lst (ns.map V.int)) (same_new (o := .dK []) (Same.refl _) hp) hl b o z
        rw [upd_ne (ne_of_none z hp)]
        exact e1
theorem sc_D : FnScope ["pen", "many", "cell", "digit", "blend"] ["pen", "many"] (defScope sDraw) := ⟨rfl, rfl, rfl, by decide +kernel, rfl, by decide +kernel, by decide +kernel⟩
theorem ok_draw {f : Addr} {fd : FuncData} (F : Fun K "_law_draw" "_law_draw" sDraw f fd) (T : Txt K mg c fI cD) : FnOk P w K mg base CX0 1 f fd ["pen", "many"] spDraw := by
  refine F.ok sc_D (fun vs H Q E h => ?_) (fun cdv A outer s H vs Q E hr h => ?_)
  · obtain ⟨p, m, n, rfl, _⟩ := h
    rfl
  · obtain ⟨p, m, n, rfl, hm0, hm1, ⟨l, ns, at_, dg, ct, fo, pn⟩, hn, k⟩ := h
    have hu := hu_of hr
    -- the second half
    obtain ⟨t2, ht2, tl⟩ : ∃ t2, PSs (cxOf CX0 P w K mg base ["pen", "many", "cell", "digit", "blend"] "_law_draw" (defScope sDraw) f cdv A outer s H E).nox ((defBody sDraw).drop 2) t2 ∧
        ∀ (cv : Option V) (l : Addr) (ns : List Int) (at_ dg ct fo : Int) (H1 : Hp), PenIs H1 p (n + 1) l ns at_ dg ct fo → Oth p H H1 →
          t2 { nx := fun _ H' => Q .non H', rt := Q } [some (.ref p), some (.int m), cv, none, none] H1 := by
      refine ⟨_, pss_cons (ps_if (pt_cmpR op_gt (pe_dget hu (pv 0) pe_str (fun _ _ => rfl)) pe_int (nomark _))
          (pss_cons (ps_set (i := 3) sc_D.nd rfl (Or.inl rfl) (pe_op op_mod (pe_callTy call_int1 (by rfl) T.int PyProof.Rows.boot_int (pa_cons (pe_dget hu (pv 0) pe_str (fun _ _ => rfl)) pa_nil)) (pv 1)))
          (pss_cons (ps_dput hu (pv 0) pe_str (pe_op op_fdiv (pe_dget hu (pv 0) pe_str (fun _ _ => rfl)) (pv 1)) rfl)
          (pss_one (ps_ret (pv 3))))) pss_nil)
        (pss_cons (ps_set (i := 4) sc_D.nd rfl (Or.inl rfl) (pe_op op_add (pe_op op_add (pe_dget hu (pv 0) pe_str (fun _ _ => rfl)) (pe_op op_mul (pe_dget hu (pv 0) pe_str (fun _ _ => rfl)) pe_int)) pe_int))
        (pss_one (ps_ret (pe_op op_mod (pe_op op_fdiv (pe_callTy call_int1 (by rfl) T.int PyProof.Rows.boot_int (pa_cons (pe_op op_mod (pe_op op_pow (pv 4) pe_int) pe_int) pa_nil)) pe_int) (pv 1))))), ?_⟩
      intro cv l ns at_ dg ct fo H1 pn ot
      refine ⟨_, rfl, p, _, rfl, pk_dg pn.d, _, _, rfl, rfl, _, rfl, ite2 (fun h1 => ?_) (fun h1 => ?_)⟩
      · -- a digit of a large cell
        have hd : 0 ≤ dg / m := Int.ediv_nonneg pn.d0 (by omega)
        refine ⟨_, rfl, p, _, rfl, pk_dg pn.d, .inl ⟨_, rfl, _, rfl, _, _, rfl, rfl, hm0, _, rfl, p, _, rfl, pk_dg pn.d, _, rfl, _, _, rfl, rfl, ⟨hm0, by omega⟩, _, rfl, p, _, rfl, put_dg pn.d, _, rfl, ?_⟩⟩
        refine k _ _ (Int.emod_nonneg _ (by omega)) (Int.emod_lt_of_pos _ hm0) ⟨l, ns, at_, dg / m, ct, fo, upd_same, by rw [upd_ne pn.ne]; exact pn.c, pn.len, pn.a0, hd, pn.c0, pn.c1, pn.f0, pn.f1⟩ fun b o e hb => ?_
        rw [upd_ne hb]
        exact ot b o e hb
      · -- mixed
        have c0 := pn.c0
        have c1 := pn.c1
        have f0 := pn.f0
        have f1 := pn.f1
        refine ⟨_, rfl, p, _, rfl, pk_fo pn.d, _, rfl, p, _, rfl, pk_ct pn.d, _, _, rfl, rfl, .inr ⟨by decide, by decide⟩, _, _, rfl, rfl, _, _, rfl, rfl, ?_⟩
        refine ⟨_, rfl, _, _, rfl, rfl, ⟨by decide, by decide, by omega⟩, _, _, rfl, rfl, (show (0 : Int) < 2305843009213693951 by decide), .inl ⟨_, rfl, _, _, rfl, rfl, ⟨by decide, by decide⟩, _, rfl, _, _, rfl, rfl, hm0, ?_⟩⟩
        exact k _ _ (Int.emod_nonneg _ (by omega)) (Int.emod_lt_of_pos _ hm0) ⟨l, ns, at_, dg, ct, fo, pn⟩ ot
    refine ⟨_, pss_cons (ps_dput hu (pv 0) pe_str (pe_op op_add (pe_dget hu (pv 0) pe_str (fun _ _ => rfl)) pe_int) rfl)
      (pss_cons (ps_if (PW.pt (pw_and (pt_cmpR op_eq (pe_dget hu (pv 0) pe_str (fun _ _ => rfl)) pe_int (nomark _))
          (pw_and1 (pt_cmpR op_lt (pe_dget hu (pv 0) pe_str (fun _ _ => rfl)) (pe_callB call_len_seq (by rfl) T.len PySem.boot_len (pa_cons (pe_dget hu (pv 0) pe_str (fun _ _ => rfl)) pa_nil)) (nomark _)))))
        (pss_cons (ps_set (i := 2) sc_D.nd rfl (Or.inl rfl) (pe_ix ix_list (pe_dget hu (pv 0) pe_str (fun _ _ => rfl)) (pe_dget hu (pv 0) pe_str (fun _ _ => rfl)) (fun _ _ => rfl)))
        (pss_cons (ps_dput hu (pv 0) pe_str (pe_op op_add (pe_dget hu (pv 0) pe_str (fun _ _ => rfl)) pe_int) rfl)
        (pss_one (ps_if (pt_cmpR op_ge (pv 2) (pe_op op_pow pe_int pe_int) (nomark _))
          (pss_one (ps_dput hu (pv 0) pe_str (pe_op op_sub (pv 2) (pe_op op_pow pe_int pe_int)) rfl))
          (pss_one (ps_dput hu (pv 0) pe_str (pe_op op_mod (pe_callTy call_int1 (by rfl) T.int PyProof.Rows.boot_int (pa_cons (pe_op op_add (pe_op op_mul (pe_dget hu (pv 0) pe_str (fun _ _ => rfl)) pe_int) (pv 2)) pa_nil)) pe_int) rfl)))))) pss_nil) ht2), ?_⟩
    -- pen['count'] = pen['count'] + 1
    refine ⟨_, rfl, p, _, rfl, pk_ct pn.d, _, _, rfl, rfl, _, rfl, p, _, rfl, put_ct pn.d, ?_⟩
    have pn1 : PenIs (upd H p (.dK (pk l at_ dg (ct + 1) fo))) p (n + 1) l ns at_ dg (ct + 1) fo := ⟨upd_same, by rw [upd_ne pn.ne]; exact pn.c, pn.len, pn.a0, pn.d0, by have := pn.c0; omega, by have := pn.c1; omega, pn.f0, pn.f1⟩
    have ot1 : Oth p H (upd H p (.dK (pk l at_ dg (ct + 1) fo))) := fun b o e hb => by rw [upd_ne hb]; exact e
    generalize upd H p (.dK (pk l at_ dg (ct + 1) fo)) = H1 at pn1 ot1
    have c0 := pn1.c0
    have a0 := pn1.a0
    have d0 := pn1.d0
    have f0 := pn1.f0
    have f1 := pn1.f1
    refine ⟨_, rfl, p, _, rfl, pk_dg pn1.d, rfl, _, rfl, ite2 (fun h1 => ?_) (fun h1 => iteF (tl _ _ _ _ _ _ _ _ pn1 ot1))⟩
    refine ⟨_, rfl, p, _, rfl, pk_at pn1.d, _, rfl, p, _, rfl, pk_cells pn1.d, l, _, rfl, .inl (.inl (.inl pn1.c)), _, _, rfl, rfl, _, rfl, ite2 (fun h2 => ?_) (fun h2 => tl _ _ _ _ _ _ _ _ pn1 ot1)⟩
    have h2 := of_decide_eq_true h2
    rw [List.length_map] at h2
    obtain ⟨j, rfl⟩ : ∃ j : Nat, at_ = (j : Int) := ⟨at_.toNat, by omega⟩
    have hj : j < ns.length := by omega
    have hx : (ns.map V.int)[j]? = some (V.int ns[j]) := by simp [hj]
    generalize ns[j] = z at hx
    refine ⟨_, rfl, p, _, rfl, pk_cells pn1.d, _, rfl, p, _, rfl, pk_at pn1.d, l, _, _, V.int z, rfl, rfl, .inl (.inl pn1.c), atI_nat hx, ?_⟩
    refine ⟨_, rfl, p, _, rfl, pk_at pn1.d, _, _, rfl, rfl, _, rfl, p, _, rfl, put_at pn1.d, ?_⟩
    have pn2 : PenIs (upd H1 p (.dK (pk l (j + 1) dg (ct + 1) fo))) p (n + 1) l ns (j + 1) dg (ct + 1) fo := ⟨upd_same, by rw [upd_ne pn1.ne]; exact pn1.c, pn1.len, by omega, pn1.d0, pn1.c0, pn1.c1, pn1.f0, pn1.f1⟩
    have ot2 : Oth p H (upd H1 p (.dK (pk l (j + 1) dg (ct + 1) fo))) := fun b o e hb => by rw [upd_ne hb]; exact ot1 b o e hb
    generalize upd H1 p (.dK (pk l (j + 1) dg (ct + 1) fo)) = H2 at pn2 ot2
    refine ⟨_, rfl, _, _, rfl, rfl, ⟨by decide, by decide, by decide⟩, _, _, rfl, rfl, _, rfl, ite2 (fun h3 => ?_) (fun h3 => ?_)⟩
    · have h3 := of_decide_eq_true h3
      refine ⟨_, rfl, _, _, rfl, rfl, ⟨by decide, by decide, by decide⟩, _, _, rfl, rfl, _, rfl, p, _, rfl, put_dg pn2.d, ?_⟩
      exact tl _ _ _ _ _ _ _ _ ⟨upd_same, by rw [upd_ne pn2.ne]; exact pn2.c, pn2.len, pn2.a0, Int.sub_nonneg_of_le h3, pn2.c0, pn2.c1, pn2.f0, pn2.f1⟩ fun b o e hb => by rw [upd_ne hb]; exact ot2 b o e hb
    · refine ⟨_, rfl, p, _, rfl, pk_fo pn2.d, _, _, rfl, rfl, .inl ⟨by omega, by omega⟩, _, rfl, _, _, rfl, rfl, .inl ⟨_, rfl, _, _, rfl, rfl, (show (0 : Int) < 2147482811 by decide), _, rfl, p, _, rfl, put_fo pn2.d, ?_⟩⟩
      exact tl _ _ _ _ _ _ _ _ ⟨upd_same, by rw [upd_ne pn2.ne]; exact pn2.c, pn2.len, pn2.a0, pn2.d0, pn2.c0, pn2.c1, Int.emod_nonneg _ (by decide), Int.emod_lt_of_pos _ (by decide)⟩ fun b o e hb => by rw [upd_ne hb]; exact ot2 b o e hb
theorem sc_Pk : FnScope ["pen", "some"] ["pen", "some"] (defScope sPick) := ⟨rfl, rfl, rfl, by decide +kernel, rfl, by decide +kernel, by decide +kernel⟩
theorem ok_pick {f fD : Addr} {fd fdD : FuncData} (F : Fun K "_law_pick" "_law_pick" sPick f fd) (T : Txt K mg c fI cD) (G : FnOk P w K mg base CX0 1 fD fdD ["pen", "many"] spDraw) (gD : mg "_law_draw" = some (.ref fD))
    (kD : PySem.W.keepIn K (.ref fD) = true) (bD : Binds K fdD ["pen", "many"] []) : FnOk P w K mg base CX0 2 f fd ["pen", "some"] spPick := by
  refine F.ok sc_Pk (fun vs H Q E h => ?_) (fun cdv A outer s H vs Q E hr h => ?_)
  · obtain ⟨p, a, xs, n, rfl, _⟩ := h
    rfl
  · obtain ⟨p, a, xs, n, rfl, ha, h0, h1, hp, hn, k⟩ := h
    refine ⟨_, pss_one (ps_ret (pe_ix ix_list (pv 1) (pe_call G hr rfl gD kD bD .nil pass0 (pa_cons (pv 0) (pa_cons (pe_callB call_len_seq (by rfl) T.len PySem.boot_len (pa_cons (pv 1) pa_nil)) pa_nil))) (fun _ _ => rfl))), ?_⟩
    refine ⟨_, rfl, _, rfl, _, rfl, a, _, rfl, .inl (.inl (.inl ha)), p, _, n, rfl, by omega, by omega, hp, hn, fun i H' i0 i1 hp' ot => ?_⟩
    have hap : a ≠ p := by
      obtain ⟨l, ns, at_, dg, ct, fo, pn⟩ := hp
      exact ne_of ha pn.d (by intro z; cases z)
    obtain ⟨j, rfl⟩ : ∃ j : Nat, i = (j : Int) := ⟨i.toNat, by omega⟩
    have hj : j < xs.length := by omega
    refine ⟨a, xs, _, xs[j], rfl, rfl, .inl (.inl (ot a _ ha hap)), atI_nat (by simp [hj]), ?_⟩
    exact k _ _ (List.getElem_mem _) hp' ot
end
end Er

/-! The values: _law_value; their texts. -/
namespace Er
open PySem L2
abbrev sValue : Stmt := top 20
def dats : List PyData := [.str "", .str "a", .int 0, .int (-1), .bool true, .none, .tuple [], .tuple [.str "a", .int 1], .list [.int 1, .str "b"], .list [], .int (10 ^ 40), .tuple [.tuple [.str "x", .int 2], .none]]
theorem at_dat {d : PyData} (i : Nat) (h : dats[i]? = some d) : d ∈ dats := List.mem_of_getElem? h
theorem dats_ok : (dats.all fun d => d.showable && !d.hasDict && decide (d.depth ≤ 3) && decide (d.shown.length ≤ 60)) = true := by decide +kernel
theorem dat_ok {d : PyData} (h : d ∈ dats) : d.showable = true ∧ d.hasDict = false ∧ d.depth ≤ 3 ∧ d.shown.length ≤ 60 := by
  have z := List.all_eq_true.mp dats_ok d h
  simp only [Bool.and_eq_true, Bool.not_eq_true', decide_eq_true_eq] at z
  exact ⟨z.1.1.1, z.1.1.2, z.1.2, z.2⟩
theorem all_ok : ∀ {ds : List PyData}, (∀ d ∈ ds, d ∈ dats) → PyData.showableAll ds = true ∧ PyData.hasDictAll ds = false ∧ PyData.depthAll ds ≤ 3 ∧ (((PyData.shownAll ds).map (·.length)).sum ≤ 60 * ds.length ∧ (PyData.shownAll ds).length = ds.length)
  | [], _ => ⟨rfl, rfl, Nat.zero_le _, Nat.zero_le _, rfl⟩
  | d :: ds, h => by
    obtain ⟨h1, h2, h3, h4⟩ := dat_ok (h d List.mem_cons_self)
    obtain ⟨g1, g2, g3, g4, g5⟩ := all_ok (ds := ds) fun x hx => h x (List.mem_cons_of_mem _ hx)
    refine ⟨by simp [PyData.showableAll, h1, g1], by simp [PyData.hasDictAll, h2, g2], by simp only [PyData.depthAll]; omega, ?_, by simp [PyData.shownAll, g5]⟩
    simp only [PyData.shownAll, List.map_cons, List.sum_cons, List.length_cons]
    omega
theorem list_ok {ds : List PyData} (h : ∀ d ∈ ds, d ∈ dats) (hl : ds.length ≤ 10) : (PyData.list ds).showable = true ∧ (PyData.list ds).hasDict = false ∧ (PyData.list ds).depth ≤ 32 ∧ (PyData.list ds).shown.length ≤ sizeLine := by
  obtain ⟨g1, g2, g3, g4, g5⟩ := all_ok h
  refine ⟨by simp only [PyData.showable]; exact g1, by simp only [PyData.hasDict]; exact g2, by simp only [PyData.depth]; omega, ?_⟩
  simp only [PyData.shown]
  refine Nat.le_trans (listText_len_le _) (sm ?_)
  rw [g5]
  omega
section
variable {K : PySem.W.Frag} {H H' : Hp}
mutual
theorem dp_mono (hl : ∀ a xs, SqL K H a xs → SqL K H' a xs) (ht : ∀ a xs, SqT K H a xs → SqT K H' a xs) : ∀ {v : V} {d : PyData}, Dp K H v d → Dp K H' v d
  | _, _, .non => .non
  | _, _, .bl b => .bl b
  | _, _, .int i => .int i
  | _, _, .str x => .str x
  | _, _, .lst h g => .lst (hl _ _ h) (dps_mono hl ht g)
  | _, _, .tup h g => .tup (ht _ _ h) (dps_mono hl ht g)
theorem dps_mono (hl : ∀ a xs, SqL K H a xs → SqL K H' a xs) (ht : ∀ a xs, SqT K H a xs → SqT K H' a xs) : ∀ {v : List V} {d : List PyData}, DpAll K H v d → DpAll K H' v d
  | _, _, .nil => .nil
  | _, _, .cons h g => .cons (dp_mono hl ht h) (dps_mono hl ht g)
end
theorem rd_oth {p : Addr} {kvs : List (Key × V)} (hp : H p = some (.dK kvs)) (o : Oth p H H') {a : Addr} {u : HO} (hu : u ≠ .dK kvs) (h : Rd H a u) : Rd H' a u := by
  rcases h with h | ⟨ob, h⟩
  · exact .inl (o a _ h (ne_of h hp hu))
  · exact .inr ⟨ob, o a _ h (ne_of h hp (by intro z; cases z))⟩
theorem dp_oth {p : Addr} {kvs : List (Key × V)} (hp : H p = some (.dK kvs)) (o : Oth p H H') {v : V} {d : PyData} (h : Dp K H v d) : Dp K H' v d := by
  refine dp_mono (fun a xs h => ?_) (fun a xs h => ?_) h
  · rcases h with h | h
    · exact .inl (rd_oth hp o (by intro z; cases z) h)
    · exact .inr h
  · rcases h with h | h
    · exact .inl (rd_oth hp o (by intro z; cases z) h)
    · exact .inr h
theorem dp_same (s : Same H H') {v : V} {d : PyData} (h : Dp K H v d) : Dp K H' v d := by
  refine dp_mono (fun a xs h => s.seq h) (fun a xs h => ?_) h
  rcases h with (h | ⟨o, h⟩) | h
  · exact .inl (.inl (s _ _ h))
  · exact .inl (.inr ⟨o, s _ _ h⟩)
  · exact .inr h
end
/-- a drawn value -/
def IsVal (K : PySem.W.Frag) (H : Hp) (v : V) : Prop := ∃ d ∈ dats, Dp K H v d
theorem Pen.same {H H' : Hp} {p : Addr} {n : Nat} (s : Same H H') (h : Pen H p n) : Pen H' p n := by
  obtain ⟨l, ns, at_, dg, ct, fo, h⟩ := h
  exact ⟨l, ns, at_, dg, ct, fo, s _ _ h.d, s _ _ h.c, h.len, h.a0, h.d0, h.c0, h.c1, h.f0, h.f1⟩
theorem Pen.dk {H : Hp} {p : Addr} {n : Nat} (h : Pen H p n) : ∃ kvs, H p = some (.dK kvs) := by
  obtain ⟨l, ns, at_, dg, ct, fo, h⟩ := h
  exact ⟨_, h.d⟩
def spVal (K : PySem.W.Frag) : Sp := fun vs H Q _ => ∃ (p : Addr) (n : Nat), vs = [.ref p] ∧ Pen H p n ∧ n < 1000 ∧ ∀ (v : V) (H' : Hp), IsVal K H' v → Pen H' p (n + 1) → Oth p H H' → Q v H'
section
variable {P : Program} {w : World} {K : PySem.W.Frag} {mg : Str → Option Value} {base : Heap} {c fI : Nat → Addr} {cD : Addr}
theorem sc_V : FnScope ["pen"] ["pen"] (defScope sValue) := ⟨rfl, rfl, rfl, by decide +kernel, rfl, by decide +kernel, by decide +kernel⟩
theorem ok_value {f fD : Addr} {fd fdD : FuncData} (F : Fun K "_law_value" "_law_value" sValue f fd) (T : Txt K mg c fI cD) (G : FnOk P w K mg base CX0 2 fD fdD ["pen", "some"] spPick) (gD : mg "_law_pick" = some (.ref fD))
    (kD : PySem.W.keepIn K (.ref fD) = true) (bD : Binds K fdD ["pen", "some"] []) : FnOk P w K mg base CX0 3 f fd ["pen"] (spVal K) := by
  refine F.ok sc_V (fun vs H Q E h => ?_) (fun cdv A outer s H vs Q E hr h => ?_)
  · obtain ⟨p, n, rfl, _⟩ := h
    rfl
  · obtain ⟨p, n, rfl, hp, hn, k⟩ := h
    refine ⟨_, pss_one (ps_ret (pe_call G hr rfl gD kD bD .nil pass0 (pa_cons (pv 0) (pa_cons (pe_lst
      (pa_cons pe_str (pa_cons pe_str (pa_cons pe_int (pa_cons (pe_un un_neg pe_int) (pa_cons pe_bl (pa_cons pe_non (pa_cons (pe_tup pa_nil) (pa_cons (pe_tup (pa_cons pe_str (pa_cons pe_int pa_nil)))
      (pa_cons (pe_lst (pa_cons pe_int (pa_cons pe_str pa_nil))) (pa_cons (pe_lst pa_nil) (pa_cons (pe_op op_pow pe_int pe_int) (pa_cons (pe_tup (pa_cons (pe_tup (pa_cons pe_str (pa_cons pe_int pa_nil))) (pa_cons pe_non pa_nil))) pa_nil))))))))))))) pa_nil)))), ?_⟩
    refine ⟨_, rfl, _, rfl, sm (show 0 ≤ 1000 by decide), fun t1 h1 => ⟨sm (show 2 ≤ 1000 by decide), fun t2 h2 => ⟨sm (show 2 ≤ 1000 by decide), fun t3 h3 => ⟨sm (show 0 ≤ 1000 by decide), fun t4 h4 => ⟨_, _, rfl, rfl, ⟨by decide, by decide, by decide⟩,
      sm (show 2 ≤ 1000 by decide), fun t5 h5 => ⟨sm (show 2 ≤ 1000 by decide), fun t6 h6 => ⟨sm (show 12 ≤ 1000 by decide), fun t7 h7 => ?_⟩⟩⟩⟩⟩⟩⟩
    have S1 := same_new (o := .tup []) (Same.refl _) h1
    have S2 := same_new (o := .tup [.str "a", .int 1]) (Same.refl _) h2
    have S3 := same_new (o := .lst [.int 1, .str "b"]) (Same.refl _) h3
    have S4 := same_new (o := .lst []) (Same.refl _) h4
    have S5 := same_new (o := .tup [.str "x", .int 2]) (Same.refl _) h5
    have S6 := same_new (o := .tup [.ref t5, .non]) (Same.refl _) h6
    have S7 := same_new (o := .lst [.str "", .str "a", .int 0, .int (-1), .bl true, .non, .ref t1, .ref t2, .ref t3, .ref t4, .int (10 ^ 40), .ref t6]) (Same.refl _) h7
    have e1 := S7 _ _ (S6 _ _ (S5 _ _ (S4 _ _ (S3 _ _ (S2 _ _ (upd_same (H := H) (a := t1) (o := .tup [])))))))
    have e2 := S7 _ _ (S6 _ _ (S5 _ _ (S4 _ _ (S3 _ _ (upd_same (H := _) (a := t2) (o := .tup [.str "a", .int 1]))))))
    have e3 := S7 _ _ (S6 _ _ (S5 _ _ (S4 _ _ (upd_same (H := _) (a := t3) (o := .lst [.int 1, .str "b"])))))
    have e4 := S7 _ _ (S6 _ _ (S5 _ _ (upd_same (H := _) (a := t4) (o := .lst []))))
    have e5 := S7 _ _ (S6 _ _ (upd_same (H := _) (a := t5) (o := .tup [.str "x", .int 2])))
    have e6 := S7 _ _ (upd_same (H := _) (a := t6) (o := .tup [.ref t5, .non]))
    have S := (((((S1.trans S2).trans S3).trans S4).trans S5).trans S6).trans S7
    refine ⟨p, t7, _, n, rfl, upd_same, (show 0 < 12 by decide), (show 12 < 1000 by decide), hp.same S, hn, fun x H' hx hp' ot => k x H' ?_ hp' fun b o z hb => ot b o (S b o z) hb⟩
    obtain ⟨kvs, hk⟩ := (hp.same S).dk
    simp only [List.mem_cons, List.not_mem_nil, or_false] at hx
    rcases hx with rfl | rfl | rfl | rfl | rfl | rfl | rfl | rfl | rfl | rfl | rfl | rfl
    · exact ⟨.str "", at_dat 0 rfl, .str _⟩
    · exact ⟨.str "a", at_dat 1 rfl, .str _⟩
    · exact ⟨.int 0, at_dat 2 rfl, .int _⟩
    · exact ⟨.int (-1), at_dat 3 rfl, .int _⟩
    · exact ⟨.bool true, at_dat 4 rfl, .bl _⟩
    · exact ⟨.none, at_dat 5 rfl, .non⟩
    · exact ⟨.tuple [], at_dat 6 rfl, dp_oth hk ot (.tup (.of e1) .nil)⟩
    · exact ⟨.tuple [.str "a", .int 1], at_dat 7 rfl, dp_oth hk ot (.tup (.of e2) (.cons (.str _) (.cons (.int _) .nil)))⟩
    · exact ⟨.list [.int 1, .str "b"], at_dat 8 rfl, dp_oth hk ot (.lst (.of e3) (.cons (.int _) (.cons (.str _) .nil)))⟩
    · exact ⟨.list [], at_dat 9 rfl, dp_oth hk ot (.lst (.of e4) .nil)⟩
    · exact ⟨.int (10 ^ 40), at_dat 10 rfl, .int _⟩
    · exact ⟨.tuple [.tuple [.str "x", .int 2], .none], at_dat 11 rfl, dp_oth hk ot (.tup (.of e6) (.cons (.tup (.of e5) (.cons (.str _) (.cons (.int _) .nil))) (.cons .non .nil)))⟩
end
end Er

/-! What the law's own body wants more: repr of lists, isinstance of the error that a suite holds, a call at one Around. -/
namespace Er
open PySem L2 PySem.Spec PyProof.Rows
/-! ### repr -/
def rRepr (K : PySem.W.Frag) : List V → Hp → VK → Prop := fun xs H Q => ∃ x ds, xs = [x] ∧ Dp K H x (.list ds) ∧ (PyData.list ds).showable = true ∧ (PyData.list ds).hasDict = false ∧ (PyData.list ds).depth ≤ 32 ∧
  (PyData.list ds).shown.length ≤ sizeLine ∧ Q (.str (PyData.list ds).shown) H
theorem call_repr {X : Cx} (hg : X.A.guards = some []) (hu : X.A.units + 80 < cLine) : CallR X (.builtin "repr") (rRepr X.K) := by
  intro pins s σ H xs us Q I r h
  obtain ⟨x, ds, rfl, hd, hs, hn, hdp, hz, q⟩ := h
  obtain ⟨u, rfl, rx⟩ := vals1 r
  obtain ⟨as, rd⟩ := Dp.reads I _ x u hd rx
  cases hd with
  | lst h1 h2 =>
    cases rx
    exact repr_of_reads' (h₀ := s.heap) (hsz := hz) rd hs (fun z => by rw [hn] at z; cases z) hg (by omega) (fun _ _ e => e) fun h' tu tk hk => ⟨.str _, H, I.kept hk, ⟨_, rfl⟩, q⟩
/-! ### isinstance of the error that the suite holds, its dict known -/
def rIsP (K : PySem.W.Frag) (a : Addr) (cls : Value) (d : Option Addr) : List V → Hp → VK → Prop := fun xs H Q => ∃ (D dx : Addr) (fs : List (Str × V)) (c : V) (cv : Value) (b : Bool),
  xs = [.ref a, c] ∧ cls = .ref D ∧ d = some dx ∧ H dx = some (.xd fs) ∧ ExcC K D ∧ ClsV c cv ∧ PySem.W.kitOne K (.ref D) cv = some b ∧ Q (.bl b) H
theorem call_isP {X : Cx} {a : Addr} {oe : Obj} {cls : Value} {d : Option Addr} {pn : List (Addr × Obj)} (hz : Zc cls d oe) (hf : ∃ vs, oe.data = .fields vs) : CallR (X.suite a ((a, oe) :: pn)) (.builtin "isinstance") (rIsP X.K a cls d) := by
  intro pins s σ H xs us Q I r h
  obtain ⟨D, dx, fs, c, cv, b, rfl, rfl, rfl, hd, T, k, e, q⟩ := h
  obtain ⟨u1, u2, rfl, r1, r2⟩ := vals2 r
  cases r1
  have ec := k.eq r2
  subst ec
  obtain ⟨hget, _⟩ := I.pin (a, oe) (List.mem_append_left _ List.mem_cons_self)
  obtain ⟨vs, hv⟩ := hf
  have hx : ObjOk X.prog X.w H s.heap dx (.xd fs) := I.hok dx _ hd
  obtain ⟨mA, hns, hr⟩ := hx
  obtain ⟨od, ho, hl⟩ := lookIn_ns hns
  obtain ⟨cd, hcd, _⟩ := PySem.W.any_some T.hd
  have hcl : (PySem.W.clsIn X.K D).isSome = true := by rw [hcd]; rfl
  have J : PySem.W.InstAt s.heap a oe D (some od) := ⟨hget, hz.1, by unfold PySem.W.notCls; rw [hv] <;> rfl, by rw [hz.2]; exact ho⟩
  refine PySem.W.kia_one (PySem.W.kitx_exc (od := some od) hcl T.hg T.hk T.hs T.ha T.hn T.ht T.hm) I.kIn J e (fun z => nomatch z) fun tk => ?_
  exact ⟨.bl b, H, I.tok tk, rfl, q⟩
/-! ### a call, at one Around -/
section
variable {CX : CXT} {P : Program} {w : World} {K : PySem.W.Frag} {mg : Str → Option Value} {base : Heap} {k : Nat} {f : Addr} {N ps : List Str} {A : Around} {outer : List Env} {s : Shared} {H : Hp} {args : Args} {us : List Value} {vs : List V}
  {Q : VK} {E : XK} {x qual : Str} {st : Stmt} {fd : FuncData}
theorem run_at (F : Fun K x qual st f fd) (S : FnScope N ps (defScope st)) (hl0 : vs.length = ps.length) (hr : Room (k + 1) A) (e0 : Env0 P w K mg base A outer s H) (hb : BindsTo s fd args (ps.zip us)) (r : Vals vs us)
    (body : ∀ cdv : Value, Room k (A.deeper (envOfC qual (defScope st) s.heap.objs.size f cdv)) →
      ∃ t, PSs (cxOf CX P w K mg base N qual (defScope st) f cdv A outer s H E) (defBody st) t ∧ t { nx := fun _ H' => Q .non H', rt := Q } (start N vs) H) :
    codeAny (model P w) A (.call (.ref f) args) (CR CX outer P w H s Q E) s := by
  obtain ⟨oc, od, kV, doc, pm, an, cdv, ct, osl, rfl, lk, hcd⟩ := F.ex
  have keep : ∀ b o, base.get? b = some o → s.heap.get? b = some o := fun b o e => (e0.bs b o e).1
  have KX := e0.mod.kin.keeps keep
  have lim := e0.mod.nolimit.keeps keep
  have kinds : ∀ y ∈ ps.zip us, (defScope st).names.lookup y.1 = some .local ∨
      ((defScope st).names.lookup y.1 = some .cell ∧ ((cellsFrom (s.heap.objs.size + 1) (defScope st).names []).lookup y.1).isSome = true) := by
    intro y hy
    rcases S.par y.1 (List.of_mem_zip hy).1 with q | q
    · exact .inl q
    · exact .inr ⟨q, PySem.W.cellsFrom_some _ _ _ (.inl q)⟩
  refine codeAny_call_function hr.depth (KX _ _ lk) rfl S.co S.gen rfl (PySem.W.codeRec_of KX hcd) (hb _ _ _ _ ?_)
  refine wpAny_newFunctionEnv_cells S.kind kinds fun env he s1 x1 => ?_
  subst he
  refine ⟨lim.keeps x1.toInCall.keep, codeAny_func ?_⟩
  obtain ⟨t, ht, hq⟩ := body cdv (hr.deeper _)
  have I := inv_start (CX := CX) (E := E) S hr.hd e0 hl0 r x1
  refine wpAny_mono (ht.run [] s1 (start N vs) H _ I hq) (fun fl s' hs => ?_) fun e s' hs => hs
  cases fl with
  | ret u =>
    obtain ⟨v, σ', H', J, rv, q⟩ := hs
    exact ⟨v, H', J.os, J.bare, J.base, J.hok, rv, q⟩
  | next =>
    obtain ⟨σ', H', J, q⟩ := hs
    exact ⟨V.non, H', J.os, J.bare, J.base, J.hok, rfl, q⟩
  | brk => exact hs.choose_spec.choose_spec.2.elim
  | cont => exact hs.choose_spec.choose_spec.2.elim
end
/-! ### the law's call, at the caller's own Around -/
theorem law_at {P : Program} {w : World} {K : PySem.W.Frag} {mg mb : Str → Option Value} {CX : CXT} {fa a : Addr} {s₁ : Shared} {vs : List Value} {ns : List Int}
    (KX : K.In s₁.heap) (hns : s₁.heap.Ns mainGlobals mg) (hb : s₁.heap.Ns builtinsNs mb) (hbb : ∀ x : Str, x ≠ "__name__" → mb x = bootBuiltins x) (hlim : s₁.heap.NoLimit) (hg : s₁.gens = #[])
    (ha : s₁.heap.get? a = some { cls := .type "list", data := .seq vs.toArray }) (hi : IntsAre vs ns) (hl : ns.length ≤ sizeLine)
    (run : ∀ (base : Heap) (H : Hp), K.In base → base.Ns mainGlobals mg → Env0 P w K mg base callerA [] s₁ H → SqL K H a (ns.map V.int) →
      codeAny (model P w) callerA (.call (.ref fa) ⟨[.ref a], []⟩) (CR CX [] P w H s₁ (fun v _ => v = .bl true) fun _ _ _ => False) s₁)
    (hCX : ∀ H e s', CX [] H s₁ (fun _ _ _ => False) e s' → False) :
    codeAny (model P w) callerA (.call (.ref fa) ⟨[.ref a], []⟩) (fun r s' => r = .ok (.ret (.bool true)) ∧ OldK s₁.heap s'.heap ∧ s'.os = s₁.os ∧ AllBare s'.gens) s₁ := by
  have rv := vals_ints hi
  have lenV := hi.length
  -- H tracks the script alone, or nothing
  have core : ∀ H : Hp, (∀ b u, H b = some u → b = a ∧ K.lookup a = none ∧ ∃ ob xs, u = .frz ob (.lst xs)) → SqL K H a (ns.map V.int) → HOk P w H s₁.heap →
      codeAny (model P w) callerA (.call (.ref fa) ⟨[.ref a], []⟩) (fun r s' => r = .ok (.ret (.bool true)) ∧ OldK s₁.heap s'.heap ∧ s'.os = s₁.os ∧ AllBare s'.gens) s₁ := by
    intro H hH hS hok
    have free_dict : ∀ {b : Addr} {o : Obj} {es : Array DictEntry} {ep : Nat}, s₁.heap.get? b = some o → o.data = .dict es ep → H b = none := by
      intro b o es ep e d
      cases q : H b with
      | none => rfl
      | some u =>
        obtain ⟨rfl, _⟩ := hH b u q
        rw [ha] at e
        cases e
        cases d
    have free_K : ∀ {b : Addr} {o : Obj}, K.lookup b = some o → H b = none := by
      intro b o e
      cases q : H b with
      | none => rfl
      | some u =>
        obtain ⟨rfl, n, _⟩ := hH b u q
        rw [n] at e
        cases e
    have ns_of : ∀ {b : Addr} {m : Str → Option Value}, s₁.heap.Ns b m → (hidT s₁.heap H).Ns b m := fun {b m} ⟨o, es, ep, e, d, r⟩ =>
      ⟨o, es, ep, hidT_get e (free_dict e d), d, r⟩
    have inB : K.In (hidT s₁.heap H) := fun b o e => hidT_get (KX b o e) (free_K e)
    obtain ⟨mc, hc1, hc2⟩ := hlim
    have e0 : Env0 P w K mg (hidT s₁.heap H) callerA [] s₁ H := {
      frames := rfl
      mod := ⟨inB, ns_of hns, ⟨mb, ns_of hb, hbb⟩, ⟨mc, ns_of hc1, hc2⟩⟩
      bs := fun b o e => of_hidT e
      bsz := Nat.le_of_eq (hidT_size _ _)
      funs := trivial
      frf := fun b hb => absurd (show b ∈ ([] : List Addr) from hb) (by simp)
      hok := hok
      bare := .of_eq hg }
    refine codeAny_mono (run _ H inB (ns_of hns) e0 hS) fun r s' h => ?_
    cases r with
    | error e => exact (hCX H e s' h).elim
    | ok fl =>
      cases fl with
      | next => exact False.elim h
      | brk => exact False.elim h
      | cont => exact False.elim h
      | ret u =>
        obtain ⟨v, H', os, bare, un, hok', r', q⟩ := h
        obtain rfl : v = .bl true := q
        obtain rfl : u = Value.bool true := r'
        refine ⟨rfl, OldK.of_keep fun b o e => ?_, os, bare⟩
        cases q : H b with
        | none => exact un.keep b o e q (fun z => by cases z) (fun z => by cases z)
        | some u =>
          obtain ⟨_, _, ob, xs, rfl⟩ := hH b u q
          obtain ⟨e1, _⟩ := hok b _ q
          obtain ⟨e2, _⟩ := hok' b _ (un.frzs b ob _ q)
          rw [e] at e1
          cases e1
          exact e2
  cases hk : K.lookup a with
  | some o =>
    have e := KX a o hk
    rw [ha] at e
    cases e
    exact core (fun _ => none) (fun b u z => by cases z) (.inr ⟨_, vs.toArray, _, hk, rfl, rfl, rfl, by rw [List.size_toArray, lenV]; exact hl, by simpa using rv⟩) fun b u z => by cases z
  | none =>
    have at_a : upd (fun _ => none) a (.frz { cls := .type "list", data := .seq vs.toArray } (.lst (ns.map V.int))) a = _ := upd_same
    have off : ∀ {b : Addr} {u : HO}, upd (fun _ => none) a (.frz { cls := .type "list", data := .seq vs.toArray } (.lst (ns.map V.int))) b = some u → b = a := by
      intro b u z
      by_cases h : b = a
      · exact h
      · rw [upd_ne h] at z
        cases z
    refine core _ (fun b u z => ?_) (.inl (.inr ⟨_, at_a⟩)) fun b u z => ?_
    · obtain rfl := off z
      rw [at_a] at z
      cases z
      exact ⟨rfl, hk, _, _, rfl⟩
    · obtain rfl := off z
      rw [at_a] at z
      cases z
      exact ⟨ha, by rw [List.length_map]; exact hl, vs, _, rv, ha⟩
end Er

/-! The law's own body. -/
namespace Er
open PySem L2
abbrev sLaw : Stmt := top 24
abbrev NL : List Str := ["script", "pen", "values", "at", "made", "one", "names", "due", "kept", "last", "found", "told", "place"]
/-- the defs that the law calls keep their promises -/
structure Defs (P : Program) (w : World) (K : PySem.W.Frag) (mg : Str → Option Value) (base : Heap) (c fI : Nat → Addr) (fP fV fM fF fK : Addr) (dP dV dM dF dK : FuncData) : Prop where
  GP : FnOk P w K mg base CX0 1 fP dP ["script"] (spPen K)
  gP : mg "_law_pen" = some (.ref fP)
  kP : PySem.W.keepIn K (.ref fP) = true
  bP : Binds K dP ["script"] []
  GV : FnOk P w K mg base CX0 3 fV dV ["pen"] (spVal K)
  gV : mg "_law_value" = some (.ref fV)
  kV : PySem.W.keepIn K (.ref fV) = true
  bV : Binds K dV ["pen"] []
  GM : FnOk P w K mg base CX0 3 fM dM ["one", "two", "three"] (spM c)
  gM : mg "_law_made_errors" = some (.ref fM)
  kM : PySem.W.keepIn K (.ref fM) = true
  bM : Binds K dM ["one", "two", "three"] []
  GF : FnOk P w K mg base CX0 1 fF dF ["one", "names"] (spF K)
  gF : mg "_law_fields" = some (.ref fF)
  kF : PySem.W.keepIn K (.ref fF) = true
  bF : Binds K dF ["one", "names"] []
  GK : FnOk P w K mg base CX0 1 fK dK ["one"] (spK c)
  gK : mg "_law_kinds" = some (.ref fK)
  kK : PySem.W.keepIn K (.ref fK) = true
  bK : Binds K dK ["one"] []
section
variable {P : Program} {w : World} {K : PySem.W.Frag} {mg : Str → Option Value} {base : Heap} {c fI : Nat → Addr} {cD fP fV fM fF fK : Addr} {fdI : Nat → FuncData} {dP dV dM dF dK : FuncData}
theorem sc_L : FnScope NL ["script"] (defScope sLaw) := ⟨rfl, rfl, rfl, by decide +kernel, rfl, by decide +kernel, by decide +kernel⟩
/-- the fields' values, name by name -/
theorem fldL (v1 v2 v3 : V) : ∀ i, i < 12 → ∀ (j : Nat) (nm : Str), (nms i)[j]? = some nm → nm ∈ kn ∧ ∃ v, (([v1, v2, v3] ++ [v1, v2, v3]).take (nms i).length)[j]? = some v ∧
    (fld (nms i) (([v1, v2, v3] ++ [v1, v2, v3]).take (nms i).length)).lookup nm = some v := by
  intro i hi
  have kk : ∀ (k : Nat) (nm : Str), kn[k]? = some nm → nm ∈ kn := fun k nm h => List.mem_of_getElem? h
  match i, hi with
  | 0, _ =>
    intro j nm h
    match j, h with
    | 0, h => obtain rfl := Option.some.inj h; exact ⟨kk 0 _ rfl, _, rfl, rfl⟩
    | 1, h => obtain rfl := Option.some.inj h; exact ⟨kk 1 _ rfl, _, rfl, rfl⟩
    | j + 2, h => exact absurd (show ([] : List Str)[j]? = some nm from h) (by simp)
  | 1, _ =>
    intro j nm h
    match j, h with
    | 0, h => obtain rfl := Option.some.inj h; exact ⟨kk 4 _ rfl, _, rfl, rfl⟩
    | j + 1, h => exact absurd (show ([] : List Str)[j]? = some nm from h) (by simp)
  | 2, _ =>
    intro j nm h
    match j, h with
    | 0, h => obtain rfl := Option.some.inj h; exact ⟨kk 5 _ rfl, _, rfl, rfl⟩
    | 1, h => obtain rfl := Option.some.inj h; exact ⟨kk 6 _ rfl, _, rfl, rfl⟩
    | j + 2, h => exact absurd (show ([] : List Str)[j]? = some nm from h) (by simp)
  | 3, _ =>
    intro j nm h
    match j, h with
    | 0, h => obtain rfl := Option.some.inj h; exact ⟨kk 5 _ rfl, _, rfl, rfl⟩
    | 1, h => obtain rfl := Option.some.inj h; exact ⟨kk 7 _ rfl, _, rfl, rfl⟩
    | j + 2, h => exact absurd (show ([] : List Str)[j]? = some nm from h) (by simp)
  | 4, _ =>
    intro j nm h
    match j, h with
    | 0, h => obtain rfl := Option.some.inj h; exact ⟨kk 4 _ rfl, _, rfl, rfl⟩
    | j + 1, h => exact absurd (show ([] : List Str)[j]? = some nm from h) (by simp)
  | 5, _ =>
    intro j nm h
    match j, h with
    | 0, h => obtain rfl := Option.some.inj h; exact ⟨kk 4 _ rfl, _, rfl, rfl⟩
    | j + 1, h => exact absurd (show ([] : List Str)[j]? = some nm from h) (by simp)
  | 6, _ =>
    intro j nm h
    match j, h with
    | 0, h => obtain rfl := Option.some.inj h; exact ⟨kk 5 _ rfl, _, rfl, rfl⟩
    | j + 1, h => exact absurd (show ([] : List Str)[j]? = some nm from h) (by simp)
  | 7, _ =>
    intro j nm h
    match j, h with
    | 0, h => obtain rfl := Option.some.inj h; exact ⟨kk 5 _ rfl, _, rfl, rfl⟩
    | j + 1, h => exact absurd (show ([] : List Str)[j]? = some nm from h) (by simp)
  | 8, _ =>
    intro j nm h
    match j, h with
    | 0, h => obtain rfl := Option.some.inj h; exact ⟨kk 5 _ rfl, _, rfl, rfl⟩
    | 1, h => obtain rfl := Option.some.inj h; exact ⟨kk 8 _ rfl, _, rfl, rfl⟩
    | 2, h => obtain rfl := Option.some.inj h; exact ⟨kk 9 _ rfl, _, rfl, rfl⟩
    | j + 3, h => exact absurd (show ([] : List Str)[j]? = some nm from h) (by simp)
  | 9, _ =>
    intro j nm h
    match j, h with
    | 0, h => obtain rfl := Option.some.inj h; exact ⟨kk 0 _ rfl, _, rfl, rfl⟩
    | 1, h => obtain rfl := Option.some.inj h; exact ⟨kk 2 _ rfl, _, rfl, rfl⟩
    | j + 2, h => exact absurd (show ([] : List Str)[j]? = some nm from h) (by simp)
  | 10, _ =>
    intro j nm h
    match j, h with
    | 0, h => obtain rfl := Option.some.inj h; exact ⟨kk 0 _ rfl, _, rfl, rfl⟩
    | 1, h => obtain rfl := Option.some.inj h; exact ⟨kk 2 _ rfl, _, rfl, rfl⟩
    | 2, h => obtain rfl := Option.some.inj h; exact ⟨kk 3 _ rfl, _, rfl, rfl⟩
    | 3, h => obtain rfl := Option.some.inj h; exact ⟨kk 4 _ rfl, _, rfl, rfl⟩
    | j + 4, h => exact absurd (show ([] : List Str)[j]? = some nm from h) (by simp)
  | 11, _ =>
    intro j nm h
    match j, h with
    | 0, h => obtain rfl := Option.some.inj h; exact ⟨kk 10 _ rfl, _, rfl, rfl⟩
    | 1, h => obtain rfl := Option.some.inj h; exact ⟨kk 11 _ rfl, _, rfl, rfl⟩
    | j + 2, h => exact absurd (show ([] : List Str)[j]? = some nm from h) (by simp)
  | i + 12, h => omega
theorem cut6 (xs : List V) (n : Nat) : cutV xs none (some (n : Int)) = xs.take n := by
  unfold cutV
  rw [HT.sIx_nat]
  show (xs.drop 0).take (min n xs.length - 0) = xs.take n
  rw [List.drop_zero, Nat.sub_zero]
  by_cases h : n ≤ xs.length
  · rw [Nat.min_eq_left h]
  · rw [Nat.min_eq_right (by omega), List.take_length, List.take_of_length_le (by omega)]
theorem dps_app {H : Hp} : ∀ {xs ys : List V} {ds es : List PyData}, DpAll K H xs ds → DpAll K H ys es → DpAll K H (xs ++ ys) (ds ++ es)
  | _, _, _, _, .nil, h => h
  | _, _, _, _, .cons a b, h => .cons a (dps_app b h)
theorem dps_take {H : Hp} : ∀ {xs : List V} {ds : List PyData} (n : Nat), DpAll K H xs ds → DpAll K H (xs.take n) (ds.take n)
  | _, _, 0, _ => .nil
  | _, _, n + 1, .nil => .nil
  | _, _, n + 1, .cons a b => .cons a (dps_take n b)
theorem dps_bl {H : Hp} (f : Nat → Bool) : ∀ l : List Nat, DpAll K H (l.map fun j => V.bl (f j)) (l.map fun j => PyData.bool (f j))
  | [] => .nil
  | a :: l => .cons (.bl _) (dps_bl f l)
theorem kinds_shaped : ((List.range 14).all fun i => SeqAt.shaped (.list ((List.range 14).map fun j => PyData.bool (i == j)))) = true := by decide +kernel
theorem take_map {f : Nat → V} {n i : Nat} (h : i < n) : ((List.range n).map f).take i ++ [f i] = ((List.range n).map f).take (i + 1) := by
  rw [take_one (x := f i)]
  simp [h]
theorem d123_ok : SeqAt.shaped (.list [.int 1, .list [.int 2], .int 3]) = true := by decide +kernel
theorem dT_ok : SeqAt.shaped (.list [.bool true]) = true := by decide +kernel
def t123 : TE := tLst (tCons (tC (.int 1)) (tCons (tLst (tCons (tC (.int 2)) tNil)) (tCons (tC (.int 3)) tNil)))
/-- raise NotThere([1, [2], 3]) -/
def tBody (c : Nat → Addr) : WX → TS := fun W _ σ H => tMkO (c 7) (spI (c 7) (nms 7).length (fld (nms 7))) [] (tCons t123 tNil) σ H fun cls d H' => W cls d σ H'
/-- found.append(isinstance(told, ValueError) and isinstance(told, NotThere) and told.what == [1, [2], 3]) -/
def tSuite (K : PySem.W.Frag) (c : Nat → Addr) : Addr → Value → Option Addr → TS := fun a cls d => tDrop (tBM K "list" rAppend (tVar 10) (tCons (tAndV (tCB (rIsP K a cls d) (tCons (tVar 11) (tCons (tC (.ty "ValueError")) tNil)))
  (tAndV (tCB (rIsP K a cls d) (tCons (tVar 11) (tCons (tC (.ref (c 7))) tNil))) (tOp (rEqD K) (tXf a cls d (c 7) "what" (tVar 11)) t123))) tNil))
theorem same_at {A B : Hp} {p : Addr} {o : HO} (_ : Same A (upd B p o)) : upd B p o p = some o := upd_same
theorem sqt_same {H H' : Hp} {a : Addr} {xs : List V} (s : Same H H') (h : SqT K H a xs) : SqT K H' a xs := by
  rcases h with (h | ⟨o, h⟩) | h
  · exact .inl (.inl (s _ _ h))
  · exact .inl (.inr ⟨o, s _ _ h⟩)
  · exact .inr h
theorem iteNE {b : Bool} {A B : Prop} (h : b = true) (k : B) : if (!b) = true then A else B := by
  subst h
  exact iteF k
theorem nms_len : ∀ i, i < 14 → (nms i).length ≤ 6 := by decide
theorem vErr_ty : ∀ u, RelV (.ty "ValueError") u → u = .type "ValueError" := fun u h => h

theorem law_run {f a : Addr} {fd : FuncData} {s : Shared} {H : Hp} {args : Args} {us : List Value} {ns : List Int} (F : Fun K "law" "law" sLaw f fd) (T : Txt K mg c fI cD) (I : Inits P w K mg base c fI fdI) (L : Defs P w K mg base c fI fP fV fM fF fK dP dV dM dF dK)
    (te : PySem.W.exmOne K (.ref (c 7)) (.ref cD) = some true)
    (e0 : Env0 P w K mg base PySem.callerA [] s H) (hb : BindsTo s fd args ((["script"] : List Str).zip us)) (r : Vals [.ref a] us) (hS : SqL K H a (ns.map V.int)) (hlen : ns.length ≤ 63) :
    codeAny (model P w) PySem.callerA (.call (.ref f) args) (CR CX0 [] P w H s (fun v _ => v = .bl true) fun _ _ _ => False) s := by
  refine run_at (N := NL) F sc_L rfl (k := 4) ⟨rfl, by decide, by decide⟩ e0 hb r fun cdv hr => ?_
  have hr1 : Room 1 _ := hr.mono (by decide)
  have hr2 : Room 2 _ := hr.mono (by decide)
  have hr3 : Room 3 _ := hr.mono (by decide)
  have hg : (PySem.callerA.deeper (PyProof.Rows.envOfC "law" (defScope sLaw) s.heap.objs.size f cdv)).guards = some [] := rfl
  have hu80 : (PySem.callerA.deeper (PyProof.Rows.envOfC "law" (defScope sLaw) s.heap.objs.size f cdv)).units + 80 < cLine := by have := hr.un; omega
  have hu64 : (PySem.callerA.deeper (PyProof.Rows.envOfC "law" (defScope sLaw) s.heap.objs.size f cdv)).units + 64 < cLine := by have := hr.un; omega
  refine ⟨_, PSs.nox (pss_cons (ps_set (i := 1) sc_L.nd rfl (Or.inl rfl) (pe_call L.GP hr1 rfl L.gP L.kP L.bP .nil pass0 (pa_cons (pv 0) pa_nil))) (pss_cons (ps_set (i := 2) sc_L.nd rfl (Or.inl rfl) (pe_lst (pa_cons (pe_call L.GV hr3 rfl L.gV L.kV L.bV .nil pass0 (pa_cons (pv 1) pa_nil)) (pa_cons (pe_call L.GV hr3 rfl L.gV L.kV L.bV .nil pass0 (pa_cons (pv 1) pa_nil)) (pa_cons (pe_call L.GV hr3 rfl L.gV L.kV L.bV .nil pass0 (pa_cons (pv 1) pa_nil)) pa_nil))))) (pss_cons (ps_for PassesOwn.never rfl (pi_enum (by rfl) T.enum (pa_cons (pe_op op_cat (pe_call L.GM hr3 rfl L.gM L.kM L.bM .nil pass0 (pa_cons (pe_ix ix_list (pv 2) pe_int (fun _ _ => rfl)) (pa_cons (pe_ix ix_list (pv 2) pe_int (fun _ _ => rfl)) (pa_cons (pe_ix ix_list (pv 2) pe_int (fun _ _ => rfl)) pa_nil)))) (pe_lst (pa_cons (pe_tup (pa_cons (pe_mk0 PySem.F.excBase_ValueError (T.exc 12 (by decide) (by decide)) T.g12 (T.kp 12 (by decide)) rfl) (pa_cons (pe_lst pa_nil) pa_nil))) (pa_cons (pe_tup (pa_cons (pe_mk0 PySem.F.excBase_ValueError (T.exc 13 (by decide) (by decide)) T.g13 (T.kp 13 (by decide)) rfl) (pa_cons (pe_lst pa_nil) pa_nil))) pa_nil)))) pa_nil)) (pg_tup rfl (pgs_cons (pg_name (i := 3) sc_L.nd rfl (Or.inr rfl)) (pgs_cons (pg_name (i := 4) sc_L.nd rfl (Or.inl rfl)) pgs_nil))) (pss_cons (ps_asg (pv 4) (pg_tup rfl (pgs_cons (pg_name (i := 5) sc_L.nd rfl (Or.inl rfl)) (pgs_cons (pg_name (i := 6) sc_L.nd rfl (Or.inl rfl)) pgs_nil)))) (pss_cons (ps_if (PW.pt (pw_or (pt_not (pt_val (pe_callB call_isV (by rfl) T.isi (by decide +kernel) (pa_cons (pv 5) (pa_cons (pe_glob (v := .ref cD) rfl T.gD rfl) pa_nil))))) (pw_or1 (pt_not (pt_val (pe_callB call_isV (by rfl) T.isi (by decide +kernel) (pa_cons (pv 5) (pa_cons (pe_bltn (v := .ty "ValueError") (by rfl) T.vErr PyProof.Rows.Boot.«ValueError» rfl) pa_nil)))))))) (pss_one (ps_ret pe_bl)) pss_nil) (pss_cons (ps_set (i := 7) sc_L.nd rfl (Or.inl rfl) (pe_slice sl_list (pe_op op_cat (pv 2) (pv 2)) po_none (po_some (pe_callB call_len_seq (by rfl) T.len PySem.boot_len (pa_cons (pv 6) pa_nil))))) (pss_cons (ps_if (pt_cmpR op_ne (pe_callB (call_repr hg hu80) (by rfl) T.repr PyProof.Rows.boot_repr (pa_cons (pe_call L.GF hr1 rfl L.gF L.kF L.bF .nil pass0 (pa_cons (pv 5) (pa_cons (pv 6) pa_nil))) pa_nil)) (pe_callB (call_repr hg hu80) (by rfl) T.repr PyProof.Rows.boot_repr (pa_cons (pv 7) pa_nil)) (nomark _)) (pss_one (ps_ret pe_bl)) pss_nil) (pss_one (ps_if (pt_cmpR (op_neD hu64) (pe_call L.GK hr1 rfl L.gK L.kK L.bK .nil pass0 (pa_cons (pv 5) pa_nil)) (pe_lc (own := [("place", 12)]) (g := gName 12) (tt := tYes) rfl sc_L.nd (pi_range1 (by rfl) T.range (pa_cons pe_int pa_nil)) (blkOk_by (N := NL) (sc := defScope sLaw) (by decide +kernel)) (fun _ _ _ _ _ => pg_name (i := 12) sc_L.nd rfl (Or.inl rfl)) (fun _ _ _ _ _ => pts_nil) (fun _ _ _ _ _ => pe_cmpR op_eq (pv 12) (pv 3) (nomark _))) (nomark _)) (pss_one (ps_ret pe_bl)) pss_nil))))))) (pss_cons (ps_set (i := 8) sc_L.nd rfl (Or.inl rfl) (pe_lst (pa_cons pe_int (pa_cons (pe_lst (pa_cons pe_int pa_nil)) pa_nil)))) (pss_cons (ps_set (i := 9) sc_L.nd rfl (Or.inl rfl) (pe_mk (T.err 3 (by decide)).o (T.ini 3 (by decide)).1 (T.ini 3 (by decide)).2 (I.G 3 (by decide)) hr2 (I.b 3 (by decide)) pass0 rfl T.g3 (pa_cons pe_str (pa_cons (pv 8) pa_nil)))) (pss_cons (ps_expr (pe_bm PySem.F.plainAttrs_list PySem.F.slot_list_append PySem.F.type_list_append mt_append (pv 8) (pa_cons pe_int pa_nil))) (pss_cons (ps_if (pt_cmpR (op_neD hu64) (pe_fldV (pv 9)) (pe_lst (pa_cons pe_int (pa_cons (pe_lst (pa_cons pe_int pa_nil)) (pa_cons pe_int pa_nil)))) (nomark _)) (pss_one (ps_ret pe_bl)) pss_nil) (pss_cons (ps_set (i := 10) sc_L.nd rfl (Or.inl rfl) (pe_lst pa_nil)) (pss_cons (ps_try_as (i := 11) (tb := tBody c) (ts := tSuite K c) (Wout := fun _ _ _ _ => False) rfl rfl sc_L.nd rfl rfl ⟨rfl, by decide, Or.inl T.gD⟩ takes0 (fun W pn xe tk _ => by exact (pss_one (ps_raise rfl tk (pmk_oex (T.err 7 (by decide)).o (T.ini 7 (by decide)).1 (T.ini 7 (by decide)).2 (I.G 7 (by decide)) hr2 (I.b 7 (by decide)) .nil pass0 rfl T.g7 (pa_cons (pe_lst (pa_cons pe_int (pa_cons (pe_lst (pa_cons pe_int pa_nil)) (pa_cons pe_int pa_nil)))) pa_nil))))) (fun a oe cls d pn hz hf => by exact (pss_one (ps_expr (pe_bm PySem.F.plainAttrs_list PySem.F.slot_list_append PySem.F.type_list_append mt_append (pv 10) (pa_cons (pe_and (pe_callB (call_isP hz hf) (by rfl) T.isi (by decide +kernel) (pa_cons (pv 11) (pa_cons (pe_bltn (v := .ty "ValueError") (by rfl) T.vErr PyProof.Rows.Boot.«ValueError» rfl) pa_nil))) (pe_and (pe_callB (call_isP hz hf) (by rfl) T.isi (by decide +kernel) (pa_cons (pv 11) (pa_cons (pe_glob (v := .ref (c 7)) rfl T.g7 rfl) pa_nil))) (pe_one (pe_cmpR (op_eqD hu64) (pe_xf (T.err 7 (by decide)).x (T.noF 7 (by decide) "what" (by decide)) hz hf (pv 11)) (pe_lst (pa_cons pe_int (pa_cons (pe_lst (pa_cons pe_int pa_nil)) (pa_cons pe_int pa_nil)))) (nomark _))))) pa_nil)))))) (pss_one (ps_ret (pe_cmpR (op_eqD hu64) (pv 10) (pe_lst (pa_cons pe_bl pa_nil)) (nomark _))))))))))))), ?_⟩
  -- pen = _law_pen(script)
  refine ⟨_, rfl, a, ns, rfl, hS, hlen, fun p H1 pn hp s1 => ?_⟩
  -- values
  refine ⟨_, rfl, p, 0, rfl, pn, by decide, fun v1 H2 i1 pn2 o1 => ⟨_, rfl, p, 1, rfl, pn2, by decide, fun v2 H3 i2 pn3 o2 => ⟨_, rfl, p, 2, rfl, pn3, by decide, fun v3 H4 i3 pn4 o3 => ⟨sm (show 3 ≤ 1000 by decide), fun lv hlv => ?_⟩⟩⟩⟩
  obtain ⟨d1, m1, i1⟩ := i1
  obtain ⟨d2, m2, i2⟩ := i2
  obtain ⟨d3, m3, i3⟩ := i3
  obtain ⟨k2, hk2⟩ := pn2.dk
  obtain ⟨k3, hk3⟩ := pn3.dk
  have sv := same_new (o := .lst [v1, v2, v3]) (Same.refl H4) hlv
  have i1 := dp_same sv (dp_oth hk3 o3 (dp_oth hk2 o2 i1))
  have i2 := dp_same sv (dp_oth hk3 o3 i2)
  have i3 := dp_same sv i3
  have hv0 : upd H4 lv (.lst [v1, v2, v3]) lv = some (.lst [v1, v2, v3]) := upd_same
  have dps : DpAll K (upd H4 lv (.lst [v1, v2, v3])) [v1, v2, v3] [d1, d2, d3] := .cons i1 (.cons i2 (.cons i3 .nil))
  generalize upd H4 lv (.lst [v1, v2, v3]) = H5 at hv0 dps
  -- the errors
  refine ⟨_, rfl, lv, _, _, v1, rfl, rfl, .inl (.inl hv0), rfl, _, rfl, lv, _, _, v2, rfl, rfl, .inl (.inl hv0), rfl, _, rfl, lv, _, _, v3, rfl, rfl, .inl (.inl hv0), rfl, rfl, fun pm xs H6 hm hx12 EM s6 => ?_⟩
  refine fun e1 he1 => ⟨sm (show 0 ≤ 1000 by decide), fun l1 hl1 => ⟨sm (show 2 ≤ 1000 by decide), fun t1 ht1 => fun e2 he2 => ⟨sm (show 0 ≤ 1000 by decide), fun l2 hl2 => ⟨sm (show 2 ≤ 1000 by decide), fun t2 ht2 => ⟨sm (show 2 ≤ 1000 by decide), fun q hq => ?_⟩⟩⟩⟩⟩
  have S1 := same_new (o := exo e1 (c 12) none) (Same.refl H6) he1
  have S2 := same_new (o := .lst []) (Same.refl _) hl1
  have S3 := same_new (o := .tup [.ref e1, .ref l1]) (Same.refl _) ht1
  have S4 := same_new (o := exo e2 (c 13) none) (Same.refl _) he2
  have S5 := same_new (o := .lst []) (Same.refl _) hl2
  have S6 := same_new (o := .tup [.ref e2, .ref l2]) (Same.refl _) ht2
  have S7 := same_new (o := .lst [.ref t1, .ref t2]) (Same.refl _) hq
  have S := (((((S1.trans S2).trans S3).trans S4).trans S5).trans S6).trans S7
  have E12 : El c _ [v1, v2, v3] 12 (.ref t1) := ⟨t1, e1, l1, none, rfl, S7 _ _ (S6 _ _ (S5 _ _ (S4 _ _ upd_same))), S7 _ _ (S6 _ _ (S5 _ _ (S4 _ _ (S3 _ _ upd_same)))), S7 _ _ (S6 _ _ (S5 _ _ (S4 _ _ (S3 _ _ (S2 _ _ upd_same))))), .inr ⟨rfl, rfl⟩⟩
  have E13 : El c _ [v1, v2, v3] 13 (.ref t2) := ⟨t2, e2, l2, none, rfl, S7 _ _ upd_same, S7 _ _ (S6 _ _ upd_same), S7 _ _ (S6 _ _ (S5 _ _ upd_same)), .inr ⟨rfl, rfl⟩⟩
  have EA := (EM.same S).app (m := 12) (by rw [hx12]) (Els.cons E12 (Els.cons E13 Els.nil))
  have hm := S _ _ hm
  have hq0 := same_at S7
  have SA := s6.trans S
  generalize upd (upd (upd (upd (upd (upd (upd H6 e1 (exo e1 (c 12) none)) l1 (.lst [])) t1 (.tup [.ref e1, .ref l1])) e2 (exo e2 (c 13) none)) l2 (.lst [])) t2 (.tup [.ref e2, .ref l2])) q (.lst [.ref t1, .ref t2]) = H8 at EA SA hm hq0 ⊢
  refine ⟨pm, q, xs, _, rfl, rfl, hm, hq0, sm (show xs.length + 2 ≤ 1000 by omega), fun rl hrl => ?_⟩
  have S8 := same_new (o := .lst (xs ++ [.ref t1, .ref t2])) (Same.refl _) hrl
  have EA := EA.same S8
  have SA := SA.trans S8
  have hl14 : (xs ++ [V.ref t1, V.ref t2]).length = 14 := by rw [List.length_append, hx12]; rfl
  have hrl0 := same_at S8
  generalize upd H8 rl (.lst (xs ++ [V.ref t1, V.ref t2])) = H9 at EA SA hrl0 ⊢
  generalize xs ++ [V.ref t1, V.ref t2] = ys at EA hl14 hrl0 ⊢
  have hlv9 := SA _ _ hv0
  have dps9 : DpAll K H9 [v1, v2, v3] [d1, d2, d3] := dps_mono (fun a xs h => SA.seq h) (fun a xs h => sqt_same SA h) dps
  clear hm hq0 S8 hrl S1 S2 S3 S4 S5 S6 S7 S EM E12 E13
  refine ⟨rl, ys, rfl, .inl (.inl hrl0), for_it (walk_enum (K := K) (a := rl) (xs := ys)) (fun i σ H' => ∃ a3 a4 a5 a6 a7 a12 : Option V,
    σ = [some (.ref a), some (.ref p), some (.ref lv), a3, a4, a5, a6, a7, none, none, none, none, a12] ∧ Same H9 H') ⟨none, none, none, none, none, none, rfl, .refl _⟩ (fun i σ H' _ ⟨_, _, _, _, _, _, _, z⟩ => .inl (.inl (z _ _ hrl0))) ?_ ?_⟩
  · -- a turn
    rintro i x σ H' H'' hi ⟨a3, a4, a5, a6, a7, a12, rfl, s'⟩ ⟨Tt, x1, y1, rfl, hT, rfl, hx1, hy1⟩
    obtain rfl := Option.some.inj hx1
    rw [hl14] at hi
    have sT := same_new (o := .tup [.int (i : Nat), y1]) s' hT
    have hTt := same_at sT
    have EL := (EA i y1 hy1).same sT
    rw [Nat.zero_add] at EL
    generalize upd H' Tt (.tup [.int (i : Nat), y1]) = Ha at EL sT hTt ⊢
    refine ⟨Tt, _, rfl, .inl (.inl hTt), rfl, _, _, rfl, _, _, rfl, rfl, ?_⟩
    obtain ⟨t, ea, l, et, ht, hl, hE⟩ := EL.err
    obtain ⟨t', ea', l', d', et', ht', hl', hea', hcase⟩ := EL
    obtain rfl : t = t' := by rw [et] at et'; injection et'
    obtain ⟨rfl, rfl⟩ : ea = ea' ∧ l = l' := by
      rw [ht] at ht'
      simp only [Option.some.injEq, HO.tup.injEq, List.cons.injEq, V.ref.injEq, and_true] at ht'
      exact ht'
    subst et
    -- one, names = made
    refine ⟨_, rfl, t, _, rfl, .inl (.inl ht), rfl, _, _, rfl, _, _, rfl, rfl, ?_⟩
    obtain ⟨dE, g1, g2⟩ := id hE
    refine ⟨_, rfl, ea, c i, dE, .ref cD, .ref cD, true, rfl, (T.err i hi).i, .own _, g1, g2, T.kitD i hi, true, rfl, iteF ⟨_, rfl, ea, c i, dE, .ty "ValueError", .type "ValueError", true, rfl, (T.err i hi).i, .ty _, g1, g2, T.kitV i hi, true, rfl, iteF ?_⟩⟩
    -- due
    have hlva := sT _ _ hlv9
    have dpa : DpAll K Ha [v1, v2, v3] [d1, d2, d3] := dps_mono (fun a xs h => sT.seq h) (fun a xs h => sqt_same sT h) dps9
    refine ⟨_, rfl, _, rfl, lv, lv, _, _, rfl, rfl, hlva, hlva, sm (show 6 ≤ 1000 by decide), fun r6 hr6 => ?_⟩
    have S6 := same_new (o := .lst ([v1, v2, v3] ++ [v1, v2, v3])) (Same.refl Ha) hr6
    refine ⟨_, rfl, l, _, rfl, .inl (.inl (.inl (S6 _ _ hl))), _, rfl, r6, _, rfl, .inl (.inl (same_at S6)), fun p7 hp7 => ?_⟩
    rw [cut6, List.length_map]
    have S7 := same_new (o := .lst (([v1, v2, v3] ++ [v1, v2, v3]).take (nms i).length)) (Same.refl _) hp7
    have hp70 := same_at S7
    have sab := S6.trans S7
    generalize upd (upd Ha r6 (.lst ([v1, v2, v3] ++ [v1, v2, v3]))) p7 (.lst (([v1, v2, v3] ++ [v1, v2, v3]).take (nms i).length)) = Hb at hp70 sab ⊢
    -- repr(_law_fields(one, names)) != repr(due)
    have hn6 : (nms i).length ≤ 6 := nms_len i hi
    have hY : (nms i).length = (([v1, v2, v3] ++ [v1, v2, v3]).take (nms i).length).length := by
      rw [List.length_take]
      show (nms i).length = min (nms i).length 6
      omega
    have mem : ∀ d ∈ ([d1, d2, d3] ++ [d1, d2, d3]).take (nms i).length, d ∈ dats := by
      intro d hd
      have hd := List.mem_of_mem_take hd
      simp only [List.cons_append, List.nil_append, List.mem_cons, List.not_mem_nil, or_false] at hd
      rcases hd with rfl | rfl | rfl | rfl | rfl | rfl <;> assumption
    obtain ⟨q1, q2, q3, q4⟩ := list_ok mem (by rw [List.length_take]; omega)
    have dpb : DpAll K Hb (([v1, v2, v3] ++ [v1, v2, v3]).take (nms i).length) (([d1, d2, d3] ++ [d1, d2, d3]).take (nms i).length) :=
      dps_take _ (dps_app (dps_mono (fun a xs h => sab.seq h) (fun a xs h => sqt_same sab h) dpa) (dps_mono (fun a xs h => sab.seq h) (fun a xs h => sqt_same sab h) dpa))
    refine ⟨_, rfl, _, rfl, ea, l, nms i, _, rfl, sab _ _ hl, hY, by omega, fun j nm hj => ?_, fun pf Hc hpf sc => ?_⟩
    · rcases hcase with ⟨hi12, dx, e1, hdx⟩ | ⟨hn, _⟩
      · obtain ⟨h1, v, h2, h3⟩ := fldL v1 v2 v3 i hi12 j nm hj
        subst e1
        exact ⟨h1, v, h2, c i, dx, _, (T.err i hi).x, T.noF i hi12 nm (List.mem_of_getElem? hj), sab _ _ hea', sab _ _ hdx, h3⟩
      · rw [hn] at hj
        simp at hj
    have dpc : DpAll K Hc (([v1, v2, v3] ++ [v1, v2, v3]).take (nms i).length) (([d1, d2, d3] ++ [d1, d2, d3]).take (nms i).length) := dps_mono (fun a xs h => sc.seq h) (fun a xs h => sqt_same sc h) dpb
    refine ⟨_, _, rfl, .lst (.of hpf) dpc, q1, q2, q3, q4, _, rfl, _, _, rfl, .lst (.of (sc _ _ hp70)) dpc, q1, q2, q3, q4, rfl, _, rfl, iteNS rfl ?_⟩
    -- _law_kinds(one) != [place == at for place in range(14)]
    refine ⟨_, rfl, ea, i, rfl, hi, (hE.same sab).same sc, fun pk Hd hpk sd => ?_⟩
    refine ⟨14, rfl, by decide, by decide, fun Dl hDl => lc_range (lo := 0) (n := 14) (fun j H => Same Hd H ∧ H Dl = some (.lst ((kinds i).take j))) ⟨same_new (.refl _) hDl, upd_same⟩ (fun j H hj hp => ?_) (fun H hp => ?_)⟩
    · obtain ⟨sj, hj0⟩ := hp
      refine ⟨rfl, ?_⟩
      unfold tYes
      dsimp only
      rw [if_pos rfl]
      refine ⟨_, rfl, _, rfl, rfl, _, hj0, small1000 ?_, ?_, ?_⟩
      · rw [List.length_take]; omega
      · intro b o z
        rw [upd_ne (ne_of_none z hDl)]
        exact sj b o z
      · rw [upd_same]
        have e : decide (V.int (0 + (j : Int)) = V.int (i : Int)) = (i == j) := by
          by_cases h : i = j
          · subst h; simp
          · have : ¬ (V.int (0 + (j : Int)) = V.int (i : Int)) := by intro z; injection z with z; omega
            rw [decide_eq_false this]
            exact (beq_eq_false_iff_ne.mpr h).symm
        rw [e]
        show some (HO.lst ((kinds i).take j ++ [V.bl (i == j)])) = _
        rw [show kinds i = (List.range 14).map (fun j => V.bl (i == j)) from rfl, take_map (f := fun j => V.bl (i == j)) hj]
    · obtain ⟨sl, hl0⟩ := hp
      rw [List.take_of_length_le (by show ((List.range 14).map _).length ≤ 14; simp)] at hl0
      have dk : ∀ H : Hp, DpAll K H (kinds i) ((List.range 14).map fun j => PyData.bool (i == j)) := fun H => dps_bl (fun j => i == j) _
      have hsh := List.all_eq_true.mp kinds_shaped i (List.mem_range.mpr hi)
      refine ⟨_, _, .lst (.of (sl _ _ hpk)) (dk _), .lst (.of hl0) (dk _), hsh, hsh, _, rfl, iteNE (SeqAt.eqv_refl _ (SeqAt.canLay_of_shaped hsh)) ?_⟩
      exact ⟨_, _, _, _, _, _, rfl, fun b o z => sl b o (sd b o (sc b o (sab b o (sT b o (z)))))⟩
  · -- behind the loop
    rintro σ H' ⟨a3, a4, a5, a6, a7, a12, rfl, s'⟩
    refine ⟨sm (show 1 ≤ 1000 by decide), fun z1 hz1 => ⟨sm (show 2 ≤ 1000 by decide), fun z2 hz2 => ?_⟩⟩
    have S1 := same_new (o := .lst [.int 2]) (Same.refl H') hz1
    have S2 := same_new (o := .lst [.int 1, .ref z1]) (Same.refl _) hz2
    have w1 := S2 _ _ (same_at S1)
    have w2 := same_at S2
    generalize upd (upd H' z1 (.lst [.int 2])) z2 (.lst [.int 1, .ref z1]) = Ha at w1 w2 ⊢
    refine ⟨_, rfl, (show 2 ≤ 1000 by decide), fun e he => ⟨e, _, rfl, rfl, upd_same, fun dx Hb hd ne h1 h2 hk => ⟨rfl, ?_⟩⟩⟩
    have w1 := hk _ _ (by rw [upd_ne (ne_of_none w1 he)]; exact w1) (ne_of_none w1 he)
    have w2 := hk _ _ (by rw [upd_ne (ne_of_none w2 he)]; exact w2) (ne_of_none w2 he)
    have n1 : z1 ≠ z2 := ne_of w1 w2 (by intro z; simp at z)
    have n2 : e ≠ z2 := ne_of h1 w2 (by intro z; cases z)
    have n3 : dx ≠ z2 := ne_of h2 w2 (by intro z; cases z)
    refine ⟨_, rfl, .inl ⟨rfl, _, .inl (.inl w2)⟩, z2, _, _, rfl, rfl, w2, small1000 (show 2 ≤ 1000 by decide), ?_⟩
    have g0 : upd Hb z2 (.lst ([.int 1, .ref z1] ++ [.int 3])) z2 = some (.lst [.int 1, .ref z1, .int 3]) := upd_same
    have g1 : upd Hb z2 (.lst ([.int 1, .ref z1] ++ [.int 3])) z1 = _ := (upd_ne n1).trans w1
    have g2 : upd Hb z2 (.lst ([.int 1, .ref z1] ++ [.int 3])) e = _ := (upd_ne n2).trans h1
    have g3 : upd Hb z2 (.lst ([.int 1, .ref z1] ++ [.int 3])) dx = _ := (upd_ne n3).trans h2
    generalize upd Hb z2 (.lst ([.int 1, .ref z1] ++ [.int 3])) = Hc at g0 g1 g2 g3 ⊢
    -- last.row != [1, [2], 3]
    refine ⟨_, rfl, e, c 3, dx, _, .ref z2, rfl, (T.err 3 (by decide)).x, T.noF 3 (by decide) "row" (by simp [nms]), g2, g3, rfl, sm (show 1 ≤ 1000 by decide), fun x1 hx1 => ⟨sm (show 3 ≤ 1000 by decide), fun x2 hx2 => ?_⟩⟩
    have S1 := same_new (o := .lst [.int 2]) (Same.refl Hc) hx1
    have S2 := same_new (o := .lst [.int 1, .ref x1, .int 3]) (Same.refl _) hx2
    have y1 := S2 _ _ (same_at S1)
    have y2 := same_at S2
    have k0 := S2 _ _ (S1 _ _ g0)
    have k1 := S2 _ _ (S1 _ _ g1)
    generalize upd (upd Hc x1 (.lst [.int 2])) x2 (.lst [.int 1, .ref x1, .int 3]) = Hd at y1 y2 k0 k1 ⊢
    have dl : ∀ {H : Hp} {u v : Addr}, H u = some (.lst [.int 1, .ref v, .int 3]) → H v = some (.lst [.int 2]) → Dp K H (.ref u) (.list [.int 1, .list [.int 2], .int 3]) := fun h1 h2 => .lst (.of h1) (.cons (.int _) (.cons (.lst (.of h2) (.cons (.int _) .nil)) (.cons (.int _) .nil)))
    refine ⟨_, _, dl k0 k1, dl y2 y1, d123_ok, d123_ok, _, rfl, iteNE (SeqAt.eqv_refl _ (SeqAt.canLay_of_shaped d123_ok)) ?_⟩
    -- found = []
    refine ⟨sm (show 0 ≤ 1000 by decide), fun fo hfo => ?_⟩
    have S3 := same_new (o := .lst []) (Same.refl Hd) hfo
    have f0 := same_at S3
    generalize upd Hd fo (.lst []) = He at f0 ⊢
    -- raise NotThere([1, [2], 3])
    refine ⟨sm (show 1 ≤ 1000 by decide), fun u1 hu1 => ⟨sm (show 3 ≤ 1000 by decide), fun u2 hu2 => ?_⟩⟩
    have S4 := same_new (o := .lst [.int 2]) (Same.refl He) hu1
    have S5 := same_new (o := .lst [.int 1, .ref u1, .int 3]) (Same.refl _) hu2
    have y1 := S5 _ _ (same_at S4)
    have y2 := same_at S5
    have f0 := S5 _ _ (S4 _ _ f0)
    generalize upd (upd He u1 (.lst [.int 2])) u2 (.lst [.int 1, .ref u1, .int 3]) = Hf at y1 y2 f0 ⊢
    refine ⟨(show 1 ≤ 1000 by decide), fun ex hex => ⟨ex, _, rfl, rfl, upd_same, fun dy Hg hd2 ne2 j1 j2 jk => ⟨rfl, dy, _, j1, j2, by rw [upd_ne ne2] at hd2; exact hd2, true, te, fun _ a0 ha0 => ?_, fun q => Bool.noConfusion q⟩⟩⟩
    have up : ∀ {b : Addr} {o : HO}, Hf b = some o → upd (del Hg ex) dy (.xd (fld (nms 7) ([V.ref u2] ++ []))) b = some o := by
      intro b o z
      have n1 := ne_of_none z hex
      have z2 := jk b o (by rw [upd_ne n1]; exact z) n1
      have n2 : b ≠ dy := by
        rintro rfl
        rw [upd_ne ne2, z] at hd2
        cases hd2
      rw [upd_ne n2, L2.del_ne n1]
      exact z2
    have y1 := up y1
    have y2 := up y2
    have f0 := up f0
    have x0 : upd (del Hg ex) dy (.xd (fld (nms 7) ([V.ref u2] ++ []))) dy = _ := upd_same
    generalize upd (del Hg ex) dy (.xd (fld (nms 7) ([V.ref u2] ++ []))) = Hh at y1 y2 f0 x0 ⊢
    refine ⟨_, rfl, .inl ⟨rfl, _, .inl (.inl f0)⟩, _, rfl, c 7, dy, _, .ty "ValueError", .type "ValueError", true, rfl, rfl, rfl, x0, (T.err 7 (by decide)).i, .ty _, T.kitV 7 (by decide), true, rfl, iteT ?_⟩
    refine ⟨_, rfl, c 7, dy, _, .ref (c 7), .ref (c 7), true, rfl, rfl, rfl, x0, (T.err 7 (by decide)).i, .own _, T.kit 7 7 (by decide) (by decide), true, rfl, iteT ?_⟩
    refine ⟨_, rfl, rfl, rfl, dy, _, .ref u2, rfl, x0, rfl, sm (show 1 ≤ 1000 by decide), fun x1 hx1 => ⟨sm (show 3 ≤ 1000 by decide), fun x2 hx2 => ?_⟩⟩
    have S1 := same_new (o := .lst [.int 2]) (Same.refl Hh) hx1
    have S2 := same_new (o := .lst [.int 1, .ref x1, .int 3]) (Same.refl _) hx2
    have b1 := S2 _ _ (same_at S1)
    have b2 := same_at S2
    have y1 := S2 _ _ (S1 _ _ y1)
    have y2 := S2 _ _ (S1 _ _ y2)
    have f0 := S2 _ _ (S1 _ _ f0)
    generalize upd (upd Hh x1 (.lst [.int 2])) x2 (.lst [.int 1, .ref x1, .int 3]) = Hi at y1 y2 b1 b2 f0 ⊢
    refine ⟨_, _, dl y2 y1, dl b2 b1, d123_ok, d123_ok, ?_⟩
    rw [SeqAt.eqv_refl _ (SeqAt.canLay_of_shaped d123_ok)]
    refine ⟨fo, _, _, rfl, rfl, f0, small1000 (show 0 ≤ 1000 by decide), ?_⟩
    -- return found == [True]
    refine ⟨_, rfl, sm (show 1 ≤ 1000 by decide), fun z hz => ⟨.list [.bool true], .list [.bool true], .lst (.of ?_) (.cons (.bl _) .nil), .lst (.of upd_same) (.cons (.bl _) .nil), dT_ok, dT_ok, ?_⟩⟩
    · rw [upd_ne (ne_of_none upd_same hz), upd_same]
      rfl
    · rw [SeqAt.eqv_refl _ (SeqAt.canLay_of_shaped dT_ok)]

end
end Er

/-! The end: what the text's top has written. -/
namespace Er
open PySem L2
/-- what is to be looked up of an error class -/
def clsB (K : PySem.W.Frag) (C D : Addr) (fs : List Str) : Bool :=
  decide (PySem.W.findIn K (.ref C) "__setattr__" = some (some (.builtin "object.__setattr__"))) && decide (PySem.W.findIn K (.ref C) "__getattribute__" = some (some (.builtin "BaseException.__getattribute__"))) &&
  decide (PySem.W.findIn K (.ref C) "__getattr__" = some none) && decide (PySem.W.findIn K (.ref C) "__class__" = some (some (.builtin "object.__class__"))) && decide (PySem.W.subIn K (.ref C) (.type "BaseException") = some true) &&
  decide (PySem.W.typeIn K (.ref C) = some (.type "type")) && PySem.W.keepIn K (.ref C) && PySem.W.hasDictIn K C && decide (PySem.W.mroIn K C (.type "object") = some true) &&
  fs.all (fun f => decide (PySem.W.findIn K (.ref C) f = some none)) && decide (PySem.W.kitOne K (.ref C) (.ref D) = some true) && decide (PySem.W.kitOne K (.ref C) (.type "ValueError") = some true)
structure ClsIs (K : PySem.W.Frag) (C D : Addr) (fs : List Str) : Prop where
  sa : PySem.W.findIn K (.ref C) "__setattr__" = some (some (.builtin "object.__setattr__"))
  ga : PySem.W.findIn K (.ref C) "__getattribute__" = some (some (.builtin "BaseException.__getattribute__"))
  gg : PySem.W.findIn K (.ref C) "__getattr__" = some none
  cl : PySem.W.findIn K (.ref C) "__class__" = some (some (.builtin "object.__class__"))
  ex : PySem.W.subIn K (.ref C) (.type "BaseException") = some true
  ty : PySem.W.typeIn K (.ref C) = some (.type "type")
  kp : PySem.W.keepIn K (.ref C) = true
  hd : PySem.W.hasDictIn K C = true
  ob : PySem.W.mroIn K C (.type "object") = some true
  no : ∀ f ∈ fs, PySem.W.findIn K (.ref C) f = some none
  kD : PySem.W.kitOne K (.ref C) (.ref D) = some true
  kV : PySem.W.kitOne K (.ref C) (.type "ValueError") = some true
theorem clsB_ok {K : PySem.W.Frag} {C D : Addr} {fs : List Str} (h : clsB K C D fs = true) : ClsIs K C D fs := by
  unfold clsB at h
  simp only [Bool.and_eq_true, decide_eq_true_eq, List.all_eq_true] at h
  obtain ⟨⟨⟨⟨⟨⟨⟨⟨⟨⟨⟨h1, h2⟩, h3⟩, h4⟩, h5⟩, h6⟩, h7⟩, h8⟩, h9⟩, h10⟩, h11⟩, h12⟩ := h
  exact ⟨h1, h2, h3, h4, h5, h6, h7, h8, h9, h10, h11, h12⟩
def clssB (K : PySem.W.Frag) (D : Addr) (cs : List Addr) : Bool := (List.range 14).all fun i => clsB K (cs.getD i 0) D (nms i)
def kitB (K : PySem.W.Frag) (cs : List Addr) : Bool := (List.range 14).all fun i => (List.range 14).all fun j => decide (PySem.W.kitOne K (.ref (cs.getD i 0)) (.ref (cs.getD j 0)) = some (i == j))
def iniB (K : PySem.W.Frag) (cs fs : List Addr) : Bool := (List.range 12).all fun i => decide (PySem.W.findIn K (.ref (cs.getD i 0)) "__init__" = some (some (.ref (fs.getD i 0)))) && decide (PySem.W.typeIn K (.ref (fs.getD i 0)) = some (.type "function"))
def excB (K : PySem.W.Frag) (cs : List Addr) : Bool := [12, 13].all fun i => PySem.W.excIn K (cs.getD i 0) [.type "ValueError", .type "Exception", .type "BaseException", .type "object"] "ValueError.__new__"
def freeB (K : PySem.W.Frag) : Bool := (["isinstance", "len", "int", "list", "repr", "range", "enumerate", "ValueError"] : List Str).all fun x => decide (PySem.W.nsIn K mainGlobals x = some none)
def sysB (K : PySem.W.Frag) (cs : List Addr) (D : Addr) : Bool := decide (PySem.W.specialIn K (.builtin "object.__class__") "__get__" = some (some (.builtin "getset_descriptor.__get__"))) && decide (PySem.W.takesIn K (.builtin "object.__class__") = some true) &&
  decide (PySem.W.exmOne K (.ref (cs.getD 7 0)) (.ref D) = some true)
/-- the class's object -/
def ObjIs (K : PySem.W.Frag) (C D : Addr) : Prop := ∃ nm q N bs sn sub ab col dd k0 k1 k2 k3 k5, K.lookup C = some (excClassObj nm q C N bs [.ref D, .type "ValueError", .type "Exception", .type "BaseException", .type "object"] true sn sub ab col dd k0 k1 k2 k3 k5 "ValueError.__new__")
theorem obj_is {K : PySem.W.Frag} {C D : Addr} {nm q : Str} {N : Addr} {bs : List Value} {sn : List Str} {sub : List Value} {ab : Bool} {col : Option Bool} {dd : Option Addr} {k0 k1 k2 k3 k5 : Option Value}
    (h : K.lookup C = some (excClassObj nm q C N bs [.ref D, .type "ValueError", .type "Exception", .type "BaseException", .type "object"] true sn sub ab col dd k0 k1 k2 k3 k5 "ValueError.__new__")) : ObjIs K C D := ⟨_, _, _, _, _, _, _, _, _, _, _, _, _, _, h⟩
theorem err_of {K : PySem.W.Frag} {C D : Addr} {fs : List Str} (o : ObjIs K C D) (h : ClsIs K C D fs) (s1 : PySem.W.specialIn K (.builtin "object.__class__") "__get__" = some (some (.builtin "getset_descriptor.__get__")))
    (s2 : PySem.W.takesIn K (.builtin "object.__class__") = some true) : ErrC K C := by
  obtain ⟨nm, q, N, bs, sn, sub, ab, col, dd, k0, k1, k2, k3, k5, e⟩ := o
  exact ⟨⟨⟨nm, q, N, bs, _, sn, sub, ab, col, dd, k0, k1, k2, k3, k5, e, rfl⟩, h.sa, h.ex, h.ty, h.kp⟩, ⟨h.ga, h.gg, h.ex, h.hd⟩, ⟨h.ga, h.gg, h.ex, h.hd, h.cl, s1, s2, h.ob⟩⟩
theorem mem_all {p : Nat → Prop} {n : Nat} (h : ∀ x ∈ List.range n, p x) : ∀ i, i < n → p i := fun i hi => h i (List.mem_range.mpr hi)
/-- what the last theorem asks: the call of the law at the caller's Around -/
def Goal (P : Program) (w : World) (K : PySem.W.Frag) (mg : Str → Option Value) (fa : Addr) : Prop :=
  ∀ (base : Heap) (s : Shared) (H : Hp) (a : Addr) (ns : List Int), Env0 P w K mg base PySem.callerA [] s H → SqL K H a (ns.map V.int) → ns.length ≤ 63 →
    codeAny (model P w) PySem.callerA (.call (.ref fa) ⟨[.ref a], []⟩) (CR CX0 [] P w H s (fun v _ => v = .bl true) fun _ _ _ => False) s
theorem walk {l : PySem.W.OpenLaw} {q : Program} {loose : List Str} {XP : (Str → Option Value) → Heap → Prop} {YP : World → Heap → Prop} {d : PySem.DefRec} {K : Params → PySem.W.Frag}
    (hn : l.most = some 63) (hdf : d.params.defaults = []) (hY : ∀ (w : World) (h : Heap), YP w h → (K w.params).In h)
    (F : ∀ (w : World) (mg : Str → Option Value) (fa : Addr) (h : Heap), (K w.params).In h → h.Ns mainGlobals mg → mg d.name = some (.ref fa) → Goal l.prog w (K w.params) mg fa) :
    PySem.W.WalkO q loose XP YP l.row.toRowW d [] (fun f vs => PySem.call f vs) := by
  refine Att.attach_call hn hdf fun w s₀ s₁ mg mb fa o pm cd doc a vs ns G Y ho hd hcd hmg hobj hints hlen hg => ?_
  have KX := hY w _ Y
  refine law_at (CX := CX0) KX G.T.g G.T.b G.T.builtins G.T.nolimit hg hobj hints (Nat.le_trans hlen (by decide)) (fun base H _ _ e0 hS => ?_) fun _ _ _ z => z
  exact F w mg fa _ KX G.T.g hmg base s₁ H a ns e0 hS hlen
theorem all_mk {P : Program} {w : World} {K : PySem.W.Frag} {h : Heap} {mg : Str → Option Value} {fa : Addr} {C0 C1 C2 C3 C4 C5 C6 C7 C8 C9 C10 C11 C12 C13 CD I0 I1 I2 I3 I4 I5 I6 I7 I8 I9 I10 I11 fP fD fQ fV fF fM fK fL : Addr} {ocI0 kvI0 dcI0 pmI0 cdI0 ctI0 ocI1 kvI1 dcI1 pmI1 cdI1 ctI1 ocI2 kvI2 dcI2 pmI2 cdI2 ctI2 ocI3 kvI3 dcI3 pmI3 cdI3 ctI3 ocI4 kvI4 dcI4 pmI4 cdI4 ctI4 ocI5 kvI5 dcI5 pmI5 cdI5 ctI5 ocI6 kvI6 dcI6 pmI6 cdI6 ctI6 ocI7 kvI7 dcI7 pmI7 cdI7 ctI7 ocI8 kvI8 dcI8 pmI8 cdI8 ctI8 ocI9 kvI9 dcI9 pmI9 cdI9 ctI9 ocI10 kvI10 dcI10 pmI10 cdI10 ctI10 ocI11 kvI11 dcI11 pmI11 cdI11 ctI11 ocP kvP dcP pmP cdP ctP ocD kvD dcD pmD cdD ctD ocQ kvQ dcQ pmQ cdQ ctQ ocV kvV dcV pmV cdV ctV ocF kvF dcF pmF cdF ctF ocM kvM dcM pmM cdM ctM ocK kvK dcK pmK cdK ctK ocL kvL dcL pmL cdL ctL : Value} {odI0 anI0 odI1 anI1 odI2 anI2 odI3 anI3 odI4 anI4 odI5 anI5 odI6 anI6 odI7 anI7 odI8 anI8 odI9 anI9 odI10 anI10 odI11 anI11 odP anP odD anD odQ anQ odV anV odF anF odM anM odK anK odL anL : Option Addr} {slI0 slI1 slI2 slI3 slI4 slI5 slI6 slI7 slI8 slI9 slI10 slI11 slP slD slQ slV slF slM slK slL : Array (Option Value)}
    (X : K.In h) (G : h.Ns mainGlobals mg) (hfa : mg "law" = some (.ref fa))
    (aC0 : PySem.W.nsIn K mainGlobals "BadText" = some (some (.ref C0)))
    (x0 : ObjIs K C0 CD)
    (aC1 : PySem.W.nsIn K mainGlobals "BadName" = some (some (.ref C1)))
    (x1 : ObjIs K C1 CD)
    (aC2 : PySem.W.nsIn K mainGlobals "BadNumber" = some (some (.ref C2)))
    (x2 : ObjIs K C2 CD)
    (aC3 : PySem.W.nsIn K mainGlobals "BadRow" = some (some (.ref C3)))
    (x3 : ObjIs K C3 CD)
    (aC4 : PySem.W.nsIn K mainGlobals "NoName" = some (some (.ref C4)))
    (x4 : ObjIs K C4 CD)
    (aC5 : PySem.W.nsIn K mainGlobals "TakenName" = some (some (.ref C5)))
    (x5 : ObjIs K C5 CD)
    (aC6 : PySem.W.nsIn K mainGlobals "Unlike" = some (some (.ref C6)))
    (x6 : ObjIs K C6 CD)
    (aC7 : PySem.W.nsIn K mainGlobals "NotThere" = some (some (.ref C7)))
    (x7 : ObjIs K C7 CD)
    (aC8 : PySem.W.nsIn K mainGlobals "TooMany" = some (some (.ref C8)))
    (x8 : ObjIs K C8 CD)
    (aC9 : PySem.W.nsIn K mainGlobals "Misread" = some (some (.ref C9)))
    (x9 : ObjIs K C9 CD)
    (aC10 : PySem.W.nsIn K mainGlobals "Misplaced" = some (some (.ref C10)))
    (x10 : ObjIs K C10 CD)
    (aC11 : PySem.W.nsIn K mainGlobals "NotKept" = some (some (.ref C11)))
    (x11 : ObjIs K C11 CD)
    (aC12 : PySem.W.nsIn K mainGlobals "NothingToUndo" = some (some (.ref C12)))
    (x12 : ObjIs K C12 CD)
    (aC13 : PySem.W.nsIn K mainGlobals "NothingToRedo" = some (some (.ref C13)))
    (x13 : ObjIs K C13 CD)
    (aCD : PySem.W.nsIn K mainGlobals "DealError" = some (some (.ref CD)))
    (aI0 : PySem.W.findIn K (.ref C0) "__init__" = some (some (.ref I0)))
    (lI0 : K.lookup I0 = some ⟨ocI0, odI0, .func (PySem.W.fnOf "__init__" "BadText.__init__" (defArgs sI_BadText) (defBody sI_BadText) (defScope sI_BadText) .none kvI0 dcI0 pmI0 anI0 cdI0 ctI0), slI0⟩)
    (cI0 : PySem.W.codeIn K cdI0 "BadText.__init__" = true)
    (kI0 : PySem.W.keepIn K (.ref I0) = true)
    (aI1 : PySem.W.findIn K (.ref C1) "__init__" = some (some (.ref I1)))
    (lI1 : K.lookup I1 = some ⟨ocI1, odI1, .func (PySem.W.fnOf "__init__" "BadName.__init__" (defArgs sI_BadName) (defBody sI_BadName) (defScope sI_BadName) .none kvI1 dcI1 pmI1 anI1 cdI1 ctI1), slI1⟩)
    (cI1 : PySem.W.codeIn K cdI1 "BadName.__init__" = true)
    (kI1 : PySem.W.keepIn K (.ref I1) = true)
    (aI2 : PySem.W.findIn K (.ref C2) "__init__" = some (some (.ref I2)))
    (lI2 : K.lookup I2 = some ⟨ocI2, odI2, .func (PySem.W.fnOf "__init__" "BadNumber.__init__" (defArgs sI_BadNumber) (defBody sI_BadNumber) (defScope sI_BadNumber) .none kvI2 dcI2 pmI2 anI2 cdI2 ctI2), slI2⟩)
    (cI2 : PySem.W.codeIn K cdI2 "BadNumber.__init__" = true)
    (kI2 : PySem.W.keepIn K (.ref I2) = true)
    (aI3 : PySem.W.findIn K (.ref C3) "__init__" = some (some (.ref I3)))
    (lI3 : K.lookup I3 = some ⟨ocI3, odI3, .func (PySem.W.fnOf "__init__" "BadRow.__init__" (defArgs sI_BadRow) (defBody sI_BadRow) (defScope sI_BadRow) .none kvI3 dcI3 pmI3 anI3 cdI3 ctI3), slI3⟩)
    (cI3 : PySem.W.codeIn K cdI3 "BadRow.__init__" = true)
    (kI3 : PySem.W.keepIn K (.ref I3) = true)
    (aI4 : PySem.W.findIn K (.ref C4) "__init__" = some (some (.ref I4)))
    (lI4 : K.lookup I4 = some ⟨ocI4, odI4, .func (PySem.W.fnOf "__init__" "NoName.__init__" (defArgs sI_NoName) (defBody sI_NoName) (defScope sI_NoName) .none kvI4 dcI4 pmI4 anI4 cdI4 ctI4), slI4⟩)
    (cI4 : PySem.W.codeIn K cdI4 "NoName.__init__" = true)
    (kI4 : PySem.W.keepIn K (.ref I4) = true)
    (aI5 : PySem.W.findIn K (.ref C5) "__init__" = some (some (.ref I5)))
    (lI5 : K.lookup I5 = some ⟨ocI5, odI5, .func (PySem.W.fnOf "__init__" "TakenName.__init__" (defArgs sI_TakenName) (defBody sI_TakenName) (defScope sI_TakenName) .none kvI5 dcI5 pmI5 anI5 cdI5 ctI5), slI5⟩)
    (cI5 : PySem.W.codeIn K cdI5 "TakenName.__init__" = true)
    (kI5 : PySem.W.keepIn K (.ref I5) = true)
    (aI6 : PySem.W.findIn K (.ref C6) "__init__" = some (some (.ref I6)))
    (lI6 : K.lookup I6 = some ⟨ocI6, odI6, .func (PySem.W.fnOf "__init__" "Unlike.__init__" (defArgs sI_Unlike) (defBody sI_Unlike) (defScope sI_Unlike) .none kvI6 dcI6 pmI6 anI6 cdI6 ctI6), slI6⟩)
    (cI6 : PySem.W.codeIn K cdI6 "Unlike.__init__" = true)
    (kI6 : PySem.W.keepIn K (.ref I6) = true)
    (aI7 : PySem.W.findIn K (.ref C7) "__init__" = some (some (.ref I7)))
    (lI7 : K.lookup I7 = some ⟨ocI7, odI7, .func (PySem.W.fnOf "__init__" "NotThere.__init__" (defArgs sI_NotThere) (defBody sI_NotThere) (defScope sI_NotThere) .none kvI7 dcI7 pmI7 anI7 cdI7 ctI7), slI7⟩)
    (cI7 : PySem.W.codeIn K cdI7 "NotThere.__init__" = true)
    (kI7 : PySem.W.keepIn K (.ref I7) = true)
    (aI8 : PySem.W.findIn K (.ref C8) "__init__" = some (some (.ref I8)))
    (lI8 : K.lookup I8 = some ⟨ocI8, odI8, .func (PySem.W.fnOf "__init__" "TooMany.__init__" (defArgs sI_TooMany) (defBody sI_TooMany) (defScope sI_TooMany) .none kvI8 dcI8 pmI8 anI8 cdI8 ctI8), slI8⟩)
    (cI8 : PySem.W.codeIn K cdI8 "TooMany.__init__" = true)
    (kI8 : PySem.W.keepIn K (.ref I8) = true)
    (aI9 : PySem.W.findIn K (.ref C9) "__init__" = some (some (.ref I9)))
    (lI9 : K.lookup I9 = some ⟨ocI9, odI9, .func (PySem.W.fnOf "__init__" "Misread.__init__" (defArgs sI_Misread) (defBody sI_Misread) (defScope sI_Misread) .none kvI9 dcI9 pmI9 anI9 cdI9 ctI9), slI9⟩)
    (cI9 : PySem.W.codeIn K cdI9 "Misread.__init__" = true)
    (kI9 : PySem.W.keepIn K (.ref I9) = true)
    (aI10 : PySem.W.findIn K (.ref C10) "__init__" = some (some (.ref I10)))
    (lI10 : K.lookup I10 = some ⟨ocI10, odI10, .func (PySem.W.fnOf "__init__" "Misplaced.__init__" (defArgs sI_Misplaced) (defBody sI_Misplaced) (defScope sI_Misplaced) .none kvI10 dcI10 pmI10 anI10 cdI10 ctI10), slI10⟩)
    (cI10 : PySem.W.codeIn K cdI10 "Misplaced.__init__" = true)
    (kI10 : PySem.W.keepIn K (.ref I10) = true)
    (aI11 : PySem.W.findIn K (.ref C11) "__init__" = some (some (.ref I11)))
    (lI11 : K.lookup I11 = some ⟨ocI11, odI11, .func (PySem.W.fnOf "__init__" "NotKept.__init__" (defArgs sI_NotKept) (defBody sI_NotKept) (defScope sI_NotKept) .none kvI11 dcI11 pmI11 anI11 cdI11 ctI11), slI11⟩)
    (cI11 : PySem.W.codeIn K cdI11 "NotKept.__init__" = true)
    (kI11 : PySem.W.keepIn K (.ref I11) = true)
    (aP : PySem.W.nsIn K mainGlobals "_law_pen" = some (some (.ref fP)))
    (lP : K.lookup fP = some ⟨ocP, odP, .func (PySem.W.fnOf "_law_pen" "_law_pen" (defArgs sPen) (defBody sPen) (defScope sPen) .none kvP dcP pmP anP cdP ctP), slP⟩)
    (cP : PySem.W.codeIn K cdP "_law_pen" = true)
    (kP : PySem.W.keepIn K (.ref fP) = true)
    (aD : PySem.W.nsIn K mainGlobals "_law_draw" = some (some (.ref fD)))
    (lD : K.lookup fD = some ⟨ocD, odD, .func (PySem.W.fnOf "_law_draw" "_law_draw" (defArgs sDraw) (defBody sDraw) (defScope sDraw) .none kvD dcD pmD anD cdD ctD), slD⟩)
    (cD : PySem.W.codeIn K cdD "_law_draw" = true)
    (kD : PySem.W.keepIn K (.ref fD) = true)
    (aQ : PySem.W.nsIn K mainGlobals "_law_pick" = some (some (.ref fQ)))
    (lQ : K.lookup fQ = some ⟨ocQ, odQ, .func (PySem.W.fnOf "_law_pick" "_law_pick" (defArgs sPick) (defBody sPick) (defScope sPick) .none kvQ dcQ pmQ anQ cdQ ctQ), slQ⟩)
    (cQ : PySem.W.codeIn K cdQ "_law_pick" = true)
    (kQ : PySem.W.keepIn K (.ref fQ) = true)
    (aV : PySem.W.nsIn K mainGlobals "_law_value" = some (some (.ref fV)))
    (lV : K.lookup fV = some ⟨ocV, odV, .func (PySem.W.fnOf "_law_value" "_law_value" (defArgs sValue) (defBody sValue) (defScope sValue) .none kvV dcV pmV anV cdV ctV), slV⟩)
    (cV : PySem.W.codeIn K cdV "_law_value" = true)
    (kV : PySem.W.keepIn K (.ref fV) = true)
    (aF : PySem.W.nsIn K mainGlobals "_law_fields" = some (some (.ref fF)))
    (lF : K.lookup fF = some ⟨ocF, odF, .func (PySem.W.fnOf "_law_fields" "_law_fields" (defArgs sFields) (defBody sFields) (defScope sFields) .none kvF dcF pmF anF cdF ctF), slF⟩)
    (cF : PySem.W.codeIn K cdF "_law_fields" = true)
    (kF : PySem.W.keepIn K (.ref fF) = true)
    (aM : PySem.W.nsIn K mainGlobals "_law_made_errors" = some (some (.ref fM)))
    (lM : K.lookup fM = some ⟨ocM, odM, .func (PySem.W.fnOf "_law_made_errors" "_law_made_errors" (defArgs sMade) (defBody sMade) (defScope sMade) .none kvM dcM pmM anM cdM ctM), slM⟩)
    (cM : PySem.W.codeIn K cdM "_law_made_errors" = true)
    (kM : PySem.W.keepIn K (.ref fM) = true)
    (aK : PySem.W.nsIn K mainGlobals "_law_kinds" = some (some (.ref fK)))
    (lK : K.lookup fK = some ⟨ocK, odK, .func (PySem.W.fnOf "_law_kinds" "_law_kinds" (defArgs sKinds) (defBody sKinds) (defScope sKinds) .none kvK dcK pmK anK cdK ctK), slK⟩)
    (cK : PySem.W.codeIn K cdK "_law_kinds" = true)
    (kK : PySem.W.keepIn K (.ref fK) = true)
    (aL : PySem.W.nsIn K mainGlobals "law" = some (some (.ref fL)))
    (lL : K.lookup fL = some ⟨ocL, odL, .func (PySem.W.fnOf "law" "law" (defArgs sLaw) (defBody sLaw) (defScope sLaw) .none kvL dcL pmL anL cdL ctL), slL⟩)
    (cL : PySem.W.codeIn K cdL "law" = true)
    (kL : PySem.W.keepIn K (.ref fL) = true)
    (b1 : clssB K CD [C0, C1, C2, C3, C4, C5, C6, C7, C8, C9, C10, C11, C12, C13] = true)
    (b2 : kitB K [C0, C1, C2, C3, C4, C5, C6, C7, C8, C9, C10, C11, C12, C13] = true)
    (b3 : iniB K [C0, C1, C2, C3, C4, C5, C6, C7, C8, C9, C10, C11, C12, C13] [I0, I1, I2, I3, I4, I5, I6, I7, I8, I9, I10, I11] = true)
    (b4 : excB K [C0, C1, C2, C3, C4, C5, C6, C7, C8, C9, C10, C11, C12, C13] = true)
    (b5 : freeB K = true)
    (b6 : sysB K [C0, C1, C2, C3, C4, C5, C6, C7, C8, C9, C10, C11, C12, C13] CD = true) : Goal P w K mg fa := by
  have e := hfa.symm.trans (PySem.W.mg_of X G aL)
  cases e
  unfold clssB at b1; rw [List.all_eq_true] at b1
  unfold kitB at b2; simp only [List.all_eq_true, decide_eq_true_eq] at b2
  unfold iniB at b3; simp only [List.all_eq_true, Bool.and_eq_true, decide_eq_true_eq] at b3
  unfold excB at b4; rw [List.all_eq_true] at b4
  unfold freeB at b5; simp only [List.all_eq_true, decide_eq_true_eq] at b5
  unfold sysB at b6; simp only [Bool.and_eq_true, decide_eq_true_eq] at b6
  have B : ∀ i, i < 14 → ClsIs K (([C0, C1, C2, C3, C4, C5, C6, C7, C8, C9, C10, C11, C12, C13] : List Addr).getD i 0) CD (nms i) := fun i hi => clsB_ok (b1 i (List.mem_range.mpr hi))
  have fr : ∀ x : Str, x ∈ (["isinstance", "len", "int", "list", "repr", "range", "enumerate", "ValueError"] : List Str) → mg x = none := fun x hx => PySem.W.mg_none_of X G (b5 x hx)
  have O : ∀ i, i < 14 → ObjIs K (([C0, C1, C2, C3, C4, C5, C6, C7, C8, C9, C10, C11, C12, C13] : List Addr).getD i 0) CD := fun i hi => match i, hi with
    | 0, _ => x0
    | 1, _ => x1
    | 2, _ => x2
    | 3, _ => x3
    | 4, _ => x4
    | 5, _ => x5
    | 6, _ => x6
    | 7, _ => x7
    | 8, _ => x8
    | 9, _ => x9
    | 10, _ => x10
    | 11, _ => x11
    | 12, _ => x12
    | 13, _ => x13
    | i + 14, hi => absurd hi (by omega)
  have T : Txt K mg (fun i => ([C0, C1, C2, C3, C4, C5, C6, C7, C8, C9, C10, C11, C12, C13] : List Addr).getD i 0) (fun i => ([I0, I1, I2, I3, I4, I5, I6, I7, I8, I9, I10, I11] : List Addr).getD i 0) CD := {
    err := fun i hi => err_of (O i hi) (B i hi) b6.1.1 b6.1.2
    noF := fun i hi f hf => (B i (by omega)).no f hf
    ini := fun i hi => b3 i (List.mem_range.mpr hi)
    kit := fun i j hi hj => b2 i (List.mem_range.mpr hi) j (List.mem_range.mpr hj)
    kitD := fun i hi => (B i hi).kD
    kitV := fun i hi => (B i hi).kV
    kp := fun i hi => (B i hi).kp
    exc := fun i h1 h2 => b4 i (by have : i = 12 ∨ i = 13 := by omega
                                   rcases this with rfl | rfl <;> simp)
    gD := PySem.W.mg_of X G aCD
    isi := fr "isinstance" (List.mem_of_getElem? (i := 0) rfl)
    len := fr "len" (List.mem_of_getElem? (i := 1) rfl)
    int := fr "int" (List.mem_of_getElem? (i := 2) rfl)
    list := fr "list" (List.mem_of_getElem? (i := 3) rfl)
    repr := fr "repr" (List.mem_of_getElem? (i := 4) rfl)
    range := fr "range" (List.mem_of_getElem? (i := 5) rfl)
    enum := fr "enumerate" (List.mem_of_getElem? (i := 6) rfl)
    vErr := fr "ValueError" (List.mem_of_getElem? (i := 7) rfl)
    g0 := PySem.W.mg_of X G aC0
    g1 := PySem.W.mg_of X G aC1
    g2 := PySem.W.mg_of X G aC2
    g3 := PySem.W.mg_of X G aC3
    g4 := PySem.W.mg_of X G aC4
    g5 := PySem.W.mg_of X G aC5
    g6 := PySem.W.mg_of X G aC6
    g7 := PySem.W.mg_of X G aC7
    g8 := PySem.W.mg_of X G aC8
    g9 := PySem.W.mg_of X G aC9
    g10 := PySem.W.mg_of X G aC10
    g11 := PySem.W.mg_of X G aC11
    g12 := PySem.W.mg_of X G aC12
    g13 := PySem.W.mg_of X G aC13
  }
  have FI0 := fun_mk (st := sI_BadText) lI0 cI0 kI0
  have FI1 := fun_mk (st := sI_BadName) lI1 cI1 kI1
  have FI2 := fun_mk (st := sI_BadNumber) lI2 cI2 kI2
  have FI3 := fun_mk (st := sI_BadRow) lI3 cI3 kI3
  have FI4 := fun_mk (st := sI_NoName) lI4 cI4 kI4
  have FI5 := fun_mk (st := sI_TakenName) lI5 cI5 kI5
  have FI6 := fun_mk (st := sI_Unlike) lI6 cI6 kI6
  have FI7 := fun_mk (st := sI_NotThere) lI7 cI7 kI7
  have FI8 := fun_mk (st := sI_TooMany) lI8 cI8 kI8
  have FI9 := fun_mk (st := sI_Misread) lI9 cI9 kI9
  have FI10 := fun_mk (st := sI_Misplaced) lI10 cI10 kI10
  have FI11 := fun_mk (st := sI_NotKept) lI11 cI11 kI11
  have FP := fun_mk (st := sPen) lP cP kP
  have FD := fun_mk (st := sDraw) lD cD kD
  have FQ := fun_mk (st := sPick) lQ cQ kQ
  have FV := fun_mk (st := sValue) lV cV kV
  have FF := fun_mk (st := sFields) lF cF kF
  have FM := fun_mk (st := sMade) lM cM kM
  have FK := fun_mk (st := sKinds) lK cK kK
  have FL := fun_mk (st := sLaw) lL cL kL
  refine fun base s H a ns e0 hS hlen => ?_
  have BI0 := FI0.binds (ps := ["self", "line", "word"]) fun _ _ _ _ _ _ us hl => match us, hl with | [_, _, _], _ => rfl
  have BI1 := FI1.binds (ps := ["self", "name"]) fun _ _ _ _ _ _ us hl => match us, hl with | [_, _], _ => rfl
  have BI2 := FI2.binds (ps := ["self", "what", "number"]) fun _ _ _ _ _ _ us hl => match us, hl with | [_, _, _], _ => rfl
  have BI3 := FI3.binds (ps := ["self", "what", "row"]) fun _ _ _ _ _ _ us hl => match us, hl with | [_, _, _], _ => rfl
  have BI4 := FI4.binds (ps := ["self", "name"]) fun _ _ _ _ _ _ us hl => match us, hl with | [_, _], _ => rfl
  have BI5 := FI5.binds (ps := ["self", "name"]) fun _ _ _ _ _ _ us hl => match us, hl with | [_, _], _ => rfl
  have BI6 := FI6.binds (ps := ["self", "what"]) fun _ _ _ _ _ _ us hl => match us, hl with | [_, _], _ => rfl
  have BI7 := FI7.binds (ps := ["self", "what"]) fun _ _ _ _ _ _ us hl => match us, hl with | [_, _], _ => rfl
  have BI8 := FI8.binds (ps := ["self", "what", "many", "limit"]) fun _ _ _ _ _ _ us hl => match us, hl with | [_, _, _, _], _ => rfl
  have BI9 := FI9.binds (ps := ["self", "line", "column"]) fun _ _ _ _ _ _ us hl => match us, hl with | [_, _, _], _ => rfl
  have BI10 := FI10.binds (ps := ["self", "line", "column", "why", "name"]) fun _ _ _ _ _ _ us hl => match us, hl with | [_, _, _, _, _], _ => rfl
  have BI11 := FI11.binds (ps := ["self", "promise", "witness"]) fun _ _ _ _ _ _ us hl => match us, hl with | [_, _, _], _ => rfl
  have BP := FP.binds (ps := ["script"]) fun _ _ _ _ _ _ us hl => match us, hl with | [_], _ => rfl
  have BD := FD.binds (ps := ["pen", "many"]) fun _ _ _ _ _ _ us hl => match us, hl with | [_, _], _ => rfl
  have BQ := FQ.binds (ps := ["pen", "some"]) fun _ _ _ _ _ _ us hl => match us, hl with | [_, _], _ => rfl
  have BV := FV.binds (ps := ["pen"]) fun _ _ _ _ _ _ us hl => match us, hl with | [_], _ => rfl
  have BF := FF.binds (ps := ["one", "names"]) fun _ _ _ _ _ _ us hl => match us, hl with | [_, _], _ => rfl
  have BM := FM.binds (ps := ["one", "two", "three"]) fun _ _ _ _ _ _ us hl => match us, hl with | [_, _, _], _ => rfl
  have BK := FK.binds (ps := ["one"]) fun _ _ _ _ _ _ us hl => match us, hl with | [_], _ => rfl
  have BL := FL.binds (ps := ["script"]) fun _ _ _ _ _ _ us hl => match us, hl with | [_], _ => rfl
  have I : Inits P w K mg base (fun i => ([C0, C1, C2, C3, C4, C5, C6, C7, C8, C9, C10, C11, C12, C13] : List Addr).getD i 0) (fun i => ([I0, I1, I2, I3, I4, I5, I6, I7, I8, I9, I10, I11] : List Addr).getD i 0) (fun i => match i with
      | 0 => PySem.W.fnOf "__init__" "BadText.__init__" (defArgs sI_BadText) (defBody sI_BadText) (defScope sI_BadText) .none kvI0 dcI0 pmI0 anI0 cdI0 ctI0
      | 1 => PySem.W.fnOf "__init__" "BadName.__init__" (defArgs sI_BadName) (defBody sI_BadName) (defScope sI_BadName) .none kvI1 dcI1 pmI1 anI1 cdI1 ctI1
      | 2 => PySem.W.fnOf "__init__" "BadNumber.__init__" (defArgs sI_BadNumber) (defBody sI_BadNumber) (defScope sI_BadNumber) .none kvI2 dcI2 pmI2 anI2 cdI2 ctI2
      | 3 => PySem.W.fnOf "__init__" "BadRow.__init__" (defArgs sI_BadRow) (defBody sI_BadRow) (defScope sI_BadRow) .none kvI3 dcI3 pmI3 anI3 cdI3 ctI3
      | 4 => PySem.W.fnOf "__init__" "NoName.__init__" (defArgs sI_NoName) (defBody sI_NoName) (defScope sI_NoName) .none kvI4 dcI4 pmI4 anI4 cdI4 ctI4
      | 5 => PySem.W.fnOf "__init__" "TakenName.__init__" (defArgs sI_TakenName) (defBody sI_TakenName) (defScope sI_TakenName) .none kvI5 dcI5 pmI5 anI5 cdI5 ctI5
      | 6 => PySem.W.fnOf "__init__" "Unlike.__init__" (defArgs sI_Unlike) (defBody sI_Unlike) (defScope sI_Unlike) .none kvI6 dcI6 pmI6 anI6 cdI6 ctI6
      | 7 => PySem.W.fnOf "__init__" "NotThere.__init__" (defArgs sI_NotThere) (defBody sI_NotThere) (defScope sI_NotThere) .none kvI7 dcI7 pmI7 anI7 cdI7 ctI7
      | 8 => PySem.W.fnOf "__init__" "TooMany.__init__" (defArgs sI_TooMany) (defBody sI_TooMany) (defScope sI_TooMany) .none kvI8 dcI8 pmI8 anI8 cdI8 ctI8
      | 9 => PySem.W.fnOf "__init__" "Misread.__init__" (defArgs sI_Misread) (defBody sI_Misread) (defScope sI_Misread) .none kvI9 dcI9 pmI9 anI9 cdI9 ctI9
      | 10 => PySem.W.fnOf "__init__" "Misplaced.__init__" (defArgs sI_Misplaced) (defBody sI_Misplaced) (defScope sI_Misplaced) .none kvI10 dcI10 pmI10 anI10 cdI10 ctI10
      | 11 => PySem.W.fnOf "__init__" "NotKept.__init__" (defArgs sI_NotKept) (defBody sI_NotKept) (defScope sI_NotKept) .none kvI11 dcI11 pmI11 anI11 cdI11 ctI11
      | _ => PySem.W.fnOf "__init__" "BadText.__init__" (defArgs sI_BadText) (defBody sI_BadText) (defScope sI_BadText) .none kvI0 dcI0 pmI0 anI0 cdI0 ctI0) := {
    G := fun i hi => match i, hi with
      | 0, _ => ok_BadText FI0 (T.err 0 (by decide)).o ((B 0 (by decide)).no "line" (List.mem_of_getElem? (i := 0) rfl)) ((B 0 (by decide)).no "word" (List.mem_of_getElem? (i := 1) rfl))
      | 1, _ => ok_BadName FI1 (T.err 1 (by decide)).o ((B 1 (by decide)).no "name" (List.mem_of_getElem? (i := 0) rfl))
      | 2, _ => ok_BadNumber FI2 (T.err 2 (by decide)).o ((B 2 (by decide)).no "what" (List.mem_of_getElem? (i := 0) rfl)) ((B 2 (by decide)).no "number" (List.mem_of_getElem? (i := 1) rfl))
      | 3, _ => ok_BadRow FI3 (T.err 3 (by decide)).o ((B 3 (by decide)).no "what" (List.mem_of_getElem? (i := 0) rfl)) ((B 3 (by decide)).no "row" (List.mem_of_getElem? (i := 1) rfl))
      | 4, _ => ok_NoName FI4 (T.err 4 (by decide)).o ((B 4 (by decide)).no "name" (List.mem_of_getElem? (i := 0) rfl))
      | 5, _ => ok_TakenName FI5 (T.err 5 (by decide)).o ((B 5 (by decide)).no "name" (List.mem_of_getElem? (i := 0) rfl))
      | 6, _ => ok_Unlike FI6 (T.err 6 (by decide)).o ((B 6 (by decide)).no "what" (List.mem_of_getElem? (i := 0) rfl))
      | 7, _ => ok_NotThere FI7 (T.err 7 (by decide)).o ((B 7 (by decide)).no "what" (List.mem_of_getElem? (i := 0) rfl))
      | 8, _ => ok_TooMany FI8 (T.err 8 (by decide)).o ((B 8 (by decide)).no "what" (List.mem_of_getElem? (i := 0) rfl)) ((B 8 (by decide)).no "many" (List.mem_of_getElem? (i := 1) rfl)) ((B 8 (by decide)).no "limit" (List.mem_of_getElem? (i := 2) rfl))
      | 9, _ => ok_Misread FI9 (T.err 9 (by decide)).o ((B 9 (by decide)).no "line" (List.mem_of_getElem? (i := 0) rfl)) ((B 9 (by decide)).no "column" (List.mem_of_getElem? (i := 1) rfl))
      | 10, _ => ok_Misplaced FI10 (T.err 10 (by decide)).o ((B 10 (by decide)).no "line" (List.mem_of_getElem? (i := 0) rfl)) ((B 10 (by decide)).no "column" (List.mem_of_getElem? (i := 1) rfl)) ((B 10 (by decide)).no "why" (List.mem_of_getElem? (i := 2) rfl)) ((B 10 (by decide)).no "name" (List.mem_of_getElem? (i := 3) rfl))
      | 11, _ => ok_NotKept FI11 (T.err 11 (by decide)).o ((B 11 (by decide)).no "promise" (List.mem_of_getElem? (i := 0) rfl)) ((B 11 (by decide)).no "witness" (List.mem_of_getElem? (i := 1) rfl))
      | i + 12, hi => absurd hi (by omega)
    b := fun i hi => match i, hi with
      | 0, _ => BI0
      | 1, _ => BI1
      | 2, _ => BI2
      | 3, _ => BI3
      | 4, _ => BI4
      | 5, _ => BI5
      | 6, _ => BI6
      | 7, _ => BI7
      | 8, _ => BI8
      | 9, _ => BI9
      | 10, _ => BI10
      | 11, _ => BI11
      | i + 12, hi => absurd hi (by omega) }
  have GD := ok_draw (P := P) (w := w) (base := base) FD T
  have GQ := ok_pick (P := P) (w := w) (base := base) FQ T GD (PySem.W.mg_of X G aD) kD BD
  have L : Defs P w K mg base (fun i => ([C0, C1, C2, C3, C4, C5, C6, C7, C8, C9, C10, C11, C12, C13] : List Addr).getD i 0) (fun i => ([I0, I1, I2, I3, I4, I5, I6, I7, I8, I9, I10, I11] : List Addr).getD i 0) fP fV fM fF fK (PySem.W.fnOf "_law_pen" "_law_pen" (defArgs sPen) (defBody sPen) (defScope sPen) .none kvP dcP pmP anP cdP ctP) (PySem.W.fnOf "_law_value" "_law_value" (defArgs sValue) (defBody sValue) (defScope sValue) .none kvV dcV pmV anV cdV ctV) (PySem.W.fnOf "_law_made_errors" "_law_made_errors" (defArgs sMade) (defBody sMade) (defScope sMade) .none kvM dcM pmM anM cdM ctM) (PySem.W.fnOf "_law_fields" "_law_fields" (defArgs sFields) (defBody sFields) (defScope sFields) .none kvF dcF pmF anF cdF ctF) (PySem.W.fnOf "_law_kinds" "_law_kinds" (defArgs sKinds) (defBody sKinds) (defScope sKinds) .none kvK dcK pmK anK cdK ctK) := {
    GP := ok_pen FP T, gP := PySem.W.mg_of X G aP, kP := kP, bP := BP
    GV := ok_value FV T GQ (PySem.W.mg_of X G aQ) kQ BQ, gV := PySem.W.mg_of X G aV, kV := kV, bV := BV
    GM := ok_made FM T I, gM := PySem.W.mg_of X G aM, kM := kM, bM := BM
    GF := ok_fields FF, gF := PySem.W.mg_of X G aF, kF := kF, bF := BF
    GK := ok_kinds FK T, gK := PySem.W.mg_of X G aK, kK := kK, bK := BK }
  have hb := BL s [.ref a] (e0.mod.kin.keeps fun b o e => (e0.bs b o e).1) rfl
  exact law_run FL T I L b6.2 e0 (.of_eq rfl) (.cons rfl .nil) hS hlen
end Er

open PySem PySem.W PyProof.Rows
set_option maxRecDepth 100000 in
set_option maxHeartbeats 0 in
theorem PySem.Challenge.cw_whostrayed_k01_errors_holds : PySem.Challenge.rw_whostrayed_k01_errors.Holds := by
  w_on; o_law; k_head; (case hw => w_witness2)
  k_fill
  refine Er.walk (l := PySem.Challenge.rw_whostrayed_k01_errors) rfl rfl (fun w h Y => PySem.W.kIn_of Y) ?F
  case F =>
    intro w mg fa h KX G hmg
    refine' Er.all_mk KX G hmg ?aC0 ?x0 ?aC1 ?x1 ?aC2 ?x2 ?aC3 ?x3 ?aC4 ?x4 ?aC5 ?x5 ?aC6 ?x6 ?aC7 ?x7 ?aC8 ?x8 ?aC9 ?x9 ?aC10 ?x10 ?aC11 ?x11 ?aC12 ?x12 ?aC13 ?x13 ?aCD ?aI0 ?lI0 ?cI0 ?kI0 ?aI1 ?lI1 ?cI1 ?kI1 ?aI2 ?lI2 ?cI2 ?kI2 ?aI3 ?lI3 ?cI3 ?kI3 ?aI4 ?lI4 ?cI4 ?kI4 ?aI5 ?lI5 ?cI5 ?kI5 ?aI6 ?lI6 ?cI6 ?kI6 ?aI7 ?lI7 ?cI7 ?kI7 ?aI8 ?lI8 ?cI8 ?kI8 ?aI9 ?lI9 ?cI9 ?kI9 ?aI10 ?lI10 ?cI10 ?kI10 ?aI11 ?lI11 ?cI11 ?kI11 ?aP ?lP ?cP ?kP ?aD ?lD ?cD ?kD ?aQ ?lQ ?cQ ?kQ ?aV ?lV ?cV ?kV ?aF ?lF ?cF ?kF ?aM ?lM ?cM ?kM ?aK ?lK ?cK ?kK ?aL ?lL ?cL ?kL ?b1 ?b2 ?b3 ?b4 ?b5 ?b6
    (case aC0 => k_is)
    (case x0 => (refine' Er.obj_is ?kk; (case kk => k_is)))
    (case aC1 => k_is)
    (case x1 => (refine' Er.obj_is ?kk; (case kk => k_is)))
    (case aC2 => k_is)
    (case x2 => (refine' Er.obj_is ?kk; (case kk => k_is)))
    (case aC3 => k_is)
    (case x3 => (refine' Er.obj_is ?kk; (case kk => k_is)))
    (case aC4 => k_is)
    (case x4 => (refine' Er.obj_is ?kk; (case kk => k_is)))
    (case aC5 => k_is)
    (case x5 => (refine' Er.obj_is ?kk; (case kk => k_is)))
    (case aC6 => k_is)
    (case x6 => (refine' Er.obj_is ?kk; (case kk => k_is)))
    (case aC7 => k_is)
    (case x7 => (refine' Er.obj_is ?kk; (case kk => k_is)))
    (case aC8 => k_is)
    (case x8 => (refine' Er.obj_is ?kk; (case kk => k_is)))
    (case aC9 => k_is)
    (case x9 => (refine' Er.obj_is ?kk; (case kk => k_is)))
    (case aC10 => k_is)
    (case x10 => (refine' Er.obj_is ?kk; (case kk => k_is)))
    (case aC11 => k_is)
    (case x11 => (refine' Er.obj_is ?kk; (case kk => k_is)))
    (case aC12 => k_is)
    (case x12 => (refine' Er.obj_is ?kk; (case kk => k_is)))
    (case aC13 => k_is)
    (case x13 => (refine' Er.obj_is ?kk; (case kk => k_is)))
    (case aCD => k_is)
    (case aI0 => k_is)
    (case lI0 => k_is)
    (case cI0 => k_is)
    (case kI0 => k_is)
    (case aI1 => k_is)
    (case lI1 => k_is)
    (case cI1 => k_is)
    (case kI1 => k_is)
    (case aI2 => k_is)
    (case lI2 => k_is)
    (case cI2 => k_is)
    (case kI2 => k_is)
    (case aI3 => k_is)
    (case lI3 => k_is)
    (case cI3 => k_is)
    (case kI3 => k_is)
    (case aI4 => k_is)
    (case lI4 => k_is)
    (case cI4 => k_is)
    (case kI4 => k_is)
    (case aI5 => k_is)
    (case lI5 => k_is)
    (case cI5 => k_is)
    (case kI5 => k_is)
    (case aI6 => k_is)
    (case lI6 => k_is)
    (case cI6 => k_is)
    (case kI6 => k_is)
    (case aI7 => k_is)
    (case lI7 => k_is)
    (case cI7 => k_is)
    (case kI7 => k_is)
    (case aI8 => k_is)
    (case lI8 => k_is)
    (case cI8 => k_is)
    (case kI8 => k_is)
    (case aI9 => k_is)
    (case lI9 => k_is)
    (case cI9 => k_is)
    (case kI9 => k_is)
    (case aI10 => k_is)
    (case lI10 => k_is)
    (case cI10 => k_is)
    (case kI10 => k_is)
    (case aI11 => k_is)
    (case lI11 => k_is)
    (case cI11 => k_is)
    (case kI11 => k_is)
    (case aP => k_is)
    (case lP => k_is)
    (case cP => k_is)
    (case kP => k_is)
    (case aD => k_is)
    (case lD => k_is)
    (case cD => k_is)
    (case kD => k_is)
    (case aQ => k_is)
    (case lQ => k_is)
    (case cQ => k_is)
    (case kQ => k_is)
    (case aV => k_is)
    (case lV => k_is)
    (case cV => k_is)
    (case kV => k_is)
    (case aF => k_is)
    (case lF => k_is)
    (case cF => k_is)
    (case kF => k_is)
    (case aM => k_is)
    (case lM => k_is)
    (case cM => k_is)
    (case kM => k_is)
    (case aK => k_is)
    (case lK => k_is)
    (case cK => k_is)
    (case kK => k_is)
    (case aL => k_is)
    (case lL => k_is)
    (case cL => k_is)
    (case kL => k_is)
    (case b1 => kernel_rfl)
    (case b2 => kernel_rfl)
    (case b3 => kernel_rfl)
    (case b4 => kernel_rfl)
    (case b5 => kernel_rfl)
    (case b6 => kernel_rfl)

