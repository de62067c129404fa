import PyProof.Rows.All
import Wide.All
import OpenK.AllK
import Wide.FinOn
import Open.SpecLaws
import KE.OsGo
import HandS.ForMost
import HandS.ForSpec
import HandS.Conv
import HandS.FStr
import PySem.Challenge.RW_provenpages_s01_answers
import HandS.ExcCtx
import HandS.Hot
import HandS.HotCalls
import HandS.RaiseMore
import KE.KExcStr
import HandS.TupSets
import KE.DataMinMax
import HandS.SortKw
import KE.DatumOrd
import HandS.HeadHook1
set_option Elab.async false
set_option linter.all false
set_option maxRecDepth 100000
set_option maxHeartbeats 4000000
/-! PgA: the program's statements by place, data that lies in the heap, own defs that are called -/
namespace Pg
open PySem PySem.Spec PyProof.Rows L2
/-- the i-th statement of the program's top -/
def top (i : Nat) : Stmt := PySem.Challenge.pw_provenpages_s01_answers.main.body.getD i (.Pass ⟨0, 0, 0, 0⟩)

/-! ### data -/
/-- what may lie in the heap: numbers, truth values, texts; lists, tuples; the program's Value objects -/
inductive Dat where
  | int (i : Int)
  | bl (b : Bool)
  | str (x : Str)
  | lst (ds : List Dat)
  | tup (ds : List Dat)
  | val (kind number : Int) (octets : List Int) (names : List (List Int)) (parts : List Dat)
abbrev dI (ns : List Int) : Dat := .lst (ns.map Dat.int)
abbrev dII (xs : List (List Int)) : Dat := .lst (xs.map dI)
abbrev natI (n : Nat) : Int := (n : Int)
abbrev dN (ns : List Nat) : Dat := dI (ns.map natI)
abbrev dNN (xs : List (List Nat)) : Dat := .lst (xs.map dN)
/-- the fields of a Value, in the order in which __init__ sets them -/
def valF (k n : Int) (o nm p : Addr) : List (Str × V) := [("kind", .int k), ("number", .int n), ("octets", .ref o), ("names", .ref nm), ("parts", .ref p)]
mutual
/-- the datum d stands at v; none of its objects is among M; C is the class Value -/
inductive DAt (C : Addr) (M : List Addr) (H : Hp) : V → Dat → Prop
  | int (i : Int) : DAt C M H (.int i) (.int i)
  | bl (b : Bool) : DAt C M H (.bl b) (.bl b)
  | str (x : Str) : DAt C M H (.str x) (.str x)
  | lst {a : Addr} {xs : List V} {ds : List Dat} : a ∉ M → H a = some (.lst xs) → DAll C M H xs ds → DAt C M H (.ref a) (.lst ds)
  | tup {a : Addr} {xs : List V} {ds : List Dat} : a ∉ M → H a = some (.tup xs) → DAll C M H xs ds → DAt C M H (.ref a) (.tup ds)
  | val {a dx o nm p : Addr} {k n : Int} {os : List Int} {ns : List (List Int)} {ps : List Dat} : a ∉ M → H a = some (.ins C dx (valF k n o nm p)) →
      DAt C M H (.ref o) (.lst (os.map Dat.int)) → DAt C M H (.ref nm) (.lst (ns.map dI)) → DAt C M H (.ref p) (.lst ps) → DAt C M H (.ref a) (.val k n os ns ps)
inductive DAll (C : Addr) (M : List Addr) (H : Hp) : List V → List Dat → Prop
  | nil : DAll C M H [] []
  | cons {v : V} {vs : List V} {d : Dat} {ds : List Dat} : DAt C M H v d → DAll C M H vs ds → DAll C M H (v :: vs) (d :: ds)
end
/-- all that was tracked and is not among M is as it was -/
def SameB (M : List Addr) (H H' : Hp) : Prop := ∀ b o, H b = some o → b ∉ M → H' b = some o
section
variable {C : Addr} {M M' : List Addr} {H H' : Hp} {a p : Addr} {o : HO}
theorem SameB.refl : SameB M H H := fun _ _ e _ => e
theorem SameB.of (s : Same H H') : SameB M H H' := fun b o e _ => s b o e
theorem SameB.trans {H1 : Hp} (x : SameB M H H1) (y : SameB M H1 H') : SameB M H H' := fun b o e n => y b o (x b o e n) n
theorem SameB.upd (h : p ∈ M) : SameB M H (upd H p o) := fun b u e n => by
  rw [upd_ne (fun z => n (by rw [z]; exact h))]
  exact e
theorem Same.updNew {H1 : Hp} (s : Same H H1) (h : H p = none) : Same H (upd H1 p o) := fun b u e => by
  rw [upd_ne (ne_of_none e h)]
  exact s b u e
theorem Same.new (h : H p = none) : Same H (upd H p o) := Same.updNew (Same.refl H) h
mutual
theorem DAt.keep (s : ∀ b o, H b = some o → b ∉ M → b ∉ M' ∧ H' b = some o) : ∀ {v : V} {d : Dat}, DAt C M H v d → DAt C M' H' v d
  | _, _, .int i => .int i
  | _, _, .bl b => .bl b
  | _, _, .str x => .str x
  | _, _, .lst n e r => .lst (s _ _ e n).1 (s _ _ e n).2 (DAll.keep s r)
  | _, _, .tup n e r => .tup (s _ _ e n).1 (s _ _ e n).2 (DAll.keep s r)
  | _, _, .val n e r1 r2 r3 => .val (s _ _ e n).1 (s _ _ e n).2 (DAt.keep s r1) (DAt.keep s r2) (DAt.keep s r3)
theorem DAll.keep (s : ∀ b o, H b = some o → b ∉ M → b ∉ M' ∧ H' b = some o) : ∀ {vs : List V} {ds : List Dat}, DAll C M H vs ds → DAll C M' H' vs ds
  | _, _, .nil => .nil
  | _, _, .cons h r => .cons (DAt.keep s h) (DAll.keep s r)
end
theorem DAt.sameB {v : V} {d : Dat} (x : DAt C M H v d) (s : SameB M H H') : DAt C M H' v d := x.keep fun b o e n => ⟨n, s b o e n⟩
theorem DAt.same {v : V} {d : Dat} (x : DAt C M H v d) (s : Same H H') : DAt C M H' v d := x.sameB (SameB.of s)
theorem DAll.sameB {vs : List V} {ds : List Dat} (x : DAll C M H vs ds) (s : SameB M H H') : DAll C M H' vs ds := x.keep fun b o e n => ⟨n, s b o e n⟩
theorem DAll.same {vs : List V} {ds : List Dat} (x : DAll C M H vs ds) (s : Same H H') : DAll C M H' vs ds := x.sameB (SameB.of s)
/-- a new address is off -/
theorem DAt.more {v : V} {d : Dat} (x : DAt C M H v d) (h : H p = none) : DAt C (p :: M) H v d := x.keep fun b o e n => ⟨fun z => by
  rcases List.mem_cons.mp z with z | z
  · rw [z, h] at e; cases e
  · exact n z, e⟩
theorem DAll.more {vs : List V} {ds : List Dat} (x : DAll C M H vs ds) (h : H p = none) : DAll C (p :: M) H vs ds := x.keep fun b o e n => ⟨fun z => by
  rcases List.mem_cons.mp z with z | z
  · rw [z, h] at e; cases e
  · exact n z, e⟩
theorem DAt.less {v : V} {d : Dat} (x : DAt C M H v d) (h : ∀ b ∈ M', b ∈ M) : DAt C M' H v d := x.keep fun b o e n => ⟨fun z => n (h b z), e⟩
theorem DAll.length : ∀ {vs : List V} {ds : List Dat}, DAll C M H vs ds → vs.length = ds.length
  | _, _, .nil => rfl
  | _, _, .cons _ r => congrArg (· + 1) (DAll.length r)
theorem DAll.append : ∀ {vs ws : List V} {ds es : List Dat}, DAll C M H vs ds → DAll C M H ws es → DAll C M H (vs ++ ws) (ds ++ es)
  | _, _, _, _, .nil, y => y
  | _, _, _, _, .cons h r, y => .cons h (DAll.append r y)
theorem DAll.snoc {vs : List V} {ds : List Dat} {v : V} {d : Dat} (x : DAll C M H vs ds) (y : DAt C M H v d) : DAll C M H (vs ++ [v]) (ds ++ [d]) := x.append (.cons y .nil)
theorem DAll.get : ∀ {vs : List V} {ds : List Dat} {i : Nat} {d : Dat}, DAll C M H vs ds → ds[i]? = some d → ∃ v, vs[i]? = some v ∧ DAt C M H v d
  | _, _, 0, _, .cons h _, e => ⟨_, rfl, by cases e; exact h⟩
  | _, _, i + 1, _, .cons _ r, e => DAll.get (i := i) r e
theorem DAll.getV : ∀ {vs : List V} {ds : List Dat} {i : Nat} {v : V}, DAll C M H vs ds → vs[i]? = some v → ∃ d, ds[i]? = some d ∧ DAt C M H v d
  | _, _, 0, _, .cons h _, e => ⟨_, rfl, by cases e; exact h⟩
  | _, _, i + 1, _, .cons _ r, e => DAll.getV (i := i) r e
theorem DAll.dI : ∀ ns : List Int, DAll C M H (ns.map V.int) (ns.map Dat.int)
  | [] => .nil
  | n :: r => .cons (.int n) (DAll.dI r)
theorem DAll.dI_eq : ∀ {vs : List V} {ns : List Int}, DAll C M H vs (ns.map Dat.int) → vs = ns.map V.int
  | _, [], .nil => rfl
  | _, n :: r, .cons (.int _) x => congrArg (V.int n :: ·) (DAll.dI_eq x)
theorem DAt.dI {ns : List Int} (h1 : a ∉ M) (h : H a = some (.lst (ns.map V.int))) : DAt C M H (.ref a) (dI ns) := .lst h1 h (DAll.dI ns)
/-- a list of numbers: its object -/
theorem DAt.dIAt {v : V} {ns : List Int} (x : DAt C M H v (Pg.dI ns)) : ∃ a, v = .ref a ∧ a ∉ M ∧ H a = some (.lst (ns.map V.int)) := by
  cases x with
  | lst n e r => exact ⟨_, rfl, n, by rw [e, DAll.dI_eq r]⟩
theorem DAt.lstAt {v : V} {ds : List Dat} (x : DAt C M H v (.lst ds)) : ∃ a xs, v = .ref a ∧ a ∉ M ∧ H a = some (.lst xs) ∧ DAll C M H xs ds := by
  cases x with
  | lst n e r => exact ⟨_, _, rfl, n, e, r⟩
theorem DAt.tupAt {v : V} {ds : List Dat} (x : DAt C M H v (.tup ds)) : ∃ a xs, v = .ref a ∧ a ∉ M ∧ H a = some (.tup xs) ∧ DAll C M H xs ds := by
  cases x with
  | tup n e r => exact ⟨_, _, rfl, n, e, r⟩
theorem DAt.valAt {v : V} {k n : Int} {os : List Int} {ns : List (List Int)} {ps : List Dat} (x : DAt C M H v (.val k n os ns ps)) :
    ∃ a dx o nm p, v = .ref a ∧ a ∉ M ∧ H a = some (.ins C dx (valF k n o nm p)) ∧ DAt C M H (.ref o) (Pg.dI os) ∧ DAt C M H (.ref nm) (dII ns) ∧ DAt C M H (.ref p) (.lst ps) := by
  cases x with
  | val n e r1 r2 r3 => exact ⟨_, _, _, _, _, rfl, n, e, r1, r2, r3⟩
end
/-- the addresses of M are tracked -/
def Off (M : List Addr) (H : Hp) : Prop := ∀ b ∈ M, ∃ o, H b = some o
theorem Off.nil {H : Hp} : Off [] H := fun _ z => nomatch z
theorem Off.same {M : List Addr} {H H' : Hp} (x : Off M H) (s : Same H H') : Off M H' := fun b hb => let ⟨o, e⟩ := x b hb; ⟨o, s b o e⟩
theorem Off.new {M : List Addr} {H : Hp} {p : Addr} (x : Off M H) (h : H p = none) : p ∉ M := fun z => by
  obtain ⟨o, e⟩ := x p z
  rw [h] at e; cases e
theorem Off.cons {M : List Addr} {H : Hp} {p : Addr} {o : HO} (x : Off M H) (h : H p = some o) : Off (p :: M) H := fun b hb => by
  rcases List.mem_cons.mp hb with z | z
  · rw [z]; exact ⟨o, h⟩
  · exact x b z
theorem Off.upd {M : List Addr} {H : Hp} {p : Addr} {o : HO} (x : Off M H) : Off M (L2.upd H p o) := fun b hb => by
  by_cases e : b = p
  · rw [e]; exact ⟨o, upd_same⟩
  · rw [upd_ne e]; exact x b hb

/-! ### constants, built-ins, own defs -/
/-- the module's name x holds v -/
def Kst (mg : Str → Option Value) (x : Str) (v : V) : Prop := ∃ u, mg x = some u ∧ RelV v u
theorem pe_k {X : Cx} {x : Str} {v : V} {pos : Pos} (h : Kst X.mg x v) (hg : Gl X x := by rfl) (hd : (x == ("__debug__" : Str)) = false := by decide) : PE X (.Name x pos) (tC v) := by
  obtain ⟨u, hm, r⟩ := h
  exact pe_glob hg hm r hd
/-- an own def by its name: it keeps its promise -/
structure Own (P : Program) (w : World) (K : PySem.W.Frag) (mg : Str → Option Value) (base : Heap) (CX : CXT) (k : Nat) (x : Str) (ps : List Str) (sp : Sp) : Prop where
  ex : ∃ (f : Addr) (fd : FuncData), mg x = some (.ref f) ∧ PySem.W.keepIn K (.ref f) = true ∧ Binds K fd ps [] ∧ FnOk P w K mg base CX k f fd ps sp
/-- where an own def stands -/
structure Df (K : PySem.W.Frag) (mg : Str → Option Value) (x : Str) (st : Stmt) (ps : List Str) (f : Addr) (fd : FuncData) : Prop where
  F : Fun K x x st f fd
  g : mg x = some (.ref f)
  b : Binds K fd ps []
theorem Df.own {P : Program} {w : World} {K : PySem.W.Frag} {mg : Str → Option Value} {base : Heap} {CX : CXT} {k : Nat} {x : Str} {st : Stmt} {ps : List Str} {f : Addr} {fd : FuncData} {sp : Sp} (D : Df K mg x st ps f fd) (G : FnOk P w K mg base CX k f fd ps sp) :
    Own P w K mg base CX k x ps sp := ⟨f, fd, D.g, D.F.kp, D.b, G⟩
def tOwn (sp : Sp) (t : TA) : TE := fun σ H Q => t σ H fun vs H1 => sp vs H1 Q E0
theorem pe_own {X : Cx} {k j : Nat} {x : Str} {ps : List Str} {sp : Sp} {e : Expr} {es : List Expr} {p pos : Pos} {t : TA} (O : Own X.prog X.w X.K X.mg X.base CX0 k x ps sp) (hr : Room j X.A) (ha : PA X (e :: es) t) (hk : k ≤ j := by first | decide | omega) (hg : Gl X x := by rfl)
    (hdb : (x == ("__debug__" : Str)) = false := by decide) (he : starEach (e :: es) X.env = (false, eval e X.env) :: starEach es X.env := by rfl) (hpl : (backTo pos (starEach es X.env)).any (·.1) = false := by rfl) :
    PE X (.Call (.Name x p) (e :: es) [] pos) (tOwn sp t) := by
  obtain ⟨f, fd, g, kp, b, F⟩ := O.ex
  have q := pe_call (p := p) (pos := pos) F (hr.mono hk) hg g kp b .nil pass0 ha hdb he hpl
  refine ⟨fun pins s σ H Q I h => q.run pins s σ H Q I ?_⟩
  have e1 : (fun (vs : List V) (H1 : Hp) => sp (vs ++ []) H1 Q E0) = fun vs H1 => sp vs H1 Q E0 := by
    funext vs H1
    rw [List.append_nil]
  show t σ H fun vs H1 => sp (vs ++ []) H1 Q E0
  rw [e1]
  exact h
end Pg

namespace Pg
open PySem PySem.Spec PyProof.Rows L2
/-! ### the class Value -/
abbrev s_Value_init : Stmt := inClass (top 9) 0
theorem lk_here {k : Str} {v : V} {r : List (Str × V)} : List.lookup k ((k, v) :: r) = some v := by
  have e : (k == k) = true := beq_self_eq_true k
  simp only [List.lookup, e]
theorem lk_past {k g : Str} {v : V} {r : List (Str × V)} (h : (k == g) = false) : List.lookup k ((g, v) :: r) = List.lookup k r := by
  simp only [List.lookup, h]
theorem put_nil {f : Str} {v : V} : putF f v [] = [(f, v)] := rfl
theorem put_here {f : Str} {v x : V} {r : List (Str × V)} : putF f v ((f, x) :: r) = (f, v) :: r := if_pos rfl
theorem put_past {f g : Str} {v x : V} {r : List (Str × V)} (h : ¬ g = f) : putF f v ((g, x) :: r) = (g, x) :: putF f v r := if_neg h
structure ClV (K : PySem.W.Frag) (C : Addr) : Prop where
  cl : Cls K C
  kind : NoAttr K C "kind"
  number : NoAttr K C "number"
  octets : NoAttr K C "octets"
  names : NoAttr K C "names"
  parts : NoAttr K C "parts"
section
variable {k n : Int} {o nm p : Addr}
theorem vl_kind : (valF k n o nm p).lookup ("kind" : Str) = some (.int k) := lk_here
theorem vl_number : (valF k n o nm p).lookup ("number" : Str) = some (.int n) := (lk_past (by decide +kernel)).trans lk_here
theorem vl_octets : (valF k n o nm p).lookup ("octets" : Str) = some (.ref o) := (lk_past (by decide +kernel)).trans ((lk_past (by decide +kernel)).trans lk_here)
theorem vl_names : (valF k n o nm p).lookup ("names" : Str) = some (.ref nm) := (lk_past (by decide +kernel)).trans ((lk_past (by decide +kernel)).trans ((lk_past (by decide +kernel)).trans lk_here))
theorem vl_parts : (valF k n o nm p).lookup ("parts" : Str) = some (.ref p) := (lk_past (by decide +kernel)).trans ((lk_past (by decide +kernel)).trans ((lk_past (by decide +kernel)).trans ((lk_past (by decide +kernel)).trans lk_here)))
theorem v_put : putF "parts" (.ref p) (putF "names" (.ref nm) (putF "octets" (.ref o) (putF "number" (.int n) (putF "kind" (.int k) [])))) = valF k n o nm p := by
  repeat (first | rw [put_nil] | rw [put_past (by decide +kernel)])
  rfl
end
def spVInit (C : Addr) : Sp := fun vs H Q _ => ∃ (x dx : Addr) (k n : Int) (o nm p : Addr), vs = [.ref x, .int k, .int n, .ref o, .ref nm, .ref p] ∧ H x = some (.ins C dx []) ∧
  ∀ H', (∀ b u, H b = some u → b ≠ x → H' b = some u) → H' x = some (.ins C dx (valF k n o nm p)) → Q .non H'
section
variable {P : Program} {w : World} {K : PySem.W.Frag} {mg : Str → Option Value} {base : Heap} {C : Addr}
theorem sc_Value_init : FnScope ["self", "kind", "number", "octets", "names", "parts"] ["self", "kind", "number", "octets", "names", "parts"] (defScope s_Value_init) := ⟨rfl, rfl, rfl, by decide +kernel, rfl, by decide +kernel, by decide +kernel⟩
theorem ok_Value_init {f : Addr} {fd : FuncData} (F : Fun K "__init__" "Value.__init__" s_Value_init f fd) (T : ClV K C) : FnOk P w K mg base CX0 1 f fd ["self", "kind", "number", "octets", "names", "parts"] (spVInit C) := by
  refine F.ok sc_Value_init (fun vs H Q E h => ?_) (fun cdv A outer s H vs Q E hr h => ⟨_, pss_cons (ps_fld (pv 0) (pv 1) rfl) (pss_cons (ps_fld (pv 0) (pv 2) rfl) (pss_cons (ps_fld (pv 0) (pv 3) rfl)
    (pss_cons (ps_fld (pv 0) (pv 4) rfl) (pss_one (ps_fld (pv 0) (pv 5) rfl))))), ?_⟩)
  · obtain ⟨x, dx, k, n, o, nm, p, rfl, _⟩ := h
    rfl
  · obtain ⟨x, dx, k, n, o, nm, p, rfl, hx, q⟩ := h
    refine ⟨_, rfl, _, rfl, x, C, dx, [], rfl, hx, T.cl, T.kind, (by show 0 < 1000; decide), ?_⟩
    refine ⟨_, rfl, _, rfl, x, C, dx, _, rfl, upd_same, T.cl, T.number, (by show 1 < 1000; decide), ?_⟩
    refine ⟨_, rfl, _, rfl, x, C, dx, _, rfl, upd_same, T.cl, T.octets, (by show 2 < 1000; decide), ?_⟩
    refine ⟨_, rfl, _, rfl, x, C, dx, _, rfl, upd_same, T.cl, T.names, (by show 3 < 1000; decide), ?_⟩
    refine ⟨_, rfl, _, rfl, x, C, dx, _, rfl, upd_same, T.cl, T.parts, (by show 4 < 1000; decide), ?_⟩
    refine q _ (fun b u e hb => ?_) ?_
    · rw [upd_ne hb, upd_ne hb, upd_ne hb, upd_ne hb, upd_ne hb]
      exact e
    · rw [upd_same, v_put]
end
/-- the class Value is made -/
structure OwnV (P : Program) (w : World) (K : PySem.W.Frag) (mg : Str → Option Value) (base : Heap) (C : Addr) : Prop where
  ex : ∃ (f : Addr) (fd : FuncData), mg "Value" = some (.ref C) ∧ Mk K C f ∧ Binds K fd ["self", "kind", "number", "octets", "names", "parts"] [] ∧ FnOk P w K mg base CX0 1 f fd ["self", "kind", "number", "octets", "names", "parts"] (spVInit C)
theorem mk_val {C : Addr} {k n : Int} {o nm p : Addr} {H1 : Hp} {Q : VK} (h : ∀ x dx H', H1 x = none → Same H1 H' → H' x = some (.ins C dx (valF k n o nm p)) → Q (.ref x) H') :
    ∀ x dx, H1 x = none → H1 dx = none → dx ≠ x → spVInit C [.ref x, .int k, .int n, .ref o, .ref nm, .ref p] (upd (upd H1 dx (.own x)) x (.ins C dx [])) (fun v H2 => v = .non ∧ Q (.ref x) H2) E0 := by
  intro x dx nx nd ne
  exact ⟨x, dx, k, n, o, nm, p, rfl, upd_same, fun H' kp hx => ⟨rfl, h x dx H' nx (Same.made nx nd kp) hx⟩⟩
theorem pe_val {X : Cx} {C : Addr} {j : Nat} {e : Expr} {es : List Expr} {p pos : Pos} {t : TA} (O : OwnV X.prog X.w X.K X.mg X.base C) (hr : Room j X.A) (ha : PA X (e :: es) t) (hk : 2 ≤ j := by decide) (hg : Gl X "Value" := by rfl)
    (he : starEach (e :: es) X.env = (false, eval e X.env) :: starEach es X.env := by rfl) (hpl : (backTo pos (starEach es X.env)).any (·.1) = false := by rfl) :
    PE X (.Call (.Name "Value" p) (e :: es) [] pos) (tMake C (spVInit C) [] E0 t) := by
  obtain ⟨f, fd, g, M, b, F⟩ := O.ex
  exact pe_make (p := p) (pos := pos) M F (hr.mono hk) hg g b .nil pass0 ha (by decide) he hpl
/-- a promise's end: it hands back the datum d; all that was tracked stays -/
def Gives (C : Addr) (M : List Addr) (H : Hp) (Q : VK) (d : Dat) : Prop := ∀ r H', Same H H' → DAt C M H' r d → Q r H'
theorem Gives.int {C : Addr} {M : List Addr} {H H' : Hp} {Q : VK} {n : Int} (g : Gives C M H Q (.int n)) (s : Same H H') : Q (.int n) H' := g _ _ s (.int n)
theorem Gives.bl {C : Addr} {M : List Addr} {H H' : Hp} {Q : VK} {b : Bool} (g : Gives C M H Q (.bl b)) (s : Same H H') : Q (.bl b) H' := g _ _ s (.bl b)
/-- a new list of numbers -/
theorem Gives.ints {C : Addr} {M : List Addr} {H H' : Hp} {Q : VK} {ns : List Int} {p : Addr} (g : Gives C M H Q (dI ns)) (o : Off M H) (s : Same H H') (h : H p = none) (e : H' p = some (.lst (ns.map V.int))) : Q (.ref p) H' := g _ _ s (.dI (o.new h) e)
/-- of a new Value: its parts -/
theorem val_new {C : Addr} {M : List Addr} {H H' : Hp} {k n : Int} {o nm p x dx : Addr} {os : List Int} {ns : List (List Int)} {ps : List Dat} (s : Same H H') (nx : H x = none) (off : Off M H) (hx : H' x = some (.ins C dx (valF k n o nm p)))
    (h1 : DAt C M H (.ref o) (dI os)) (h2 : DAt C M H (.ref nm) (dII ns)) (h3 : DAt C M H (.ref p) (.lst ps)) : DAt C M H' (.ref x) (.val k n os ns ps) :=
  .val (off.new nx) hx (h1.same s) (h2.same s) (h3.same s)
/-! ### rules with the written part told by its own letter (within a comprehension's block) -/
section
variable {X : Cx} {K : PySem.W.Frag}
theorem pe_fldK {e : Expr} {f : Str} {ta : TE} {pos : Pos} (he : PE X e ta) (h : X.K = K := by rfl) (hb : attributeBase e f X.env (eval e X.env) = eval e X.env := by rfl) : PE X (.Attribute e f pos) (tFld K ta f) := by
  subst h
  exact pe_fld he hb
theorem ix_listK (h : X.K = K) : IxR X (rIxL K) := by subst h; exact ix_list
theorem ix_tupK (h : X.K = K) : IxR X (rIxT K) := by subst h; exact ix_tup
theorem op_inK (h : X.K = K) : OpR X (compareOp .In) (rIn K false) := by subst h; exact op_in_seq
theorem op_notInK (h : X.K = K) : OpR X (compareOp .NotIn) (rIn K true) := by subst h; exact op_notIn_seq
theorem call_lenK (h : X.K = K) : CallR X (.builtin "len") (fun xs H Q => ∃ p ys, xs = [.ref p] ∧ (SqL K H p ys ∨ SqT K H p ys) ∧ Q (.int ys.length) H) := by subst h; exact call_len_seq
end
end Pg

namespace Pg
open PySem PySem.Spec PyProof.Rows L2
/-! ### module kinds -/
structure Blt (mg : Str → Option Value) : Prop where
  range : mg "range" = none
  len : mg "len" = none
  enumerate : mg "enumerate" = none
  list : mg "list" = none
  set : mg "set" = none
  min : mg "min" = none
  max : mg "max" = none
  ord : mg "ord" = none
  divmod : mg "divmod" = none
  str : mg "str" = none
structure Csts (mg : Str → Option Value) : Prop where
  NOTHING : Kst mg "NOTHING" (.int 0)
  NULL : Kst mg "NULL" (.int 1)
  FALSE : Kst mg "FALSE" (.int 2)
  TRUE : Kst mg "TRUE" (.int 3)
  INTEGER : Kst mg "INTEGER" (.int 4)
  TEXT : Kst mg "TEXT" (.int 6)
  LIST : Kst mg "LIST" (.int 7)
  RECORD : Kst mg "RECORD" (.int 8)
  SIZE_WORDS : Kst mg "SIZE_WORDS" (.str "size must be an integer from 2 to 20")
  MOST_WORDS : Kst mg "MOST_WORDS" (.str "most must be an integer from 1 to 20")
  PAGES_WORDS : Kst mg "PAGES_WORDS" (.str "pages must be a list of at most 20 pages of this size")
  ORDER_WORDS : Kst mg "ORDER_WORDS" (.str "rows have changed their order")
  MISSED_WORDS : Kst mg "MISSED_WORDS" (.str "missed must be an integer from 0 to 200")
  HISTORY_WORDS : Kst mg "HISTORY_WORDS" (.str "no history misses so many rows")
  TABLES_WORDS : Kst mg "TABLES_WORDS" (.str "tables must be a list of lists of different row numbers, one for each page")
theorem itT {b : Bool} {A B : Prop} (hb : b = true) (h : A) : if b = true then A else B := by
  rw [if_pos hb]
  exact h
theorem itF {b : Bool} {A B : Prop} (hb : b = false) (h : B) : if b = true then A else B := by
  rw [hb, if_neg Bool.false_ne_true]
  exact h
theorem two_line : 2 ≤ sizeLine := by rw [sizeLine_eq]; omega
theorem zero_line : 0 ≤ sizeLine := Nat.zero_le _
abbrev s_simple_value : Stmt := top 10
abbrev n_simple_value : List Str := ["kind"]
abbrev p_simple_value : List Str := ["kind"]
theorem sc_simple_value : FnScope n_simple_value p_simple_value (defScope s_simple_value) := ⟨rfl, rfl, rfl, by decide +kernel, rfl, by decide +kernel, by decide +kernel⟩
abbrev s_integer_value : Stmt := top 12
abbrev n_integer_value : List Str := ["number"]
abbrev p_integer_value : List Str := ["number"]
theorem sc_integer_value : FnScope n_integer_value p_integer_value (defScope s_integer_value) := ⟨rfl, rfl, rfl, by decide +kernel, rfl, by decide +kernel, by decide +kernel⟩
abbrev s_text_value : Stmt := top 13
abbrev n_text_value : List Str := ["octets"]
abbrev p_text_value : List Str := ["octets"]
theorem sc_text_value : FnScope n_text_value p_text_value (defScope s_text_value) := ⟨rfl, rfl, rfl, by decide +kernel, rfl, by decide +kernel, by decide +kernel⟩
abbrev s_list_value : Stmt := top 14
abbrev n_list_value : List Str := ["parts"]
abbrev p_list_value : List Str := ["parts"]
theorem sc_list_value : FnScope n_list_value p_list_value (defScope s_list_value) := ⟨rfl, rfl, rfl, by decide +kernel, rfl, by decide +kernel, by decide +kernel⟩
abbrev s_record_value : Stmt := top 15
abbrev n_record_value : List Str := ["names", "parts"]
abbrev p_record_value : List Str := ["names", "parts"]
theorem sc_record_value : FnScope n_record_value p_record_value (defScope s_record_value) := ⟨rfl, rfl, rfl, by decide +kernel, rfl, by decide +kernel, by decide +kernel⟩
abbrev s_truth_value : Stmt := top 11
abbrev n_truth_value : List Str := ["truth"]
abbrev p_truth_value : List Str := ["truth"]
theorem sc_truth_value : FnScope n_truth_value p_truth_value (defScope s_truth_value) := ⟨rfl, rfl, rfl, by decide +kernel, rfl, by decide +kernel, by decide +kernel⟩
abbrev s_number_list : Stmt := top 18
abbrev n_number_list : List Str := ["numbers", "number"]
abbrev p_number_list : List Str := ["numbers"]
theorem sc_number_list : FnScope n_number_list p_number_list (defScope s_number_list) := ⟨rfl, rfl, rfl, by decide +kernel, rfl, by decide +kernel, by decide +kernel⟩
abbrev s_word_octets : Stmt := top 16
abbrev n_word_octets : List Str := ["words", "sign"]
abbrev p_word_octets : List Str := ["words"]
theorem sc_word_octets : FnScope n_word_octets p_word_octets (defScope s_word_octets) := ⟨rfl, rfl, rfl, by decide +kernel, rfl, by decide +kernel, by decide +kernel⟩
abbrev s_word_value : Stmt := top 17
abbrev n_word_value : List Str := ["words"]
abbrev p_word_value : List Str := ["words"]
theorem sc_word_value : FnScope n_word_value p_word_value (defScope s_word_value) := ⟨rfl, rfl, rfl, by decide +kernel, rfl, by decide +kernel, by decide +kernel⟩
abbrev s_is_whole : Stmt := top 19
abbrev n_is_whole : List Str := ["value", "low", "high"]
abbrev p_is_whole : List Str := ["value", "low", "high"]
theorem sc_is_whole : FnScope n_is_whole p_is_whole (defScope s_is_whole) := ⟨rfl, rfl, rfl, by decide +kernel, rfl, by decide +kernel, by decide +kernel⟩
section
variable (C : Addr)
def spSimple : Sp := fun vs H Q _ => ∃ (k : Int) (M : List Addr), vs = [.int k] ∧ Off M H ∧ Gives C M H Q (.val k 0 [] [] [])
def spInteger : Sp := fun vs H Q _ => ∃ (n : Int) (M : List Addr), vs = [.int n] ∧ Off M H ∧ Gives C M H Q (.val 4 n [] [] [])
def spText : Sp := fun vs H Q _ => ∃ (v : V) (os : List Int) (M : List Addr), vs = [v] ∧ Off M H ∧ DAt C M H v (dI os) ∧ Gives C M H Q (.val 6 0 os [] [])
def spListV : Sp := fun vs H Q _ => ∃ (v : V) (ds : List Dat) (M : List Addr), vs = [v] ∧ Off M H ∧ DAt C M H v (.lst ds) ∧ Gives C M H Q (.val 7 0 [] [] ds)
def spRecord : Sp := fun vs H Q _ => ∃ (v u : V) (ns : List (List Int)) (ds : List Dat) (M : List Addr), vs = [v, u] ∧ Off M H ∧ DAt C M H v (dII ns) ∧ DAt C M H u (.lst ds) ∧ Gives C M H Q (.val 8 0 [] ns ds)
def spTruth : Sp := fun vs H Q _ => ∃ (b : Bool) (M : List Addr), vs = [.bl b] ∧ Off M H ∧ Gives C M H Q (.val (if b then 3 else 2) 0 [] [] [])
def dInt (n : Int) : Dat := .val 4 n [] [] []
def spNumList : Sp := fun vs H Q _ => ∃ (v : V) (ns : List Int) (M : List Addr), vs = [v] ∧ Off M H ∧ ns.length ≤ sizeLine ∧ DAt C M H v (dI ns) ∧ Gives C M H Q (.val 7 0 [] [] (ns.map dInt))
def isWhole (k n lo hi : Int) : Bool := decide (k = 4) && (decide (lo ≤ n) && decide (n ≤ hi))
def codes (x : Str) : List Int := x.cps.toList.map natI
def spWordOctets : Sp := fun vs H Q _ => ∃ (x : Str) (M : List Addr), vs = [.str x] ∧ Off M H ∧ x.cps.size ≤ sizeLine ∧ Gives C M H Q (dI (codes x))
def spWordValue : Sp := fun vs H Q _ => ∃ (x : Str) (M : List Addr), vs = [.str x] ∧ Off M H ∧ x.cps.size ≤ sizeLine ∧ Gives C M H Q (.val 6 0 (codes x) [] [])
def spIsWhole : Sp := fun vs H Q _ => ∃ (v : V) (k n : Int) (os : List Int) (ns : List (List Int)) (ps : List Dat) (lo hi : Int) (M : List Addr), vs = [v, .int lo, .int hi] ∧ DAt C M H v (.val k n os ns ps) ∧ Q (.bl (isWhole k n lo hi)) H
end
section
variable {C : Addr} {M : List Addr} {H : Hp} {Q : VK} {p : Addr}
/-- a new list, a new tuple: what was tracked stays, it stands there -/
theorem new_lst {xs : List V} {ds : List Dat} (off : Off M H) (hp : H p = none) (d : DAll C M H xs ds) : Same H (upd H p (.lst xs)) ∧ Off M (upd H p (.lst xs)) ∧ DAt C M (upd H p (.lst xs)) (.ref p) (.lst ds) :=
  ⟨Same.new hp, off.same (Same.new hp), .lst (off.new hp) upd_same (d.same (Same.new hp))⟩
theorem new_emp (off : Off M H) (hp : H p = none) : Same H (upd H p (.lst [])) ∧ Off M (upd H p (.lst [])) ∧ DAt C M (upd H p (.lst [])) (.ref p) (.lst []) := new_lst off hp .nil
theorem new_tup {xs : List V} {ds : List Dat} (off : Off M H) (hp : H p = none) (d : DAll C M H xs ds) : Same H (upd H p (.tup xs)) ∧ Off M (upd H p (.tup xs)) ∧ DAt C M (upd H p (.tup xs)) (.ref p) (.tup ds) :=
  ⟨Same.new hp, off.same (Same.new hp), .tup (off.new hp) upd_same (d.same (Same.new hp))⟩
/-- a new Value -/
theorem val_at {k n : Int} {o nm p : Addr} {os : List Int} {ns : List (List Int)} {ps : List Dat} (off : Off M H) (h1 : DAt C M H (.ref o) (dI os)) (h2 : DAt C M H (.ref nm) (dII ns)) (h3 : DAt C M H (.ref p) (.lst ps))
    (h : ∀ x H', Same H H' → DAt C M H' (.ref x) (.val k n os ns ps) → Q (.ref x) H') :
    ∀ x dx, H x = none → H dx = none → dx ≠ x → spVInit C [.ref x, .int k, .int n, .ref o, .ref nm, .ref p] (upd (upd H dx (.own x)) x (.ins C dx [])) (fun v H2 => v = .non ∧ Q (.ref x) H2) E0 :=
  mk_val fun x _ H' nx s hx => h x H' s (val_new s nx off hx h1 h2 h3)
end
section
variable {P : Program} {w : World} {K : PySem.W.Frag} {mg : Str → Option Value} {base : Heap} {C : Addr} {f : Addr} {fd : FuncData}
theorem ok_simple_value (D : Df K mg "simple_value" s_simple_value p_simple_value f fd) (OV : OwnV P w K mg base C) : Own P w K mg base CX0 3 "simple_value" p_simple_value (spSimple C) := by
  refine D.own (D.F.ok sc_simple_value (fun vs H Q E h => ?_) (fun cdv A outer s H vs Q E hr h => ⟨_, pss_one (ps_ret (pe_val OV hr (pa_cons (pv 0) (pa_cons pe_int (pa_cons (pe_lst pa_nil) (pa_cons (pe_lst pa_nil) (pa_cons (pe_lst pa_nil) pa_nil))))))), ?_⟩))
  · obtain ⟨k, M, rfl, _⟩ := h
    rfl
  · obtain ⟨k, M, rfl, off, g⟩ := h
    refine ⟨_, rfl, zero_line, fun a ha => ⟨zero_line, fun b hb => ⟨zero_line, fun c hc => ?_⟩⟩⟩
    obtain ⟨s1, o1, a1⟩ := new_emp (C := C) off ha
    obtain ⟨s2, o2, b2⟩ := new_emp (C := C) o1 hb
    obtain ⟨s3, o3, c3⟩ := new_emp (C := C) o2 hc
    refine val_at (os := []) (ns := []) (ps := []) o3 ((a1.same s2).same s3) (b2.same s3) c3 fun x H' s4 x4 => ?_
    exact g _ _ (((s1.trans s2).trans s3).trans s4) x4
theorem ok_integer_value (D : Df K mg "integer_value" s_integer_value p_integer_value f fd) (OV : OwnV P w K mg base C) (Kc : Csts mg) : Own P w K mg base CX0 3 "integer_value" p_integer_value (spInteger C) := by
  refine D.own (D.F.ok sc_integer_value (fun vs H Q E h => ?_) (fun cdv A outer s H vs Q E hr h => ⟨_, pss_one (ps_ret (pe_val OV hr (pa_cons (pe_k Kc.INTEGER) (pa_cons (pv 0) (pa_cons (pe_lst pa_nil) (pa_cons (pe_lst pa_nil) (pa_cons (pe_lst pa_nil) pa_nil))))))), ?_⟩))
  · obtain ⟨k, M, rfl, _⟩ := h
    rfl
  · obtain ⟨k, M, rfl, off, g⟩ := h
    refine ⟨_, rfl, zero_line, fun a ha => ⟨zero_line, fun b hb => ⟨zero_line, fun c hc => ?_⟩⟩⟩
    obtain ⟨s1, o1, a1⟩ := new_emp (C := C) off ha
    obtain ⟨s2, o2, b2⟩ := new_emp (C := C) o1 hb
    obtain ⟨s3, o3, c3⟩ := new_emp (C := C) o2 hc
    refine val_at (os := []) (ns := []) (ps := []) o3 ((a1.same s2).same s3) (b2.same s3) c3 fun x H' s4 x4 => ?_
    exact g _ _ (((s1.trans s2).trans s3).trans s4) x4
theorem ok_text_value (D : Df K mg "text_value" s_text_value p_text_value f fd) (OV : OwnV P w K mg base C) (Kc : Csts mg) : Own P w K mg base CX0 3 "text_value" p_text_value (spText C) := by
  refine D.own (D.F.ok sc_text_value (fun vs H Q E h => ?_) (fun cdv A outer s H vs Q E hr h => ⟨_, pss_one (ps_ret (pe_val OV hr (pa_cons (pe_k Kc.TEXT) (pa_cons pe_int (pa_cons (pv 0) (pa_cons (pe_lst pa_nil) (pa_cons (pe_lst pa_nil) pa_nil))))))), ?_⟩))
  · obtain ⟨v, os, M, rfl, _⟩ := h
    rfl
  · obtain ⟨v, os, M, rfl, off, d, g⟩ := h
    obtain ⟨q, rfl, _⟩ := d.dIAt
    refine ⟨_, rfl, zero_line, fun b hb => ⟨zero_line, fun c hc => ?_⟩⟩
    obtain ⟨s2, o2, b2⟩ := new_emp (C := C) off hb
    obtain ⟨s3, o3, c3⟩ := new_emp (C := C) o2 hc
    refine val_at (ns := []) (ps := []) o3 ((d.same s2).same s3) (b2.same s3) c3 fun x H' s4 x4 => ?_
    exact g _ _ ((s2.trans s3).trans s4) x4
theorem ok_list_value (D : Df K mg "list_value" s_list_value p_list_value f fd) (OV : OwnV P w K mg base C) (Kc : Csts mg) : Own P w K mg base CX0 3 "list_value" p_list_value (spListV C) := by
  refine D.own (D.F.ok sc_list_value (fun vs H Q E h => ?_) (fun cdv A outer s H vs Q E hr h => ⟨_, pss_one (ps_ret (pe_val OV hr (pa_cons (pe_k Kc.LIST) (pa_cons pe_int (pa_cons (pe_lst pa_nil) (pa_cons (pe_lst pa_nil) (pa_cons (pv 0) pa_nil))))))), ?_⟩))
  · obtain ⟨v, os, M, rfl, _⟩ := h
    rfl
  · obtain ⟨v, os, M, rfl, off, d, g⟩ := h
    obtain ⟨q, _, rfl, _⟩ := d.lstAt
    refine ⟨zero_line, fun b hb => ⟨zero_line, fun c hc => ⟨_, rfl, ?_⟩⟩⟩
    obtain ⟨s2, o2, b2⟩ := new_emp (C := C) off hb
    obtain ⟨s3, o3, c3⟩ := new_emp (C := C) o2 hc
    refine val_at (os := []) (ns := []) o3 (b2.same s3) c3 ((d.same s2).same s3) fun x H' s4 x4 => ?_
    exact g _ _ ((s2.trans s3).trans s4) x4
theorem ok_record_value (D : Df K mg "record_value" s_record_value p_record_value f fd) (OV : OwnV P w K mg base C) (Kc : Csts mg) : Own P w K mg base CX0 3 "record_value" p_record_value (spRecord C) := by
  refine D.own (D.F.ok sc_record_value (fun vs H Q E h => ?_) (fun cdv A outer s H vs Q E hr h => ⟨_, pss_one (ps_ret (pe_val OV hr (pa_cons (pe_k Kc.RECORD) (pa_cons pe_int (pa_cons (pe_lst pa_nil) (pa_cons (pv 0) (pa_cons (pv 1) pa_nil))))))), ?_⟩))
  · obtain ⟨v, u, os, ds, M, rfl, _⟩ := h
    rfl
  · obtain ⟨v, u, ns, ds, M, rfl, off, d, e, g⟩ := h
    obtain ⟨q, _, rfl, _⟩ := d.lstAt
    obtain ⟨q', _, rfl, _⟩ := e.lstAt
    refine ⟨zero_line, fun b hb => ⟨_, rfl, _, rfl, ?_⟩⟩
    obtain ⟨s2, o2, b2⟩ := new_emp (C := C) off hb
    refine val_at (os := []) o2 b2 (d.same s2) (e.same s2) fun x H' s4 x4 => ?_
    exact g _ _ (s2.trans s4) x4
theorem ok_truth_value (D : Df K mg "truth_value" s_truth_value p_truth_value f fd) (O_simple_value : Own P w K mg base CX0 3 "simple_value" p_simple_value (spSimple C)) (Kc : Csts mg) : Own P w K mg base CX0 4 "truth_value" p_truth_value (spTruth C) := by
  refine D.own (D.F.ok sc_truth_value (fun vs H Q E h => ?_) (fun cdv A outer s H vs Q E hr h => ⟨_, pss_cons (ps_if (pt_val (pv 0)) (pss_one (ps_ret (pe_own O_simple_value hr (pa_cons (pe_k Kc.TRUE) pa_nil)))) pss_nil) (pss_one (ps_ret (pe_own O_simple_value hr (pa_cons (pe_k Kc.FALSE) pa_nil)))), ?_⟩))
  · obtain ⟨b, M, rfl, _⟩ := h
    rfl
  · obtain ⟨b, M, rfl, off, g⟩ := h
    refine ⟨_, rfl, b, rfl, ?_⟩
    cases b with
    | true => exact iteT ⟨_, M, rfl, off, fun r H' s d => g r H' s d⟩
    | false => exact iteF ⟨_, M, rfl, off, fun r H' s d => g r H' s d⟩
theorem ok_is_whole (D : Df K mg "is_whole" s_is_whole p_is_whole f fd) (T : ClV K C) (Kc : Csts mg) : Own P w K mg base CX0 1 "is_whole" p_is_whole (spIsWhole C) := by
  refine D.own (D.F.ok sc_is_whole (fun vs H Q E h => ?_) (fun cdv A outer s H vs Q E hr h => ⟨_, pss_one (ps_ret (pe_and (pe_cmpR op_eq (pe_fldK (K := K) (pv 0)) (pe_k Kc.INTEGER) (nomark _)) (pe_and (pe_cmpR op_le (pv 1) (pe_fldK (K := K) (pv 0)) (nomark _)) (pe_one (pe_cmpR op_le (pe_fldK (K := K) (pv 0)) (pv 2) (nomark _)))))), ?_⟩))
  · obtain ⟨v, k, n, os, ns, ps, lo, hi, M, rfl, _⟩ := h
    rfl
  · obtain ⟨v, k, n, os, ns, ps, lo, hi, M, rfl, d, q⟩ := h
    obtain ⟨a, dx, o, nm, p, rfl, _, e, _⟩ := d.valAt
    refine ⟨_, rfl, a, C, dx, _, _, rfl, e, T.cl, T.kind, vl_kind, rfl, _, rfl, ?_⟩
    by_cases c1 : k = 4
    · rw [if_pos (by rw [dec_int, c1]; rfl)]
      refine ⟨_, rfl, _, rfl, a, C, dx, _, _, rfl, e, T.cl, T.number, vl_number, _, _, rfl, rfl, _, rfl, ?_⟩
      by_cases c2 : lo ≤ n
      · rw [if_pos (decide_eq_true c2)]
        refine ⟨_, rfl, a, C, dx, _, _, rfl, e, T.cl, T.number, vl_number, _, rfl, _, _, rfl, rfl, ?_⟩
        have z : isWhole k n lo hi = decide (n ≤ hi) := by simp [isWhole, c1, c2]
        rw [z] at q
        exact q
      · rw [if_neg (by simp [c2])]
        have z : isWhole k n lo hi = false := by simp [isWhole, c2]
        rw [z] at q
        exact q
    · rw [if_neg (by rw [dec_int]; simp [c1])]
      have z : isWhole k n lo hi = false := by simp [isWhole, c1]
      rw [z] at q
      exact q
end
end Pg

/-! PgD: comprehensions and loops in the forms that the program has -/
namespace Pg
open PySem PySem.Spec PyProof.Rows L2
theorem wipe_one (σ : L2.St) (i : Nat) (x : Option V) : wipe ((wipe σ [i]).set i x) [i] = wipe σ [i] := by
  show ((σ.set i none).set i x).set i none = σ.set i none
  rw [List.set_set, List.set_set]
/-- the items kept by p of the first n, each made by f -/
def pick (p : Nat → Bool) (f : Nat → Dat) (n : Nat) : List Dat := ((List.range n).filter p).map f
theorem pick_succ (p : Nat → Bool) (f : Nat → Dat) (n : Nat) : pick p f (n + 1) = if p n = true then pick p f n ++ [f n] else pick p f n := by
  unfold pick
  rw [List.range_succ, List.filter_append, List.map_append]
  cases h : p n <;> simp [h]
theorem pick_le (p : Nat → Bool) (f : Nat → Dat) (n : Nat) : (pick p f n).length ≤ n := by
  unfold pick
  rw [List.length_map]
  exact Nat.le_trans (List.length_filter_le _ _) (by rw [List.length_range]; exact Nat.le_refl n)
section
variable {C : Addr} {M : List Addr} {K : PySem.W.Frag} {H : Hp} {D : Addr} {σ : L2.St} {i : Nat} {te : TE} {tt : TT} {Qd : Hp → Prop}
/-- what holds between two turns -/
def LcInv (C : Addr) (M : List Addr) (H : Hp) (D : Addr) (p : Nat → Bool) (f : Nat → Dat) (j : Nat) (H' : Hp) : Prop := Same H H' ∧ ∃ acc, H' D = some (.lst acc) ∧ DAll C (D :: M) H' acc (pick p f j)
theorem LcInv.start {p : Nat → Bool} {f : Nat → Dat} (hD : H D = none) : LcInv C M H D p f 0 (upd H D (.lst [])) := ⟨Same.new hD, [], upd_same, .nil⟩
theorem LcInv.off {p : Nat → Bool} {f : Nat → Dat} {j : Nat} {H' : Hp} (x : LcInv C M H D p f j H') (off : Off M H) : Off (D :: M) H' := by
  obtain ⟨s, acc, e, _⟩ := x
  exact (off.same s).cons e
/-- an item more -/
theorem LcInv.turn {p : Nat → Bool} {f : Nat → Dat} {j : Nat} {H' H4 : Hp} {y : V} (x : LcInv C M H D p f j H') (hD : H D = none) (hp : p j = true) (s4 : Same H' H4) (d : DAt C (D :: M) H4 y (f j)) (hj : j < sizeLine) :
    ∃ acc, H4 D = some (.lst acc) ∧ acc.length < sizeLine ∧ LcInv C M H D p f (j + 1) (upd H4 D (.lst (acc ++ [y]))) := by
  obtain ⟨s, acc, e, r⟩ := x
  refine ⟨acc, s4 _ _ e, ?_, Same.updNew (s.trans s4) hD, acc ++ [y], upd_same, ?_⟩
  · rw [r.length]
    exact Nat.lt_of_le_of_lt (pick_le p f j) hj
  · rw [pick_succ, if_pos hp]
    exact ((r.same s4).snoc d).sameB (SameB.upd List.mem_cons_self)
theorem LcInv.skip {p : Nat → Bool} {f : Nat → Dat} {j : Nat} {H' H4 : Hp} (x : LcInv C M H D p f j H') (hp : p j = false) (s4 : Same H' H4) : LcInv C M H D p f (j + 1) H4 := by
  obtain ⟨s, acc, e, r⟩ := x
  refine ⟨s.trans s4, acc, s4 _ _ e, ?_⟩
  rw [pick_succ, if_neg (by rw [hp]; exact Bool.false_ne_true)]
  exact r.same s4
theorem LcInv.done {p : Nat → Bool} {f : Nat → Dat} {j : Nat} {H' : Hp} (x : LcInv C M H D p f j H') (hD : H D = none) (off : Off M H) : Same H H' ∧ DAt C M H' (.ref D) (.lst (pick p f j)) := by
  obtain ⟨s, acc, e, r⟩ := x
  refine ⟨s, .lst (off.new hD) e (r.keep fun b o e n => ⟨fun z => n (List.mem_cons_of_mem _ z), e⟩)⟩
/-- [e for x in range(n) if t] -/
theorem lc_rangeF {lo : Int} {n : Nat} (p : Nat → Bool) (f : Nat → Dat) (off : Off M H) (hD : H D = none) (hn : n ≤ sizeLine)
    (ht : ∀ (j : Nat) H' (Q' : Bool → Hp → Prop), j < n → Same H H' → Off (D :: M) H' → (∀ H4, Same H' H4 → Q' (p j) H4) → tt ((wipe σ [i]).set i (some (.int (lo + j)))) H' Q')
    (he : ∀ (j : Nat) H' (Q' : VK), j < n → p j = true → Same H H' → Off (D :: M) H' → (∀ y H4, Same H' H4 → DAt C (D :: M) H4 y (f j) → Q' y H4) → te ((wipe σ [i]).set i (some (.int (lo + j)))) H' Q')
    (hd : ∀ H', Same H H' → DAt C M H' (.ref D) (.lst (pick p f n)) → Qd H') :
    ∃ W : Nat → Nat → Hp → Prop, (∃ m, W 0 m (upd H D (.lst []))) ∧ ∀ j m H, W j m H →
      ((Itr lo n).stop j H ∧ Qd H) ∨ ((Itr lo n).go j H ∧ ∃ Nx : Hp → Prop, (∀ H', Nx H' → ∃ m', m' < m ∧ W (j + 1) m' H') ∧ ∀ x H', (Itr lo n).yld j H x H' → gName i x (wipe σ [i]) H' fun σ2 H2 => wipe σ2 [i] = wipe σ [i] ∧ tt σ2 H2 fun b H3 =>
        if b = true then te σ2 H3 fun y H4 => ∃ acc, H4 D = some (.lst acc) ∧ acc.length < sizeLine ∧ Nx (upd H4 D (.lst (acc ++ [y]))) else Nx H3) := by
  refine lc_range (LcInv C M H D p f) (LcInv.start hD) (fun j H1 hj x => ?_) (fun H1 x => ?_)
  · refine ⟨wipe_one σ i _, ht j H1 _ hj x.1 (x.off off) fun H2 s2 => ?_⟩
    cases hp : p j with
    | true =>
      refine iteT (he j H2 _ hj hp (x.1.trans s2) ((x.off off).same s2) fun y H4 s4 d => ?_)
      exact x.turn hD hp (s2.trans s4) d (Nat.lt_of_lt_of_le hj hn)
    | false => exact iteF (x.skip hp s2)
  · obtain ⟨s, d⟩ := x.done hD off
    exact hd H1 s d
/-- [e for x in xs if t], xs a list -/
theorem lc_listF {a : Addr} {xs : List V} (p : Nat → Bool) (f : Nat → Dat) (sq : SqL K H a xs) (off : Off M H) (hD : H D = none) (hn : xs.length ≤ sizeLine)
    (ht : ∀ (j : Nat) (x : V) H' (Q' : Bool → Hp → Prop), xs[j]? = some x → Same H H' → Off (D :: M) H' → (∀ H4, Same H' H4 → Q' (p j) H4) → tt ((wipe σ [i]).set i (some x)) H' Q')
    (he : ∀ (j : Nat) (x : V) H' (Q' : VK), xs[j]? = some x → p j = true → Same H H' → Off (D :: M) H' → (∀ y H4, Same H' H4 → DAt C (D :: M) H4 y (f j) → Q' y H4) → te ((wipe σ [i]).set i (some x)) H' Q')
    (hd : ∀ H', Same H H' → DAt C M H' (.ref D) (.lst (pick p f xs.length)) → Qd H') :
    ∃ W : Nat → Nat → Hp → Prop, (∃ m, W 0 m (upd H D (.lst []))) ∧ ∀ j m H, W j m H →
      ((Itl K a).stop j H ∧ Qd H) ∨ ((Itl K a).go j H ∧ ∃ Nx : Hp → Prop, (∀ H', Nx H' → ∃ m', m' < m ∧ W (j + 1) m' H') ∧ ∀ x H', (Itl K a).yld j H x H' → gName i x (wipe σ [i]) H' fun σ2 H2 => wipe σ2 [i] = wipe σ [i] ∧ tt σ2 H2 fun b H3 =>
        if b = true then te σ2 H3 fun y H4 => ∃ acc, H4 D = some (.lst acc) ∧ acc.length < sizeLine ∧ Nx (upd H4 D (.lst (acc ++ [y]))) else Nx H3) := by
  refine lc_list (xs := xs) (LcInv C M H D p f) (LcInv.start hD) (fun j H1 _ x => x.1.seq sq) (fun j x0 H1 hj x => ?_) (fun H1 x => ?_)
  · have hlt : j < xs.length := by
      rcases Nat.lt_or_ge j xs.length with z | z
      · exact z
      · rw [List.getElem?_eq_none z] at hj; cases hj
    refine ⟨wipe_one σ i _, ht j x0 H1 _ hj x.1 (x.off off) fun H2 s2 => ?_⟩
    cases hp : p j with
    | true =>
      refine iteT (he j x0 H2 _ hj hp (x.1.trans s2) ((x.off off).same s2) fun y H4 s4 d => ?_)
      exact x.turn hD hp (s2.trans s4) d (Nat.lt_of_lt_of_le hlt hn)
    | false => exact iteF (x.skip hp s2)
  · obtain ⟨s, d⟩ := x.done hD off
    exact hd H1 s d
/-- every item is kept -/
theorem pick_all (f : Nat → Dat) (n : Nat) : pick (fun _ => true) f n = (List.range n).map f := by
  unfold pick
  rw [List.filter_eq_self.mpr (fun _ _ => rfl)]
theorem range_getD {α : Type} (g : α → Dat) (d : α) : ∀ l : List α, (List.range l.length).map (fun j => g (l.getD j d)) = l.map g := by
  intro l
  apply List.ext_getElem?
  intro j
  rw [List.getElem?_map, List.getElem?_map]
  by_cases h : j < l.length
  · rw [List.getElem?_range h]
    simp [h]
  · rw [List.getElem?_eq_none (by rw [List.length_range]; omega), List.getElem?_eq_none (by omega)]
    rfl
/-- [e for x in xs]: es are the items made -/
theorem lc_map {a : Addr} {xs : List V} {es : List Dat} (sq : SqL K H a xs) (off : Off M H) (hD : H D = none) (hl : xs.length = es.length) (hn : xs.length ≤ sizeLine)
    (he : ∀ (j : Nat) (x : V) (e : Dat) H' (Q' : VK), xs[j]? = some x → es[j]? = some e → Same H H' → Off (D :: M) H' → (∀ y H4, Same H' H4 → DAt C (D :: M) H4 y e → Q' y H4) → te ((wipe σ [i]).set i (some x)) H' Q')
    (hd : ∀ H', Same H H' → DAt C M H' (.ref D) (.lst es) → Qd H') :
    ∃ W : Nat → Nat → Hp → Prop, (∃ m, W 0 m (upd H D (.lst []))) ∧ ∀ j m H, W j m H →
      ((Itl K a).stop j H ∧ Qd H) ∨ ((Itl K a).go j H ∧ ∃ Nx : Hp → Prop, (∀ H', Nx H' → ∃ m', m' < m ∧ W (j + 1) m' H') ∧ ∀ x H', (Itl K a).yld j H x H' → gName i x (wipe σ [i]) H' fun σ2 H2 => wipe σ2 [i] = wipe σ [i] ∧ tYes σ2 H2 fun b H3 =>
        if b = true then te σ2 H3 fun y H4 => ∃ acc, H4 D = some (.lst acc) ∧ acc.length < sizeLine ∧ Nx (upd H4 D (.lst (acc ++ [y]))) else Nx H3) := by
  refine lc_listF (C := C) (tt := tYes) (fun _ => true) (fun j => es.getD j (.int 0)) sq off hD hn (fun j x H' Q' _ _ _ q => q H' (Same.refl _)) (fun j x H' Q' hj _ s o q => ?_) (fun H' s d => ?_)
  · have hlt : j < es.length := by
      rw [← hl]
      rcases Nat.lt_or_ge j xs.length with z | z
      · exact z
      · rw [List.getElem?_eq_none z] at hj; cases hj
    refine he j x es[j] H' Q' hj (List.getElem?_eq_getElem hlt) s o fun y H4 s4 d => q y H4 s4 ?_
    have z : es.getD j (.int 0) = es[j] := by simp [hlt]
    rw [z]
    exact d
  · refine hd H' s ?_
    rw [pick_all, hl] at d
    have z := range_getD (fun e : Dat => e) (.int 0) es
    rw [List.map_id'] at z
    rw [z] at d
    exact d
/-- [e for c in text] -/
theorem lc_text {x : Str} {es : List Dat} (off : Off M H) (hD : H D = none) (hl : x.cps.size = es.length) (hn : x.cps.size ≤ sizeLine)
    (he : ∀ (j : Nat) (c : Nat) (e : Dat) H' (Q' : VK), x.cps[j]? = some c → es[j]? = some e → Same H H' → Off (D :: M) H' → (∀ y H4, Same H' H4 → DAt C (D :: M) H4 y e → Q' y H4) → te ((wipe σ [i]).set i (some (.str ⟨#[c]⟩))) H' Q')
    (hd : ∀ H', Same H H' → DAt C M H' (.ref D) (.lst es) → Qd H') :
    ∃ W : Nat → Nat → Hp → Prop, (∃ m, W 0 m (upd H D (.lst []))) ∧ ∀ j m H, W j m H →
      ((Its x).stop j H ∧ Qd H) ∨ ((Its x).go j H ∧ ∃ Nx : Hp → Prop, (∀ H', Nx H' → ∃ m', m' < m ∧ W (j + 1) m' H') ∧ ∀ v H', (Its x).yld j H v H' → gName i v (wipe σ [i]) H' fun σ2 H2 => wipe σ2 [i] = wipe σ [i] ∧ tYes σ2 H2 fun b H3 =>
        if b = true then te σ2 H3 fun y H4 => ∃ acc, H4 D = some (.lst acc) ∧ acc.length < sizeLine ∧ Nx (upd H4 D (.lst (acc ++ [y]))) else Nx H3) := by
  refine ⟨fun j m H' => j + m = x.cps.size ∧ LcInv C M H D (fun _ => true) (fun j => es.getD j (.int 0)) j H', ⟨x.cps.size, by omega, LcInv.start hD⟩, fun j m H1 hw => ?_⟩
  obtain ⟨hm, I⟩ := hw
  by_cases hj : j < x.cps.size
  · right
    refine ⟨hj, fun H' => LcInv C M H D (fun _ => true) (fun j => es.getD j (.int 0)) (j + 1) H', fun H' h' => ⟨m - 1, by omega, by omega, h'⟩, fun v H' hy => ?_⟩
    obtain ⟨rfl, c, hc, rfl⟩ := hy
    have hlt : j < es.length := by omega
    refine ⟨wipe_one σ i _, ?_⟩
    show te ((wipe σ [i]).set i (some (.str ⟨#[c]⟩))) H' (fun y H4 => ∃ acc, H4 D = some (.lst acc) ∧ acc.length < sizeLine ∧ LcInv C M H D (fun _ => true) (fun j => es.getD j (.int 0)) (j + 1) (upd H4 D (.lst (acc ++ [y]))))
    refine he j c es[j] H' _ hc (List.getElem?_eq_getElem hlt) I.1 (I.off off) fun y H4 s4 d => ?_
    have z : es.getD j (.int 0) = es[j] := by simp [hlt]
    exact I.turn hD rfl s4 (by show DAt C (D :: M) H4 y (es.getD j (.int 0)); rw [z]; exact d) (Nat.lt_of_lt_of_le hj hn)
  · left
    have e : j = x.cps.size := by omega
    obtain ⟨s, d⟩ := I.done hD off
    refine ⟨by show x.cps.size ≤ j; omega, hd H1 s ?_⟩
    rw [pick_all, e, hl] at d
    have z := range_getD (fun e : Dat => e) (.int 0) es
    rw [List.map_id'] at z
    rw [z] at d
    exact d
end
end Pg

/-! PgE: number_list, word_octets, word_value -/
namespace Pg
open PySem PySem.Spec PyProof.Rows L2
section
variable {P : Program} {w : World} {K : PySem.W.Frag} {mg : Str → Option Value} {base : Heap} {C : Addr} {f : Addr} {fd : FuncData}
theorem ok_number_list (D : Df K mg "number_list" s_number_list p_number_list f fd) (O_list_value : Own P w K mg base CX0 3 "list_value" p_list_value (spListV C)) (O_integer_value : Own P w K mg base CX0 3 "integer_value" p_integer_value (spInteger C)) :
    Own P w K mg base CX0 4 "number_list" p_number_list (spNumList C) := by
  refine D.own (D.F.ok sc_number_list (fun vs H Q E h => ?_) (fun cdv A outer s H vs Q E hr h => ⟨_, pss_one (ps_ret (pe_own O_list_value hr (pa_cons (pe_lc (own := [("number", 1)]) (g := gName 1) (tt := tYes) rfl sc_number_list.nd (pi_list (pv 0)) (blkOk_by (N := n_number_list) (sc := defScope s_number_list) (by decide +kernel)) (fun _ _ _ _ _ => pg_name (i := 1) sc_number_list.nd rfl (Or.inl rfl)) (fun _ _ _ _ _ => pts_nil) (fun _ _ _ _ _ => (pe_own O_integer_value hr (pa_cons (pv 1) pa_nil)))) pa_nil))), ?_⟩))
  · obtain ⟨v, ns, M, rfl, _⟩ := h
    rfl
  · obtain ⟨v, ns, M, rfl, off, hz, d, g⟩ := h
    obtain ⟨a, rfl, _, ea⟩ := d.dIAt
    refine ⟨_, rfl, a, rfl, ⟨_, SqL.of ea⟩, fun D hD => lc_map (C := C) (M := M) (es := ns.map dInt) (SqL.of ea) off hD (by simp) (by simpa using hz) (fun j x e H' Q' hx he s o q => ?_) (fun H' s d' => ?_)⟩
    · rw [List.getElem?_map] at hx he
      cases z : ns[j]? with
      | none => rw [z] at hx; cases hx
      | some n =>
        rw [z] at hx he
        cases hx
        cases he
        exact ⟨_, rfl, n, D :: M, rfl, o, fun r H4 s4 d4 => q r H4 s4 d4⟩
    · exact ⟨_, _, M, rfl, off.same s, d', fun r H4 s4 d4 => g r H4 (s.trans s4) d4⟩
theorem codes_len (x : Str) : (codes x).length = x.cps.size := by simp [codes]
theorem ok_word_octets (D : Df K mg "word_octets" s_word_octets p_word_octets f fd) (B : Blt mg) : Own P w K mg base CX0 1 "word_octets" p_word_octets (spWordOctets C) := by
  refine D.own (D.F.ok sc_word_octets (fun vs H Q E h => ?_) (fun cdv A outer s H vs Q E hr h => ⟨_, pss_one (ps_ret (pe_lc (own := [("sign", 1)]) (g := gName 1) (tt := tYes) rfl sc_word_octets.nd (pi_str (pv 0)) (blkOk_by (N := n_word_octets) (sc := defScope s_word_octets) (by decide +kernel)) (fun _ _ _ _ _ => pg_name (i := 1) sc_word_octets.nd rfl (Or.inl rfl)) (fun _ _ _ _ _ => pts_nil) (fun _ _ _ _ _ => (pe_callB call_ord rfl B.ord boot_ord (pa_cons (pv 1) pa_nil))))), ?_⟩))
  · obtain ⟨x, M, rfl, _⟩ := h
    rfl
  · obtain ⟨x, M, rfl, off, hz, g⟩ := h
    refine ⟨_, rfl, x, rfl, fun D hD => lc_text (C := C) (M := M) (es := (codes x).map Dat.int) off hD (by rw [List.length_map, codes_len]) hz (fun j c e H' Q' hx he s o q => ?_) (fun H' s d' => g _ _ s d')⟩
    have hc : (codes x)[j]? = some (natI c) := by
      unfold codes
      rw [List.getElem?_map, Array.getElem?_toList, hx]
      rfl
    rw [List.getElem?_map, hc] at he
    cases he
    exact ⟨_, rfl, ⟨#[c]⟩, rfl, rfl, q _ _ (Same.refl _) (.int _)⟩
theorem ok_word_value (D : Df K mg "word_value" s_word_value p_word_value f fd) (O_text_value : Own P w K mg base CX0 3 "text_value" p_text_value (spText C)) (O_word_octets : Own P w K mg base CX0 1 "word_octets" p_word_octets (spWordOctets C)) :
    Own P w K mg base CX0 4 "word_value" p_word_value (spWordValue C) := by
  refine D.own (D.F.ok sc_word_value (fun vs H Q E h => ?_) (fun cdv A outer s H vs Q E hr h => ⟨_, pss_one (ps_ret (pe_own O_text_value hr (pa_cons (pe_own O_word_octets hr (pa_cons (pv 0) pa_nil)) pa_nil))), ?_⟩))
  · obtain ⟨x, M, rfl, _⟩ := h
    rfl
  · obtain ⟨x, M, rfl, off, hz, g⟩ := h
    refine ⟨_, rfl, x, M, rfl, off, hz, fun r H1 s1 d1 => ?_⟩
    exact ⟨_, _, M, rfl, off.same s1, d1, fun r H2 s2 d2 => g _ _ (s1.trans s2) d2⟩
end
end Pg

/-! PgW: octets and values as the program has them, in plain Lean -/
namespace Pg
/-- octets as numbers -/
def octs (bs : List UInt8) : List Int := bs.map fun b => (b.toNat : Int)
theorem octs_length (bs : List UInt8) : (octs bs).length = bs.length := by simp [octs]
theorem octs_append (a b : List UInt8) : octs (a ++ b) = octs a ++ octs b := by simp [octs]
theorem octs_get {bs : List UInt8} {i : Nat} {b : UInt8} (h : bs[i]? = some b) : (octs bs)[i]? = some (b.toNat : Int) := by simp [octs, h]
mutual
def datOf : RWire.Value → Dat
  | .nothing => .val 0 0 [] [] []
  | .null => .val 1 0 [] [] []
  | .bool b => .val (if b then 3 else 2) 0 [] [] []
  | .int i => .val 4 i [] [] []
  | .text u => .val 6 0 (octs u) [] []
  | .list l => .val 7 0 [] [] (datsOf l)
  | .record l => .val 8 0 [] (namesOf l) (datsOfE l)
  | .big _ => .val 0 0 [] [] []
  | .octets _ => .val 0 0 [] [] []
  | .wide _ => .val 0 0 [] [] []
def datsOf : List RWire.Value → List Dat
  | [] => []
  | v :: r => datOf v :: datsOf r
def datsOfE : List (RWire.Text × RWire.Value) → List Dat
  | [] => []
  | e :: r => datOf e.2 :: datsOfE r
def namesOf : List (RWire.Text × RWire.Value) → List (List Int)
  | [] => []
  | e :: r => octs e.1 :: namesOf r
end
mutual
/-- the kinds of values that this document has -/
def plain : RWire.Value → Bool
  | .big _ => false
  | .octets _ => false
  | .wide _ => false
  | .list l => plains l
  | .record l => plainsE l
  | _ => true
def plains : List RWire.Value → Bool
  | [] => true
  | v :: r => plain v && plains r
def plainsE : List (RWire.Text × RWire.Value) → Bool
  | [] => true
  | e :: r => plain e.2 && plainsE r
end
mutual
theorem plain_of : ∀ v : RWire.Value, RWire.noBig v = true → RWire.noOctets v = true → RWire.noWide v = true → plain v = true
  | .nothing, _, _, _ => rfl
  | .null, _, _, _ => rfl
  | .bool _, _, _, _ => rfl
  | .int _, _, _, _ => rfl
  | .big _, h, _, _ => by simp [RWire.noBig] at h
  | .text _, _, _, _ => rfl
  | .octets _, _, h, _ => by simp [RWire.noOctets] at h
  | .wide _, _, _, h => by simp [RWire.noWide] at h
  | .list l, h1, h2, h3 => by
    simp only [RWire.noBig, RWire.noOctets, RWire.noWide] at h1 h2 h3
    simp only [plain]
    exact plains_of l h1 h2 h3
  | .record l, h1, h2, h3 => by
    simp only [RWire.noBig, RWire.noOctets, RWire.noWide] at h1 h2 h3
    simp only [plain]
    exact plainsE_of l h1 h2 h3
theorem plains_of : ∀ l : List RWire.Value, RWire.noBigMany l = true → RWire.noOctetsMany l = true → RWire.noWideMany l = true → plains l = true
  | [], _, _, _ => rfl
  | v :: r, h1, h2, h3 => by
    simp only [RWire.noBigMany, RWire.noOctetsMany, RWire.noWideMany, Bool.and_eq_true] at h1 h2 h3
    simp only [plains, Bool.and_eq_true]
    exact ⟨plain_of v h1.1 h2.1 h3.1, plains_of r h1.2 h2.2 h3.2⟩
theorem plainsE_of : ∀ l : List (RWire.Text × RWire.Value), RWire.noBigEntries l = true → RWire.noOctetsEntries l = true → RWire.noWideEntries l = true → plainsE l = true
  | [], _, _, _ => rfl
  | e :: r, h1, h2, h3 => by
    simp only [RWire.noBigEntries, RWire.noOctetsEntries, RWire.noWideEntries, Bool.and_eq_true] at h1 h2 h3
    simp only [plainsE, Bool.and_eq_true]
    exact ⟨plain_of e.2 h1.1 h2.1 h3.1, plainsE_of r h1.2 h2.2 h3.2⟩
end
theorem datsOf_length : ∀ l : List RWire.Value, (datsOf l).length = l.length
  | [] => by simp [datsOf]
  | _ :: r => by simp [datsOf, datsOf_length r]
theorem datsOfE_length : ∀ l : List (RWire.Text × RWire.Value), (datsOfE l).length = l.length
  | [] => by simp [datsOfE]
  | _ :: r => by simp [datsOfE, datsOfE_length r]
theorem namesOf_length : ∀ l : List (RWire.Text × RWire.Value), (namesOf l).length = l.length
  | [] => by simp [namesOf]
  | _ :: r => by simp [namesOf, namesOf_length r]
theorem datsOf_snoc : ∀ (l : List RWire.Value) (v : RWire.Value), datsOf (l ++ [v]) = datsOf l ++ [datOf v]
  | [], v => by simp [datsOf]
  | x :: r, v => by simp [datsOf, datsOf_snoc r v]
theorem datsOfE_snoc : ∀ (l : List (RWire.Text × RWire.Value)) (e : RWire.Text × RWire.Value), datsOfE (l ++ [e]) = datsOfE l ++ [datOf e.2]
  | [], e => by simp [datsOfE]
  | x :: r, e => by simp [datsOfE, datsOfE_snoc r e]
theorem namesOf_snoc : ∀ (l : List (RWire.Text × RWire.Value)) (e : RWire.Text × RWire.Value), namesOf (l ++ [e]) = namesOf l ++ [octs e.1]
  | [], e => by simp [namesOf]
  | x :: r, e => by simp [namesOf, namesOf_snoc r e]
/-! ### reading -/
theorem front_some : ∀ {k : Nat} {b p r : List UInt8}, RWire.front k b = some (p, r) → k ≤ b.length ∧ p = b.take k ∧ r = b.drop k
  | 0, b, p, r, h => by
    simp only [RWire.front] at h
    cases h
    simp
  | k + 1, [], p, r, h => by simp [RWire.front] at h
  | k + 1, a :: b, p, r, h => by
    simp only [RWire.front] at h
    cases e : RWire.front k b with
    | none => rw [e] at h; simp at h
    | some q =>
      rw [e] at h
      obtain ⟨h1, h2, h3⟩ := front_some (p := q.1) (r := q.2) (by rw [e])
      simp only [Option.some.injEq, Prod.mk.injEq] at h
      obtain ⟨e1, e2⟩ := h
      refine ⟨by simp; exact h1, ?_, ?_⟩
      · rw [← e1, h2]; simp
      · rw [← e2, h3]; simp
theorem readNum_some {k n : Nat} {b r : List UInt8} (h : RWire.readNum k b = some (n, r)) : k ≤ b.length ∧ n = RWire.numOf (b.take k) ∧ r = b.drop k := by
  unfold RWire.readNum at h
  cases e : RWire.front k b with
  | none => rw [e] at h; simp at h
  | some q =>
    rw [e] at h
    obtain ⟨h1, h2, h3⟩ := front_some (p := q.1) (r := q.2) (by rw [e])
    simp only [Option.some.injEq, Prod.mk.injEq] at h
    exact ⟨h1, by rw [← h.1, h2], by rw [← h.2, h3]⟩
theorem numOf_lt : ∀ l : List UInt8, RWire.numOf l < 256 ^ l.length
  | [] => by simp [RWire.numOf]
  | a :: r => by
    have h := numOf_lt r
    have h2 := a.toNat_lt
    simp only [RWire.numOf, List.length_cons, Nat.pow_succ]
    omega
/-- the number in the i last of many octets from at on, the last one first -/
def lowI (bs : List UInt8) (at_ many i : Nat) : Nat := RWire.numOf ((bs.drop (at_ + many - i)).take i)
theorem lowI_zero (bs : List UInt8) (a m : Nat) : lowI bs a m 0 = 0 := by simp [lowI, RWire.numOf]
theorem lowI_succ {bs : List UInt8} {a m i : Nat} {b : UInt8} (hi : i < m) (h : bs[a + m - 1 - i]? = some b) : lowI bs a m (i + 1) = b.toNat + 256 * lowI bs a m i := by
  unfold lowI
  have hlt : a + m - 1 - i < bs.length := by
    rcases Nat.lt_or_ge (a + m - 1 - i) bs.length with z | z
    · exact z
    · rw [List.getElem?_eq_none z] at h; cases h
  have e1 : a + m - (i + 1) = a + m - 1 - i := by omega
  have e2 : a + m - i = a + m - 1 - i + 1 := by omega
  rw [List.getElem?_eq_getElem hlt] at h
  cases h
  rw [e1, e2, List.drop_eq_getElem_cons hlt, List.take_succ_cons]
  rfl
theorem lowI_all (bs : List UInt8) (a m : Nat) : lowI bs a m m = RWire.numOf ((bs.drop a).take m) := by
  unfold lowI
  rw [Nat.add_sub_cancel]
theorem lowI_lt {bs : List UInt8} {a m i : Nat} : lowI bs a m i < 256 ^ i := by
  unfold lowI
  refine Nat.lt_of_lt_of_le (numOf_lt _) (Nat.pow_le_pow_right (by omega) ?_)
  exact List.length_take_le _ _
theorem readText_some {b u r : List UInt8} (h : RWire.readText b = some (u, r)) : 4 ≤ b.length ∧ 4 + RWire.numOf (b.take 4) ≤ b.length ∧ u = (b.drop 4).take (RWire.numOf (b.take 4)) ∧ r = b.drop (4 + RWire.numOf (b.take 4)) := by
  unfold RWire.readText at h
  cases e : RWire.readNum 4 b with
  | none => rw [e] at h; simp at h
  | some q =>
    rw [e] at h
    obtain ⟨h1, h2, h3⟩ := readNum_some (n := q.1) (r := q.2) (by rw [e])
    have h4 : RWire.front q.1 q.2 = some (u, r) := h
    obtain ⟨g1, g2, g3⟩ := front_some h4
    rw [h2] at g1 g2 g3
    rw [h3] at g1 g2 g3
    rw [List.length_drop] at g1
    rw [List.drop_drop] at g3
    exact ⟨h1, by omega, g2, g3⟩
theorem readInt_some {b r : List UInt8} {x : RWire.Value} (h : RWire.readInt b = some (x, r)) : 8 ≤ b.length ∧ x = .int (RWire.intOf (RWire.numOf (b.take 8))) ∧ r = b.drop 8 := by
  unfold RWire.readInt at h
  cases e : RWire.readNum 8 b with
  | none => rw [e] at h; simp at h
  | some q =>
    rw [e] at h
    obtain ⟨h1, h2, h3⟩ := readNum_some (n := q.1) (r := q.2) (by rw [e])
    simp only at h
    split at h
    · simp only [Option.some.injEq, Prod.mk.injEq] at h
      exact ⟨h1, by rw [← h.1, h2], by rw [← h.2, h3]⟩
    · simp at h
theorem readWords_some {b r : List UInt8} {x : RWire.Value} (h : RWire.readWords b = some (x, r)) : ∃ u, x = .text u ∧ RWire.readText b = some (u, r) := by
  unfold RWire.readWords at h
  cases e : RWire.readText b with
  | none => rw [e] at h; simp at h
  | some q =>
    rw [e] at h
    simp only [Option.some.injEq, Prod.mk.injEq] at h
    exact ⟨q.1, h.1.symm, by rw [← h.2]⟩
theorem readList_some {f : RWire.Octets → Option (RWire.Value × RWire.Octets)} {b r : List UInt8} {x : RWire.Value} (h : RWire.readList f b = some (x, r)) :
    4 ≤ b.length ∧ ∃ l, x = .list l ∧ RWire.readMany f (RWire.numOf (b.take 4)) (b.drop 4) = some (l, r) := by
  unfold RWire.readList at h
  cases e : RWire.readNum 4 b with
  | none => rw [e] at h; simp at h
  | some p =>
    rw [e] at h
    obtain ⟨h1, h2, h3⟩ := readNum_some (n := p.1) (r := p.2) (by rw [e])
    simp only at h
    cases e2 : RWire.readMany f p.1 p.2 with
    | none => rw [e2] at h; simp at h
    | some q =>
      rw [e2] at h
      simp only [Option.some.injEq, Prod.mk.injEq] at h
      refine ⟨h1, q.1, h.1.symm, ?_⟩
      rw [← h2, ← h3, e2, ← h.2]
theorem readRecord_some {f : RWire.Octets → Option (RWire.Value × RWire.Octets)} {b r : List UInt8} {x : RWire.Value} (h : RWire.readRecord f b = some (x, r)) :
    4 ≤ b.length ∧ ∃ l, x = .record l ∧ RWire.readMany (RWire.readEntry f) (RWire.numOf (b.take 4)) (b.drop 4) = some (l, r) := by
  unfold RWire.readRecord at h
  cases e : RWire.readNum 4 b with
  | none => rw [e] at h; simp at h
  | some p =>
    rw [e] at h
    obtain ⟨h1, h2, h3⟩ := readNum_some (n := p.1) (r := p.2) (by rw [e])
    simp only at h
    cases e2 : RWire.readMany (RWire.readEntry f) p.1 p.2 with
    | none => rw [e2] at h; simp at h
    | some q =>
      rw [e2] at h
      simp only at h
      split at h
      · simp only [Option.some.injEq, Prod.mk.injEq] at h
        refine ⟨h1, q.1, h.1.symm, ?_⟩
        rw [← h2, ← h3, e2, ← h.2]
      · simp at h
theorem readMany_succ {α : Type} {f : RWire.Octets → Option (α × RWire.Octets)} {k : Nat} {b r : List UInt8} {l : List α} (h : RWire.readMany f (k + 1) b = some (l, r)) :
    ∃ x r1 l2, f b = some (x, r1) ∧ RWire.readMany f k r1 = some (l2, r) ∧ l = x :: l2 := by
  unfold RWire.readMany at h
  cases e : f b with
  | none => rw [e] at h; simp at h
  | some p =>
    rw [e] at h
    simp only at h
    cases e2 : RWire.readMany f k p.2 with
    | none => rw [e2] at h; simp at h
    | some q =>
      rw [e2] at h
      simp only [Option.some.injEq, Prod.mk.injEq] at h
      exact ⟨p.1, p.2, q.1, rfl, by rw [e2, ← h.2], h.1.symm⟩
theorem readEntry_some {f : RWire.Octets → Option (RWire.Value × RWire.Octets)} {b r : List UInt8} {e : RWire.Text × RWire.Value} (h : RWire.readEntry f b = some (e, r)) : ∃ r1, RWire.readText b = some (e.1, r1) ∧ f r1 = some (e.2, r) := by
  unfold RWire.readEntry at h
  cases e1 : RWire.readText b with
  | none => rw [e1] at h; simp at h
  | some p =>
    rw [e1] at h
    simp only at h
    cases e2 : f p.2 with
    | none => rw [e2] at h; simp at h
    | some q =>
      rw [e2] at h
      simp only [Option.some.injEq, Prod.mk.injEq] at h
      refine ⟨p.2, ?_, ?_⟩
      · rw [← h.1]
      · rw [e2, ← h.1, ← h.2]
/-- what stands behind a kind octet, by cases -/
inductive Kinds (f : RWire.Octets → Option (RWire.Value × RWire.Octets)) (r : List UInt8) (x : RWire.Value) (r' : List UInt8) : Nat → Prop
  | n0 : x = .nothing → r' = r → Kinds f r x r' 0
  | n1 : x = .null → r' = r → Kinds f r x r' 1
  | n2 : x = .bool false → r' = r → Kinds f r x r' 2
  | n3 : x = .bool true → r' = r → Kinds f r x r' 3
  | n4 : RWire.readInt r = some (x, r') → Kinds f r x r' 4
  | n6 : RWire.readWords r = some (x, r') → Kinds f r x r' 6
  | n7 : RWire.readList f r = some (x, r') → Kinds f r x r' 7
  | n8 : RWire.readRecord f r = some (x, r') → Kinds f r x r' 8
theorem readBig_not {b r : List UInt8} {x : RWire.Value} (h : RWire.readBig b = some (x, r)) (p : plain x = true) : False := by
  unfold RWire.readBig at h
  split at h
  · simp at h
  · split at h
    · simp at h
    · split at h
      · simp at h
      · split at h
        · simp at h
        · simp only [Option.some.injEq, Prod.mk.injEq] at h
          rw [← h.1] at p
          simp [plain] at p
theorem readOctets_not {b r : List UInt8} {x : RWire.Value} (h : RWire.readOctets b = some (x, r)) (p : plain x = true) : False := by
  unfold RWire.readOctets at h
  split at h
  · simp at h
  · simp only [Option.some.injEq, Prod.mk.injEq] at h
    rw [← h.1] at p
    simp [plain] at p
theorem readWide_not {b r : List UInt8} {x : RWire.Value} (h : RWire.readWide b = some (x, r)) (p : plain x = true) : False := by
  unfold RWire.readWide at h
  split at h
  · simp at h
  · split at h
    · simp at h
    · split at h
      · simp only [Option.some.injEq, Prod.mk.injEq] at h
        rw [← h.1] at p
        simp [plain] at p
      · simp at h
theorem kinds_of {f : RWire.Octets → Option (RWire.Value × RWire.Octets)} {r : List UInt8} {x : RWire.Value} {r' : List UInt8} {k : Nat} (h : RWire.readKind f k r = some (x, r')) (p : plain x = true) : Kinds f r x r' k := by
  unfold RWire.readKind at h
  split at h
  · cases h; exact .n0 rfl rfl
  · cases h; exact .n1 rfl rfl
  · cases h; exact .n2 rfl rfl
  · cases h; exact .n3 rfl rfl
  · exact .n4 h
  · exact (readBig_not h p).elim
  · exact .n6 h
  · exact .n7 h
  · exact .n8 h
  · exact (readOctets_not h p).elim
  · exact (readWide_not h p).elim
  · cases h
theorem readText_len {b u r : List UInt8} (h : RWire.readText b = some (u, r)) : r.length ≤ b.length := by
  obtain ⟨_, _, _, h4⟩ := readText_some h
  rw [h4, List.length_drop]
  omega
theorem readMany_len {α : Type} {f : RWire.Octets → Option (α × RWire.Octets)} {ok : α → Prop} (hf : ∀ b x r, f b = some (x, r) → ok x → r.length < b.length) :
    ∀ (k : Nat) (b r : List UInt8) (l : List α), RWire.readMany f k b = some (l, r) → (∀ x ∈ l, ok x) → r.length + k ≤ b.length ∧ l.length = k
  | 0, b, r, l, h, _ => by
    simp only [RWire.readMany] at h
    cases h
    exact ⟨Nat.le_refl _, rfl⟩
  | k + 1, b, r, l, h, hok => by
    obtain ⟨x, r1, l2, h1, h2, rfl⟩ := readMany_succ h
    have a := hf b x r1 h1 (hok x List.mem_cons_self)
    obtain ⟨c, d⟩ := readMany_len hf k r1 r l2 h2 (fun y hy => hok y (List.mem_cons_of_mem _ hy))
    exact ⟨by omega, by simp [d]⟩
theorem plains_mem : ∀ {l : List RWire.Value}, plains l = true → ∀ x ∈ l, plain x = true
  | [], _, x, hx => nomatch hx
  | v :: r, h, x, hx => by
    simp only [plains, Bool.and_eq_true] at h
    rcases List.mem_cons.mp hx with e | e
    · rw [e]; exact h.1
    · exact plains_mem h.2 x e
theorem plainsE_mem : ∀ {l : List (RWire.Text × RWire.Value)}, plainsE l = true → ∀ x ∈ l, plain x.2 = true
  | [], _, x, hx => nomatch hx
  | v :: r, h, x, hx => by
    simp only [plainsE, Bool.and_eq_true] at h
    rcases List.mem_cons.mp hx with e | e
    · rw [e]; exact h.1
    · exact plainsE_mem h.2 x e
theorem readF_len : ∀ (n : Nat) (b r : List UInt8) (x : RWire.Value), RWire.readF n b = some (x, r) → plain x = true → r.length < b.length
  | 0, b, r, x, h, _ => by simp [RWire.readF] at h
  | n + 1, [], r, x, h, _ => by simp [RWire.readF] at h
  | n + 1, k :: b, r, x, h, p => by
    simp only [RWire.readF] at h
    have q := kinds_of h p
    show r.length < b.length + 1
    generalize k.toNat = kk at q
    cases q with
    | n0 _ e => rw [e]; omega
    | n1 _ e => rw [e]; omega
    | n2 _ e => rw [e]; omega
    | n3 _ e => rw [e]; omega
    | n4 e =>
      obtain ⟨_, _, e⟩ := readInt_some e
      rw [e, List.length_drop]
      omega
    | n6 e =>
      obtain ⟨_, _, e⟩ := readWords_some e
      have := readText_len e
      omega
    | n7 e =>
      obtain ⟨h4, l, rfl, e'⟩ := readList_some e
      simp only [plain] at p
      obtain ⟨a, _⟩ := readMany_len (f := RWire.readF n) (ok := fun x => plain x = true) (fun b x r => readF_len n b r x) _ _ _ _ e' (plains_mem p)
      rw [List.length_drop] at a
      omega
    | n8 e =>
      obtain ⟨h4, l, rfl, e'⟩ := readRecord_some e
      simp only [plain] at p
      obtain ⟨a, _⟩ := readMany_len (f := RWire.readEntry (RWire.readF n)) (ok := fun x : RWire.Text × RWire.Value => plain x.2 = true) (fun b x r h q => by
        obtain ⟨r1, t1, t2⟩ := readEntry_some h
        have z1 := readText_len t1
        have z2 := readF_len n r1 r x.2 t2 q
        exact Nat.lt_of_lt_of_le z2 z1) _ _ _ _ e' (plainsE_mem p)
      rw [List.length_drop] at a
      omega
theorem readEntry_len {n : Nat} {b r : List UInt8} {e : RWire.Text × RWire.Value} (h : RWire.readEntry (RWire.readF n) b = some (e, r)) (q : plain e.2 = true) : r.length < b.length := by
  obtain ⟨r1, t1, t2⟩ := readEntry_some h
  have := readText_len t1
  have := readF_len n r1 r e.2 t2 q
  omega
theorem Kinds.split {f : RWire.Octets → Option (RWire.Value × RWire.Octets)} {r : List UInt8} {x : RWire.Value} {r' : List UInt8} {k : Nat} (q : Kinds f r x r' k) :
    (k < 4 ∧ datOf x = .val (k : Int) 0 [] [] [] ∧ r' = r) ∨ (k = 4 ∧ RWire.readInt r = some (x, r')) ∨ (k = 6 ∧ RWire.readWords r = some (x, r')) ∨ (k = 7 ∧ RWire.readList f r = some (x, r')) ∨ (k = 8 ∧ RWire.readRecord f r = some (x, r')) := by
  cases q with
  | n0 e1 e2 => exact .inl ⟨by omega, by rw [e1]; simp [datOf], e2⟩
  | n1 e1 e2 => exact .inl ⟨by omega, by rw [e1]; simp [datOf], e2⟩
  | n2 e1 e2 => exact .inl ⟨by omega, by rw [e1]; simp [datOf], e2⟩
  | n3 e1 e2 => exact .inl ⟨by omega, by rw [e1]; simp [datOf], e2⟩
  | n4 e => exact .inr (.inl ⟨rfl, e⟩)
  | n6 e => exact .inr (.inr (.inl ⟨rfl, e⟩))
  | n7 e => exact .inr (.inr (.inr (.inl ⟨rfl, e⟩)))
  | n8 e => exact .inr (.inr (.inr (.inr ⟨rfl, e⟩)))
/-! ### writing -/
theorem low_succ : ∀ (k n : Nat), RWire.low (k + 1) n = RWire.low k n ++ [UInt8.ofNat (n / 256 ^ k)]
  | 0, n => by simp [RWire.low]
  | k + 1, n => by
    rw [RWire.low, low_succ k (n / 256), RWire.low, List.cons_append, Nat.div_div_eq_div_mul, Nat.pow_succ, Nat.mul_comm]
theorem low_length : ∀ k n : Nat, (RWire.low k n).length = k
  | 0, n => rfl
  | k + 1, n => by simp [RWire.low, low_length k]
theorem octs_low (k n : Nat) : octs (RWire.low (k + 1) n) = octs (RWire.low k n) ++ [((n / 256 ^ k % 256 : Nat) : Int)] := by
  rw [low_succ, octs_append]
  simp [octs]
theorem octs_nil : octs [] = [] := rfl
theorem octs_cons (b : UInt8) (r : List UInt8) : octs (b :: r) = (b.toNat : Int) :: octs r := rfl
theorem many_append : ∀ a b : List RWire.Value, RWire.writeMany (a ++ b) = RWire.writeMany a ++ RWire.writeMany b
  | [], b => by simp [RWire.writeMany]
  | x :: r, b => by simp [RWire.writeMany, many_append r b]
theorem entries_append : ∀ a b : List (RWire.Text × RWire.Value), RWire.writeEntries (a ++ b) = RWire.writeEntries a ++ RWire.writeEntries b
  | [], b => by simp [RWire.writeEntries]
  | x :: r, b => by simp [RWire.writeEntries, entries_append r b]
end Pg

/-! PgF: module wire, reading -/
namespace Pg
open PySem PySem.Spec PyProof.Rows L2
abbrev s_read_low_first : Stmt := top 21
abbrev n_read_low_first : List Str := ["octets", "at", "many", "number", "back"]
abbrev p_read_low_first : List Str := ["octets", "at", "many"]
theorem sc_read_low_first : FnScope n_read_low_first p_read_low_first (defScope s_read_low_first) := ⟨rfl, rfl, rfl, by decide +kernel, rfl, by decide +kernel, by decide +kernel⟩
abbrev s_read_integer : Stmt := top 22
abbrev n_read_integer : List Str := ["octets", "at", "number"]
abbrev p_read_integer : List Str := ["octets", "at"]
theorem sc_read_integer : FnScope n_read_integer p_read_integer (defScope s_read_integer) := ⟨rfl, rfl, rfl, by decide +kernel, rfl, by decide +kernel, by decide +kernel⟩
abbrev s_read_text : Stmt := top 23
abbrev n_read_text : List Str := ["octets", "at", "many"]
abbrev p_read_text : List Str := ["octets", "at"]
theorem sc_read_text : FnScope n_read_text p_read_text (defScope s_read_text) := ⟨rfl, rfl, rfl, by decide +kernel, rfl, by decide +kernel, by decide +kernel⟩
abbrev s_read_values : Stmt := top 24
abbrev n_read_values : List Str := ["octets", "at", "many", "found", "place", "turn", "value"]
abbrev p_read_values : List Str := ["octets", "at", "many"]
theorem sc_read_values : FnScope n_read_values p_read_values (defScope s_read_values) := ⟨rfl, rfl, rfl, by decide +kernel, rfl, by decide +kernel, by decide +kernel⟩
abbrev s_read_record : Stmt := top 25
abbrev n_read_record : List Str := ["octets", "at", "names", "parts", "place", "turn", "name", "part"]
abbrev p_read_record : List Str := ["octets", "at"]
theorem sc_read_record : FnScope n_read_record p_read_record (defScope s_read_record) := ⟨rfl, rfl, rfl, by decide +kernel, rfl, by decide +kernel, by decide +kernel⟩
abbrev s_read_value : Stmt := top 26
abbrev n_read_value : List Str := ["octets", "at", "kind", "content", "place", "parts"]
abbrev p_read_value : List Str := ["octets", "at"]
theorem sc_read_value : FnScope n_read_value p_read_value (defScope s_read_value) := ⟨rfl, rfl, rfl, by decide +kernel, rfl, by decide +kernel, by decide +kernel⟩
section
variable (C : Addr)
/-- octets: at most so many that all is small -/
def spReadLow : Sp := fun vs H Q _ => ∃ (v : V) (bs : List UInt8) (a m : Nat) (M : List Addr), vs = [v, .int a, .int m] ∧ DAt C M H v (dI (octs bs)) ∧ a + m ≤ bs.length ∧ m ≤ 8 ∧ bs.length ≤ 60000 ∧ Q (.int (RWire.numOf ((bs.drop a).take m) : Nat)) H
def spReadInteger : Sp := fun vs H Q _ => ∃ (v : V) (bs : List UInt8) (a : Nat) (M : List Addr), vs = [v, .int a] ∧ DAt C M H v (dI (octs bs)) ∧ a + 8 ≤ bs.length ∧ bs.length ≤ 60000 ∧ Q (.int (RWire.intOf (RWire.numOf ((bs.drop a).take 8)))) H
def spReadText : Sp := fun vs H Q _ => ∃ (v : V) (bs u r : List UInt8) (a : Nat) (M : List Addr), vs = [v, .int a] ∧ Off M H ∧ DAt C M H v (dI (octs bs)) ∧ a ≤ bs.length ∧ bs.length ≤ 60000 ∧ RWire.readText (bs.drop a) = some (u, r) ∧
  ∀ a' : Nat, a' ≤ bs.length → r = bs.drop a' → Gives C M H Q (.tup [dI (octs u), .int a'])
def spReadValue (n : Nat) : Sp := fun vs H Q _ => ∃ (v : V) (bs r : List UInt8) (x : RWire.Value) (a : Nat) (M : List Addr), vs = [v, .int a] ∧ Off M H ∧ DAt C M H v (dI (octs bs)) ∧ a ≤ bs.length ∧ bs.length ≤ 60000 ∧ RWire.readF n (bs.drop a) = some (x, r) ∧ plain x = true ∧
  ∀ a' : Nat, a' ≤ bs.length → r = bs.drop a' → Gives C M H Q (.tup [datOf x, .int a'])
def spReadValues (n : Nat) : Sp := fun vs H Q _ => ∃ (v : V) (bs r : List UInt8) (l : List RWire.Value) (a k : Nat) (M : List Addr), vs = [v, .int a, .int k] ∧ Off M H ∧ DAt C M H v (dI (octs bs)) ∧ a ≤ bs.length ∧ bs.length ≤ 60000 ∧ k < 4294967296 ∧
  RWire.readMany (RWire.readF n) k (bs.drop a) = some (l, r) ∧ plains l = true ∧ ∀ a' : Nat, a' ≤ bs.length → r = bs.drop a' → Gives C M H Q (.tup [.lst (datsOf l), .int a'])
def spReadRecord (n : Nat) : Sp := fun vs H Q _ => ∃ (v : V) (bs r : List UInt8) (x : RWire.Value) (a : Nat) (M : List Addr), vs = [v, .int a] ∧ Off M H ∧ DAt C M H v (dI (octs bs)) ∧ a ≤ bs.length ∧ bs.length ≤ 60000 ∧
  RWire.readRecord (RWire.readF n) (bs.drop a) = some (x, r) ∧ plain x = true ∧ ∀ a' : Nat, a' ≤ bs.length → r = bs.drop a' → Gives C M H Q (.tup [datOf x, .int a'])
end
section
variable {P : Program} {w : World} {K : PySem.W.Frag} {mg : Str → Option Value} {base : Heap} {C : Addr} {f : Addr} {fd : FuncData}
theorem ok_read_low_first (D : Df K mg "read_low_first" s_read_low_first p_read_low_first f fd) (B : Blt mg) : Own P w K mg base CX0 1 "read_low_first" p_read_low_first (spReadLow C) := by
  refine D.own (D.F.ok sc_read_low_first (fun vs H Q E h => ?_) (fun cdv A outer s H vs Q E hr h => ⟨_, pss_cons (ps_set (i := 3) sc_read_low_first.nd rfl (Or.inl rfl) pe_int) (pss_cons (ps_for PassesOwn.never rfl (pi_range1 rfl B.range (pa_cons (pv 2) pa_nil)) (pg_name (i := 4) sc_read_low_first.nd rfl (Or.inl rfl)) (pss_one (ps_set (i := 3) sc_read_low_first.nd rfl (Or.inl rfl) (pe_op op_add (pe_op op_mul (pv 3) pe_int) (pe_ix (ix_listK (K := K) rfl) (pv 0) (pe_op op_sub (pe_op op_sub (pe_op op_add (pv 1) (pv 2)) pe_int) (pv 4)) (fun _ _ => rfl)))))) (pss_one (ps_ret (pv 3)))), ?_⟩))
  · obtain ⟨v, bs, a, m, M, rfl, _⟩ := h
    rfl
  · obtain ⟨v, bs, a, m, M, rfl, d, ha, hm, hb, q⟩ := h
    obtain ⟨o, rfl, _, eo⟩ := d.dIAt
    refine ⟨_, rfl, (m : Int), rfl, by omega, by omega, for_range (lo := 0) (n := m) (fun i σ H' => H' = H ∧ ∃ z : Option V, σ = [some (.ref o), some (.int a), some (.int m), some (.int (lowI bs a m i : Nat)), z]) ⟨rfl, none, by rw [lowI_zero]; rfl⟩ ?_ ?_⟩
    · rintro i σ H' hi ⟨rfl, z, rfl⟩
      have hlt : a + m - 1 - i < bs.length := by omega
      have hx : (octs bs)[a + m - 1 - i]? = some ((bs[a + m - 1 - i].toNat : Nat) : Int) := octs_get (List.getElem?_eq_getElem hlt)
      have lt : lowI bs a m i < 256 ^ 7 := Nat.lt_of_lt_of_le lowI_lt (Nat.pow_le_pow_right (by omega) (by omega))
      have lt2 : (256 : Nat) ^ 7 = 72057594037927936 := by decide
      have st := lowI_succ (bs := bs) (a := a) (m := m) hi (List.getElem?_eq_getElem hlt)
      refine ⟨_, rfl, _, _, rfl, rfl, .inl ⟨by omega, by omega⟩, _, rfl, _, rfl, _, rfl, _, _, rfl, rfl, _, _, rfl, rfl, _, rfl, _, _, rfl, rfl, o, _, _, V.int ((bs[a + m - 1 - i].toNat : Nat) : Int), rfl, rfl, SqL.of eo, at_of (j := a + m - 1 - i) (by omega) (by rw [List.getElem?_map, hx]; rfl), _, _, rfl, rfl, ?_⟩
      refine ⟨rfl, some (.int (0 + (i : Int))), ?_⟩
      rw [st]
      have e : ((lowI bs a m i : Nat) : Int) * 256 + ((bs[a + m - 1 - i].toNat : Nat) : Int) = ((bs[a + m - 1 - i].toNat + 256 * lowI bs a m i : Nat) : Int) := by omega
      rw [← e]
      rfl
    · rintro σ H' ⟨rfl, z, rfl⟩
      refine ⟨_, rfl, ?_⟩
      rw [lowI_all]
      exact q
theorem ok_read_integer (D : Df K mg "read_integer" s_read_integer p_read_integer f fd) (O_read_low_first : Own P w K mg base CX0 1 "read_low_first" p_read_low_first (spReadLow C)) : Own P w K mg base CX0 2 "read_integer" p_read_integer (spReadInteger C) := by
  refine D.own (D.F.ok sc_read_integer (fun vs H Q E h => ?_) (fun cdv A outer s H vs Q E hr h => ⟨_, pss_cons (ps_set (i := 2) sc_read_integer.nd rfl (Or.inl rfl) (pe_own O_read_low_first hr (pa_cons (pv 0) (pa_cons (pv 1) (pa_cons pe_int pa_nil))))) (pss_cons (ps_if (pt_cmpR op_ge (pv 2) (pe_op op_pow pe_int pe_int) (nomark _)) (pss_one (ps_ret (pe_op op_sub (pv 2) (pe_op op_pow pe_int pe_int)))) pss_nil) (pss_one (ps_ret (pv 2)))), ?_⟩))
  · obtain ⟨v, bs, a, M, rfl, _⟩ := h
    rfl
  · obtain ⟨v, bs, a, M, rfl, d, ha, hb, q⟩ := h
    refine ⟨_, rfl, _, rfl, v, bs, a, 8, M, rfl, d, ha, by decide, hb, ?_⟩
    refine ⟨_, rfl, _, _, rfl, rfl, ⟨by decide, by decide, by decide⟩, _, _, rfl, rfl, _, rfl, ?_⟩
    have e63 : (2 : Int) ^ (63 : Int).toNat = 9223372036854775808 := by decide
    have e64 : (2 : Int) ^ (64 : Int).toNat = 18446744073709551616 := by decide
    unfold RWire.intOf at q
    by_cases c : RWire.numOf ((bs.drop a).take 8) < 9223372036854775808
    · rw [if_pos (decide_eq_true c)] at q
      exact itF (decide_eq_false (by rw [e63]; omega)) ⟨_, rfl, q⟩
    · rw [if_neg (by rw [decide_eq_true_eq]; exact c)] at q
      refine itT (decide_eq_true (by rw [e63]; omega)) ?_
      refine ⟨_, rfl, _, _, rfl, rfl, ⟨by decide, by decide, by decide⟩, _, _, rfl, rfl, ?_⟩
      rw [e64]
      exact q
theorem cut_nat {xs : List V} {lo hi : Nat} (h : hi ≤ xs.length) (hl : lo ≤ hi) : cutV xs (some (lo : Int)) (some (hi : Int)) = (xs.drop lo).take (hi - lo) := by
  unfold cutV
  rw [HT.sIx_nat, HT.sIx_nat, Nat.min_eq_left (Nat.le_trans hl h), Nat.min_eq_left h]
theorem octs_cut (bs : List UInt8) (lo n : Nat) : (((octs bs).map V.int).drop lo).take n = (octs ((bs.drop lo).take n)).map V.int := by
  simp [octs, List.map_drop, List.map_take]
theorem ok_read_text (D : Df K mg "read_text" s_read_text p_read_text f fd) (O_read_low_first : Own P w K mg base CX0 1 "read_low_first" p_read_low_first (spReadLow C)) : Own P w K mg base CX0 2 "read_text" p_read_text (spReadText C) := by
  refine D.own (D.F.ok sc_read_text (fun vs H Q E h => ?_) (fun cdv A outer s H vs Q E hr h => ⟨_, pss_cons (ps_set (i := 2) sc_read_text.nd rfl (Or.inl rfl) (pe_own O_read_low_first hr (pa_cons (pv 0) (pa_cons (pv 1) (pa_cons pe_int pa_nil))))) (pss_one (ps_ret (pe_tup (pa_cons (pe_slice sl_list (pv 0) (po_some (pe_op op_add (pv 1) pe_int)) (po_some (pe_op op_add (pe_op op_add (pv 1) pe_int) (pv 2)))) (pa_cons (pe_op op_add (pe_op op_add (pv 1) pe_int) (pv 2)) pa_nil))))), ?_⟩))
  · obtain ⟨v, bs, u, r, a, M, rfl, _⟩ := h
    rfl
  · obtain ⟨v, bs, u, r, a, M, rfl, off, d, ha, hb, ht, g⟩ := h
    obtain ⟨h1, h2, h3, h4⟩ := readText_some ht
    rw [List.length_drop] at h1 h2
    rw [List.drop_drop] at h3 h4
    obtain ⟨o, rfl, _, eo⟩ := d.dIAt
    refine ⟨_, rfl, _, rfl, .ref o, bs, a, 4, M, rfl, d, by omega, by decide, hb, ?_⟩
    generalize RWire.numOf ((bs.drop a).take 4) = m at h2 h3 h4 ⊢
    refine ⟨_, rfl, _, rfl, _, _, rfl, rfl, _, rfl, _, rfl, _, _, rfl, rfl, _, rfl, _, _, rfl, rfl, _, rfl, o, _, rfl, SqL.of eo, fun p hp => ?_⟩
    have cut : cutV ((octs bs).map V.int) (some ((a : Int) + 4)) (some ((a : Int) + 4 + (m : Int))) = (octs u).map V.int := by
      have e1 : ((a : Int) + 4) = ((a + 4 : Nat) : Int) := by omega
      have e2 : ((a : Int) + 4 + (m : Int)) = ((a + 4 + m : Nat) : Int) := by omega
      rw [e1, e2] at *
      rw [e1, e2, cut_nat (by rw [List.length_map, octs_length]; omega) (by omega), octs_cut, h3]
      congr 3
      omega
    rw [cut]
    obtain ⟨s1, o1, d1⟩ := new_lst (C := C) (ds := (octs u).map Dat.int) off hp (DAll.dI (octs u))
    refine ⟨_, rfl, _, _, rfl, rfl, _, rfl, _, _, rfl, rfl, two_line, fun t ht => ?_⟩
    obtain ⟨s2, o2, d2⟩ := new_tup (C := C) (xs := [.ref p, .int ((a : Int) + 4 + (m : Int))]) (ds := [dI (octs u), .int ((a + (4 + m) : Nat) : Int)]) o1 ht (.cons d1 (.cons (by
      have e2 : ((a : Int) + 4 + (m : Int)) = ((a + (4 + m) : Nat) : Int) := by omega
      rw [e2]
      exact .int _) .nil))
    exact g (a + (4 + m)) (by omega) h4 _ _ (s1.trans s2) d2
/-- a pair of a datum and a number, unpacked -/
theorem pair_at {M : List Addr} {H : Hp} {v : V} {d : Dat} {n : Int} (x : DAt C M H v (.tup [d, .int n])) : ∃ t u, v = .ref t ∧ H t = some (.tup [u, .int n]) ∧ DAt C M H u d := by
  obtain ⟨t, xs, rfl, _, e, r⟩ := x.tupAt
  cases r with
  | cons h1 r =>
    cases r with
    | cons h2 r =>
      cases r
      cases h2
      exact ⟨t, _, rfl, e, h1⟩
theorem small_line {n : Nat} (h : n ≤ 60000) : n < sizeLine := by rw [sizeLine_eq]; omega
theorem ok_read_values {n k0 : Nat} (D : Df K mg "read_values" s_read_values p_read_values f fd) (B : Blt mg) (O_read_value : Own P w K mg base CX0 k0 "read_value" p_read_value (spReadValue C n)) : Own P w K mg base CX0 (k0 + 1) "read_values" p_read_values (spReadValues C n) := by
  refine D.own (D.F.ok sc_read_values (fun vs H Q E h => ?_) (fun cdv A outer s H vs Q E hr h => ⟨_, pss_cons (ps_set (i := 3) sc_read_values.nd rfl (Or.inl rfl) (pe_lst pa_nil)) (pss_cons (ps_set (i := 4) sc_read_values.nd rfl (Or.inl rfl) (pv 1)) (pss_cons (ps_for PassesOwn.never rfl (pi_range1 rfl B.range (pa_cons (pv 2) pa_nil)) (pg_name (i := 5) sc_read_values.nd rfl (Or.inl rfl)) (pss_cons (ps_asg (pe_own O_read_value hr (pa_cons (pv 0) (pa_cons (pv 4) pa_nil))) (pg_tup rfl (pgs_cons (pg_name (i := 6) sc_read_values.nd rfl (Or.inl rfl)) (pgs_cons (pg_name (i := 4) sc_read_values.nd rfl (Or.inl rfl)) pgs_nil)))) (pss_one (ps_expr (pe_bm PySem.F.plainAttrs_list PySem.F.slot_list_append PySem.F.type_list_append mt_append (pv 3) (pa_cons (pv 6) pa_nil)))))) (pss_one (ps_ret (pe_tup (pa_cons (pv 3) (pa_cons (pv 4) pa_nil))))))), ?_⟩))
  · obtain ⟨v, bs, r, l, a, k, M, rfl, _⟩ := h
    rfl
  · obtain ⟨v, bs, r, l, a, k, M, rfl, off, d, ha, hb, hk, hm, hp, g⟩ := h
    obtain ⟨o, rfl, _, _⟩ := d.dIAt
    have hlen := readMany_len (f := RWire.readF n) (ok := fun x => plain x = true) (fun b x r => readF_len n b r x) _ _ _ _ hm (plains_mem hp)
    rw [List.length_drop] at hlen
    refine ⟨zero_line, fun p hp0 => ?_⟩
    obtain ⟨s0, o0, d0⟩ := new_emp (C := C) off hp0
    refine ⟨_, rfl, _, rfl, (k : Int), rfl, by omega, by omega, for_range (lo := 0) (n := k) (fun i σ H' => ∃ (a1 : Nat) (l1 l2 : List RWire.Value) (acc : List V) (z z2 : Option V), σ = [some (.ref o), some (.int a), some (.int k), some (.ref p), some (.int a1), z, z2] ∧ Same H H' ∧ H' p = some (.lst acc) ∧
      DAll C (p :: M) H' acc (datsOf l1) ∧ l = l1 ++ l2 ∧ l1.length = i ∧ a1 ≤ bs.length ∧ RWire.readMany (RWire.readF n) (k - i) (bs.drop a1) = some (l2, r)) ⟨a, [], l, [], none, none, rfl, s0, upd_same, .nil, rfl, rfl, ha, hm⟩ ?_ ?_⟩
    · rintro i σ H' hi ⟨a1, l1, l2, acc, z, z2, rfl, s1, e1, da, hl, hl1, ha1, hm1⟩
      obtain ⟨k', hk'⟩ : ∃ k', k - i = k' + 1 := ⟨k - i - 1, by omega⟩
      rw [hk'] at hm1
      obtain ⟨x, r1, l3, hx, hm2, rfl⟩ := readMany_succ hm1
      have px : plain x = true := plains_mem hp x (by rw [hl]; simp)
      have o1 : Off (p :: M) H' := (off.same s1).cons e1
      refine ⟨_, rfl, _, rfl, .ref o, bs, r1, x, a1, p :: M, rfl, o1, (d.more hp0).same s1, ha1, hb, hx, px, fun a2 ha2 hr2 v2 H2 s2 d2 => ?_⟩
      obtain ⟨t, u, rfl, et, du⟩ := pair_at d2
      refine ⟨t, _, rfl, SqT.of et, rfl, u, _, rfl, _, _, rfl, rfl, ?_⟩
      refine ⟨_, rfl, .inl ⟨rfl, _, SqL.of (s2 _ _ e1)⟩, _, rfl, p, acc, u, rfl, rfl, s2 _ _ e1, small_line (by rw [da.length, datsOf_length]; omega), ?_⟩
      refine ⟨a2, l1 ++ [x], l3, acc ++ [u], some (.int (0 + (i : Int))), some u, rfl, Same.updNew (s1.trans s2) hp0, upd_same, ?_, by rw [hl]; simp, by simp [hl1], ha2, ?_⟩
      · rw [datsOf_snoc]
        exact ((da.same s2).snoc du).sameB (SameB.upd List.mem_cons_self)
      · rw [← hr2, show k - (i + 1) = k' from by omega]
        exact hm2
    · rintro σ H' ⟨a1, l1, l2, acc, z, z2, rfl, s1, e1, da, hl, hl1, ha1, hm1⟩
      rw [Nat.sub_self] at hm1
      simp only [RWire.readMany] at hm1
      cases hm1
      rw [List.append_nil] at hl
      subst hl
      have dl : DAt C M H' (.ref p) (.lst (datsOf l)) := .lst (off.new hp0) e1 (da.keep fun b o e n => ⟨fun z => n (List.mem_cons_of_mem _ z), e⟩)
      refine ⟨_, rfl, _, rfl, two_line, fun t ht => ?_⟩
      obtain ⟨s3, o3, d3⟩ := new_tup (C := C) (off.same s1) ht (.cons dl (.cons (.int (a1 : Int)) .nil))
      exact g a1 ha1 rfl _ _ (s1.trans s3) d3
theorem ok_read_record {n k0 : Nat} (D : Df K mg "read_record" s_read_record p_read_record f fd) (B : Blt mg) (hk0 : 3 ≤ k0) (O_read_value : Own P w K mg base CX0 k0 "read_value" p_read_value (spReadValue C n))
    (O_read_low_first : Own P w K mg base CX0 1 "read_low_first" p_read_low_first (spReadLow C)) (O_read_text : Own P w K mg base CX0 2 "read_text" p_read_text (spReadText C)) (O_record_value : Own P w K mg base CX0 3 "record_value" p_record_value (spRecord C)) :
    Own P w K mg base CX0 (k0 + 1) "read_record" p_read_record (spReadRecord C n) := by
  refine D.own (D.F.ok sc_read_record (fun vs H Q E h => ?_) (fun cdv A outer s H vs Q E hr h => ⟨_, pss_cons (ps_set (i := 2) sc_read_record.nd rfl (Or.inl rfl) (pe_lst pa_nil)) (pss_cons (ps_set (i := 3) sc_read_record.nd rfl (Or.inl rfl) (pe_lst pa_nil)) (pss_cons (ps_set (i := 4) sc_read_record.nd rfl (Or.inl rfl) (pe_op op_add (pv 1) pe_int)) (pss_cons (ps_for PassesOwn.never rfl (pi_range1 rfl B.range (pa_cons (pe_own O_read_low_first hr (pa_cons (pv 0) (pa_cons (pv 1) (pa_cons pe_int pa_nil)))) pa_nil)) (pg_name (i := 5) sc_read_record.nd rfl (Or.inl rfl)) (pss_cons (ps_asg (pe_own O_read_text hr (pa_cons (pv 0) (pa_cons (pv 4) pa_nil))) (pg_tup rfl (pgs_cons (pg_name (i := 6) sc_read_record.nd rfl (Or.inl rfl)) (pgs_cons (pg_name (i := 4) sc_read_record.nd rfl (Or.inl rfl)) pgs_nil)))) (pss_cons (ps_asg (pe_own O_read_value hr (pa_cons (pv 0) (pa_cons (pv 4) pa_nil))) (pg_tup rfl (pgs_cons (pg_name (i := 7) sc_read_record.nd rfl (Or.inl rfl)) (pgs_cons (pg_name (i := 4) sc_read_record.nd rfl (Or.inl rfl)) pgs_nil)))) (pss_cons (ps_expr (pe_bm PySem.F.plainAttrs_list PySem.F.slot_list_append PySem.F.type_list_append mt_append (pv 2) (pa_cons (pv 6) pa_nil))) (pss_one (ps_expr (pe_bm PySem.F.plainAttrs_list PySem.F.slot_list_append PySem.F.type_list_append mt_append (pv 3) (pa_cons (pv 7) pa_nil)))))))) (pss_one (ps_ret (pe_tup (pa_cons (pe_own O_record_value hr (pa_cons (pv 2) (pa_cons (pv 3) pa_nil))) (pa_cons (pv 4) pa_nil)))))))), ?_⟩))
  · obtain ⟨v, bs, r, x, a, M, rfl, _⟩ := h
    rfl
  · obtain ⟨v, bs, r, x, a, M, rfl, off, d, ha, hb, hx, hp, g⟩ := h
    obtain ⟨o, rfl, _, _⟩ := d.dIAt
    obtain ⟨h4, l, rfl, hm⟩ := readRecord_some hx
    simp only [plain] at hp
    rw [List.length_drop] at h4
    rw [List.drop_drop] at hm
    have hlen := readMany_len (f := RWire.readEntry (RWire.readF n)) (ok := fun x : RWire.Text × RWire.Value => plain x.2 = true) (fun b x r h q => readEntry_len h q) _ _ _ _ hm (plainsE_mem hp)
    rw [List.length_drop] at hlen
    refine ⟨zero_line, fun nm hn0 => ?_⟩
    obtain ⟨s0, o0, d0⟩ := new_emp (C := C) off hn0
    refine ⟨zero_line, fun p hp0 => ?_⟩
    obtain ⟨s1, o1, d1⟩ := new_emp (C := C) o0 hp0
    have hnp : nm ≠ p := ne_of_none (upd_same (H := H) (a := nm) (o := .lst [])) hp0
    have hpH : H p = none := s0.free hp0
    refine ⟨_, rfl, _, _, rfl, rfl, _, rfl, _, rfl, .ref o, bs, a, 4, M, rfl, (d.same s0).same s1, by omega, by decide, hb, ?_⟩
    generalize RWire.numOf ((bs.drop a).take 4) = k at hm hlen ⊢
    refine ⟨(k : Int), rfl, by omega, by omega, for_range (lo := 0) (n := k) (fun i σ H' => ∃ (a1 : Nat) (l1 l2 : List (RWire.Text × RWire.Value)) (an ap : List V) (z z2 z3 : Option V),
      σ = [some (.ref o), some (.int a), some (.ref nm), some (.ref p), some (.int a1), z, z2, z3] ∧ Same H H' ∧ H' nm = some (.lst an) ∧ H' p = some (.lst ap) ∧ DAll C (p :: nm :: M) H' an ((namesOf l1).map dI) ∧
      DAll C (p :: nm :: M) H' ap (datsOfE l1) ∧ l = l1 ++ l2 ∧ l1.length = i ∧ a1 ≤ bs.length ∧ RWire.readMany (RWire.readEntry (RWire.readF n)) (k - i) (bs.drop a1) = some (l2, r))
      ⟨a + 4, [], l, [], [], none, none, none, rfl, s0.trans s1, by rw [upd_ne hnp]; exact upd_same, upd_same, .nil, .nil, rfl, rfl, by omega, hm⟩ ?_ ?_⟩
    · rintro i σ H' hi ⟨a1, l1, l2, an, ap, z, z2, z3, rfl, sH, en, ep, dn, dp, hl, hl1, ha1, hm1⟩
      obtain ⟨k', hk'⟩ : ∃ k', k - i = k' + 1 := ⟨k - i - 1, by omega⟩
      rw [hk'] at hm1
      obtain ⟨x, r2, l3, hx1, hm2, rfl⟩ := readMany_succ hm1
      obtain ⟨r1, t1, t2⟩ := readEntry_some hx1
      have px : plain x.2 = true := plainsE_mem hp x (by rw [hl]; simp)
      have oM : Off (p :: nm :: M) H' := ((off.same sH).cons en).cons ep
      have dO : DAt C (p :: nm :: M) H' (.ref o) (dI (octs bs)) := ((d.more hn0).more hpH).same sH
      refine ⟨_, rfl, _, rfl, .ref o, bs, x.1, r1, a1, p :: nm :: M, rfl, oM, dO, ha1, hb, t1, fun a2 ha2 hr2 v2 H2 s2 d2 => ?_⟩
      obtain ⟨t, u, rfl, et, du⟩ := pair_at d2
      refine ⟨t, _, rfl, SqT.of et, rfl, u, _, rfl, _, _, rfl, rfl, ?_⟩
      refine ⟨_, rfl, _, rfl, .ref o, bs, r2, x.2, a2, p :: nm :: M, rfl, oM.same s2, dO.same s2, ha2, hb, by rw [← hr2]; exact t2, px, fun a3 ha3 hr3 v3 H3 s3 d3 => ?_⟩
      obtain ⟨t', u', rfl, et', du'⟩ := pair_at d3
      refine ⟨t', _, rfl, SqT.of et', rfl, u', _, rfl, _, _, rfl, rfl, ?_⟩
      have en3 := s3 _ _ (s2 _ _ en)
      have ep3 := s3 _ _ (s2 _ _ ep)
      have dn3 := (dn.same s2).same s3
      have dp3 := (dp.same s2).same s3
      have ln : an.length = l1.length := by
        rw [dn.length, List.length_map, namesOf_length]
      have lp : ap.length = l1.length := by
        rw [dp.length, datsOfE_length]
      refine ⟨_, rfl, .inl ⟨rfl, _, SqL.of en3⟩, _, rfl, nm, an, u, rfl, rfl, en3, small_line (by omega), ?_⟩
      refine ⟨_, rfl, .inl ⟨rfl, _, SqL.of (by rw [upd_ne (Ne.symm hnp)]; exact ep3)⟩, _, rfl, p, ap, u', rfl, rfl, by rw [upd_ne (Ne.symm hnp)]; exact ep3, small_line (by omega), ?_⟩
      refine ⟨a3, l1 ++ [x], l3, an ++ [u], ap ++ [u'], some (.int (0 + (i : Int))), some u, some u', rfl, Same.updNew (Same.updNew ((sH.trans s2).trans s3) hn0) hpH, by rw [upd_ne hnp]; exact upd_same, upd_same, ?_, ?_, by rw [hl]; simp, by simp [hl1], ha3, ?_⟩
      · rw [namesOf_snoc, List.map_append]
        exact ((dn3.snoc (du.same s3)).sameB (SameB.upd (List.mem_cons_of_mem _ List.mem_cons_self))).sameB (SameB.upd List.mem_cons_self)
      · rw [datsOfE_snoc]
        exact ((dp3.snoc du').sameB (SameB.upd (List.mem_cons_of_mem _ List.mem_cons_self))).sameB (SameB.upd List.mem_cons_self)
      · rw [← hr3, show k - (i + 1) = k' from by omega]
        exact hm2
    · rintro σ H' ⟨a1, l1, l2, an, ap, z, z2, z3, rfl, sH, en, ep, dn, dp, hl, hl1, ha1, hm1⟩
      rw [Nat.sub_self] at hm1
      simp only [RWire.readMany] at hm1
      cases hm1
      rw [List.append_nil] at hl
      subst hl
      have less : ∀ b ∈ M, b ∈ p :: nm :: M := fun b h => List.mem_cons_of_mem _ (List.mem_cons_of_mem _ h)
      have dN : DAt C M H' (.ref nm) (dII (namesOf l)) := .lst (off.new hn0) en (dn.keep fun b o e n => ⟨fun z => n (less b z), e⟩)
      have dP : DAt C M H' (.ref p) (.lst (datsOfE l)) := .lst (off.new hpH) ep (dp.keep fun b o e n => ⟨fun z => n (less b z), e⟩)
      refine ⟨_, rfl, _, rfl, .ref nm, .ref p, namesOf l, datsOfE l, M, rfl, off.same sH, dN, dP, fun v2 H2 s2 d2 => ?_⟩
      refine ⟨_, rfl, two_line, fun t ht => ?_⟩
      obtain ⟨s3, o3, d3⟩ := new_tup (C := C) ((off.same sH).same s2) ht (.cons d2 (.cons (.int (a1 : Int)) .nil))
      have e : datOf (.record l) = .val 8 0 [] (namesOf l) (datsOfE l) := by simp [datOf]
      rw [e] at g
      exact g a1 ha1 rfl _ _ ((sH.trans s2).trans s3) d3
theorem drop_cons {bs r : List UInt8} {a : Nat} {k : UInt8} (h : bs.drop a = k :: r) : a < bs.length ∧ bs[a]? = some k ∧ r = bs.drop (a + 1) := by
  have hlt : a < bs.length := by
    rcases Nat.lt_or_ge a bs.length with z | z
    · exact z
    · rw [List.drop_eq_nil_of_le z] at h; cases h
  rw [List.drop_eq_getElem_cons hlt] at h
  cases h
  exact ⟨hlt, List.getElem?_eq_getElem hlt, rfl⟩
theorem ok_read_value {n k0 : Nat} (D : Df K mg "read_value" s_read_value p_read_value f fd) (B : Blt mg) (Kc : Csts mg) (hk0 : 4 ≤ k0) (O_read_values : Own P w K mg base CX0 k0 "read_values" p_read_values (spReadValues C n)) (O_read_record : Own P w K mg base CX0 k0 "read_record" p_read_record (spReadRecord C n))
    (O_read_low_first : Own P w K mg base CX0 1 "read_low_first" p_read_low_first (spReadLow C)) (O_read_text : Own P w K mg base CX0 2 "read_text" p_read_text (spReadText C)) (O_read_integer : Own P w K mg base CX0 2 "read_integer" p_read_integer (spReadInteger C))
    (O_simple_value : Own P w K mg base CX0 3 "simple_value" p_simple_value (spSimple C)) (O_integer_value : Own P w K mg base CX0 3 "integer_value" p_integer_value (spInteger C)) (O_text_value : Own P w K mg base CX0 3 "text_value" p_text_value (spText C)) (O_list_value : Own P w K mg base CX0 3 "list_value" p_list_value (spListV C)) :
    Own P w K mg base CX0 (k0 + 1) "read_value" p_read_value (spReadValue C (n + 1)) := by
  refine D.own (D.F.ok sc_read_value (fun vs H Q E h => ?_) (fun cdv A outer s H vs Q E hr h => ⟨_, pss_cons (ps_set (i := 2) sc_read_value.nd rfl (Or.inl rfl) (pe_ix (ix_listK (K := K) rfl) (pv 0) (pv 1) (fun _ _ => rfl))) (pss_cons (ps_if (pt_cmpR op_eq (pv 2) (pe_k Kc.INTEGER) (nomark _)) (pss_one (ps_ret (pe_tup (pa_cons (pe_own O_integer_value hr (pa_cons (pe_own O_read_integer hr (pa_cons (pv 0) (pa_cons (pe_op op_add (pv 1) pe_int) pa_nil))) pa_nil)) (pa_cons (pe_op op_add (pv 1) pe_int) pa_nil))))) pss_nil) (pss_cons (ps_if (pt_cmpR op_eq (pv 2) (pe_k Kc.TEXT) (nomark _)) (pss_cons (ps_asg (pe_own O_read_text hr (pa_cons (pv 0) (pa_cons (pe_op op_add (pv 1) pe_int) pa_nil))) (pg_tup rfl (pgs_cons (pg_name (i := 3) sc_read_value.nd rfl (Or.inl rfl)) (pgs_cons (pg_name (i := 4) sc_read_value.nd rfl (Or.inl rfl)) pgs_nil)))) (pss_one (ps_ret (pe_tup (pa_cons (pe_own O_text_value hr (pa_cons (pv 3) pa_nil)) (pa_cons (pv 4) pa_nil)))))) pss_nil) (pss_cons (ps_if (pt_cmpR op_eq (pv 2) (pe_k Kc.LIST) (nomark _)) (pss_cons (ps_asg (pe_own O_read_values hr (pa_cons (pv 0) (pa_cons (pe_op op_add (pv 1) pe_int) (pa_cons (pe_own O_read_low_first hr (pa_cons (pv 0) (pa_cons (pe_op op_add (pv 1) pe_int) (pa_cons pe_int pa_nil)))) pa_nil)))) (pg_tup rfl (pgs_cons (pg_name (i := 5) sc_read_value.nd rfl (Or.inl rfl)) (pgs_cons (pg_name (i := 4) sc_read_value.nd rfl (Or.inl rfl)) pgs_nil)))) (pss_one (ps_ret (pe_tup (pa_cons (pe_own O_list_value hr (pa_cons (pv 5) pa_nil)) (pa_cons (pv 4) pa_nil)))))) pss_nil) (pss_cons (ps_if (pt_cmpR op_eq (pv 2) (pe_k Kc.RECORD) (nomark _)) (pss_one (ps_ret (pe_own O_read_record hr (pa_cons (pv 0) (pa_cons (pe_op op_add (pv 1) pe_int) pa_nil))))) pss_nil) (pss_one (ps_ret (pe_tup (pa_cons (pe_own O_simple_value hr (pa_cons (pv 2) pa_nil)) (pa_cons (pe_op op_add (pv 1) pe_int) pa_nil))))))))), ?_⟩))
  · obtain ⟨v, bs, r, x, a, M, rfl, _⟩ := h
    rfl
  · obtain ⟨v, bs, r, x, a, M, rfl, off, d, ha, hb, hx, hp, g⟩ := h
    obtain ⟨o, rfl, hoM, eo⟩ := d.dIAt
    cases hc : bs.drop a with
    | nil => rw [hc] at hx; simp [RWire.readF] at hx
    | cons k r0 =>
    rw [hc] at hx
    obtain ⟨hlt, hk, rfl⟩ := drop_cons hc
    have q : Kinds (RWire.readF n) (bs.drop (a + 1)) x r k.toNat := kinds_of hx hp
    have hget : atI ((octs bs).map V.int) (a : Int) = some (.int (k.toNat : Nat)) := at_of (j := a) rfl (by rw [List.getElem?_map, octs_get hk]; rfl)
    refine ⟨_, rfl, _, rfl, o, _, _, _, rfl, rfl, SqL.of eo, hget, ?_⟩
    have a1 : ((a : Int) + 1) = ((a + 1 : Nat) : Int) := by omega
    have a5 : ((a : Int) + 5) = ((a + 5 : Nat) : Int) := by omega
    have a9 : ((a : Int) + 9) = ((a + 9 : Nat) : Int) := by omega
    generalize hkk : k.toNat = kk at q ⊢
    have v1 : [V.ref o, V.int ((a : Int) + 1)] = [V.ref o, V.int ((a + 1 : Nat) : Int)] := by rw [a1]
    have v5 : ∀ z : V, [V.ref o, V.int ((a : Int) + 5), z] = [V.ref o, V.int ((a + 5 : Nat) : Int), z] := fun z => by rw [a5]
    rcases q.split with ⟨hk4, hd, hr0⟩ | ⟨rfl, e⟩ | ⟨rfl, e⟩ | ⟨rfl, e⟩ | ⟨rfl, e⟩
    · refine ⟨_, rfl, rfl, _, rfl, itF (by rw [dec_int]; simp; omega) ?_⟩
      refine ⟨_, rfl, rfl, _, rfl, itF (by rw [dec_int]; simp; omega) ?_⟩
      refine ⟨_, rfl, rfl, _, rfl, itF (by rw [dec_int]; simp; omega) ?_⟩
      refine ⟨_, rfl, rfl, _, rfl, itF (by rw [dec_int]; simp; omega) ?_⟩
      refine ⟨_, rfl, _, M, rfl, off, fun v2 H2 s2 d2 => ?_⟩
      refine ⟨_, rfl, _, _, rfl, rfl, two_line, fun t ht => ?_⟩
      obtain ⟨s3, o3, d3⟩ := new_tup (C := C) (xs := [v2, .int ((a : Int) + 1)]) (ds := [_, .int ((a + 1 : Nat) : Int)]) (off.same s2) ht (.cons d2 (.cons (by rw [a1]; exact .int _) .nil))
      rw [hd] at g
      exact g (a + 1) (by omega) hr0 _ _ (s2.trans s3) d3
    · obtain ⟨h8, rfl, hr0⟩ := readInt_some e
      rw [List.length_drop] at h8
      rw [List.drop_drop] at hr0
      refine ⟨_, rfl, rfl, _, rfl, itT rfl ?_⟩
      refine ⟨_, rfl, _, rfl, _, _, rfl, rfl, .ref o, bs, a + 1, M, v1, d, by omega, hb, ?_⟩
      refine ⟨_, M, rfl, off, fun v2 H2 s2 d2 => ?_⟩
      refine ⟨_, rfl, _, _, rfl, rfl, two_line, fun t ht => ?_⟩
      obtain ⟨s3, o3, d3⟩ := new_tup (C := C) (xs := [v2, .int ((a : Int) + 9)]) (ds := [_, .int ((a + 9 : Nat) : Int)]) (off.same s2) ht (.cons d2 (.cons (by rw [a9]; exact .int _) .nil))
      simp only [datOf] at g
      exact g (a + 9) (by omega) (by rw [hr0]) _ _ (s2.trans s3) d3
    · obtain ⟨u, rfl, ht⟩ := readWords_some e
      refine ⟨_, rfl, rfl, _, rfl, itF rfl ?_⟩
      refine ⟨_, rfl, rfl, _, rfl, itT rfl ?_⟩
      refine ⟨_, rfl, _, rfl, _, _, rfl, rfl, .ref o, bs, u, r, a + 1, M, v1, off, d, by omega, hb, ht, fun a2 ha2 hr2 v2 H2 s2 d2 => ?_⟩
      obtain ⟨t, u2, rfl, et, du⟩ := pair_at d2
      refine ⟨t, _, rfl, SqT.of et, rfl, u2, _, rfl, _, _, rfl, rfl, ?_⟩
      refine ⟨_, rfl, _, _, M, rfl, off.same s2, du, fun v3 H3 s3 d3 => ?_⟩
      refine ⟨_, rfl, two_line, fun t ht => ?_⟩
      obtain ⟨s4, o4, d4⟩ := new_tup (C := C) ((off.same s2).same s3) ht (.cons d3 (.cons (.int (a2 : Int)) .nil))
      simp only [datOf] at g
      exact g a2 ha2 hr2 _ _ ((s2.trans s3).trans s4) d4
    · obtain ⟨h4, l, rfl, hm⟩ := readList_some e
      rw [List.length_drop] at h4
      rw [List.drop_drop] at hm
      simp only [plain] at hp
      have hlen := readMany_len (f := RWire.readF n) (ok := fun x => plain x = true) (fun b x r => readF_len n b r x) _ _ _ _ hm (plains_mem hp)
      rw [List.length_drop] at hlen
      refine ⟨_, rfl, rfl, _, rfl, itF rfl ?_⟩
      refine ⟨_, rfl, rfl, _, rfl, itF rfl ?_⟩
      refine ⟨_, rfl, rfl, _, rfl, itT rfl ?_⟩
      refine ⟨_, rfl, _, rfl, _, _, rfl, rfl, _, rfl, _, rfl, _, _, rfl, rfl, .ref o, bs, a + 1, 4, M, by (show [V.ref o, V.int ((a : Int) + 1), V.int 4] = _); rw [a1]; rfl, d, by omega, by decide, hb, ?_⟩
      refine ⟨.ref o, bs, r, l, a + 5, _, M, v5 _, off, d, by omega, hb, by omega, hm, hp, fun a2 ha2 hr2 v2 H2 s2 d2 => ?_⟩
      obtain ⟨t, u2, rfl, et, du⟩ := pair_at d2
      refine ⟨t, _, rfl, SqT.of et, rfl, u2, _, rfl, _, _, rfl, rfl, ?_⟩
      refine ⟨_, rfl, _, _, M, rfl, off.same s2, du, fun v3 H3 s3 d3 => ?_⟩
      refine ⟨_, rfl, two_line, fun t ht => ?_⟩
      obtain ⟨s4, o4, d4⟩ := new_tup (C := C) ((off.same s2).same s3) ht (.cons d3 (.cons (.int (a2 : Int)) .nil))
      simp only [datOf] at g
      exact g a2 ha2 hr2 _ _ ((s2.trans s3).trans s4) d4
    · refine ⟨_, rfl, rfl, _, rfl, itF rfl ?_⟩
      refine ⟨_, rfl, rfl, _, rfl, itF rfl ?_⟩
      refine ⟨_, rfl, rfl, _, rfl, itF rfl ?_⟩
      refine ⟨_, rfl, rfl, _, rfl, itT rfl ?_⟩
      exact ⟨_, rfl, _, rfl, _, _, rfl, rfl, .ref o, bs, r, x, a + 1, M, v1, off, d, by omega, hb, e, hp, g⟩
/-- where nothing may be read the promise is empty -/
theorem ok_read_value0 (D : Df K mg "read_value" s_read_value p_read_value f fd) : Own P w K mg base CX0 4 "read_value" p_read_value (spReadValue C 0) := by
  refine D.own (D.F.ok sc_read_value (fun vs H Q E h => ?_) (fun cdv A outer s H vs Q E hr h => ?_))
  · obtain ⟨v, bs, r, x, a, M, rfl, _⟩ := h
    rfl
  · obtain ⟨v, bs, r, x, a, M, rfl, off, d, ha, hb, hx, _⟩ := h
    simp [RWire.readF] at hx
end
end Pg

/-! PgG: module wire, writing -/
namespace Pg
open PySem PySem.Spec PyProof.Rows L2
abbrev s_write_low_first : Stmt := top 27
abbrev n_write_low_first : List Str := ["number", "many", "octets", "rest", "turn", "low"]
abbrev p_write_low_first : List Str := ["number", "many"]
theorem sc_write_low_first : FnScope n_write_low_first p_write_low_first (defScope s_write_low_first) := ⟨rfl, rfl, rfl, by decide +kernel, rfl, by decide +kernel, by decide +kernel⟩
abbrev s_write_integer : Stmt := top 28
abbrev n_write_integer : List Str := ["number"]
abbrev p_write_integer : List Str := ["number"]
theorem sc_write_integer : FnScope n_write_integer p_write_integer (defScope s_write_integer) := ⟨rfl, rfl, rfl, by decide +kernel, rfl, by decide +kernel, by decide +kernel⟩
abbrev s_write_text : Stmt := top 29
abbrev n_write_text : List Str := ["octets"]
abbrev p_write_text : List Str := ["octets"]
theorem sc_write_text : FnScope n_write_text p_write_text (defScope s_write_text) := ⟨rfl, rfl, rfl, by decide +kernel, rfl, by decide +kernel, by decide +kernel⟩
abbrev s_write_list : Stmt := top 30
abbrev n_write_list : List Str := ["parts", "octets", "part"]
abbrev p_write_list : List Str := ["parts"]
theorem sc_write_list : FnScope n_write_list p_write_list (defScope s_write_list) := ⟨rfl, rfl, rfl, by decide +kernel, rfl, by decide +kernel, by decide +kernel⟩
abbrev s_write_record : Stmt := top 31
abbrev n_write_record : List Str := ["names", "parts", "octets", "at"]
abbrev p_write_record : List Str := ["names", "parts"]
theorem sc_write_record : FnScope n_write_record p_write_record (defScope s_write_record) := ⟨rfl, rfl, rfl, by decide +kernel, rfl, by decide +kernel, by decide +kernel⟩
abbrev s_write_value : Stmt := top 32
abbrev n_write_value : List Str := ["value"]
abbrev p_write_value : List Str := ["value"]
theorem sc_write_value : FnScope n_write_value p_write_value (defScope s_write_value) := ⟨rfl, rfl, rfl, by decide +kernel, rfl, by decide +kernel, by decide +kernel⟩
section
variable (C : Addr)
/-- a promise's end: a NEW list of numbers -/
def GivesL (H : Hp) (Q : VK) (ns : List Int) : Prop := ∀ p H', Same H H' → H p = none → H' p = some (.lst (ns.map V.int)) → Q (.ref p) H'
def spWriteLow : Sp := fun vs H Q _ => ∃ (n k : Nat), vs = [.int n, .int k] ∧ k ≤ 8 ∧ GivesL H Q (octs (RWire.low k n))
def spWriteInteger : Sp := fun vs H Q _ => ∃ (i : Int) (M : List Addr), vs = [.int i] ∧ Off M H ∧ i.natAbs ≤ 9007199254740991 ∧ Gives C M H Q (dI (octs (RWire.writeInt i)))
def spWriteText : Sp := fun vs H Q _ => ∃ (v : V) (u : List UInt8) (M : List Addr), vs = [v] ∧ Off M H ∧ DAt C M H v (dI (octs u)) ∧ u.length ≤ 65536 ∧ Gives C M H Q (dI (octs (RWire.writeText u)))
def spWriteValue (n : Nat) : Sp := fun vs H Q _ => ∃ (v : V) (x : RWire.Value) (M : List Addr), vs = [v] ∧ Off M H ∧ DAt C M H v (datOf x) ∧ plain x = true ∧ RWire.fine x = true ∧ RWire.depth x ≤ n ∧ (RWire.write x).length ≤ 65536 ∧ Gives C M H Q (dI (octs (RWire.write x)))
def spWriteList (n : Nat) : Sp := fun vs H Q _ => ∃ (v : V) (l : List RWire.Value) (M : List Addr), vs = [v] ∧ Off M H ∧ DAt C M H v (.lst (datsOf l)) ∧ plains l = true ∧ RWire.fineMany l = true ∧ RWire.depthMany l ≤ n ∧ l.length ≤ 65536 ∧ (RWire.writeMany l).length ≤ 65536 ∧
  Gives C M H Q (dI (octs (RWire.writeCount l.length ++ RWire.writeMany l)))
def spWriteRecord (n : Nat) : Sp := fun vs H Q _ => ∃ (v u : V) (l : List (RWire.Text × RWire.Value)) (M : List Addr), vs = [v, u] ∧ Off M H ∧ DAt C M H v (dII (namesOf l)) ∧ DAt C M H u (.lst (datsOfE l)) ∧ plainsE l = true ∧ RWire.fineEntries l = true ∧ RWire.depthEntries l ≤ n ∧ l.length ≤ 65536 ∧ (RWire.writeEntries l).length ≤ 65536 ∧
  Gives C M H Q (dI (octs (RWire.writeCount l.length ++ RWire.writeEntries l)))
end
section
variable {P : Program} {w : World} {K : PySem.W.Frag} {mg : Str → Option Value} {base : Heap} {C : Addr} {f : Addr} {fd : FuncData}
theorem ok_write_low_first (D : Df K mg "write_low_first" s_write_low_first p_write_low_first f fd) (B : Blt mg) : Own P w K mg base CX0 1 "write_low_first" p_write_low_first spWriteLow := by
  refine D.own (D.F.ok sc_write_low_first (fun vs H Q E h => ?_) (fun cdv A outer s H vs Q E hr h => ⟨_, pss_cons (ps_set (i := 2) sc_write_low_first.nd rfl (Or.inl rfl) (pe_lst pa_nil)) (pss_cons (ps_set (i := 3) sc_write_low_first.nd rfl (Or.inl rfl) (pv 0)) (pss_cons (ps_for PassesOwn.never rfl (pi_range1 rfl B.range (pa_cons (pv 1) pa_nil)) (pg_name (i := 4) sc_write_low_first.nd rfl (Or.inl rfl)) (pss_cons (ps_asg (pe_callB call_divmod rfl B.divmod boot_divmod (pa_cons (pv 3) (pa_cons pe_int pa_nil))) (pg_tup rfl (pgs_cons (pg_name (i := 3) sc_write_low_first.nd rfl (Or.inl rfl)) (pgs_cons (pg_name (i := 5) sc_write_low_first.nd rfl (Or.inl rfl)) pgs_nil)))) (pss_one (ps_expr (pe_bm PySem.F.plainAttrs_list PySem.F.slot_list_append PySem.F.type_list_append mt_append (pv 2) (pa_cons (pv 5) pa_nil)))))) (pss_one (ps_ret (pv 2))))), ?_⟩))
  · obtain ⟨n, k, rfl, _⟩ := h
    rfl
  · obtain ⟨n, k, rfl, hk, g⟩ := h
    refine ⟨zero_line, fun p hp => ?_⟩
    refine ⟨_, rfl, _, rfl, (k : Int), rfl, by omega, by omega, for_range (lo := 0) (n := k) (fun i σ H' => ∃ (z z2 : Option V), σ = [some (.int n), some (.int k), some (.ref p), some (.int (n / 256 ^ i : Nat)), z, z2] ∧ Same H H' ∧ H' p = some (.lst ((octs (RWire.low i n)).map V.int))) ⟨none, none, by simp; rfl, Same.new hp, upd_same⟩ ?_ ?_⟩
    · rintro i σ H' hi ⟨z, z2, rfl, s1, e1⟩
      refine ⟨_, rfl, _, _, rfl, ⟨by decide, by decide⟩, fun t ht => ?_⟩
      refine ⟨t, _, rfl, SqT.of upd_same, rfl, _, _, rfl, _, _, rfl, rfl, ?_⟩
      have hpt : p ≠ t := ne_of_none e1 ht
      refine ⟨_, rfl, .inl ⟨rfl, _, SqL.of (by rw [upd_ne hpt]; exact e1)⟩, _, rfl, p, _, _, rfl, rfl, by rw [upd_ne hpt]; exact e1, small_line (by rw [List.length_map, octs_length, low_length]; omega), ?_⟩
      refine ⟨some (.int (0 + (i : Int))), some (.int ((n / 256 ^ i % 256 : Nat) : Int)), ?_, Same.updNew (Same.updNew s1 (s1.free ht)) hp, ?_⟩
      · have e : ((n / 256 ^ i : Nat) : Int) / 256 = ((n / 256 ^ (i + 1) : Nat) : Int) := by
          rw [Nat.pow_succ, ← Nat.div_div_eq_div_mul]
          rfl
        rw [← e]
        rfl
      · rw [upd_same, octs_low, List.map_append]
        rfl
    · rintro σ H' ⟨z, z2, rfl, s1, e1⟩
      exact ⟨_, rfl, g p H' s1 hp e1⟩
theorem ok_write_integer (D : Df K mg "write_integer" s_write_integer p_write_integer f fd) (O_write_low_first : Own P w K mg base CX0 1 "write_low_first" p_write_low_first spWriteLow) : Own P w K mg base CX0 2 "write_integer" p_write_integer (spWriteInteger C) := by
  refine D.own (D.F.ok sc_write_integer (fun vs H Q E h => ?_) (fun cdv A outer s H vs Q E hr h => ⟨_, pss_cons (ps_if (pt_cmpR op_lt (pv 0) pe_int (nomark _)) (pss_one (ps_ret (pe_own O_write_low_first hr (pa_cons (pe_op op_add (pv 0) (pe_op op_pow pe_int pe_int)) (pa_cons pe_int pa_nil))))) pss_nil) (pss_one (ps_ret (pe_own O_write_low_first hr (pa_cons (pv 0) (pa_cons pe_int pa_nil))))), ?_⟩))
  · obtain ⟨i, M, rfl, _⟩ := h
    rfl
  · obtain ⟨i, M, rfl, off, hi, g⟩ := h
    have e64 : (2 : Int) ^ (64 : Int).toNat = 18446744073709551616 := by decide
    have ew : RWire.wordMost = 18446744073709551616 := rfl
    unfold RWire.writeInt at g
    rw [ew] at g
    refine ⟨_, rfl, _, _, rfl, rfl, _, rfl, ?_⟩
    by_cases c : i < 0
    · refine itT (decide_eq_true c) ?_
      have e : i % 18446744073709551616 = i + 18446744073709551616 := by omega
      rw [e] at g
      refine ⟨_, rfl, _, _, rfl, rfl, ⟨by decide, by decide, by decide⟩, _, _, rfl, rfl, (i + 18446744073709551616).toNat, 8, ?_, by decide, fun p H' s hp e => g.ints off s hp e⟩
      show [V.int (i + (2 : Int) ^ (64 : Int).toNat), V.int 8] = _
      rw [e64, Int.toNat_of_nonneg (by omega)]
      rfl
    · refine itF (decide_eq_false c) ?_
      have e : i % 18446744073709551616 = i := by omega
      rw [e] at g
      refine ⟨_, rfl, i.toNat, 8, ?_, by decide, fun p H' s hp e => g.ints off s hp e⟩
      rw [Int.toNat_of_nonneg (by omega)]
      rfl
theorem ok_write_text (D : Df K mg "write_text" s_write_text p_write_text f fd) (B : Blt mg) (O_write_low_first : Own P w K mg base CX0 1 "write_low_first" p_write_low_first spWriteLow) : Own P w K mg base CX0 2 "write_text" p_write_text (spWriteText C) := by
  refine D.own (D.F.ok sc_write_text (fun vs H Q E h => ?_) (fun cdv A outer s H vs Q E hr h => ⟨_, pss_one (ps_ret (pe_op op_cat (pe_own O_write_low_first hr (pa_cons (pe_callB (call_lenK (K := K) rfl) rfl B.len boot_len (pa_cons (pv 0) pa_nil)) (pa_cons pe_int pa_nil))) (pv 0))), ?_⟩))
  · obtain ⟨v, u, M, rfl, _⟩ := h
    rfl
  · obtain ⟨v, u, M, rfl, off, d, hu, g⟩ := h
    obtain ⟨o, rfl, _, eo⟩ := d.dIAt
    refine ⟨_, rfl, o, _, rfl, .inl (SqL.of eo), u.length, 4, by simp [octs_length], by decide, fun p H2 s2 hp ep => ?_⟩
    refine ⟨_, rfl, p, o, _, _, rfl, rfl, ep, s2 _ _ eo, ?_, fun q hq => ?_⟩
    · rw [List.length_map, List.length_map, octs_length, octs_length, low_length, sizeLine_eq]
      omega
    · refine g.ints off (s2.trans (Same.new hq)) (s2.free hq) ?_
      rw [upd_same, ← List.map_append, ← octs_append]
      rfl
theorem take_more {α : Type} {l : List α} {i : Nat} {x : α} (h : l[i]? = some x) : l.take (i + 1) = l.take i ++ [x] := by
  have hlt : i < l.length := by
    rcases Nat.lt_or_ge i l.length with z | z
    · exact z
    · rw [List.getElem?_eq_none z] at h; cases h
  rw [List.getElem?_eq_getElem hlt] at h
  cases h
  rw [List.take_succ, List.getElem?_eq_getElem hlt]
  rfl
theorem many_take (l : List RWire.Value) (i : Nat) : (RWire.writeMany (l.take i)).length ≤ (RWire.writeMany l).length := by
  have e : RWire.writeMany l = RWire.writeMany (l.take i) ++ RWire.writeMany (l.drop i) := by rw [← many_append, List.take_append_drop]
  rw [e, List.length_append]
  omega
theorem entries_take (l : List (RWire.Text × RWire.Value)) (i : Nat) : (RWire.writeEntries (l.take i)).length ≤ (RWire.writeEntries l).length := by
  have e : RWire.writeEntries l = RWire.writeEntries (l.take i) ++ RWire.writeEntries (l.drop i) := by rw [← entries_append, List.take_append_drop]
  rw [e, List.length_append]
  omega
theorem datsOf_get : ∀ {l : List RWire.Value} {i : Nat}, (datsOf l)[i]? = (l[i]?).map datOf
  | [], i => by simp [datsOf]
  | x :: r, 0 => by simp [datsOf]
  | x :: r, i + 1 => by simp [datsOf, datsOf_get (l := r) (i := i)]
theorem datsOfE_get : ∀ {l : List (RWire.Text × RWire.Value)} {i : Nat}, (datsOfE l)[i]? = (l[i]?).map fun e => datOf e.2
  | [], i => by simp [datsOfE]
  | x :: r, 0 => by simp [datsOfE]
  | x :: r, i + 1 => by simp [datsOfE, datsOfE_get (l := r) (i := i)]
theorem namesOf_get : ∀ {l : List (RWire.Text × RWire.Value)} {i : Nat}, (namesOf l)[i]? = (l[i]?).map fun e => octs e.1
  | [], i => by simp [namesOf]
  | x :: r, 0 => by simp [namesOf]
  | x :: r, i + 1 => by simp [namesOf, namesOf_get (l := r) (i := i)]
theorem fineMany_mem : ∀ {l : List RWire.Value}, RWire.fineMany l = true → ∀ x ∈ l, RWire.fine x = true
  | [], _, x, hx => nomatch hx
  | v :: r, h, x, hx => by
    simp only [RWire.fineMany, Bool.and_eq_true] at h
    rcases List.mem_cons.mp hx with e | e
    · rw [e]; exact h.1
    · exact fineMany_mem h.2 x e
theorem fineEntries_mem : ∀ {l : List (RWire.Text × RWire.Value)}, RWire.fineEntries l = true → ∀ x ∈ l, RWire.fine x.2 = true
  | [], _, x, hx => nomatch hx
  | v :: r, h, x, hx => by
    simp only [RWire.fineEntries, Bool.and_eq_true] at h
    rcases List.mem_cons.mp hx with e | e
    · rw [e]; exact h.2.1
    · exact fineEntries_mem h.2.2 x e
theorem depthMany_mem : ∀ {l : List RWire.Value} {n : Nat}, RWire.depthMany l ≤ n → ∀ x ∈ l, RWire.depth x ≤ n
  | [], _, _, x, hx => nomatch hx
  | v :: r, n, h, x, hx => by
    simp only [RWire.depthMany] at h
    have h1 : RWire.depth v ≤ n := Nat.le_trans (Nat.le_max_left _ _) h
    have h2 : RWire.depthMany r ≤ n := Nat.le_trans (Nat.le_max_right _ _) h
    rcases List.mem_cons.mp hx with e | e
    · rw [e]; exact h1
    · exact depthMany_mem h2 x e
theorem depthEntries_mem : ∀ {l : List (RWire.Text × RWire.Value)} {n : Nat}, RWire.depthEntries l ≤ n → ∀ x ∈ l, RWire.depth x.2 ≤ n
  | [], _, _, x, hx => nomatch hx
  | v :: r, n, h, x, hx => by
    simp only [RWire.depthEntries] at h
    have h1 : RWire.depth v.2 ≤ n := Nat.le_trans (Nat.le_max_left _ _) h
    have h2 : RWire.depthEntries r ≤ n := Nat.le_trans (Nat.le_max_right _ _) h
    rcases List.mem_cons.mp hx with e | e
    · rw [e]; exact h1
    · exact depthEntries_mem h2 x e
/-- octets grow: the room -/
theorem grow {a b : List UInt8} (h1 : a.length ≤ 70000) (h2 : b.length ≤ 70000) : ((octs a).map V.int).length + ((octs b).map V.int).length ≤ sizeLine := by
  rw [List.length_map, List.length_map, octs_length, octs_length, sizeLine_eq]
  omega
theorem ok_write_list {n k0 : Nat} (D : Df K mg "write_list" s_write_list p_write_list f fd) (B : Blt mg) (hk0 : 1 ≤ k0) (O_write_value : Own P w K mg base CX0 k0 "write_value" p_write_value (spWriteValue C n)) (O_write_low_first : Own P w K mg base CX0 1 "write_low_first" p_write_low_first spWriteLow) :
    Own P w K mg base CX0 (k0 + 1) "write_list" p_write_list (spWriteList C n) := by
  refine D.own (D.F.ok sc_write_list (fun vs H Q E h => ?_) (fun cdv A outer s H vs Q E hr h => ⟨_, pss_cons (ps_set (i := 1) sc_write_list.nd rfl (Or.inl rfl) (pe_own O_write_low_first hr (pa_cons (pe_callB (call_lenK (K := K) rfl) rfl B.len boot_len (pa_cons (pv 0) pa_nil)) (pa_cons pe_int pa_nil)))) (pss_cons (ps_for PassesOwn.never rfl (pi_list (pv 0)) (pg_name (i := 2) sc_write_list.nd rfl (Or.inl rfl)) (pss_one (ps_expr (pe_bm PySem.F.plainAttrs_list PySem.F.slot_list_extend PySem.F.type_list_extend mt_extend (pv 1) (pa_cons (pe_own O_write_value hr (pa_cons (pv 2) pa_nil)) pa_nil))))) (pss_one (ps_ret (pv 1)))), ?_⟩))
  · obtain ⟨v, l, M, rfl, _⟩ := h
    rfl
  · obtain ⟨v, l, M, rfl, off, d, hp', hf, hd, hl, hw, g⟩ := h
    obtain ⟨o, xs, rfl, hoM, eo, dx⟩ := d.lstAt
    have hxl : xs.length = l.length := by rw [dx.length, datsOf_length]
    refine ⟨_, rfl, o, _, rfl, .inl (SqL.of eo), l.length, 4, by rw [hxl]; rfl, by decide, fun p H2 s2 hp ep => ?_⟩
    refine ⟨_, rfl, o, rfl, ⟨_, SqL.of (s2 _ _ eo)⟩, for_list (K := K) (a := o) (xs := xs) (fun i σ H' => ∃ z : Option V, σ = [some (.ref o), some (.ref p), z] ∧ Same H H' ∧ H' p = some (.lst ((octs (RWire.low 4 l.length ++ RWire.writeMany (l.take i))).map V.int))) ⟨none, rfl, s2, by simpa [RWire.writeMany] using ep⟩ (fun i σ H' _ ⟨_, _, s1, _⟩ => SqL.of (s1 _ _ eo)) ?_ ?_⟩
    · rintro i y σ H' hy ⟨z, rfl, s1, e1⟩
      obtain ⟨dd, hdd, dy⟩ := dx.getV hy
      rw [datsOf_get] at hdd
      cases hx : l[i]? with
      | none => rw [hx] at hdd; cases hdd
      | some x =>
        rw [hx] at hdd
        cases hdd
        have mx : x ∈ l := List.mem_of_getElem? hx
        have tk := take_more hx
        have lw : (RWire.write x).length ≤ 65536 := by
          have h1 := many_take l (i + 1)
          rw [tk, many_append, List.length_append] at h1
          simp only [RWire.writeMany, List.append_nil] at h1
          omega
        have lt := many_take l i
        have o1 : Off (p :: M) H' := (off.same s1).cons e1
        refine ⟨_, rfl, .inl ⟨rfl, _, SqL.of e1⟩, _, rfl, y, x, p :: M, rfl, o1, (dy.more hp).same s1, plains_mem hp' x mx, fineMany_mem hf x mx, depthMany_mem hd x mx, lw, fun v3 H3 s3 d3 => ?_⟩
        obtain ⟨q, rfl, hq, eq⟩ := d3.dIAt
        have e3 := s3 _ _ e1
        refine ⟨p, q, _, _, rfl, rfl, e3, eq, grow (by rw [List.length_append, low_length]; omega) (by omega), some y, rfl, Same.updNew (s1.trans s3) hp, ?_⟩
        rw [upd_same, ← List.map_append, ← octs_append, tk, many_append, List.append_assoc]
        simp [RWire.writeMany]
    · rintro σ H' ⟨z, rfl, s1, e1⟩
      rw [hxl, List.take_length] at e1
      exact ⟨_, rfl, g.ints off s1 hp e1⟩
theorem ok_write_record {n k0 : Nat} (D : Df K mg "write_record" s_write_record p_write_record f fd) (B : Blt mg) (hk0 : 2 ≤ k0) (O_write_value : Own P w K mg base CX0 k0 "write_value" p_write_value (spWriteValue C n)) (O_write_low_first : Own P w K mg base CX0 1 "write_low_first" p_write_low_first spWriteLow)
    (O_write_text : Own P w K mg base CX0 2 "write_text" p_write_text (spWriteText C)) : Own P w K mg base CX0 (k0 + 1) "write_record" p_write_record (spWriteRecord C n) := by
  refine D.own (D.F.ok sc_write_record (fun vs H Q E h => ?_) (fun cdv A outer s H vs Q E hr h => ⟨_, pss_cons (ps_set (i := 2) sc_write_record.nd rfl (Or.inl rfl) (pe_own O_write_low_first hr (pa_cons (pe_callB (call_lenK (K := K) rfl) rfl B.len boot_len (pa_cons (pv 0) pa_nil)) (pa_cons pe_int pa_nil)))) (pss_cons (ps_for PassesOwn.never rfl (pi_range1 rfl B.range (pa_cons (pe_callB (call_lenK (K := K) rfl) rfl B.len boot_len (pa_cons (pv 0) pa_nil)) pa_nil)) (pg_name (i := 3) sc_write_record.nd rfl (Or.inl rfl)) (pss_cons (ps_expr (pe_bm PySem.F.plainAttrs_list PySem.F.slot_list_extend PySem.F.type_list_extend mt_extend (pv 2) (pa_cons (pe_own O_write_text hr (pa_cons (pe_ix (ix_listK (K := K) rfl) (pv 0) (pv 3) (fun _ _ => rfl)) pa_nil)) pa_nil))) (pss_one (ps_expr (pe_bm PySem.F.plainAttrs_list PySem.F.slot_list_extend PySem.F.type_list_extend mt_extend (pv 2) (pa_cons (pe_own O_write_value hr (pa_cons (pe_ix (ix_listK (K := K) rfl) (pv 1) (pv 3) (fun _ _ => rfl)) pa_nil)) pa_nil)))))) (pss_one (ps_ret (pv 2)))), ?_⟩))
  · obtain ⟨v, u, l, M, rfl, _⟩ := h
    rfl
  · obtain ⟨v, u, l, M, rfl, off, d, d', hp', hf, hd, hl, hw, g⟩ := h
    obtain ⟨o, xs, rfl, hoM, eo, dx⟩ := d.lstAt
    obtain ⟨o', ys, rfl, hoM', eo', dy⟩ := d'.lstAt
    have hxl : xs.length = l.length := by rw [dx.length, List.length_map, namesOf_length]
    have hyl : ys.length = l.length := by rw [dy.length, datsOfE_length]
    refine ⟨_, rfl, o, _, rfl, .inl (SqL.of eo), l.length, 4, by rw [hxl]; rfl, by decide, fun p H2 s2 hp ep => ?_⟩
    refine ⟨_, rfl, o, _, rfl, .inl (SqL.of (s2 _ _ eo)), (xs.length : Int), rfl, by omega, by omega, for_range (lo := 0) (n := xs.length) (fun i σ H' => ∃ z : Option V, σ = [some (.ref o), some (.ref o'), some (.ref p), z] ∧ Same H H' ∧ H' p = some (.lst ((octs (RWire.low 4 l.length ++ RWire.writeEntries (l.take i))).map V.int))) ⟨none, rfl, s2, by simpa [RWire.writeEntries] using ep⟩ ?_ ?_⟩
    · rintro i σ H' hi ⟨z, rfl, s1, e1⟩
      have hil : i < l.length := by omega
      have hx : l[i]? = some l[i] := List.getElem?_eq_getElem hil
      generalize l[i] = x at hx
      obtain ⟨y1, hy1, dy1⟩ := dx.get (i := i) (d := dI (octs x.1)) (by rw [List.getElem?_map, namesOf_get, hx]; rfl)
      obtain ⟨y2, hy2, dy2⟩ := dy.get (i := i) (d := datOf x.2) (by rw [datsOfE_get, hx]; rfl)
      have mx : x ∈ l := List.mem_of_getElem? hx
      have tk := take_more hx
      have lw : (RWire.writeText x.1).length + (RWire.write x.2).length ≤ 65536 := by
        have h1 := entries_take l (i + 1)
        rw [tk, entries_append, List.length_append] at h1
        simp only [RWire.writeEntries, List.append_nil, List.length_append] at h1
        omega
      have lw2 : x.1.length ≤ 65536 := by
        have h1 : (RWire.writeText x.1).length = 4 + x.1.length := by simp [RWire.writeText, RWire.writeCount, low_length]
        omega
      have lt := entries_take l i
      have lt2 := entries_take l (i + 1)
      rw [tk, entries_append, List.length_append] at lt2
      simp only [RWire.writeEntries, List.append_nil, List.length_append] at lt2
      have o1 : Off (p :: M) H' := (off.same s1).cons e1
      have a1 : ((0 : Int) + (i : Int)) = ((i : Nat) : Int) := by omega
      refine ⟨_, rfl, .inl ⟨rfl, _, SqL.of e1⟩, _, rfl, _, rfl, o, _, _, y1, rfl, rfl, SqL.of (s1 _ _ eo), at_of (j := i) a1 hy1, y1, x.1, p :: M, rfl, o1, (dy1.more hp).same s1, lw2, fun v3 H3 s3 d3 => ?_⟩
      obtain ⟨q, rfl, hq, eq⟩ := d3.dIAt
      have e3 := s3 _ _ e1
      refine ⟨p, q, _, _, rfl, rfl, e3, eq, grow (by rw [List.length_append, low_length]; omega) (by omega), ?_⟩
      rw [← List.map_append, ← octs_append]
      have s4 : Same H (upd H3 p (.lst ((octs (RWire.low 4 l.length ++ RWire.writeEntries (l.take i) ++ RWire.writeText x.1)).map V.int))) := Same.updNew (s1.trans s3) hp
      have e4 : (upd H3 p (.lst ((octs (RWire.low 4 l.length ++ RWire.writeEntries (l.take i) ++ RWire.writeText x.1)).map V.int))) p = some (.lst ((octs (RWire.low 4 l.length ++ RWire.writeEntries (l.take i) ++ RWire.writeText x.1)).map V.int)) := upd_same
      generalize upd H3 p (.lst ((octs (RWire.low 4 l.length ++ RWire.writeEntries (l.take i) ++ RWire.writeText x.1)).map V.int)) = H4 at s4 e4 ⊢
      refine ⟨_, rfl, .inl ⟨rfl, _, SqL.of e4⟩, _, rfl, _, rfl, o', _, _, y2, rfl, rfl, SqL.of (s4 _ _ eo'), at_of (j := i) a1 hy2, y2, x.2, p :: M, rfl, (off.same s4).cons e4, (dy2.more hp).same s4, plainsE_mem hp' x mx, fineEntries_mem hf x mx, depthEntries_mem hd x mx, by omega, fun v5 H5 s5 d5 => ?_⟩
      obtain ⟨q', rfl, hq', eq'⟩ := d5.dIAt
      have e5 := s5 _ _ e4
      refine ⟨p, q', _, _, rfl, rfl, e5, eq', grow (by rw [List.length_append, List.length_append, low_length]; omega) (by omega), some (.int (0 + (i : Int))), rfl, Same.updNew (s4.trans s5) hp, ?_⟩
      rw [upd_same, ← List.map_append, ← octs_append, tk, entries_append, List.append_assoc, List.append_assoc]
      simp [RWire.writeEntries]
    · rintro σ H' ⟨z, rfl, s1, e1⟩
      rw [hxl, List.take_length] at e1
      exact ⟨_, rfl, g.ints off s1 hp e1⟩
theorem write_pos (x : RWire.Value) : 1 ≤ (RWire.write x).length := by cases x <;> simp [RWire.write]
theorem many_ge : ∀ l : List RWire.Value, l.length ≤ (RWire.writeMany l).length
  | [] => by simp
  | y :: ys => by
    have h1 := write_pos y
    have ih := many_ge ys
    simp only [RWire.writeMany, List.length_append, List.length_cons]
    omega
theorem entries_ge : ∀ l : List (RWire.Text × RWire.Value), l.length ≤ (RWire.writeEntries l).length
  | [] => by simp
  | y :: ys => by
    have h1 := write_pos y.2
    have ih := entries_ge ys
    simp only [RWire.writeEntries, List.length_append, List.length_cons]
    omega
theorem ok_write_value {n k0 : Nat} (D : Df K mg "write_value" s_write_value p_write_value f fd) (T : ClV K C) (Kc : Csts mg) (hk0 : 2 ≤ k0) (O_write_list : Own P w K mg base CX0 k0 "write_list" p_write_list (spWriteList C n)) (O_write_record : Own P w K mg base CX0 k0 "write_record" p_write_record (spWriteRecord C n))
    (O_write_integer : Own P w K mg base CX0 2 "write_integer" p_write_integer (spWriteInteger C)) (O_write_text : Own P w K mg base CX0 2 "write_text" p_write_text (spWriteText C)) : Own P w K mg base CX0 (k0 + 1) "write_value" p_write_value (spWriteValue C (n + 1)) := by
  refine D.own (D.F.ok sc_write_value (fun vs H Q E h => ?_) (fun cdv A outer s H vs Q E hr h => ⟨_, pss_cons (ps_if (pt_cmpR op_eq (pe_fldK (K := K) (pv 0)) (pe_k Kc.INTEGER) (nomark _)) (pss_one (ps_ret (pe_op op_cat (pe_lst (pa_cons (pe_k Kc.INTEGER) pa_nil)) (pe_own O_write_integer hr (pa_cons (pe_fldK (K := K) (pv 0)) pa_nil))))) pss_nil) (pss_cons (ps_if (pt_cmpR op_eq (pe_fldK (K := K) (pv 0)) (pe_k Kc.TEXT) (nomark _)) (pss_one (ps_ret (pe_op op_cat (pe_lst (pa_cons (pe_k Kc.TEXT) pa_nil)) (pe_own O_write_text hr (pa_cons (pe_fldK (K := K) (pv 0)) pa_nil))))) pss_nil) (pss_cons (ps_if (pt_cmpR op_eq (pe_fldK (K := K) (pv 0)) (pe_k Kc.LIST) (nomark _)) (pss_one (ps_ret (pe_op op_cat (pe_lst (pa_cons (pe_k Kc.LIST) pa_nil)) (pe_own O_write_list hr (pa_cons (pe_fldK (K := K) (pv 0)) pa_nil))))) pss_nil) (pss_cons (ps_if (pt_cmpR op_eq (pe_fldK (K := K) (pv 0)) (pe_k Kc.RECORD) (nomark _)) (pss_one (ps_ret (pe_op op_cat (pe_lst (pa_cons (pe_k Kc.RECORD) pa_nil)) (pe_own O_write_record hr (pa_cons (pe_fldK (K := K) (pv 0)) (pa_cons (pe_fldK (K := K) (pv 0)) pa_nil)))))) pss_nil) (pss_one (ps_ret (pe_lst (pa_cons (pe_fldK (K := K) (pv 0)) pa_nil))))))), ?_⟩))
  · obtain ⟨v, x, M, rfl, _⟩ := h
    rfl
  · obtain ⟨v, x, M, rfl, off, d, hp, hf, hd, hw, g⟩ := h
    have one_line : 1 ≤ sizeLine := by rw [sizeLine_eq]; omega
    -- [k] + what a def hands back
    have join : ∀ (kk : Nat) (b : List UInt8) (p : Addr) (v2 : V) (H2 : Hp), kk < 256 → RWire.write x = UInt8.ofNat kk :: b → H p = none → Same (upd H p (.lst [.int (kk : Int)])) H2 → DAt C M H2 v2 (dI (octs b)) →
        rCat (.ref p) v2 H2 Q := fun kk b p v2 H2 hk hb hp0 s2 d2 => by
      obtain ⟨q, rfl, _, eq⟩ := d2.dIAt
      have lb : b.length + 1 ≤ 65536 := by rw [hb] at hw; exact hw
      refine ⟨p, q, _, _, rfl, rfl, s2 _ _ upd_same, eq, ?_, fun r hr => ?_⟩
      · rw [List.length_map, octs_length, sizeLine_eq]
        show 1 + _ ≤ _
        omega
      · refine g.ints off (((Same.new hp0).trans s2).trans (Same.new hr)) ((Same.new hp0).free (s2.free hr)) ?_
        rw [upd_same, hb, octs_cons]
        have e : (UInt8.ofNat kk).toNat = kk := by simp; omega
        rw [e]
        rfl
    have simple : ∀ (j : Int) (os : List Int) (ns : List (List Int)) (ps : List Dat) (m : Int), datOf x = .val j m os ns ps → RWire.write x = [UInt8.ofNat j.toNat] → 0 ≤ j → j < 4 → ∃ a dx o nm p, v = .ref a ∧ H a = some (.ins C dx (valF j m o nm p)) ∧ octs (RWire.write x) = [j] := fun j os ns ps m e1 e2 h1 h2 => by
      rw [e1] at d
      obtain ⟨a, dx, o, nm, p, rfl, _, e, _⟩ := d.valAt
      refine ⟨a, dx, o, nm, p, rfl, e, ?_⟩
      rw [e2]
      have e3 : (UInt8.ofNat j.toNat).toNat = j.toNat := by simp; omega
      show [((UInt8.ofNat j.toNat).toNat : Int)] = [j]
      rw [e3, Int.toNat_of_nonneg h1]
    have flat : (∃ (j : Int) (a dx o nm p : Addr) (m : Int), 0 ≤ j ∧ j < 4 ∧ v = .ref a ∧ H a = some (.ins C dx (valF j m o nm p)) ∧ octs (RWire.write x) = [j]) ∨ (∃ i, x = .int i) ∨ (∃ u, x = .text u) ∨ (∃ l, x = .list l) ∨ ∃ l, x = .record l := by
      cases x with
      | nothing =>
        obtain ⟨a, dx, o, nm, p, h⟩ := simple 0 [] [] [] 0 (by simp [datOf]) (by simp [RWire.write]) (by decide) (by decide)
        exact .inl ⟨0, a, dx, o, nm, p, 0, by decide, by decide, h⟩
      | null =>
        obtain ⟨a, dx, o, nm, p, h⟩ := simple 1 [] [] [] 0 (by simp [datOf]) (by simp [RWire.write]) (by decide) (by decide)
        exact .inl ⟨1, a, dx, o, nm, p, 0, by decide, by decide, h⟩
      | bool b =>
        cases b with
        | false =>
          obtain ⟨a, dx, o, nm, p, h⟩ := simple 2 [] [] [] 0 (by simp [datOf]) (by simp [RWire.write]) (by decide) (by decide)
          exact .inl ⟨2, a, dx, o, nm, p, 0, by decide, by decide, h⟩
        | true =>
          obtain ⟨a, dx, o, nm, p, h⟩ := simple 3 [] [] [] 0 (by simp [datOf]) (by simp [RWire.write]) (by decide) (by decide)
          exact .inl ⟨3, a, dx, o, nm, p, 0, by decide, by decide, h⟩
      | int i => exact .inr (.inl ⟨i, rfl⟩)
      | text u => exact .inr (.inr (.inl ⟨u, rfl⟩))
      | list l => exact .inr (.inr (.inr (.inl ⟨l, rfl⟩)))
      | record l => exact .inr (.inr (.inr (.inr ⟨l, rfl⟩)))
      | big i => simp [plain] at hp
      | octets i => simp [plain] at hp
      | wide i => simp [plain] at hp
    rcases flat with ⟨j, a, dx, o, nm, p, m, h0, h4, rfl, e, ho⟩ | ⟨i, rfl⟩ | ⟨u, rfl⟩ | ⟨l, rfl⟩ | ⟨l, rfl⟩
    · refine ⟨_, rfl, a, C, dx, _, _, rfl, e, T.cl, T.kind, vl_kind, rfl, _, rfl, itF (by rw [dec_int]; simp; omega) ?_⟩
      refine ⟨_, rfl, a, C, dx, _, _, rfl, e, T.cl, T.kind, vl_kind, rfl, _, rfl, itF (by rw [dec_int]; simp; omega) ?_⟩
      refine ⟨_, rfl, a, C, dx, _, _, rfl, e, T.cl, T.kind, vl_kind, rfl, _, rfl, itF (by rw [dec_int]; simp; omega) ?_⟩
      refine ⟨_, rfl, a, C, dx, _, _, rfl, e, T.cl, T.kind, vl_kind, rfl, _, rfl, itF (by rw [dec_int]; simp; omega) ?_⟩
      refine ⟨_, rfl, a, C, dx, _, _, rfl, e, T.cl, T.kind, vl_kind, one_line, fun p hp0 => ?_⟩
      rw [ho] at g
      exact g.ints off (Same.new hp0) hp0 upd_same
    · have hd0 := d
      simp only [datOf] at hd0
      obtain ⟨a, dx, o, nm, p, rfl, _, e, _⟩ := hd0.valAt
      simp only [RWire.fine, Nat.ble_eq] at hf
      refine ⟨_, rfl, a, C, dx, _, _, rfl, e, T.cl, T.kind, vl_kind, rfl, _, rfl, itT rfl ?_⟩
      refine ⟨one_line, fun q hq => ?_⟩
      have s1 : Same H (upd H q (.lst [.int ((4 : Nat) : Int)])) := Same.new hq
      refine ⟨_, rfl, a, C, dx, _, _, rfl, s1 _ _ e, T.cl, T.number, vl_number, i, M, rfl, off.same s1, hf, fun v2 H2 s2 d2 => ?_⟩
      exact join 4 _ q v2 H2 (by decide) (by simp only [RWire.write]; rfl) hq s2 d2
    · have hd0 := d
      simp only [datOf] at hd0
      obtain ⟨a, dx, o, nm, p, rfl, _, e, do_, _⟩ := hd0.valAt
      have hl : (RWire.writeText u).length + 1 ≤ 65536 := by simp only [RWire.write] at hw; exact hw
      have hu : (RWire.writeText u).length = 4 + u.length := by simp [RWire.writeText, RWire.writeCount, low_length]
      refine ⟨_, rfl, a, C, dx, _, _, rfl, e, T.cl, T.kind, vl_kind, rfl, _, rfl, itF rfl ?_⟩
      refine ⟨_, rfl, a, C, dx, _, _, rfl, e, T.cl, T.kind, vl_kind, rfl, _, rfl, itT rfl ?_⟩
      refine ⟨one_line, fun q hq => ?_⟩
      have s1 : Same H (upd H q (.lst [.int ((6 : Nat) : Int)])) := Same.new hq
      refine ⟨_, rfl, a, C, dx, _, _, rfl, s1 _ _ e, T.cl, T.octets, vl_octets, _, u, M, rfl, off.same s1, do_.same s1, by omega, fun v2 H2 s2 d2 => ?_⟩
      exact join 6 _ q v2 H2 (by decide) (by simp only [RWire.write]; rfl) hq s2 d2
    · have hd0 := d
      simp only [datOf] at hd0
      obtain ⟨a, dx, o, nm, p, rfl, _, e, _, _, dp⟩ := hd0.valAt
      have hl : (RWire.writeCount l.length ++ RWire.writeMany l).length + 1 ≤ 65536 := by simp only [RWire.write] at hw; exact hw
      rw [List.length_append] at hl
      simp only [plain] at hp
      simp only [RWire.fine, Bool.and_eq_true] at hf
      simp only [RWire.depth] at hd
      have hll := many_ge l
      refine ⟨_, rfl, a, C, dx, _, _, rfl, e, T.cl, T.kind, vl_kind, rfl, _, rfl, itF rfl ?_⟩
      refine ⟨_, rfl, a, C, dx, _, _, rfl, e, T.cl, T.kind, vl_kind, rfl, _, rfl, itF rfl ?_⟩
      refine ⟨_, rfl, a, C, dx, _, _, rfl, e, T.cl, T.kind, vl_kind, rfl, _, rfl, itT rfl ?_⟩
      refine ⟨one_line, fun q hq => ?_⟩
      have s1 : Same H (upd H q (.lst [.int ((7 : Nat) : Int)])) := Same.new hq
      refine ⟨_, rfl, a, C, dx, _, _, rfl, s1 _ _ e, T.cl, T.parts, vl_parts, _, l, M, rfl, off.same s1, dp.same s1, hp, hf.2, by omega, by omega, by omega, fun v2 H2 s2 d2 => ?_⟩
      exact join 7 _ q v2 H2 (by decide) (by simp only [RWire.write]; rfl) hq s2 d2
    · have hd0 := d
      simp only [datOf] at hd0
      obtain ⟨a, dx, o, nm, p, rfl, _, e, _, dn, dp⟩ := hd0.valAt
      have hl : (RWire.writeCount l.length ++ RWire.writeEntries l).length + 1 ≤ 65536 := by simp only [RWire.write] at hw; exact hw
      rw [List.length_append] at hl
      simp only [plain] at hp
      simp only [RWire.fine, Bool.and_eq_true] at hf
      simp only [RWire.depth] at hd
      have hll := entries_ge l
      refine ⟨_, rfl, a, C, dx, _, _, rfl, e, T.cl, T.kind, vl_kind, rfl, _, rfl, itF rfl ?_⟩
      refine ⟨_, rfl, a, C, dx, _, _, rfl, e, T.cl, T.kind, vl_kind, rfl, _, rfl, itF rfl ?_⟩
      refine ⟨_, rfl, a, C, dx, _, _, rfl, e, T.cl, T.kind, vl_kind, rfl, _, rfl, itF rfl ?_⟩
      refine ⟨_, rfl, a, C, dx, _, _, rfl, e, T.cl, T.kind, vl_kind, rfl, _, rfl, itT rfl ?_⟩
      refine ⟨one_line, fun q hq => ?_⟩
      have s1 : Same H (upd H q (.lst [.int ((8 : Nat) : Int)])) := Same.new hq
      refine ⟨_, rfl, a, C, dx, _, _, rfl, s1 _ _ e, T.cl, T.names, vl_names, _, rfl, a, C, dx, _, _, rfl, s1 _ _ e, T.cl, T.parts, vl_parts, _, _, l, M, rfl, off.same s1, dn.same s1, dp.same s1, hp, hf.2.1, by omega, by omega, by omega, fun v2 H2 s2 d2 => ?_⟩
      exact join 8 _ q v2 H2 (by decide) (by simp only [RWire.write]; rfl) hq s2 d2
theorem depth_pos : ∀ x : RWire.Value, 1 ≤ RWire.depth x := by
  intro x
  cases x <;> simp [RWire.depth]
theorem ok_write_value0 (D : Df K mg "write_value" s_write_value p_write_value f fd) : Own P w K mg base CX0 3 "write_value" p_write_value (spWriteValue C 0) := by
  refine D.own (D.F.ok sc_write_value (fun vs H Q E h => ?_) (fun cdv A outer s H vs Q E hr h => ?_))
  · obtain ⟨v, x, M, rfl, _⟩ := h
    rfl
  · obtain ⟨v, x, M, rfl, off, d, hp, hf, hd, _⟩ := h
    have := depth_pos x
    omega
end
end Pg

/-! PgX: exceptions that bear one text: raised, flying through defs, caught by one of several clauses «except X as n», read by str(n). In a wish the second letter is the address of the exception's arguments -/
namespace Pg
open PySem PySem.Spec PyProof.Rows L2 HandSPX
section
variable {cls : Value} {t : Addr}
/-- what is kept of the exception's object: class, no dict, no context, where its arguments lie -/
def Zm (cls : Value) (t : Addr) : Obj → Prop := fun o => L2N.Zn cls none o ∧ ∀ fv : Array Value, o.data = .fields fv → fv[0]? = some (.ref t)
theorem Zm.steady : PXN.Steady1 (Zm cls t) := fun o v h => by
  refine ⟨L2N.Zn.steady o v h.1, fun fv e => ?_⟩
  obtain ⟨c, dd, da, sl⟩ := o
  cases da with
  | fields ws =>
    have e' : (Data.fields (ws.setIfInBounds 1 v)) = Data.fields fv := e
    cases e'
    have k := h.2 ws rfl
    rw [Array.getElem?_setIfInBounds_ne (by decide)]
    exact k
  | _ => exact h.2 fv e
end
/-- an exception in the air of X; sI: the state without it; B: the ground -/
def XEm (X : Cx) (W : WX) (u : Value) (s' : Shared) : Prop :=
  ∃ (a : Addr) (B : Heap) (sI : Shared) (pins : List (Addr × Obj)) (σ : L2.St) (H : Hp) (cls : Value) (t : Addr), u = .ref a ∧ Inv X pins σ H sI ∧
    ((∀ b o, sI.heap.get? b = some o → b ∉ frs X.stack → B.get? b = some o) ∧ sI.heap.UpToSlots s'.heap) ∧ Sky B X.stack a (Zm cls t) X.env.locals s'.heap ∧ (H a = none ∧ s'.os = sI.os ∧ AllBare s'.gens) ∧ W cls (some t) σ H
def TakesM (X : Cx) (W : WX) : Prop := ∀ u s', XEm X W u s' → X.xe u s'
/-- behind a call that let one out -/
def CXm (P : Program) (w : World) (outer : List Env) (H : Hp) (s : Shared) (E : XK) (u : Value) (s' : Shared) : Prop :=
  ∃ (a : Addr) (B : Heap) (H' : Hp) (cls : Value) (t : Addr), u = .ref a ∧ FlyingZ B outer a (Zm cls t) s'.heap ∧ HOk P w H' B ∧ UB (frs outer) H H' s.heap B s'.heap ∧ (H' a = none ∧ s'.os = s.os ∧ AllBare s'.gens) ∧ E cls (some t) H'
section
variable {X : Cx} {pins : List (Addr × Obj)} {σ : L2.St} {H : Hp} {sI s s' : Shared} {B : Heap} {W : WX} {E : XK}
theorem XEm.ofCall (I : Inv X pins σ H s) {u : Value} (c : CXm X.prog X.w X.stack H s (fun cls d H' => W cls d σ H') u s') : XEm X W u s' := by
  obtain ⟨a, B, H1, cls, t, rfl, fly, ok1, keepB, ⟨na, eo, eg⟩, wish⟩ := c
  -- the heap of the ground and of the frames
  obtain ⟨G, in1, out1⟩ := restrict s'.heap fun b => (B.get? b).isSome || decide (b ∈ frs X.stack)
  have up : B.StaysIn s'.heap := fly.1
  have inB : ∀ b o, B.get? b = some o → G.get? b = some o := fun b o e => (in1 b (by simp [e])).trans (up b o e)
  have inF : ∀ b ∈ frs X.stack, G.get? b = s'.heap.get? b := fun b hb => in1 b (by simp [hb])
  have sub : ∀ b o, G.get? b = some o → s'.heap.get? b = some o ∧ (b ∈ frs X.stack ∨ B.get? b = some o) := fun b o e => by
    by_cases hb : b ∈ frs X.stack
    · exact ⟨(inF b hb).symm.trans e, .inl hb⟩
    · cases hB : B.get? b with
      | some o' =>
        have z := inB b o' hB
        rw [e] at z
        cases z
        exact ⟨up b o hB, .inr rfl⟩
      | none =>
        have z := out1 b (by simp [hB, hb])
        rw [e] at z
        cases z
  have J : Inv X pins σ H1 { s with heap := G, gens := s'.gens, drawn := s'.drawn, toks := s'.toks } :=
    I.call (ch := []) { keep := fun b o e n hb _ => inB b o (keepB.keep b o e n hb)
                        slot := fun b o e _ hb _ => let ⟨sl, q⟩ := keepB.slot b o e hb; ⟨sl, (inF b hb).trans q⟩
                        free := fun b o e n _ => keepB.free b o e n
                        there := fun b o e _ => by
                          by_cases hb : b ∈ frs X.stack
                          · obtain ⟨sl, q⟩ := keepB.slot b o e hb
                            exact ⟨_, (inF b hb).trans q⟩
                          · obtain ⟨o', q⟩ := keepB.there b o e hb
                            exact ⟨o', inB b o' q⟩
                        tups := keepB.tups
                        frzs := keepB.frzs
                        tbls := keepB.tbls } (ok1.kept inB) eg (fun _ z => nomatch z)
  refine ⟨a, B, _, pins, σ, H1, cls, t, rfl, J, ⟨fun b o e hb => ?_, Heap.UpToSlots.of_keeps fun b o e => (sub b o e).1⟩, .inr (.inl fly), ⟨na, eo, eg⟩, wish⟩
  rcases (sub b o e).2 with z | z
  · exact absurd z hb
  · exact z
theorem XEm.fresh {a t : Addr} {oe : Obj} {fv : Array Value} {cls : Value} (I : Inv X pins σ H sI) (k : ∀ b o, sI.heap.get? b = some o → s'.heap.get? b = some o) (na : sI.heap.get? a = none) (ha : s'.heap.get? a = some oe)
    (hz : Zm cls t oe) (hd : oe.data = .fields fv) (h1 : fv[1]? = some .none) (hH : H a = none) (eo : s'.os = sI.os) (eg : AllBare s'.gens) (wish : W cls (some t) σ H) : XEm X W (.ref a) s' := by
  have none_at : (PySem.W.hideAll sI.heap (frs X.stack)).get? a = none := by
    cases q : (PySem.W.hideAll sI.heap (frs X.stack)).get? a with
    | none => rfl
    | some o => exact absurd (PySem.W.of_hideAll _ q) (by rw [na]; simp)
  have frames : s'.heap.FunFrames (PySem.W.hideAll sI.heap (frs X.stack)) X.stack :=
    Heap.FunFrames.of_keeps (fun b o e _ => ⟨o, k b o e, rfl⟩) (funFrames_none I.stack fun b hb => PySem.W.hideAll_none _ hb)
  exact ⟨a, PySem.W.hideAll sI.heap (frs X.stack), sI, pins, σ, H, cls, t, rfl, I, ⟨fun b o e hb => PySem.W.hideAll_get _ e hb, Heap.UpToSlots.of_keeps k⟩,
    .inl ⟨fun b o e => k b o (PySem.W.of_hideAll _ e), none_at, frames, oe, fv, ha, hz, hd, h1⟩, ⟨hH, eo, eg⟩, wish⟩
theorem XEm.out (hs : X.stack = X.env :: X.outer) (hf : X.env.frame = some X.env.locals) (hex : X.ex = []) {E₁ : Value → Shared → Prop} {u : Value} (x : XEm X (fun cls d _ H => E cls d H) u s') :
    wpAny (model X.prog X.w) X.A (leaving X.env u) (fun _ s2 => CXm X.prog X.w X.outer X.H_0 X.s_0 E u s2) E₁ s' := by
  obtain ⟨a, B, sI, pins, σ, H, cls, t, rfl, I, ⟨ground, up⟩, sky, ⟨na, eo, eg⟩, wish⟩ := x
  have frames : X.A.frames = some (X.env :: X.outer) := I.ok.frames.trans (congrArg some hs)
  have noex : ∀ b, b ∉ X.ex := fun b hb => by rw [hex] at hb; cases hb
  have young : ∀ b o, X.s_0.heap.get? b = some o → b ∉ X.fs → b ∉ frs X.stack := fun b o e hb hm => by
    rcases List.mem_cons.mp (I.stkSub b hm) with z | z
    · have l1 := Heap.lt_size e
      rw [z] at l1
      exact Nat.lt_irrefl _ (Nat.lt_of_lt_of_le l1 I.ok.above)
    · exact hb z
  have fin : ∀ h', FlyingZ B X.outer a (Zm cls t) h' → s'.heap.UpToSlots h' → CXm X.prog X.w X.outer X.H_0 X.s_0 E (.ref a) { s' with heap := h' } := fun h' fly up2 =>
    ⟨a, B, H, cls, t, rfl, fly, I.inGround ground,
      { keep := fun b o e n hb => ground b o (I.base.keep b o e n hb (noex b)) (young b o e hb)
        slot := fun b o e hb => by
          obtain ⟨_, o2, e2, nf⟩ := I.ok.funs.mem hb
          rw [e] at e2
          cases e2
          obtain ⟨s1, q1⟩ := I.base.slot b o e (I.ok.frf b hb) hb (noex b)
          obtain ⟨s2, q2⟩ := up b _ q1 nf
          obtain ⟨s3, q3⟩ := up2 b _ q2 nf
          exact ⟨s3, q3⟩
        free := fun b o e n => I.base.free b o e n (noex b)
        there := fun b o e hb => by
          obtain ⟨o', q⟩ := I.base.there b o e (noex b)
          exact ⟨o', ground b o' q (young b o e hb)⟩
        tups := I.base.tups
        frzs := I.base.frzs
        tbls := I.base.tbls }, ⟨na, eo.trans I.os, eg⟩, wish⟩
  rw [hs] at sky
  rcases sky with ⟨hB, hn, hl, oe, fv, ha, hz, hd, h1⟩ | fly | held
  · exact PXN.leaving_firstZ Zm.steady frames hl hf ha hB hn hd h1 hz fin
  · exact PXN.leaves_onZ Zm.steady frames hf fly fin
  · exact leaves_heldZ hf held fin
/-- the wish of a def that may raise -/
theorem takesM_of (hs : X.stack = X.env :: X.outer) (hf : X.env.frame = some X.env.locals) (hex : X.ex = []) {E₁ : Value → Shared → Prop}
    (hx : X.xe = fun e s' => wpAny (model X.prog X.w) X.A (leaving X.env e) (fun _ s2 => CXm X.prog X.w X.outer X.H_0 X.s_0 E e s2) E₁ s') : TakesM X (fun cls d _ H => E cls d H) := fun u s' x => by
  rw [hx]
  exact x.out hs hf hex
theorem passAtM (tk : TakesM X W) (σ : L2.St) : PassesAt (CXm X.prog X.w) X σ (WE W σ) := fun _ _ _ e s' I c => tk e s' (XEm.ofCall I c)
end
/-- an object at an address that had none is tracked -/
theorem inv_gap {X : Cx} {pins : List (Addr × Obj)} {σ : L2.St} {H : Hp} {s : Shared} {h' : Heap} {a : Addr} {o : HO} (I : Inv X pins σ H s) (k : ∀ b u, s.heap.get? b = some u → h'.get? b = some u) (na : s.heap.get? a = none) (new : ObjOk X.prog X.w (upd H a o) h' a o) :
    Inv X pins σ (upd H a o) { s with heap := h' } := by
  have hn : H a = none := I.hok.gone na
  have off : ∀ {b : Addr} {u : HO}, H b = some u → upd H a o b = some u := fun {b u} q => by rw [upd_ne (ne_of_none q hn)]; exact q
  have offN : ∀ {b : Addr} {u : Obj}, s.heap.get? b = some u → b ≠ a := fun {b u} q z => by rw [z, na] at q; cases q
  have un : Un X.fs [] H (upd H a o) s.heap h' := ⟨fun b u q _ _ _ => k b u q, fun b u q _ _ _ => ⟨u.slots, k b u q⟩, fun b u q n _ => (upd_ne (offN q)).trans n, fun b u q _ => ⟨u, k b u q⟩,
    fun _ _ => off, fun _ _ _ => off, fun _ ps q => ⟨#[], (off q).trans (by simp)⟩⟩
  refine I.un (t' := s.toks) un fun b u e => ?_
  by_cases hb : b = a
  · subst hb
    rw [upd_same] at e
    cases e
    exact new
  · rw [upd_ne hb] at e
    exact (I.hok b u e).stay (fun c v _ q => k c v q) (fun c q => off q) fun c xs q => off q
/-! ### raise X(text) -/
def MkM (X : Cx) (pins : List (Addr × Obj)) (σ : L2.St) (Q : XK) (u : Value) (s' : Shared) : Prop :=
  ∃ (a t : Addr) (oe : Obj) (fv : Array Value) (sI : Shared) (H' : Hp) (cls : Value), u = .ref a ∧ Inv X pins σ H' sI ∧ (∀ b o, sI.heap.get? b = some o → s'.heap.get? b = some o) ∧ sI.heap.get? a = none ∧ s'.heap.get? a = some oe ∧
    Zm cls t oe ∧ oe.data = .fields fv ∧ fv[1]? = some .none ∧ (H' a = none ∧ s'.os = sI.os ∧ AllBare s'.gens) ∧ Raises X cls ∧ Q cls (some t) H'
def PMkM (X : Cx) (e : Expr) (r : L2.St → Hp → XK → Prop) : Prop :=
  ∀ (pins : List (Addr × Obj)) (s : Shared) (σ : L2.St) (H : Hp) (Q : XK), Inv X pins σ H s → r σ H Q → wpAny (model X.prog X.w) X.A (eval e X.env) (MkM X pins σ Q) X.xe s
theorem ps_raiseM {X : Cx} {W : WX} {e : Expr} {r : L2.St → Hp → XK → Prop} {pos : Pos} (hc : X.calm = true) (tk : TakesM X W) (he : PMkM X e r) : PS X (.Raise (some e) none pos) (fun _ σ H => r σ H fun cls d H' => W cls d σ H') := by
  refine ⟨fun pins s σ H D I h => ?_⟩
  show wpAny _ _ (do standAt pos; raiseStmt X.env (some (do let v ← eval e X.env; standAt pos; pure v)) none) _ _ _
  refine wpAny_bind (wpAny_standAt (raise_made (I.ok.hd hc) (wpAny_bind (wpAny_mono (he pins s σ H _ I h) (fun u s1 hu => wpAny_bind (wpAny_standAt (wpAny_pure ?_))) fun _ _ x => x))))
  obtain ⟨a, t, oe, fv, sI, H', cls, rfl, J, k, na, ha, hz, hd, h1, ⟨hH, eo, eg⟩, r, q⟩ := hu
  obtain ⟨r1, r2⟩ := r (model X.prog X.w) s1.heap (J.kIn.keeps k)
  exact ⟨a, oe, fv, cls, rfl, ha, hz.1.1, hd, h1, r1, r2, tk _ _ (XEm.fresh J k na ha hz hd h1 hH eo eg q)⟩
/-- the class of an own exception without __init__ -/
structure XCls (K : PySem.W.Frag) (mg : Str → Option Value) (x : Str) (C : Addr) : Prop where
  q : PySem.W.excIn K C [.type "Exception", .type "BaseException", .type "object"] "Exception.__new__" = true
  g : mg x = some (.ref C)
  k : PySem.W.keepIn K (.ref C) = true
  b : PySem.W.subIn K (.ref C) (.type "BaseException") = some true
  t : PySem.W.typeIn K (.ref C) = some (.type "type")
  s : PySem.W.findIn K (.ref C) "__str__" = some (some (.builtin "BaseException.__str__"))
/-- X(e), e a text -/
theorem pmk_msg {X : Cx} {x : Str} {C : Addr} {e : Expr} {te : TE} {p pos : Pos} (T : XCls X.K X.mg x C) (hg : Gl X x) (he : PE X e te) (hs : starEach [e] X.env = (false, eval e X.env) :: starEach [] X.env := by rfl) (hdb : (x == ("__debug__" : Str)) = false := by decide) :
    PMkM X (.Call (.Name x p) [e] [] pos) (fun σ H Q => te σ H fun v H1 => ∀ t, H1 t = none → Q (.ref C) (some t) (upd H1 t (.tup [v]))) := by
  intro pins s σ H Q I h
  refine wpAny_Call_Name_kw (ld_glob I hg T.g ?_ hdb)
  have mid : wpAny (model X.prog X.w) X.A (spliced (backTo pos (starEach [e] X.env))) (fun us s1 => ∃ v y H1, us = [v] ∧ Inv X pins σ H1 s1 ∧ RelV y v ∧ ∀ t, H1 t = none → Q (.ref C) (some t) (upd H1 t (.tup [y]))) X.xe s :=
    PyProof.Rows.args_cons (thn (he.run pins s σ H _ I h) fun v s1 hv => PyProof.Rows.args_nil (by
      obtain ⟨y, H1, I1, r1, q1⟩ := hv
      exact ⟨v, y, H1, rfl, I1, r1, q1⟩)) hs
  refine PySem.W.callWith_K (h₀ := X.base) I.ok.mod.kin T.k (thn mid fun us s1 hu => ?_) hs rfl
  obtain ⟨v, y, H1, rfl, I1, r1, q1⟩ := hu
  refine ⟨I1.kIn, ?_⟩
  show wpAny _ _ (call (.ref C) [v]) _ _ _
  obtain ⟨bm, N, nm, qn, bs, hdct, sn, sub, ab, col, dd, k0, k1, k2, k3, k5, mN, hC, hN, hni, TT⟩ := exc_obj I1.kIn T.q
  refine wpAny_call_exc_subT PySem.F.excBase_Exception TT hC hN hni (fun h' a hm => ?_) (by show 1 ≤ sizeLine; rw [sizeLine_eq]; omega)
  obtain ⟨t, ha, nt, ht⟩ := hm.there
  have hta : t ≠ a := fun z => by
    rw [z, ha] at ht
    cases ht
  obtain ⟨G, g1, g2⟩ := restrict h' fun b => decide (b ≠ a)
  have gk : ∀ b, b ≠ a → G.get? b = h'.get? b := fun b hb => g1 b (decide_eq_true hb)
  have ga : G.get? a = none := g2 a (by simp)
  have old : ∀ b o, s1.heap.get? b = some o → G.get? b = some o := fun b o q => (gk b (fun z => by rw [z, hm.new] at q; cases q)).trans (hm.keeps b o q)
  have ob : ObjOk X.prog X.w (upd H1 t (.tup [y])) G t (.tup [y]) := ⟨by show 1 ≤ sizeLine; rw [sizeLine_eq]; omega, [v], .cons r1 .nil, ⟨_, (gk t hta).trans ht, rfl, _, rfl⟩⟩
  have J : Inv X pins σ (upd H1 t (.tup [y])) { s1 with heap := G } := inv_gap I1 old nt ob
  refine ⟨a, t, _, _, { s1 with heap := G }, _, .ref C, rfl, J, fun b o q => ?_, ga, ha, ⟨⟨rfl, rfl, fun vs e => by cases e; rfl⟩, fun vs e => by cases e; rfl⟩, rfl, rfl, ⟨?_, rfl, I1.bare⟩, raises_own T.b T.t, q1 t (I1.hok.gone nt)⟩
  · by_cases hb : b = a
    · have q' : G.get? b = some o := q
      rw [hb, ga] at q'
      cases q'
    · exact (gk b hb).symm.trans q
  · rw [upd_ne (Ne.symm hta)]
    exact I1.hok.gone hm.new
end Pg

/-! PgY: try with clauses «except X as n», str(n), calls in such a clause -/
namespace Pg
open PySem PySem.Spec PyProof.Rows L2 HandSPX
abbrev Clause := Addr → Value → Option Addr → TS
/-- the ends as a clause's suite sees them: its name goes -/
def unname (i : Nat) (D : Ends) : Ends := ⟨fun σ H => D.nx (σ.set i none) H, D.rt, fun σ H => D.bk (σ.set i none) H, fun σ H => D.ct (σ.set i none) H⟩
/-- what the clauses wish of an error of the body, one after the other; slot i is their name's -/
def wClauses (K : PySem.W.Frag) (i : Nat) (Wout : WX) (D : Ends) : List (Value × Clause) → WX
  | [] => Wout
  | (c, ts) :: r => fun cls d σ H => ∃ b, PySem.W.exmOne K cls c = some b ∧ (b = true → ∀ a, H a = none → ts a cls d (unname i D) (σ.set i (some (.ref a))) H) ∧ (b = false → wClauses K i Wout D r cls d σ H)
inductive HdsM (X : Cx) (n : Str) : List ExceptHandler → List (Value × Clause) → Prop
  | nil : HdsM X n [] []
  | cons {x : Str} {c : Value} {ts : Clause} {st : Stmt} {sts : List Stmt} {p1 p2 : Pos} {hds : List ExceptHandler} {l : List (Value × Clause)} (hc : Names X x c)
      (hsu : ∀ (a : Addr) (oe : Obj) (cls : Value) (t : Addr) (pn : List (Addr × Obj)), Zm cls t oe → (∃ vs, oe.data = .fields vs) → PSs (X.suite a ((a, oe) :: pn)) (st :: sts) (ts a cls (some t))) (r : HdsM X n hds l) :
      HdsM X n (.ExceptHandler (some (.Name x p1)) (some n) (st :: sts) p2 :: hds) ((c, ts) :: l)
theorem takesM0 {X : Cx} : TakesM X (fun _ _ _ _ => False) := fun u s' x => by
  obtain ⟨_, _, _, _, _, _, _, _, _, _, _, _, _, w⟩ := x
  exact w.elim
section
variable {X : Cx} {n : Str} {i : Nat} {body : List Stmt} {h0 : ExceptHandler} {hds : List ExceptHandler} {l : List (Value × Clause)} {pos : Pos} {tb : WX → TS} {Wout : WX}
theorem ps_tryM (hs : X.stack = X.env :: X.outer) (hf : X.env.frame = some X.env.locals) (hN : X.N.Nodup) (hi : X.N[i]? = some n) (hln : X.env.kindOf n = some .local) (tk : TakesM X Wout)
    (hb : ∀ (W : WX) (pn : List (Addr × Obj)) (xe : Value → Shared → Prop), TakesM (X.tr pn xe) W → PassesOwn (model X.prog X.w) X.A X.env xe → PSs (X.tr pn xe) body (tb W))
    (hh : HdsM X n (h0 :: hds) l) : PS X (.Try body (h0 :: hds) [] [] pos) (fun D σ H => tb (wClauses X.K i Wout D l) D σ H) := by
  refine ⟨fun pins s σ H D I h => ?_⟩
  have ok := I.ok
  have frames : X.A.frames = some (X.env :: X.outer) := ok.frames.trans (congrArg some hs)
  refine wpAny_Try_except ?_
  refine wpAny_mono ((hb (wClauses X.K i Wout D l) (X.pn ++ pins) (fun e s₁ => wpAny (model X.prog X.w) X.A (noteFrame e X.env) (fun _ s₂ => wpAny (model X.prog X.w) X.A (setFlight e none) (fun _ s₃ =>
    wpAny (model X.prog X.w) X.A (handleBy e X.env (h0 :: hds)) (SP X pins D) X.xe s₃) X.xe s₂) X.xe s₁) (fun u s' xx => ?_) PassesOwn.looking).run [] s σ H D (I.toTry _) h) (fun fl s1 hsp => ?_) (fun e s1 he => he)
  · obtain ⟨a, B, sI, pins', σ', H', cls, t, rfl, J', ⟨ground, up⟩, sky, ⟨na, eo, eg⟩, wish⟩ := xx
    have J : Inv X pins σ' H' sI := J'.ofTry ok
    have sky' : Sky B (X.env :: X.outer) a (Zm cls t) X.env.locals s'.heap := by rw [← hs]; exact sky
    show wpAny (model X.prog X.w) X.A (noteFrame (.ref a) X.env) _ _ _
    refine L2N.Sky.land Zm.steady frames hf sky' fun h3 fl3 up3 => ?_
    have J3 : Inv X pins σ' H' { s' with heap := h3 } := J.landed ground fl3.1 (up.trans up3) eo eg
    obtain ⟨oe3, vs3, he3, hz3, hd3⟩ := fl3.there
    have noframe : a ∉ frs (X.env :: X.outer) := fun hm => by
      obtain ⟨_, o', e', nf⟩ := fl3.2.2.1.mem hm
      rw [he3] at e'
      cases e'
      exact nf _ hd3
    have nL : a ≠ X.env.locals := fun z => noframe (List.mem_filterMap.mpr ⟨X.env, List.mem_cons_self, by rw [hf, z]⟩)
    have nF : a ∉ X.fs := fun hm => by
      obtain ⟨e, he, q⟩ := List.mem_filterMap.mp hm
      exact noframe (List.mem_filterMap.mpr ⟨e, List.mem_cons_of_mem _ he, q⟩)
    have S3 := J3.suite he3 hd3 na nL nF
    have go : ∀ {hds' : List ExceptHandler} {l' : List (Value × Clause)}, HdsM X n hds' l' → wClauses X.K i Wout D l' cls (some t) σ' H' →
        wpAny (model X.prog X.w) X.A (handleBy (.ref a) X.env hds') (SP X pins D) X.xe { s' with heap := h3 } := by
      intro hds' l' hk
      induction hk with
      | nil =>
        intro wish
        refine wpAny_handleBy_nil ?_
        obtain ⟨_, _, _, oe, vs, T, oT, ts', he, hz, hd, h1, hr⟩ := id fl3
        unfold PySem.passOn
        refine wpAny_bind (wpAny_field he hd h1 ?_)
        rw [if_neg (show ¬ ((Value.ref T == Value.none) = true) from by simp)]
        have fin : wpAny (model X.prog X.w) X.A (setFlight (.ref a) X.env.frame) (fun _ s4 => wpAny (model X.prog X.w) X.A (throw (.ref a) : Sem Flow) (SP X pins D) X.xe s4) X.xe { s' with heap := h3 } := by
          rw [hf]
          refine setFlight_upZ fl3 fun h4 hh4 up4 => wpAny_throw (tk _ _ ?_)
          exact ⟨a, B, sI, pins, σ', H', cls, t, rfl, J, ⟨ground, (up.trans up3).trans up4⟩, .inr (.inr (by rw [hs]; exact hh4)), ⟨na, eo, eg⟩, wish⟩
        first
          | exact wpAny_bind (wpAny_pure (wpAny_bind fin))
          | exact wpAny_bind fin
      | @cons x c ts st sts p1 p2 hds2 l2 hc hsu r ih =>
        intro wish
        obtain ⟨b, hb1, yes, no⟩ := wish
        refine wpAny_handleBy_cons (codeAny_handlers_test ?_) (by intro q; cases q)
        have LT : PySem.W.Looks (model X.prog X.w) h3 (typeOf (.ref a)) cls := fun A Q E s k q => wpAny_typeOf_ref (k _ _ he3) (by rw [hz3.1.1]; exact q)
        have LM := PySem.W.exm_one (M := model X.prog X.w) J3.kIn LT hb1
        have asked : ∀ {Q : Value → Shared → Prop} {E : Value → Shared → Prop}, Q c { s' with heap := h3 } → wpAny (model X.prog X.w) (X.A.mark (some (.ref a))) (eval (.Name x p1) X.env) Q E { s' with heap := h3 } := fun {Q E} q => by
          obtain ⟨hg, hdbg, hm | ⟨hm, hv, hnn⟩⟩ := hc
          · exact ld_glob (X := X.suite a ((a, oe3) :: (X.pn ++ pins))) S3 hg hm q hdbg
          · exact ld_blt (X := X.suite a ((a, oe3) :: (X.pn ++ pins))) S3 hg hm hv q hnn hdbg
        refine asked (LM.here ?_)
        cases b with
        | true =>
          refine codeAny_handlers_suite_as ?_
          refine lands_againZ fl3 fun h4 fl4 up4 => ?_
          have J4 : Inv X pins σ' H' { s' with heap := h4 } := J.landed ground fl4.1 ((up.trans up3).trans up4) eo eg
          obtain ⟨oe4, vs4, he4, hz4, hd4⟩ := fl4.there
          have S4 := J4.suite he4 hd4 na nL nF
          refine store_ok (X := X.suite a ((a, oe4) :: (X.pn ++ pins))) (v := .ref a) S4 hN hi (.inl hln) rfl (fun s5 S5 => ?_) (.inr hln)
          refine wpAny_mono ((hsu a oe4 cls t (X.pn ++ pins) hz4 ⟨_, hd4⟩).run [] s5 _ H' _ S5 (yes rfl a na)) (fun fl s6 hsp => ?_) (fun _ _ z => False.elim z)
          have gone : ∀ {σ6 : L2.St} {H6 : Hp} {Q : Shared → Prop}, Inv (X.suite a ((a, oe4) :: (X.pn ++ pins))) [] σ6 H6 s6 → (∀ s7, Inv X pins (σ6.set i none) H6 s7 → Q s7) →
              wpAny (model X.prog X.w) X.A (do bindName X.env n .none; unbindBehindTheSuite X.env n p2) (fun _ s7 => Q s7) X.xe s6 := fun {σ6 H6 Q} S6 hq => gone_ok (S6.unsuite ok) hN hi hln hq
          cases fl with
          | next =>
            obtain ⟨σ6, H6, S6, q6⟩ := hsp
            exact gone S6 fun s7 J7 => ⟨_, _, J7, q6⟩
          | brk =>
            obtain ⟨σ6, H6, S6, q6⟩ := hsp
            exact gone S6 fun s7 J7 => ⟨_, _, J7, q6⟩
          | cont =>
            obtain ⟨σ6, H6, S6, q6⟩ := hsp
            exact gone S6 fun s7 J7 => ⟨_, _, J7, q6⟩
          | ret u =>
            obtain ⟨v6, σ6, H6, S6, r6, q6⟩ := hsp
            exact gone S6 fun s7 J7 => ⟨_, _, _, J7, r6, q6⟩
        | false =>
          show wpAny _ X.A (handleBy (.ref a) X.env hds2) _ _ _
          exact ih (no rfl)
    exact go hh wish
  · cases fl with
    | next =>
      obtain ⟨σ', H', J', q⟩ := hsp
      exact wpAny_execs_nil ⟨σ', H', J'.ofTry ok, q⟩
    | brk =>
      obtain ⟨σ', H', J', q⟩ := hsp
      exact ⟨σ', H', J'.ofTry ok, q⟩
    | cont =>
      obtain ⟨σ', H', J', q⟩ := hsp
      exact ⟨σ', H', J'.ofTry ok, q⟩
    | ret u =>
      obtain ⟨v, σ', H', J', r, q⟩ := hsp
      exact ⟨v, σ', H', J'.ofTry ok, r, q⟩
end
/-! ### str(n) -/
section
variable {X : Cx} {a t : Addr} {oe : Obj} {cls : Value} {pn : List (Addr × Obj)}
/-- str(e), e the caught error at a, its class C, its arguments at t: the text that it was made with -/
def tStrE (C a t : Addr) (cls : Value) (te : TE) : TE := fun σ H Q => te σ H fun x H1 => x = .ref a ∧ cls = .ref C ∧ ∃ m, H1 t = some (.tup [.str m]) ∧ Q (.str m) H1
theorem pe_strE {x : Str} {C : Addr} {e : Expr} {te : TE} {p pos : Pos} {j : Nat} (T : XCls X.K X.mg x C) (hz : Zm cls t oe) (hd : ∃ vs, oe.data = .fields vs) (hm : X.mg "str" = none) (hr : Room j X.A) (he : PE (X.suite a ((a, oe) :: pn)) e te)
    (hg : Gl X "str" := by rfl) (hs : starEach [e] X.env = (false, eval e X.env) :: starEach [] X.env := by rfl) : PE (X.suite a ((a, oe) :: pn)) (.Call (.Name "str" p) [e] [] pos) (tStrE C a t cls te) := by
  refine ⟨fun pins s σ H Q I h => ?_⟩
  refine Call_ (ld_blt (X := X.suite a ((a, oe) :: pn)) I hg hm boot_str ?_)
  refine PyProof.Rows.callWith_type1 (PyProof.Rows.args_cons (thn (he.run pins s σ H _ I h) fun v s1 hv => PyProof.Rows.args_nil ?_) hs) hs rfl
  obtain ⟨y, H1, I1, r1, rfl, rfl, m, et, q1⟩ := hv
  obtain rfl : v = Value.ref a := r1
  obtain ⟨ha, _⟩ := I1.pin (a, oe) (List.mem_append_left _ List.mem_cons_self)
  obtain ⟨vs, hd⟩ := hd
  have xc : ExcC X.K C a t s1.heap := ⟨I1.kIn, oe, vs, ha, hz.1.1, hd, hz.2 vs hd⟩
  obtain ⟨_, its, rv, it⟩ := I1.hok t _ et
  cases rv with
  | cons rm rn =>
    cases rn
    obtain ⟨tok, rfl⟩ := rm
    obtain ⟨o', i1, i2, i3, i4⟩ := it
    refine PySem.P.str_of_C_one ?_ xc ⟨o', i3, i1, i2, i4⟩ T.s T.b ⟨.str m, H1, I1, ⟨tok, rfl⟩, q1⟩
    have := hr.un
    show X.A.units + 2 < cLine
    omega
/-- within such a clause the handled error is known -/
theorem hot_suite (hz : Zm cls t oe) (hd : ∃ vs, oe.data = .fields vs) : L2H.HotC (X.suite a ((a, oe) :: pn)) := by
  obtain ⟨vs, hd⟩ := hd
  exact ⟨(a, oe), ⟨rfl, vs, hd, hz.1.2.2 vs hd⟩, List.mem_cons_self⟩
theorem room_suite {j : Nat} (hr : Room j X.A) : L2H.RoomH j (X.suite a ((a, oe) :: pn)).A := ⟨hr.dp, hr.un⟩
end
end Pg

/-! PgH: what is done while an error is handled: a pair unpacked, a comprehension over a text -/
namespace Pg
open PySem PySem.Spec PyProof.Rows L2 HandSPX HotX
section
variable {prog : Program} {w : World} {A : Around} {E : Value → Shared → Prop} {s : Shared}
/-- a walk's end: the stop is made, chained to what is handled, and forgotten -/
theorem tup_end_hot {it t x1 : Addr} {i : Nat} {items : Array Value} {Q : Option Value → Shared → Prop} (hot : HotAt A x1 s.heap) (hne : x1 ≠ it) (hit : IsTupIter s.heap it t i) (ht : IsTup s.heap t items) (hx : items[i]? = none)
    (hQ : ∀ h', Heap.ExtBut it s.heap h' → Q none { s with heap := h' }) : wpAny (model prog w) A (pyNext (.ref it)) Q E s := by
  obtain ⟨o, ho, hc, hd⟩ := id hit
  obtain ⟨ol, hol, _, nl, hdl⟩ := ht
  obtain ⟨hh, o1, vs1, h1, d1, c1⟩ := hot
  unfold pyNext
  refine wpAny_bind (wpAny_attempt (wpAny_callSpecial?_slot (name := Str.ofString "__next__") hit.typeIs slot_tupleiter_next (wpAny_call_entry slot_tupleiter_next hit.typeIs entry_tupleiter_next ?_ (args_tupleiter_next _))))
  show wpAny _ _ (field (.ref it) 0 >>= _) _ _ s
  refine wpAny_bind (wpAny_field ho hd (x := .ref t) rfl ?_)
  show wpAny _ _ (if (Value.ref t == Value.none) = true then _ else _) _ _ s
  rw [if_neg (show ¬ ((Value.ref t == Value.none) = true) from Bool.false_ne_true)]
  show wpAny _ _ (field (.ref it) 1 >>= _) _ _ s
  refine wpAny_bind (wpAny_field ho hd (x := .int i 0) rfl ?_)
  show wpAny _ _ (seqItems? (.ref t) >>= _) _ _ s
  refine wpAny_bind (wpAny_seqItems hol hdl ?_)
  simp only [Int.toNat_natCast, hx]
  refine wpAny_bind (wpAny_rule (wpAny_bind (wpAny_setField ho hd (by simp) ?_)))
  have h1' : (s.heap.update it (Obj.mapFields (·.setIfInBounds 0 .none))).get? x1 = some o1 := (Heap.get?_update_other _ _ hne.symm).trans h1
  show wpAny _ _ (newExc (.type "StopIteration") [] >>= _) _ _ _
  refine wpAny_bind ?_
  simp only [newExc, newTuple]
  refine wpAny_bind (wpAny_newObj_type ?_ (by size_fits))
  refine wpAny_bind (m := firstArgMember _ _) (wpAny_of_eq (a := Value.none) (by first | rfl | (simp only [firstArgMember]; rfl)) ?_)
  refine wpAny_newObj_type ?_ (by size_fits)
  refine raiseNew_hot ⟨hh, o1, vs1, Heap.get?_push_of_some _ (Heap.get?_push_of_some _ h1'), d1, c1⟩ (Nat.ne_of_lt (Heap.lt_size (Heap.get?_push_of_some _ h1'))) (Heap.get?_push_size _ rfl) rfl (by first | (simp; done) | (simp; omega) | (simp only [Array.size_append]; simp; omega)) ?_
  refine wpAny_bind (wpAny_isInstance (T := "StopIteration") (b := true) ⟨_, Heap.get?_update_self _ (Heap.get?_push_size _ rfl) rfl, rfl⟩ isSubtype_stop ?_)
  refine wpAny_pure (hQ _ fun b o hb e => ?_)
  have e' : (s.heap.update it (Obj.mapFields (·.setIfInBounds 0 .none))).get? b = some o := (Heap.get?_update_other _ _ hb.symm).trans e
  rw [Heap.get?_update_other _ _ (Nat.ne_of_gt (Heap.lt_size (Heap.get?_push_of_some _ e')))]
  exact Heap.get?_push_of_some _ (Heap.get?_push_of_some _ e')
theorem str_end_hot {it x1 : Addr} {x : Str} {t : Tok} {i : Nat} {Q : Option Value → Shared → Prop} (hot : HotAt A x1 s.heap) (hne : x1 ≠ it) (hit : s.heap.IsStrIter it "str_ascii_iterator" x t i) (hx : x.cps[i]? = none)
    (hQ : ∀ h', Heap.ExtBut it s.heap h' → Q none { s with heap := h' }) : wpAny (model prog w) A (pyNext (.ref it)) Q E s := by
  obtain ⟨o, ho, hc, hd⟩ := id hit
  obtain ⟨hh, o1, vs1, h1, d1, c1⟩ := hot
  unfold pyNext
  refine wpAny_bind (wpAny_attempt (wpAny_callSpecial?_slot (name := Str.ofString "__next__") hit.typeIs PySem.F.slot_str_ascii_iterator_next (wpAny_call_entry PySem.F.slot_str_ascii_iterator_next hit.typeIs PySem.F.entry_str_ascii_iterator_next ?_ (PySem.F.args_str_ascii_iterator_next_1 _))))
  show wpAny _ _ (field (.ref it) 0 >>= _) _ _ s
  refine wpAny_bind (wpAny_field ho hd (x := .str x t) rfl ?_)
  show wpAny _ _ (field (.ref it) 1 >>= _) _ _ s
  refine wpAny_bind (wpAny_field ho hd (x := .int i 0) rfl ?_)
  simp only [Int.toNat_natCast, hx]
  refine wpAny_bind (wpAny_rule (wpAny_bind (wpAny_setField ho hd (by simp) (wpAny_bind (wpAny_letGo ?_)))))
  have h1' : (s.heap.update it (Obj.mapFields (·.setIfInBounds 0 .none))).get? x1 = some o1 := (Heap.get?_update_other _ _ hne.symm).trans h1
  show wpAny _ _ (newExc (.type "StopIteration") [] >>= _) _ _ _
  refine wpAny_bind ?_
  simp only [newExc, newTuple]
  refine wpAny_bind (wpAny_newObj_type ?_ (by size_fits))
  refine wpAny_bind (m := firstArgMember _ _) (wpAny_of_eq (a := Value.none) (by first | rfl | (simp only [firstArgMember]; rfl)) ?_)
  refine wpAny_newObj_type ?_ (by size_fits)
  refine raiseNew_hot ⟨hh, o1, vs1, Heap.get?_push_of_some _ (Heap.get?_push_of_some _ h1'), d1, c1⟩ (Nat.ne_of_lt (Heap.lt_size (Heap.get?_push_of_some _ h1'))) (Heap.get?_push_size _ rfl) rfl (by first | (simp; done) | (simp; omega) | (simp only [Array.size_append]; simp; omega)) ?_
  refine wpAny_bind (wpAny_isInstance (T := "StopIteration") (b := true) ⟨_, Heap.get?_update_self _ (Heap.get?_push_size _ rfl) rfl, rfl⟩ isSubtype_stop ?_)
  refine wpAny_pure (hQ _ fun b o hb e => ?_)
  have e' : (s.heap.update it (Obj.mapFields (·.setIfInBounds 0 .none))).get? b = some o := (Heap.get?_update_other _ _ hb.symm).trans e
  rw [Heap.get?_update_other _ _ (Nat.ne_of_gt (Heap.lt_size (Heap.get?_push_of_some _ e')))]
  exact Heap.get?_push_of_some _ (Heap.get?_push_of_some _ e')
/-- a, b = t -/
theorem unpack_hot {env : Env} {elts : List Expr} {k : Nat} {pos : Pos} {t x1 : Addr} {items : Array Value} {Q : Unit → Shared → Prop} (hot : HotAt A x1 s.heap) (ht : IsTup s.heap t items)
    (hn : (assignEach elts env).length = items.size) (hstar : (assignEach elts env).findIdx? (·.1) = none)
    (h : ∀ h', Heap.ExtBut s.heap.objs.size s.heap h' → wpAny (model prog w) A (assignInOrder ((assignEach elts env).map (·.2)) items.toList) Q E { s with heap := h' }) :
    wpAny (model prog w) A (assign (.Tuple elts k pos) env (.ref t)) Q E s := by
  have hlt : t ≠ s.heap.objs.size := by obtain ⟨o, ho, _⟩ := ht; exact Nat.ne_of_lt (Heap.lt_size ho)
  obtain ⟨hh, o1, vs1, h1, d1, c1⟩ := hot
  have x1lt : x1 ≠ s.heap.objs.size := Nat.ne_of_lt (Heap.lt_size h1)
  rw [assign_Tuple]
  refine wpAny_bind (wpAny_standAt ?_)
  unfold unpack
  rw [hn, hstar]
  refine wpAny_bind (wpAny_holding ?_)
  show wpAny _ _ (unpackItems (.ref t) items.size none) _ _ _
  unfold unpackItems
  refine wpAny_bind ?_
  unfold notIterableAtAll
  refine wpAny_bind (wpAny_specialOf ht.typeIs slot_tuple_iter.lookup ?_)
  refine wpAny_pure ?_
  simp only [Bool.false_eq_true, if_false]
  refine wpAny_bind (wpAny_holding (iter_tuple ht ?_))
  refine wpAny_bind (wpAny_holding (draw_tuple hlt items.size 0 _ _ ⟨_, Heap.get?_push_size _ rfl, rfl, rfl⟩ (ht.push _) (by omega) fun h₁ hit₁ hs₁ => ?_))
  have hall : List.take items.size (List.drop 0 items.toList) = items.toList := by
    rw [List.drop_zero]; exact List.take_of_length_le (by simp)
  rw [hall, if_neg (by simp)]
  have ht₁ : IsTup h₁ t items := (ht.push _).extBut hs₁.extBut hlt
  have hot₁ : HotAt A x1 h₁ := ⟨hh, o1, vs1, hs₁.extBut x1 o1 x1lt (Heap.get?_push_of_some _ h1), d1, c1⟩
  refine wpAny_bind (wpAny_holding (tup_end_hot hot₁ x1lt hit₁ ht₁ (by simp) fun h₂ he₂ => ?_))
  simp only [Option.isSome_none, Bool.false_eq_true, if_false]
  refine wpAny_pure (h h₂ fun b o hb e => he₂ b o hb (hs₁.extBut b o hb (Heap.get?_push_of_some _ e)))
end
section
variable {X : Cx} {pos : Pos}
theorem pg_tupH {es : List Expr} {k : Nat} {t : TGs} {n : Nat} (hc : L2H.HotC X) (h : PGs X es t) (hn : (assignEach es X.env).length = n := by rfl) (hst : (assignEach es X.env).findIdx? (·.1) = none := by rfl) : PG X (.Tuple es k pos) (gTup X.K n t) := by
  refine ⟨fun pins s σ H v u Q I r hw => ?_⟩
  obtain ⟨a, xs, rfl, hq, hl, hw⟩ := hw
  cases r
  obtain ⟨its, rv, ht, hz⟩ := I.tuple hq
  obtain ⟨x1, hot⟩ := hc.at I
  refine unpack_hot hot ht (by simp [hn, ← hl, rv.length]) hst fun h' hx => ?_
  have I1 : Inv X pins σ H { s with heap := h' } := I.kept (t' := s.toks) fun b o e => hx b o (Nat.ne_of_lt (Heap.lt_size e)) e
  exact h.run pins _ σ H xs _ Q I1 (by simpa using rv) hw
end
/-! ### [e for c in text] -/
section
variable {X : Cx}
def iStrA (te : TE) : TI := fun σ H R => te σ H fun v H1 => ∃ x, v = .str x ∧ x.cps.all (· < 128) = true ∧ R (Its x) H1
/-- the handled error stands in a block's states -/
theorem hot_blk {s3 s5 : Shared} {H3 H5 : Hp} {pins pl : List (Addr × Obj)} {σ3 σ5 : L2.St} {scope : Scope} {ce : Env} {it : Addr} (hc : L2H.HotC X) (I3 : Inv X pins σ3 H3 s3) (f3 : FpOk X pins H3 it) (I5 : Inv (X.blk s3 H3 scope ce [it]) pl σ5 H5 s5) :
    ∃ x1, HotAt X.A x1 s5.heap ∧ x1 ≠ it := by
  obtain ⟨p, ⟨hh, vs, hd, h2⟩, hp⟩ := hc
  obtain ⟨g, n, nl, nf, _⟩ := I3.pin p (List.mem_append_left _ hp)
  have hne : p.1 ≠ it := f3.2.2.2.2.2 p (List.mem_append_left _ hp)
  refine ⟨p.1, ⟨hh, p.2, vs, I5.base.keep p.1 p.2 g n (fun hm => ?_) (by simpa using hne), hd, h2⟩, hne⟩
  rcases List.mem_cons.mp (I3.stkSub _ hm) with z | z
  · exact nl z
  · exact nf z
theorem pe_lcH {elt tg iter : Expr} {scope : Scope} {own : List (Str × Nat)} {pos : Pos} {t0 : TE} {g : TG} {te : TE} (hc : L2H.HotC X) (hN : X.N.Nodup) (hi : PE X iter t0) (ok : BlkOk X.N X.env.scope scope own)
    (hg : ∀ (s : Shared) (H : Hp) (C : Addr) (cl : List (Str × Addr)) (fp : List Addr), PG (X.blk s H scope (compEnvC scope cl C X.env) fp) tg g)
    (he : ∀ (s : Shared) (H : Hp) (C : Addr) (cl : List (Str × Addr)) (fp : List Addr), PE (X.blk s H scope (compEnvC scope cl C X.env) fp) elt te) (hs : ∀ x, foldedSetIterable iter X.env x = pure x := by intro _; rfl) :
    PE X (.ListComp elt [⟨tg, iter, [], 0⟩] scope pos) (tLc (iStrA t0) g tYes te (own.map (·.2))) := by
  refine ⟨fun pins s σ H Q I h => ?_⟩
  rw [eval_ListComp]
  have cells : ∀ y ∈ scope.names, y.2 = .free → ∃ c, X.env.cells.lookup y.1 = some c := fun y hy e => (ok.free y hy e).elim (fun k => I.ok.has _ (.inl k)) (fun k => I.ok.has _ (.inr k))
  refine wpAny_comprehension_free rfl hs (closure_ok cells) ok.kind (fun y hy e => by rw [ok.uniq y hy, e]) (thn (hi.run pins s σ H _ I h) fun xv s1 hx => ?_)
  obtain ⟨y, H1, I1, r1, x, rfl, asc, q⟩ := hx
  obtain ⟨tk, rfl⟩ := r1
  refine wpAny_pyIter_ascii asc ?_
  -- the iterator at it, the new list at D, the block's frame
  generalize hit : s1.heap.objs.size = it
  generalize hs2 : ({ s1 with heap := s1.heap.push { cls := .type "str_ascii_iterator", data := .fields #[.str x tk, .int 0 0] } } : Shared) = s2
  have h2 : s2.heap = s1.heap.push { cls := .type "str_ascii_iterator", data := .fields #[.str x tk, .int 0 0] } := by rw [← hs2]
  have I2 : Inv X pins σ H1 s2 := by
    rw [← hs2]
    exact I1.kept (t' := s1.toks) fun b o e => Heap.get?_push_of_some _ e
  have f2 : FpOk X pins H1 it := I1.fpOk (Nat.le_of_eq hit) (I1.hok.fresh (Nat.le_of_eq hit))
  have st2 : s2.heap.IsStrIter it "str_ascii_iterator" x tk 0 := by
    rw [h2, ← hit]
    exact ⟨_, Heap.get?_push_size _ rfl, rfl, rfl⟩
  refine wpAny_newObj_type (newEnv_comp ?_) (by show 0 ≤ sizeLine; decide)
  generalize hD : s2.heap.objs.size = D
  have hDn : H1 D = none := I2.hok.fresh (Nat.le_of_eq hD)
  obtain ⟨W, ⟨m0, w0⟩, turn⟩ := q D hDn
  generalize hs3 : ({ s2 with heap := s2.heap.push { cls := .type "list", data := .seq ([] : List Value).toArray } } : Shared) = s3
  have h3 : s3.heap = s2.heap.push { cls := .type "list", data := .seq ([] : List Value).toArray } := by rw [← hs3]
  have I3 : Inv X pins σ (upd H1 D (.lst [])) s3 := by
    rw [← hs3]
    refine I2.laid (t' := s2.toks) (fun b o e => Heap.get?_push_of_some _ e) (Nat.le_of_eq hD) ⟨Nat.zero_le _, [], 0, .nil, ?_⟩
    rw [← hD]
    exact Heap.get?_push_size _ rfl
  have ltit : it < s2.heap.objs.size := by
    obtain ⟨o, e, _⟩ := st2
    exact Heap.lt_size e
  have f3 : FpOk X pins (upd H1 D (.lst [])) it := ⟨by rw [upd_ne (by rw [← hD]; exact Nat.ne_of_lt ltit)]; exact f2.1, f2.2⟩
  have f3' : ∀ b ∈ [it], FpOk X pins (upd H1 D (.lst [])) b ∧ b < s3.heap.objs.size := fun b hb => by
    rw [List.mem_singleton.mp hb]
    exact ⟨f3, by rw [h3, Heap.size_push]; exact Nat.lt_succ_of_lt ltit⟩
  have keepI : ∀ {h h' : Heap} {j : Nat}, h.IsStrIter it "str_ascii_iterator" x tk j → (∀ o, h.get? it = some o → h'.get? it = some o) → h'.IsStrIter it "str_ascii_iterator" x tk j := fun {h h' j} st k => by
    obtain ⟨o, e, r⟩ := st
    exact ⟨o, k o e, r⟩
  have st3 : s3.heap.IsStrIter it "str_ascii_iterator" x tk 0 := keepI st2 fun o e => by rw [h3]; exact Heap.get?_push_of_some _ e
  have I4 := block_start I3 ok hN f3'
  have pg := hg s3 (upd H1 D (.lst [])) s3.heap.objs.size (cellsFrom (s3.heap.objs.size + 1) scope.names (cloFrom X.env.cells scope.names [])) [it]
  have pe := he s3 (upd H1 D (.lst [])) s3.heap.objs.size (cellsFrom (s3.heap.objs.size + 1) scope.names (cloFrom X.env.cells scope.names [])) [it]
  show codeAny _ _ (.compStart (.ListComp elt [⟨tg, iter, [], 0⟩] scope pos) 0 (.ref it) (.ref D) (compEnvC scope (cellsFrom (s3.heap.objs.size + 1) scope.names (cloFrom X.env.cells scope.names [])) s3.heap.objs.size X.env)) (compPost (model X.prog X.w) X.A X.xe none (EP X pins σ Q) (.ref D) s3.heap.objs.size) { s3 with heap := pushCells (s3.heap.push { cls := .type "dict", data := .dict #[] }) scope.names }
  generalize hRR : compPost (model X.prog X.w) X.A X.xe none (EP X pins σ Q) (.ref D) s3.heap.objs.size = RR
  generalize hce : compEnvC scope (cellsFrom (s3.heap.objs.size + 1) scope.names (cloFrom X.env.cells scope.names [])) s3.heap.objs.size X.env = ce at I4 pg pe ⊢
  have cL : ce.locals = s3.heap.objs.size := by subst hce; rfl
  have nit : (upd H1 D (.lst [])) it = none := f3.1
  generalize hH3 : upd H1 D (.lst []) = H3 at I3 I4 pg pe w0 nit f3 f3'
  generalize hs4 : ({ s3 with heap := pushCells (s3.heap.push { cls := .type "dict", data := .dict #[] }) scope.names } : Shared) = s4 at I4 ⊢
  have st4 : s4.heap.IsStrIter it "str_ascii_iterator" x tk 0 := keepI st3 fun o e => by rw [← hs4]; exact pushCells_keeps _ _ _ _ (Heap.get?_push_of_some _ e)
  have inblk : ∀ {σ' : L2.St} {H' : Hp} {s' : Shared}, Inv (X.blk s3 H3 scope ce [it]) [] σ' H' s' → H' it = none → ∀ b ∈ [it], FpOk (X.blk s3 H3 scope ce [it]) [] H' b := fun {σ' H' s'} I' hn b hb => by
    have mem : it ∈ [it] := List.mem_singleton.mpr rfl
    rw [List.mem_singleton.mp hb]
    exact ⟨hn, (I'.ok.exf it mem).1, I'.ok.exfs it mem, .inl mem, fun x c e => (I'.ok.exf it mem).2 x c e, fun p hp => absurd (show p ∈ ([] : List (Addr × Obj)) ++ [] from hp) (by simp)⟩
  have loop : codeAny (model X.prog X.w) X.A (.compLoop (.ListComp elt [⟨tg, iter, [], 0⟩] scope pos) 0 (.ref it) (.ref D) ce) RR s4 := by
    refine compLoop_any (fun n s' => ∃ i H', Inv (X.blk s3 H3 scope ce [it]) [] (wipe σ (own.map (·.2))) H' s' ∧ s'.heap.IsStrIter it "str_ascii_iterator" x tk i ∧ H' it = none ∧ W i n H') ?_ m0 ⟨0, H3, I4, st4, nit, w0⟩
    rintro n s5 ⟨i, H5, I5, st5, n5, w5⟩
    obtain ⟨x1, hot5, hne⟩ := hot_blk hc I3 f3 I5
    obtain ⟨f0, f1, f4, f5, f6, f7⟩ := inblk I5 n5 it (List.mem_singleton.mpr rfl)
    rcases turn i n H5 w5 with ⟨stop, qq⟩ | ⟨go, Nx, hNx, step⟩
    · refine str_end_hot hot5 hne st5 (Array.getElem?_eq_none stop) fun h' eb => ?_
      have I6 : Inv (X.blk s3 H3 scope ce [it]) [] (wipe σ (own.map (·.2))) H5 { s5 with heap := h' } := I5.turned (t' := s5.toks) (fun b o hb e => eb b o hb e) f0 f1 f5 f6 f7
      have I7 : Inv X pins σ H5 { s5 with heap := h' } := I3.call' (ch := [it]) I6.os I6.base I6.hok I6.bare fun b hb => ⟨(f3' b hb).1.2.2.2.1, (f3' b hb).1.2.1, (f3' b hb).1.2.2.2.2.1, (f3' b hb).1.2.2.2.2.2⟩
      have nC : H5 s3.heap.objs.size = none := by
        have z : H5 ce.locals = none := I6.free
        rw [cL] at z
        exact z
      obtain ⟨m, hn, _⟩ := I6.loc
      have hn : h'.Ns ce.locals m := hn
      rw [cL] at hn
      obtain ⟨g0, g1, g2, g3, g4, g5⟩ := I3.fpOk (Nat.le_refl _) nC
      show RR (.ok .next) _
      rw [← hRR]
      exact ⟨m, hn, fun h'' sb => ⟨.ref D, H5, I7.turned (t' := s5.toks) (fun b o hb e => (sb.2 b hb).trans e) g0 g1 g3 g4 g5, rfl, qq⟩⟩
    · have go' : i < x.cps.size := go
      refine wpAny_pyNext_ascii_item st5 (c := x.cps[i]) (by simp [go']) fun h' st6 sb => ?_
      have I6 : Inv (X.blk s3 H3 scope ce [it]) [] (wipe σ (own.map (·.2))) H5 { s5 with heap := h', toks := s5.toks + 1 } := I5.turned (fun b o hb e => (sb.2 b hb).trans e) f0 f1 f5 f6 f7
      obtain ⟨oi, e6, c6, d6⟩ := id st6
      refine go_of (s := { s5 with heap := h', toks := s5.toks + 1 }) e6 c6 d6 (by decide) ?_
      have pinned := I6.pinned (inblk I6 n5) (fun b hb => by rw [List.mem_singleton.mp hb]; exact ⟨oi, e6, fun v z => by rw [d6] at z; cases z⟩)
      refine thnF (pg.run _ _ _ H5 (.str ⟨#[x.cps[i]]⟩) (.str ⟨#[x.cps[i]]⟩ s5.toks) _ pinned ⟨s5.toks, rfl⟩ (step _ H5 ⟨rfl, x.cps[i], by simp [go'], rfl⟩)) fun _ s8 ⟨σ8, H8, I8, hw8, q8⟩ => ?_
      show wpAny _ _ (pure true) _ _ _
      refine wpAny_pure ?_
      rw [if_pos rfl]
      have q9 : te σ8 H8 (fun y H4 => ∃ acc, H4 D = some (.lst acc) ∧ acc.length < sizeLine ∧ Nx (upd H4 D (.lst (acc ++ [y])))) := q8
      refine thnF (pe.run _ s8 σ8 H8 _ I8 q9) fun z s10 ⟨yv, H10, I10, r10, acc, hD10, hz10, nx⟩ => ?_
      refine app_ok (X := X.blk s3 H3 scope ce [it]) I10 hD10 hz10 r10 fun s11 I11 => ?_
      obtain ⟨m', hm, w'⟩ := hNx _ nx
      have pin11 := I11.pin (it, oi) (List.mem_append_right _ (List.mem_append_right _ (mem_pinsAt (List.mem_singleton.mpr rfl) e6)))
      refine ⟨m', hm, i + 1, _, (I11.unpinned (pins := [])).weak (by rw [← hw8, wipe_length]) (fun j v e => ?_), ⟨oi, pin11.1, c6, d6⟩, pin11.2.1, w'⟩
      rw [← hw8] at e
      exact (wipe_some e).1
  exact codeAny_compStart_list loop (wpAny_pyIter_striter_ascii st4 loop)
end
end Pg

/-! PgI: the defs that are called while an error is handled -/
namespace Pg
open PySem PySem.Spec PyProof.Rows L2 L2H
abbrev s_refusal : Stmt := top 101
abbrev n_refusal : List Str := ["sort", "words"]
abbrev p_refusal : List Str := ["sort", "words"]
theorem sc_refusal : FnScope n_refusal p_refusal (defScope s_refusal) := ⟨rfl, rfl, rfl, by decide +kernel, rfl, by decide +kernel, by decide +kernel⟩
section
variable {P : Program} {w : World} {K : PySem.W.Frag} {mg : Str → Option Value} {base : Heap} {C : Addr} {f : Addr} {fd : FuncData}
/-- a def's promise where an error is handled, by its body -/
theorem fun_okH {x qual : Str} {st : Stmt} {f : Addr} {fd : FuncData} {N ps : List Str} {k : Nat} {sp : Sp} (F : Fun K x qual st f fd) (S : FnScope N ps (defScope st)) (len : ∀ vs H Q E, sp vs H Q E → vs.length = ps.length)
    (hbody : ∀ (cdv : Value) (A : Around) (outer : List Env) (s : Shared) (H : Hp) (vs : List V) (Q : VK) (E : XK) (p : Addr × Obj), RoomH k (A.deeper (envOfC qual (defScope st) s.heap.objs.size f cdv)) →
      HotC (cxH CX0 P w K mg base N qual (defScope st) f cdv A outer s H E p).nox → sp vs H Q E →
      ∃ t, PSs (cxH CX0 P w K mg base N qual (defScope st) f cdv A outer s H E p).nox (defBody st) t ∧ t { nx := fun _ H' => Q .non H', rt := Q } (L2.start N vs) H) : FnH P w K mg base CX0 (k + 1) f fd ps sp := by
  obtain ⟨oc, od, kV, doc, pm, an, cdv, ct, osl, rfl, lk, hcd⟩ := F.ex
  refine fn_ofH lk hcd S len fun A outer s H vs Q E p hot hr h => ?_
  obtain ⟨t, a, b⟩ := hbody cdv A outer s H vs Q E p hr ⟨p, hot, List.mem_singleton.mpr rfl⟩ h
  exact ⟨t, a.nox, b⟩
structure OwnH (P : Program) (w : World) (K : PySem.W.Frag) (mg : Str → Option Value) (base : Heap) (k : Nat) (x : Str) (ps : List Str) (sp : Sp) : Prop where
  ex : ∃ (f : Addr) (fd : FuncData), mg x = some (.ref f) ∧ PySem.W.keepIn K (.ref f) = true ∧ Binds K fd ps [] ∧ FnH P w K mg base CX0 k f fd ps sp
theorem Df.ownH {k : Nat} {x : Str} {st : Stmt} {ps : List Str} {f : Addr} {fd : FuncData} {sp : Sp} (D : Df K mg x st ps f fd) (G : FnH P w K mg base CX0 k f fd ps sp) : OwnH P w K mg base k x ps sp := ⟨f, fd, D.g, D.F.kp, D.b, G⟩
theorem fnH_mono {j k : Nat} {f : Addr} {fd : FuncData} {ps : List Str} {sp : Sp} (F : FnH P w K mg base CX0 j f fd ps sp) (h : j ≤ k) : FnH P w K mg base CX0 k f fd ps sp :=
  ⟨F.len, fun A outer s H args us vs Q E p hr => F.run A outer s H args us vs Q E p (hr.mono h)⟩
theorem pe_ownH {X : Cx} {k j : Nat} {x : Str} {ps : List Str} {sp : Sp} {e : Expr} {es : List Expr} {p pos : Pos} {t : TA} (O : OwnH X.prog X.w X.K X.mg X.base k x ps sp) (hr : RoomH j X.A) (hc : HotC X) (ha : PA X (e :: es) t) (hk : k ≤ j := by first | decide | omega) (hg : Gl X x := by rfl)
    (hdb : (x == ("__debug__" : Str)) = false := by decide) (he : starEach (e :: es) X.env = (false, eval e X.env) :: starEach es X.env := by rfl) (hpl : (backTo pos (starEach es X.env)).any (·.1) = false := by rfl) :
    PE X (.Call (.Name x p) (e :: es) [] pos) (tOwn sp t) := by
  obtain ⟨f, fd, g, kp, b, F⟩ := O.ex
  exact pe_callH (E := fun _ => E0) F (hr.mono hk) hc hg g kp b (fun σ pins H s e s' I c => c.elim) ha hdb he hpl
def spWordOctetsH : Sp := fun vs H Q _ => ∃ (x : Str) (M : List Addr), vs = [.str x] ∧ Off M H ∧ x.cps.size ≤ sizeLine ∧ x.cps.all (· < 128) = true ∧ Gives C M H Q (dI (codes x))
theorem ok_word_octetsH (D : Df K mg "word_octets" s_word_octets p_word_octets f fd) (B : Blt mg) : OwnH P w K mg base 1 "word_octets" p_word_octets (spWordOctetsH (C := C)) := by
  refine D.ownH (fun_okH D.F sc_word_octets (fun vs H Q E h => ?_) (fun cdv A outer s H vs Q E p hr hc h => ⟨_, pss_one (ps_ret (pe_lcH (own := [("sign", 1)]) (g := gName 1) hc sc_word_octets.nd (pv 0) (blkOk_by (N := n_word_octets) (sc := defScope s_word_octets) (by decide +kernel)) (fun _ _ _ _ _ => pg_name (i := 1) sc_word_octets.nd rfl (Or.inl rfl)) (fun _ _ _ _ _ => (pe_callB call_ord rfl B.ord boot_ord (pa_cons (pv 1) pa_nil))))), ?_⟩))
  · obtain ⟨x, M, rfl, _⟩ := h
    rfl
  · obtain ⟨x, M, rfl, off, hz, asc, g⟩ := h
    refine ⟨_, rfl, x, rfl, asc, fun D hD => lc_text (C := C) (M := M) (es := (codes x).map Dat.int) off hD (by rw [List.length_map, codes_len]) hz (fun j c e H' Q' hx he s o q => ?_) (fun H' s d' => g _ _ s d')⟩
    have hc : (codes x)[j]? = some (natI c) := by
      unfold codes
      rw [List.getElem?_map, Array.getElem?_toList, hx]
      rfl
    rw [List.getElem?_map, hc] at he
    cases he
    exact ⟨_, rfl, ⟨#[c]⟩, rfl, rfl, q _ _ (Same.refl _) (.int _)⟩
theorem ok_write_low_firstH (D : Df K mg "write_low_first" s_write_low_first p_write_low_first f fd) (B : Blt mg) : OwnH P w K mg base 1 "write_low_first" p_write_low_first spWriteLow := by
  refine D.ownH (fun_okH D.F sc_write_low_first (fun vs H Q E h => ?_) (fun cdv A outer s H vs Q E p hr hc h => ⟨_, pss_cons (ps_set (i := 2) sc_write_low_first.nd rfl (Or.inl rfl) (pe_lst pa_nil)) (pss_cons (ps_set (i := 3) sc_write_low_first.nd rfl (Or.inl rfl) (pv 0)) (pss_cons (L2H.ps_forH PassesOwn.never hc (L2H.pi_range1H rfl B.range (pa_cons (pv 1) pa_nil)) (pg_name (i := 4) sc_write_low_first.nd rfl (Or.inl rfl)) (pss_cons (ps_asg (pe_callB call_divmod rfl B.divmod boot_divmod (pa_cons (pv 3) (pa_cons pe_int pa_nil))) (pg_tupH hc (pgs_cons (pg_name (i := 3) sc_write_low_first.nd rfl (Or.inl rfl)) (pgs_cons (pg_name (i := 5) sc_write_low_first.nd rfl (Or.inl rfl)) pgs_nil)))) (pss_one (ps_expr (pe_bm PySem.F.plainAttrs_list PySem.F.slot_list_append PySem.F.type_list_append mt_append (pv 2) (pa_cons (pv 5) pa_nil)))))) (pss_one (ps_ret (pv 2))))), ?_⟩))
  · obtain ⟨n, k, rfl, _⟩ := h
    rfl
  · obtain ⟨n, k, rfl, hk, g⟩ := h
    refine ⟨zero_line, fun p hp => ?_⟩
    refine ⟨_, rfl, _, rfl, (k : Int), rfl, by omega, by omega, for_range (lo := 0) (n := k) (fun i σ H' => ∃ (z z2 : Option V), σ = [some (.int n), some (.int k), some (.ref p), some (.int (n / 256 ^ i : Nat)), z, z2] ∧ Same H H' ∧ H' p = some (.lst ((octs (RWire.low i n)).map V.int))) ⟨none, none, by simp; rfl, Same.new hp, upd_same⟩ ?_ ?_⟩
    · rintro i σ H' hi ⟨z, z2, rfl, s1, e1⟩
      refine ⟨_, rfl, _, _, rfl, ⟨by decide, by decide⟩, fun t ht => ?_⟩
      refine ⟨t, _, rfl, SqT.of upd_same, rfl, _, _, rfl, _, _, rfl, rfl, ?_⟩
      have hpt : p ≠ t := ne_of_none e1 ht
      refine ⟨_, rfl, .inl ⟨rfl, _, SqL.of (by rw [upd_ne hpt]; exact e1)⟩, _, rfl, p, _, _, rfl, rfl, by rw [upd_ne hpt]; exact e1, small_line (by rw [List.length_map, octs_length, low_length]; omega), ?_⟩
      refine ⟨some (.int (0 + (i : Int))), some (.int ((n / 256 ^ i % 256 : Nat) : Int)), ?_, Same.updNew (Same.updNew s1 (s1.free ht)) hp, ?_⟩
      · have e : ((n / 256 ^ i : Nat) : Int) / 256 = ((n / 256 ^ (i + 1) : Nat) : Int) := by
          rw [Nat.pow_succ, ← Nat.div_div_eq_div_mul]
          rfl
        rw [← e]
        rfl
      · rw [upd_same, octs_low, List.map_append]
        rfl
    · rintro σ H' ⟨z, z2, rfl, s1, e1⟩
      exact ⟨_, rfl, g p H' s1 hp e1⟩
theorem ok_write_textH (D : Df K mg "write_text" s_write_text p_write_text f fd) (B : Blt mg) (O_write_low_first : OwnH P w K mg base 1 "write_low_first" p_write_low_first spWriteLow) : OwnH P w K mg base 2 "write_text" p_write_text (spWriteText C) := by
  refine D.ownH (fun_okH D.F sc_write_text (fun vs H Q E h => ?_) (fun cdv A outer s H vs Q E p hr hc h => ⟨_, pss_one (ps_ret (pe_op op_cat (pe_ownH O_write_low_first hr hc (pa_cons (pe_callB (call_lenK (K := K) rfl) rfl B.len boot_len (pa_cons (pv 0) pa_nil)) (pa_cons pe_int pa_nil))) (pv 0))), ?_⟩))
  · obtain ⟨v, u, M, rfl, _⟩ := h
    rfl
  · obtain ⟨v, u, M, rfl, off, d, hu, g⟩ := h
    obtain ⟨o, rfl, _, eo⟩ := d.dIAt
    refine ⟨_, rfl, o, _, rfl, .inl (SqL.of eo), u.length, 4, by simp [octs_length], by decide, fun p H2 s2 hp ep => ?_⟩
    refine ⟨_, rfl, p, o, _, _, rfl, rfl, ep, s2 _ _ eo, ?_, fun q hq => ?_⟩
    · rw [List.length_map, List.length_map, octs_length, octs_length, low_length, sizeLine_eq]
      omega
    · refine g.ints off (s2.trans (Same.new hq)) (s2.free hq) ?_
      rw [upd_same, ← List.map_append, ← octs_append]
      rfl
/-- refusal(sort, words): the octets 1, sort, and the text; u are the words' signs as octets -/
def spRefusal (C : Addr) : Sp := fun vs H Q _ => ∃ (k : Int) (x : Str) (u : List UInt8) (M : List Addr), vs = [.int k, .str x] ∧ Off M H ∧ codes x = octs u ∧ x.cps.all (· < 128) = true ∧ u.length ≤ 1000 ∧ Gives C M H Q (dI (1 :: k :: octs (RWire.writeText u)))
theorem ok_refusalH (D : Df K mg "refusal" s_refusal p_refusal f fd) (O_write_text : OwnH P w K mg base 2 "write_text" p_write_text (spWriteText C)) (O_word_octets : OwnH P w K mg base 1 "word_octets" p_word_octets (spWordOctetsH (C := C))) : OwnH P w K mg base 3 "refusal" p_refusal (spRefusal C) := by
  refine D.ownH (fun_okH D.F sc_refusal (fun vs H Q E h => ?_) (fun cdv A outer s H vs Q E p hr hc h => ⟨_, pss_one (ps_ret (pe_op op_cat (pe_lst (pa_cons pe_int (pa_cons (pv 0) pa_nil))) (pe_ownH O_write_text hr hc (pa_cons (pe_ownH O_word_octets hr hc (pa_cons (pv 1) pa_nil)) pa_nil)))), ?_⟩))
  · obtain ⟨k, x, u, M, rfl, _⟩ := h
    rfl
  · obtain ⟨k, x, u, M, rfl, off, hu, asc, hl, g⟩ := h
    have hsz : x.cps.size = u.length := by rw [← codes_len, hu, octs_length]
    refine ⟨_, rfl, two_line, fun p hp => ?_⟩
    have s1 : Same H (upd H p (.lst [.int 1, .int k])) := Same.new hp
    refine ⟨_, rfl, x, M, rfl, off.same s1, by rw [sizeLine_eq]; omega, asc, fun v2 H2 s2 d2 => ?_⟩
    refine ⟨v2, u, M, rfl, (off.same s1).same s2, by rw [← hu]; exact d2, by omega, fun v3 H3 s3 d3 => ?_⟩
    obtain ⟨q, rfl, _, eq⟩ := d3.dIAt
    refine ⟨p, q, _, _, rfl, rfl, s3 _ _ (s2 _ _ upd_same), eq, ?_, fun r hr => ?_⟩
    · have h1 : (RWire.writeText u).length = 4 + u.length := by simp [RWire.writeText, RWire.writeCount, low_length]
      rw [List.length_map, octs_length, h1, sizeLine_eq]
      show 2 + _ ≤ _
      omega
    · exact g.ints off (((s1.trans s2).trans s3).trans (Same.new hr)) (s1.free (s2.free (s3.free hr))) upd_same
end
end Pg

/-! SaA: i -> 5 i + 1 modulo a power of two comes by every place (plain Lean) -/
namespace Pg
def gg : Nat → Nat
  | 0 => 0
  | d + 1 => 5 * gg d + 1
theorem gg_add (a : Nat) : ∀ b, gg (a + b) = (4 * gg b + 1) * gg a + gg b
  | 0 => by simp [gg]
  | b + 1 => by
    show 5 * gg (a + b) + 1 = (4 * (5 * gg b + 1) + 1) * gg a + (5 * gg b + 1)
    rw [gg_add a b]
    have e1 : (4 * (5 * gg b + 1) + 1) * gg a = 5 * ((4 * gg b + 1) * gg a) := by
      rw [← Nat.mul_assoc]
      congr 1
      omega
    rw [e1]
    omega
theorem gg_two (m : Nat) : gg (m + m) = 2 * (gg m * (2 * gg m + 1)) := by
  rw [gg_add, Nat.add_mul, Nat.mul_add, Nat.mul_assoc 4, Nat.mul_left_comm (gg m) 2 (gg m)]
  omega
theorem gg_par : ∀ d, gg d % 2 = d % 2
  | 0 => rfl
  | d + 1 => by
    have := gg_par d
    show (5 * gg d + 1) % 2 = _
    omega
theorem odd_dvd (c : Nat) : ∀ (K a : Nat), 2 ^ K ∣ a * (2 * c + 1) → 2 ^ K ∣ a
  | 0, a, _ => by simp
  | K + 1, a, h => by
    have h2 : 2 ∣ a * (2 * c + 1) := Nat.dvd_trans ⟨2 ^ K, by rw [Nat.pow_succ, Nat.mul_comm]⟩ h
    have ev : a % 2 = 0 := by
      obtain ⟨k, hk⟩ := h2
      have e : (a * (2 * c + 1)) % 2 = 0 := by rw [hk]; simp
      rw [Nat.mul_mod] at e
      have o : (2 * c + 1) % 2 = 1 := by omega
      rw [o] at e
      have : a % 2 < 2 := Nat.mod_lt _ (by decide)
      have : a % 2 * 1 = a % 2 := Nat.mul_one _
      rw [this] at e
      omega
    obtain ⟨b, hb⟩ : ∃ b, a = 2 * b := ⟨a / 2, by omega⟩
    subst hb
    have h3 : 2 ^ K ∣ b * (2 * c + 1) := by
      obtain ⟨k, hk⟩ := h
      refine ⟨k, ?_⟩
      rw [Nat.pow_succ, Nat.mul_comm (2 ^ K) 2, Nat.mul_assoc, Nat.mul_assoc] at hk
      exact Nat.eq_of_mul_eq_mul_left (by decide) hk
    obtain ⟨k, hk⟩ := odd_dvd c K b h3
    exact ⟨k, by rw [hk, Nat.pow_succ, Nat.mul_comm (2 ^ K) 2, Nat.mul_assoc]⟩
theorem dvd_gg : ∀ (K k : Nat), 2 ^ K ∣ gg k → 2 ^ K ∣ k
  | 0, k, _ => by simp
  | K + 1, k, h => by
    have h2 : 2 ∣ gg k := Nat.dvd_trans ⟨2 ^ K, by rw [Nat.pow_succ, Nat.mul_comm]⟩ h
    have p := gg_par k
    have ev : k % 2 = 0 := by
      obtain ⟨z, hz⟩ := h2
      omega
    obtain ⟨m, hm⟩ : ∃ m, k = m + m := ⟨k / 2, by omega⟩
    subst hm
    rw [gg_two] at h
    have h3 : 2 ^ K ∣ gg m * (2 * gg m + 1) := by
      obtain ⟨z, hz⟩ := h
      refine ⟨z, ?_⟩
      rw [Nat.pow_succ, Nat.mul_comm (2 ^ K) 2, Nat.mul_assoc] at hz
      exact Nat.eq_of_mul_eq_mul_left (by decide) hz
    obtain ⟨z, hz⟩ := dvd_gg K m (odd_dvd (gg m) K (gg m) h3)
    refine ⟨z, ?_⟩
    rw [Nat.pow_succ, Nat.mul_assoc, Nat.mul_left_comm, ← hz]
    omega
/-- where the walk stands after d steps -/
def stepsAt (N i : Nat) : Nat → Nat
  | 0 => i
  | d + 1 => (stepsAt N i d * 5 + 1) % N
theorem steps_mod {N i : Nat} (hi : i < N) : ∀ d, stepsAt N i d = (i + gg d * (4 * i + 1)) % N
  | 0 => by
    show i = (i + 0 * _) % N
    rw [Nat.zero_mul, Nat.add_zero, Nat.mod_eq_of_lt hi]
  | d + 1 => by
    show (stepsAt N i d * 5 + 1) % N = _
    rw [steps_mod hi d]
    have e : (i + gg (d + 1) * (4 * i + 1)) = (i + gg d * (4 * i + 1)) * 5 + 1 := by
      show i + (5 * gg d + 1) * (4 * i + 1) = _
      rw [Nat.add_mul, Nat.one_mul, Nat.mul_assoc]
      omega
    rw [e, Nat.add_mod, Nat.mul_mod, Nat.mod_mod, ← Nat.mul_mod, ← Nat.add_mod]
theorem steps_add {N i : Nat} (e : Nat) : ∀ d, stepsAt N i (e + d) = stepsAt N (stepsAt N i e) d
  | 0 => rfl
  | d + 1 => by
    show (stepsAt N i (e + d) * 5 + 1) % N = (stepsAt N (stepsAt N i e) d * 5 + 1) % N
    rw [steps_add e d]
theorem steps_lt {N i : Nat} (hi : i < N) : ∀ d, stepsAt N i d < N
  | 0 => hi
  | d + 1 => Nat.mod_lt _ (by omega)
theorem steps_ne {K i : Nat} (hi : i < 2 ^ K) {e d : Nat} (h1 : e < d) (h2 : d < 2 ^ K) : stepsAt (2 ^ K) i e ≠ stepsAt (2 ^ K) i d := by
  intro h
  obtain ⟨k, rfl⟩ : ∃ k, d = e + k := ⟨d - e, by omega⟩
  rw [steps_add] at h
  have hy := steps_lt hi e
  generalize stepsAt (2 ^ K) i e = y at h hy
  rw [steps_mod hy] at h
  have hd : 2 ^ K ∣ gg k * (4 * y + 1) := by
    have e2 : (y + gg k * (4 * y + 1)) % 2 ^ K = y % 2 ^ K := by rw [← h, Nat.mod_eq_of_lt hy]
    have := (Nat.mod_add_div (y + gg k * (4 * y + 1)) (2 ^ K))
    rw [e2, Nat.mod_eq_of_lt hy] at this
    exact ⟨(y + gg k * (4 * y + 1)) / 2 ^ K, by omega⟩
  have h3 := odd_dvd (2 * y) K (gg k) (by rw [show 2 * (2 * y) + 1 = 4 * y + 1 from by omega]; exact hd)
  obtain ⟨z, hz⟩ := dvd_gg K k h3
  cases z with
  | zero => omega
  | succ z =>
    have : 2 ^ K * (z + 1) = 2 ^ K * z + 2 ^ K := Nat.mul_succ _ _
    omega
/-- a list of different items that lie in another is no longer than it -/
theorem nodup_le : ∀ {l m : List Nat}, l.Nodup → (∀ x ∈ l, x ∈ m) → l.length ≤ m.length
  | [], _, _, _ => Nat.zero_le _
  | a :: l, m, nd, h => by
    rw [List.nodup_cons] at nd
    have ha := h a List.mem_cons_self
    have h2 : ∀ x ∈ l, x ∈ m.erase a := fun x hx => (List.mem_erase_of_ne (fun z => nd.1 (by rw [← z]; exact hx))).mpr (h x (List.mem_cons_of_mem _ hx))
    have := nodup_le nd.2 h2
    rw [List.length_erase_of_mem ha] at this
    have := List.length_pos_of_mem ha
    rw [List.length_cons]
    omega
/-- among 2 ^ K steps there is one at a place that is not among fewer places -/
theorem steps_free {K i : Nat} (hi : i < 2 ^ K) {m : List Nat} (hm : m.length < 2 ^ K) : ∃ d, d < 2 ^ K ∧ stepsAt (2 ^ K) i d ∉ m := by
  refine Classical.byContradiction fun hn => ?_
  have hall : ∀ d, d < 2 ^ K → stepsAt (2 ^ K) i d ∈ m := fun d hd => Classical.byContradiction fun z => hn ⟨d, hd, z⟩
  have nd : ((List.range (2 ^ K)).map (stepsAt (2 ^ K) i)).Nodup := by
    rw [List.nodup_iff_pairwise_ne, List.pairwise_map]
    refine List.Pairwise.imp_of_mem ?_ (List.pairwise_lt_range (n := 2 ^ K))
    intro a b ha hb hab
    exact steps_ne hi hab (List.mem_range.mp hb)
  have := nodup_le nd fun x hx => by
    obtain ⟨d, hd, rfl⟩ := List.mem_map.mp hx
    exact hall d (List.mem_range.mp hd)
  rw [List.length_map, List.length_range] at this
  omega
end Pg

/-! SaB: sets' tables: places, probes -/
namespace Pg
open PySem
/-- strictly rising -/
def Ris (xs : Array Nat) : Prop := ∀ i j, i < j → j < xs.size → xs.getD i 0 < xs.getD j 0
theorem below_go {xs : Array Nat} (r : Ris xs) (j : Nat) : ∀ (fuel lo hi : Nat), lo ≤ hi → hi ≤ xs.size → hi - lo ≤ fuel → (∀ i, i < lo → xs.getD i 0 < j) → (∀ i, hi ≤ i → i < xs.size → j ≤ xs.getD i 0) →
    SetTable.below.go xs j fuel lo hi ≤ xs.size ∧ (∀ i, i < SetTable.below.go xs j fuel lo hi → xs.getD i 0 < j) ∧ ∀ i, SetTable.below.go xs j fuel lo hi ≤ i → i < xs.size → j ≤ xs.getD i 0
  | 0, lo, hi, h1, h2, h3, h4, h5 => by
    show lo ≤ xs.size ∧ (∀ i, i < lo → xs.getD i 0 < j) ∧ ∀ i, lo ≤ i → i < xs.size → j ≤ xs.getD i 0
    exact ⟨by omega, h4, fun i hi1 hi2 => h5 i (by omega) hi2⟩
  | fuel + 1, lo, hi, h1, h2, h3, h4, h5 => by
    unfold SetTable.below.go
    by_cases c : lo < hi
    · rw [if_pos c]
      simp only
      have em : xs.getD ((lo + hi) / 2) j = xs.getD ((lo + hi) / 2) 0 := by
        have hm : (lo + hi) / 2 < xs.size := by omega
        rw [Array.getD_eq_getD_getElem?, Array.getD_eq_getD_getElem?, Array.getElem?_eq_getElem hm]
        rfl
      rw [em]
      by_cases c2 : xs.getD ((lo + hi) / 2) 0 < j
      · rw [if_pos c2]
        refine below_go r j fuel _ hi (by omega) h2 (by omega) (fun i hi1 => ?_) h5
        rcases Nat.lt_or_ge i ((lo + hi) / 2) with k | k
        · exact Nat.lt_trans (r i _ k (by omega)) c2
        · have : i = (lo + hi) / 2 := by omega
          rw [this]; exact c2
      · rw [if_neg c2]
        refine below_go r j fuel lo _ (by omega) (by omega) (by omega) h4 fun i hi1 hi2 => ?_
        rcases Nat.lt_or_ge ((lo + hi) / 2) i with k | k
        · have := r _ i k hi2
          omega
        · have : i = (lo + hi) / 2 := by omega
          rw [this]; omega
    · rw [if_neg c]
      exact ⟨by omega, h4, fun i hi1 hi2 => h5 i (by omega) hi2⟩
theorem below_spec {xs : Array Nat} (r : Ris xs) (j : Nat) : SetTable.below xs j ≤ xs.size ∧ (∀ i, i < SetTable.below xs j → xs.getD i 0 < j) ∧ ∀ i, SetTable.below xs j ≤ i → i < xs.size → j ≤ xs.getD i 0 :=
  below_go r j xs.size 0 xs.size (Nat.zero_le _) (Nat.le_refl _) (by omega) (fun i h => absurd h (Nat.not_lt_zero i)) (fun i h1 h2 => by omega)
/-- the place j is taken, by the i-th -/
theorem place_at {xs : Array Nat} (r : Ris xs) {i j : Nat} (h : xs[i]? = some j) : SetTable.below xs j = i := by
  obtain ⟨h1, h2, h3⟩ := below_spec r j
  have hi : i < xs.size := by
    rcases Nat.lt_or_ge i xs.size with k | k
    · exact k
    · rw [Array.getElem?_eq_none k] at h; cases h
  have e : xs.getD i 0 = j := by rw [Array.getD_eq_getD_getElem?, h]; rfl
  rcases Nat.lt_trichotomy (SetTable.below xs j) i with c | c | c
  · have := h3 (SetTable.below xs j) (Nat.le_refl _) (by omega)
    have := r _ i c hi
    omega
  · exact c
  · have := h2 i c
    omega
theorem slot_live {t : SetTable} (r : Ris t.place) {i j : Nat} (h : t.place[i]? = some j) : t.slot j = .live i := by
  unfold SetTable.slot
  rw [place_at r h]
  simp only
  rw [if_pos (by rw [h]; exact beq_self_eq_true _)]
theorem slot_empty {t : SetTable} (r : Ris t.place) (hd : t.dummies = #[]) {j : Nat} (h : j ∉ t.place.toList) : t.slot j = .empty := by
  unfold SetTable.slot
  simp only
  have e : ¬ (t.place[SetTable.below t.place j]? == some j) = true := by
    intro z
    have z2 := eq_of_beq z
    exact h (by rw [Array.mem_toList_iff]; exact Array.mem_of_getElem? z2)
  rw [if_neg e]
  have e2 : SetTable.has t.dummies j = false := by
    unfold SetTable.has
    rw [hd]
    simp
  rw [e2]
  rfl
theorem slot_cases {t : SetTable} (r : Ris t.place) (hd : t.dummies = #[]) (j : Nat) : (j ∉ t.place.toList ∧ t.slot j = .empty) ∨ ∃ i, t.place[i]? = some j ∧ t.slot j = .live i := by
  by_cases h : j ∈ t.place.toList
  · rw [Array.mem_toList_iff] at h
    obtain ⟨i, hi⟩ := Array.getElem?_of_mem h
    exact .inr ⟨i, hi, slot_live r hi⟩
  · exact .inl ⟨h, slot_empty r hd h⟩
end Pg

/-! SaC: probes come to a free place -/
namespace Pg
open PySem
/-- the probe after n steps -/
def pw (t : SetTable) (p : SetTable.Probe) : Nat → SetTable.Probe
  | 0 => p
  | n + 1 => t.advance (pw t p n)
theorem pw_add (t : SetTable) (p : SetTable.Probe) (a : Nat) : ∀ b, pw t p (a + b) = pw t (pw t p a) b
  | 0 => rfl
  | b + 1 => by
    show t.advance (pw t p (a + b)) = t.advance (pw t (pw t p a) b)
    rw [pw_add t p a b]
theorem pw_dummy (t : SetTable) (p : SetTable.Probe) : ∀ n, (pw t p n).dummy = p.dummy
  | 0 => rfl
  | n + 1 => by
    show (t.advance (pw t p n)).dummy = _
    rw [← pw_dummy t p n]
    unfold SetTable.advance
    split <;> rfl
/-- the start of a turn -/
def turnAt (t : SetTable) (i per : Nat) (d : Option Nat) : SetTable.Probe := { j := i, more := SetTable.runEnd t.mask i - i, i := i, perturb := per, dummy := d }
theorem pw_run (t : SetTable) {i per M : Nat} {d : Option Nat} (j : Nat) : ∀ k, k ≤ M → pw t { j := j, more := M, i := i, perturb := per, dummy := d } k = { j := j + k, more := M - k, i := i, perturb := per, dummy := d }
  | 0, _ => rfl
  | k + 1, h => by
    show t.advance (pw t _ k) = _
    rw [pw_run t j k (by omega)]
    unfold SetTable.advance
    rw [if_pos (by show M - k > 0; omega)]
    rfl
theorem pw_turn (t : SetTable) (i per : Nat) (d : Option Nat) : ∃ k, 1 ≤ k ∧ k ≤ 10 ∧ pw t (turnAt t i per d) k = turnAt t (SetTable.leap t.mask i per).1 (SetTable.leap t.mask i per).2 d := by
  have hr : SetTable.runEnd t.mask i - i ≤ 9 := by
    unfold SetTable.runEnd
    split <;> omega
  refine ⟨SetTable.runEnd t.mask i - i + 1, by omega, by omega, ?_⟩
  show t.advance (pw t (turnAt t i per d) (SetTable.runEnd t.mask i - i)) = _
  unfold turnAt
  rw [pw_run t i _ (Nat.le_refl _)]
  unfold SetTable.advance
  rw [if_neg (by show ¬ (SetTable.runEnd t.mask i - i - (SetTable.runEnd t.mask i - i) > 0); omega)]
def leaps (mask : Nat) (i per : Nat) : Nat → Nat × Nat
  | 0 => (i, per)
  | n + 1 => SetTable.leap mask (leaps mask i per n).1 (leaps mask i per n).2
theorem pw_leaps (t : SetTable) (i per : Nat) (d : Option Nat) : ∀ n, ∃ k, k ≤ 10 * n ∧ pw t (turnAt t i per d) k = turnAt t (leaps t.mask i per n).1 (leaps t.mask i per n).2 d
  | 0 => ⟨0, by omega, rfl⟩
  | n + 1 => by
    obtain ⟨k, h1, h2⟩ := pw_leaps t i per d n
    obtain ⟨k2, h3, h4, h5⟩ := pw_turn t (leaps t.mask i per n).1 (leaps t.mask i per n).2 d
    exact ⟨k + k2, by omega, by rw [pw_add, h2, h5]; rfl⟩
theorem leaps_per (mask i per : Nat) : ∀ n, (leaps mask i per n).2 = per / 32 ^ n
  | 0 => by simp [leaps]
  | n + 1 => by
    show (leaps mask i per n).2 / 32 = _
    rw [leaps_per mask i per n, Nat.div_div_eq_div_mul, Nat.pow_succ]
theorem leaps_lt {mask i per : Nat} (hi : i < mask + 1) : ∀ n, (leaps mask i per n).1 < mask + 1
  | 0 => hi
  | n + 1 => Nat.mod_lt _ (by omega)
theorem leaps_late {mask i per : Nat} (hp : per < 2 ^ 64) : ∀ e, (leaps mask i per (13 + e)).1 = stepsAt (mask + 1) (leaps mask i per 13).1 e
  | 0 => rfl
  | e + 1 => by
    show (SetTable.leap mask (leaps mask i per (13 + e)).1 (leaps mask i per (13 + e)).2).1 = (stepsAt (mask + 1) (leaps mask i per 13).1 e * 5 + 1) % (mask + 1)
    have h0 : (leaps mask i per (13 + e)).2 = 0 := by
      rw [leaps_per]
      apply Nat.div_eq_of_lt
      have h1 : 32 ^ (13 + e) = 32 ^ 13 * 32 ^ e := Nat.pow_add ..
      have h2 : 1 ≤ 32 ^ e := Nat.one_le_pow _ _ (by decide)
      have h3 : 2 ^ 64 ≤ 32 ^ 13 := by decide
      have h4 : 32 ^ 13 * 1 ≤ 32 ^ 13 * 32 ^ e := Nat.mul_le_mul_left _ h2
      omega
    show ((leaps mask i per (13 + e)).1 * 5 + 1 + (leaps mask i per (13 + e)).2 / 32) % (mask + 1) = _
    rw [h0, leaps_late hp e]
theorem bits_lt (h : Int) : SetTable.bits h < 2 ^ 64 := by
  unfold SetTable.bits
  have h1 := Int.emod_lt_of_pos h (show (0 : Int) < 2 ^ 64 by decide)
  have h2 := Int.emod_nonneg h (show (2 ^ 64 : Int) ≠ 0 by decide)
  omega
theorem start_turn (t : SetTable) (h : Int) : t.probeStart h = turnAt t (SetTable.bits h % (t.mask + 1)) (SetTable.bits h) none := rfl
theorem turn_j (t : SetTable) (i per : Nat) (d : Option Nat) : (turnAt t i per d).j = i := rfl
/-- a probe comes to a place that is free -/
theorem probe_free {t : SetTable} {K : Nat} (hm : t.mask + 1 = 2 ^ K) {m : List Nat} (hl : m.length < 2 ^ K) (h : Int) : ∃ n, n < 10 * SetTable.turns t.mask ∧ (pw t (t.probeStart h) n).j ∉ m := by
  have hb := bits_lt h
  have hi : SetTable.bits h % (t.mask + 1) < t.mask + 1 := Nat.mod_lt _ (by omega)
  have hi13 := leaps_lt (per := SetTable.bits h) hi 13
  obtain ⟨d, hd, hn⟩ := steps_free (K := K) (i := (leaps t.mask (SetTable.bits h % (t.mask + 1)) (SetTable.bits h) 13).1) (by rw [← hm]; exact hi13) hl
  obtain ⟨k, hk, he⟩ := pw_leaps t (SetTable.bits h % (t.mask + 1)) (SetTable.bits h) none (13 + d)
  have ht : SetTable.turns t.mask = t.mask + 15 := rfl
  refine ⟨k, by omega, ?_⟩
  rw [start_turn, he, turn_j, leaps_late hb d]
  have e2 : ∀ x y, stepsAt (t.mask + 1) x y = stepsAt (2 ^ K) x y := fun x y => by rw [hm]
  rw [e2]
  exact hn
/-- what a search meets -/
theorem go_spec {t : SetTable} (r : Ris t.place) (hd : t.dummies = #[]) (hashAt : Nat → Int) (h : Int) : ∀ (fuel : Nat) (p : SetTable.Probe), (∃ n, n < fuel ∧ (pw t p n).j ∉ t.place.toList) →
    ∃ n, n < fuel ∧ (∀ m, m < n → ∃ i, t.place[i]? = some (pw t p m).j ∧ hashAt i ≠ h) ∧ (((pw t p n).j ∉ t.place.toList ∧ SetTable.probe.go t hashAt h fuel p = some (.empty (pw t p n).j p.dummy)) ∨
      ∃ i, t.place[i]? = some (pw t p n).j ∧ hashAt i = h ∧ SetTable.probe.go t hashAt h fuel p = some (.candidate (pw t p n).j i (t.advance (pw t p n))))
  | 0, p, ⟨n, hn, _⟩ => by omega
  | fuel + 1, p, ⟨n, hn, hf⟩ => by
    rcases slot_cases r hd p.j with ⟨h1, h2⟩ | ⟨i, h1, h2⟩
    · refine ⟨0, by omega, fun m hm => absurd hm (Nat.not_lt_zero m), .inl ⟨h1, ?_⟩⟩
      unfold SetTable.probe.go
      rw [h2]
      rfl
    · by_cases c : hashAt i = h
      · refine ⟨0, by omega, fun m hm => absurd hm (Nat.not_lt_zero m), .inr ⟨i, h1, c, ?_⟩⟩
        unfold SetTable.probe.go
        rw [h2]
        simp only
        rw [if_pos (by rw [c]; exact beq_self_eq_true _)]
        rfl
      · have hn0 : n ≠ 0 := by
          intro z
          subst z
          refine hf ?_
          show p.j ∈ t.place.toList
          rw [Array.mem_toList_iff]
          exact Array.mem_of_getElem? h1
        obtain ⟨k, rfl⟩ : ∃ k, n = k + 1 := ⟨n - 1, by omega⟩
        have sh : ∀ m, pw t p (m + 1) = pw t (t.advance p) m := by
          intro m
          rw [Nat.add_comm, pw_add]
          rfl
        obtain ⟨n2, g1, g2, g3⟩ := go_spec r hd hashAt h fuel (t.advance p) ⟨k, by omega, by rw [← sh]; exact hf⟩
        have ego : SetTable.probe.go t hashAt h (fuel + 1) p = SetTable.probe.go t hashAt h fuel (t.advance p) := by
          conv => lhs; unfold SetTable.probe.go
          rw [h2]
          simp only
          rw [if_neg (by simpa using c)]
        have ed : (t.advance p).dummy = p.dummy := pw_dummy t p 1
        refine ⟨n2 + 1, by omega, fun m hm => ?_, ?_⟩
        · cases m with
          | zero => exact ⟨i, h1, c⟩
          | succ m => rw [sh]; exact g2 m (by omega)
        · rw [sh, ego]
          rw [ed] at g3
          exact g3
end Pg

/-! SaD: an element more in a set's table -/
namespace Pg
open PySem
theorem ins_list {α : Type} (xs : Array α) (p : Nat) (x : α) : (SetTable.insertAt xs p x).toList = xs.toList.take p ++ x :: xs.toList.drop p := by
  unfold SetTable.insertAt
  simp [Array.toList_extract]
  exact List.take_of_length_le (by rw [List.length_drop, Array.length_toList]; exact Nat.le_refl _)
theorem ins_size {α : Type} (xs : Array α) (p : Nat) (x : α) : (SetTable.insertAt xs p x).size = xs.size + 1 := by
  have h := congrArg List.length (ins_list xs p x)
  rw [Array.length_toList, List.length_append, List.length_cons, List.length_take, List.length_drop, Array.length_toList] at h
  omega
theorem ins_get {α : Type} {xs : Array α} {p : Nat} (hp : p ≤ xs.size) (x : α) (i : Nat) : (SetTable.insertAt xs p x)[i]? = if i < p then xs[i]? else if i = p then some x else xs[i - 1]? := by
  rw [← Array.getElem?_toList, ins_list]
  have hl : (xs.toList.take p).length = p := by rw [List.length_take, Array.length_toList]; omega
  by_cases h1 : i < p
  · rw [if_pos h1, List.getElem?_append_left (by omega), List.getElem?_take, if_pos h1, Array.getElem?_toList]
  · rw [if_neg h1, List.getElem?_append_right (by omega), hl]
    by_cases h2 : i = p
    · rw [if_pos h2, h2, Nat.sub_self]
      rfl
    · rw [if_neg h2]
      obtain ⟨k, hk⟩ : ∃ k, i - p = k + 1 := ⟨i - p - 1, by omega⟩
      rw [hk, List.getElem?_cons_succ, List.getElem?_drop, Array.getElem?_toList]
      congr 1
      omega
theorem ins_mem {α : Type} {xs : Array α} {p : Nat} {x y : α} : y ∈ (SetTable.insertAt xs p x).toList ↔ y = x ∨ y ∈ xs.toList := by
  rw [ins_list, List.mem_append, List.mem_cons]
  have e : y ∈ xs.toList ↔ y ∈ xs.toList.take p ∨ y ∈ xs.toList.drop p := by
    rw [← List.mem_append, List.take_append_drop]
  rw [e]
  constructor
  · rintro (h | h | h)
    · exact .inr (.inl h)
    · exact .inl h
    · exact .inr (.inr h)
  · rintro (h | h | h)
    · exact .inr (.inl h)
    · exact .inl h
    · exact .inr (.inr h)
theorem ris_lt {xs : Array Nat} (r : Ris xs) {i j a b : Nat} (hi : xs[i]? = some a) (hj : xs[j]? = some b) (h : i < j) : a < b := by
  have hj2 : j < xs.size := by
    rcases Nat.lt_or_ge j xs.size with k | k
    · exact k
    · rw [Array.getElem?_eq_none k] at hj; cases hj
  have := r i j h hj2
  rw [Array.getD_eq_getD_getElem?, Array.getD_eq_getD_getElem?, hi, hj] at this
  exact this
theorem ris_of {xs : Array Nat} (h : ∀ (i j a b : Nat), xs[i]? = some a → xs[j]? = some b → i < j → a < b) : Ris xs := by
  intro i j hij hj
  have ei : xs[i]? = some (xs[i]'(by omega)) := Array.getElem?_eq_getElem (by omega)
  have ej : xs[j]? = some xs[j] := Array.getElem?_eq_getElem hj
  have := h i j _ _ ei ej hij
  rw [Array.getD_eq_getD_getElem?, Array.getD_eq_getD_getElem?, ei, ej]
  exact this
/-- a place more keeps them rising -/
theorem ris_ins {xs : Array Nat} (r : Ris xs) {j : Nat} (hj : j ∉ xs.toList) : Ris (SetTable.insertAt xs (SetTable.below xs j) j) := by
  obtain ⟨h1, h2, h3⟩ := below_spec r j
  have lo : ∀ i a, xs[i]? = some a → i < SetTable.below xs j → a < j := by
    intro i a hi hlt
    have := h2 i hlt
    rw [Array.getD_eq_getD_getElem?, hi] at this
    exact this
  have hi' : ∀ i a, xs[i]? = some a → SetTable.below xs j ≤ i → j < a := by
    intro i a hi hle
    have hs : i < xs.size := by
      rcases Nat.lt_or_ge i xs.size with k | k
      · exact k
      · rw [Array.getElem?_eq_none k] at hi; cases hi
    have h4 := h3 i hle hs
    rw [Array.getD_eq_getD_getElem?, hi] at h4
    have h5 : j ≤ a := h4
    have h6 : a ≠ j := fun z => hj (by rw [Array.mem_toList_iff, ← z]; exact Array.mem_of_getElem? hi)
    omega
  refine ris_of fun a b x y ha hb hab => ?_
  rw [ins_get h1] at ha hb
  by_cases c1 : a < SetTable.below xs j
  · rw [if_pos c1] at ha
    by_cases c2 : b < SetTable.below xs j
    · rw [if_pos c2] at hb
      exact ris_lt r ha hb hab
    · rw [if_neg c2] at hb
      by_cases c3 : b = SetTable.below xs j
      · rw [if_pos c3] at hb
        cases hb
        exact lo a x ha c1
      · rw [if_neg c3] at hb
        have := lo a x ha c1
        have := hi' (b - 1) y hb (by omega)
        omega
  · rw [if_neg c1] at ha
    rw [if_neg (by omega)] at hb
    by_cases c2 : a = SetTable.below xs j
    · rw [if_pos c2] at ha
      cases ha
      rw [if_neg (by omega)] at hb
      exact hi' (b - 1) y hb (by omega)
    · rw [if_neg c2] at ha
      rw [if_neg (by omega)] at hb
      exact ris_lt r ha hb (by omega)
end Pg

/-! SaE: a set's table: what holds, what a search finds -/
namespace Pg
open PySem
/-- from h the place j is come by over taken places -/
def Way (t : SetTable) (h : Int) (j : Nat) : Prop := ∃ n, (pw t (t.probeStart h) n).j = j ∧ ∀ m, m < n → (pw t (t.probeStart h) m).j ∈ t.place.toList
structure Tab (es : Array (Int × Value)) (t : SetTable) : Prop where
  pow : ∃ K, 3 ≤ K ∧ t.mask + 1 = 2 ^ K
  ris : Ris t.place
  dm : t.dummies = #[]
  sz : t.place.size = es.size
  le : ∀ j ∈ t.place.toList, j ≤ t.mask
  room : t.place.size ≤ t.mask
  way : ∀ (i j : Nat) (e : Int × Value), t.place[i]? = some j → es[i]? = some e → Way t e.1 j
theorem run_end {mask i : Nat} (h : i ≤ mask) : i ≤ SetTable.runEnd mask i ∧ SetTable.runEnd mask i ≤ mask := by
  unfold SetTable.runEnd
  split <;> omega
/-- a probe's places are the table's -/
theorem pw_good (t : SetTable) (h : Int) (n : Nat) : ((pw t (t.probeStart h) n).i ≤ t.mask ∧ (pw t (t.probeStart h) n).j + (pw t (t.probeStart h) n).more ≤ t.mask) ∧ (pw t (t.probeStart h) n).j ≤ t.mask := by
  have key : (pw t (t.probeStart h) n).i ≤ t.mask ∧ (pw t (t.probeStart h) n).j + (pw t (t.probeStart h) n).more ≤ t.mask := by
    induction n with
    | zero =>
      have hi : SetTable.bits h % (t.mask + 1) ≤ t.mask := Nat.le_of_lt_succ (Nat.mod_lt _ (Nat.succ_pos _))
      obtain ⟨r1, r2⟩ := run_end hi
      refine ⟨hi, ?_⟩
      show SetTable.bits h % (t.mask + 1) + (SetTable.runEnd t.mask (SetTable.bits h % (t.mask + 1)) - SetTable.bits h % (t.mask + 1)) ≤ t.mask
      omega
    | succ n ih =>
      show (t.advance (pw t (t.probeStart h) n)).i ≤ t.mask ∧ _
      show (t.advance (pw t (t.probeStart h) n)).i ≤ t.mask ∧ (t.advance (pw t (t.probeStart h) n)).j + (t.advance (pw t (t.probeStart h) n)).more ≤ t.mask
      generalize pw t (t.probeStart h) n = p at ih
      unfold SetTable.advance
      by_cases c : p.more > 0
      · rw [if_pos c]
        refine ⟨ih.1, ?_⟩
        show p.j + 1 + (p.more - 1) ≤ t.mask
        have := ih.2
        omega
      · rw [if_neg c]
        have hi : (SetTable.leap t.mask p.i p.perturb).1 ≤ t.mask := Nat.le_of_lt_succ (Nat.mod_lt _ (Nat.succ_pos _))
        obtain ⟨r1, r2⟩ := run_end hi
        refine ⟨hi, ?_⟩
        show (SetTable.leap t.mask p.i p.perturb).1 + (SetTable.runEnd t.mask (SetTable.leap t.mask p.i p.perturb).1 - (SetTable.leap t.mask p.i p.perturb).1) ≤ t.mask
        omega
  exact ⟨key, by omega⟩
theorem Tab.free {es : Array (Int × Value)} {t : SetTable} (T : Tab es t) (h : Int) : ∃ n, n < 10 * SetTable.turns t.mask ∧ (pw t (t.probeStart h) n).j ∉ t.place.toList := by
  obtain ⟨K, _, hm⟩ := T.pow
  exact probe_free hm (by rw [Array.length_toList, ← hm]; have := T.room; omega) h
/-- a free place for h -/
theorem Tab.slot {es : Array (Int × Value)} {t : SetTable} (T : Tab es t) (h : Int) : ∃ j, t.freeSlot h = some (j, false) ∧ j ∉ t.place.toList ∧ Way t h j := by
  obtain ⟨n, hn, h1, h2⟩ := go_spec T.ris T.dm (fun _ => h + 1) h (10 * SetTable.turns t.mask) (t.probeStart h) (T.free h)
  rcases h2 with ⟨h3, h4⟩ | ⟨i, _, h4, _⟩
  · refine ⟨(pw t (t.probeStart h) n).j, ?_, h3, n, rfl, fun m hm => ?_⟩
    · unfold SetTable.freeSlot SetTable.probe
      rw [h4]
      rfl
    · obtain ⟨i, hi, _⟩ := h1 m hm
      rw [Array.mem_toList_iff]
      exact Array.mem_of_getElem? hi
  · omega
theorem Tab.place_lt {es : Array (Int × Value)} {t : SetTable} (T : Tab es t) {i j : Nat} (h : t.place[i]? = some j) : ∃ e, es[i]? = some e := by
  have hi : i < t.place.size := by
    rcases Nat.lt_or_ge i t.place.size with k | k
    · exact k
    · rw [Array.getElem?_eq_none k] at h; cases h
  exact ⟨es[i]'(by rw [← T.sz]; exact hi), Array.getElem?_eq_getElem (by rw [← T.sz]; exact hi)⟩
/-- a search: it is there; it is not there -/
theorem Tab.search {es : Array (Int × Value)} {t : SetTable} (T : Tab es t) (h : Int) (hashAt : Nat → Int) (hh : ∀ (i : Nat) (e : Int × Value), es[i]? = some e → hashAt i = e.1) :
    (∃ (j i : Nat) (e : Int × Value) (p : SetTable.Probe), t.probe hashAt h (t.probeStart h) = some (.candidate j i p) ∧ es[i]? = some e ∧ e.1 = h) ∨
    (∃ j, t.probe hashAt h (t.probeStart h) = some (.empty j none) ∧ j ∉ t.place.toList ∧ Way t h j ∧ ∀ (i : Nat) (e : Int × Value), es[i]? = some e → e.1 ≠ h) := by
  obtain ⟨n, hn, h1, h2⟩ := go_spec T.ris T.dm hashAt h (10 * SetTable.turns t.mask) (t.probeStart h) (T.free h)
  rcases h2 with ⟨h3, h4⟩ | ⟨i, h3, h4, h5⟩
  · right
    refine ⟨_, h4, h3, ⟨n, rfl, fun m hm => ?_⟩, fun i e he hz => ?_⟩
    · obtain ⟨i, hi, _⟩ := h1 m hm
      rw [Array.mem_toList_iff]
      exact Array.mem_of_getElem? hi
    · have hi : i < t.place.size := by
        rw [T.sz]
        rcases Nat.lt_or_ge i es.size with k | k
        · exact k
        · rw [Array.getElem?_eq_none k] at he; cases he
      have ej : t.place[i]? = some t.place[i] := Array.getElem?_eq_getElem hi
      obtain ⟨n2, w1, w2⟩ := T.way i _ e ej he
      rw [hz] at w1 w2
      rcases Nat.lt_trichotomy n n2 with c | c | c
      · exact h3 (w2 n c)
      · rw [c, w1] at h3
        exact h3 (by rw [Array.mem_toList_iff]; exact Array.mem_of_getElem? ej)
      · obtain ⟨i2, hi2, hne⟩ := h1 n2 c
        rw [w1] at hi2
        have e1 := place_at T.ris hi2
        have e2 := place_at T.ris ej
        rw [e1] at e2
        subst e2
        exact hne ((hh _ e he).trans hz)
  · left
    obtain ⟨e, he⟩ := T.place_lt h3
    exact ⟨_, i, e, _, h5, he, (hh i e he).symm.trans h4⟩
/-- one more: the ways stay -/
theorem Tab.put {es : Array (Int × Value)} {t : SetTable} (T : Tab es t) {j : Nat} {h : Int} {x : Value} (hj : j ∉ t.place.toList) (w : Way t h j) (hr : t.place.size + 1 ≤ t.mask) :
    (t.put j).2 = SetTable.below t.place j ∧ Tab (SetTable.insertAt es (SetTable.below t.place j) (h, x)) (t.put j).1 := by
  have hd : SetTable.has t.dummies j = false := by
    unfold SetTable.has
    rw [T.dm]
    simp
  have e : t.put j = ({ t with place := SetTable.insertAt t.place (SetTable.below t.place j) j }, SetTable.below t.place j) := by
    unfold SetTable.put
    simp only
    rw [hd]
    rfl
  obtain ⟨b1, _, _⟩ := below_spec T.ris j
  have b2 : SetTable.below t.place j ≤ es.size := by rw [← T.sz]; exact b1
  have epw : ∀ (p : SetTable.Probe) n, pw { t with place := SetTable.insertAt t.place (SetTable.below t.place j) j } p n = pw t p n := by
    intro p n
    induction n with
    | zero => rfl
    | succ n ih =>
      show SetTable.advance _ (pw _ p n) = t.advance (pw t p n)
      rw [ih]
      rfl
  have jle : j ≤ t.mask := by
    obtain ⟨n, hn, _⟩ := w
    rw [← hn]
    exact (pw_good t h n).2
  rw [e]
  refine ⟨rfl, T.pow, ris_ins T.ris hj, T.dm, by rw [ins_size, ins_size, T.sz], fun k hk => ?_, by show (SetTable.insertAt _ _ _).size ≤ t.mask; rw [ins_size]; exact hr, fun i k a hi ha => ?_⟩
  · rcases ins_mem.mp hk with z | z
    · rw [z]; exact jle
    · exact T.le k z
  · have lift : ∀ {h' : Int} {k' : Nat}, Way t h' k' → Way { t with place := SetTable.insertAt t.place (SetTable.below t.place j) j } h' k' := by
      rintro h' k' ⟨n, h1, h2⟩
      refine ⟨n, ?_, fun m hm => ?_⟩
      · rw [epw]; exact h1
      · rw [epw]
        exact ins_mem.mpr (.inr (h2 m hm))
    rw [ins_get b1] at hi
    rw [ins_get b2] at ha
    by_cases c1 : i < SetTable.below t.place j
    · rw [if_pos c1] at hi ha
      exact lift (T.way i k a hi ha)
    · rw [if_neg c1] at hi ha
      by_cases c2 : i = SetTable.below t.place j
      · rw [if_pos c2] at hi ha
        cases hi
        cases ha
        exact lift w
      · rw [if_neg c2] at hi ha
        exact lift (T.way (i - 1) k a hi ha)
end Pg

/-! SaF: a table laid anew -/
namespace Pg
open PySem
/-- a table of this size, with nothing in it -/
def bare (mask : Nat) : SetTable := { SetTable.fresh 0 0 false with mask := mask }
theorem pw_mask {t u : SetTable} (h : t.mask = u.mask) (p : SetTable.Probe) : ∀ n, pw t p n = pw u p n
  | 0 => rfl
  | n + 1 => by
    show t.advance (pw t p n) = u.advance (pw u p n)
    rw [pw_mask h p n]
    unfold SetTable.advance
    rw [h]
theorem start_mask {t u : SetTable} (h : t.mask = u.mask) (x : Int) : t.probeStart x = u.probeStart x := by
  unfold SetTable.probeStart
  rw [h]
/-- a place that is taken -/
def Occ (owner : Array (Option Nat)) (j : Nat) : Prop := ∃ k, owner[j]? = some (some k)
/-- the place that is free first, from a turn's start -/
theorem free_spec {mask : Nat} {owner : Array (Option Nat)} (hs : owner.size = mask + 1) : ∀ (fuel i per : Nat), i ≤ mask → (∃ d, d < fuel ∧ ¬ Occ owner (leaps mask i per d).1) →
    ∃ j n, SetTable.layClean.free mask owner fuel i per = some j ∧ j ≤ mask ∧ ¬ Occ owner j ∧ (pw (bare mask) (turnAt (bare mask) i per none) n).j = j ∧ ∀ m, m < n → Occ owner (pw (bare mask) (turnAt (bare mask) i per none) m).j
  | 0, i, per, hi, ⟨d, hd, _⟩ => by omega
  | fuel + 1, i, per, hi, ⟨d, hd, hn⟩ => by
    obtain ⟨r1, r2⟩ := run_end hi
    have run : ∀ k, k ≤ SetTable.runEnd mask i - i → (pw (bare mask) (turnAt (bare mask) i per none) k).j = i + k := by
      intro k hk
      show (pw (bare mask) { j := i, more := SetTable.runEnd mask i - i, i := i, perturb := per, dummy := none } k).j = i + k
      rw [pw_run (bare mask) i k hk]
    have occ_of : ∀ k, i + k ≤ mask → (owner.getD (i + k) (some 0)).isNone = false → Occ owner (i + k) := by
      intro k hk h
      have e : owner[i + k]? = some (owner[i + k]'(by omega)) := Array.getElem?_eq_getElem (by omega)
      rw [Array.getD_eq_getD_getElem?, e] at h
      cases c : owner[i + k]'(by omega) with
      | none => rw [c] at h; cases h
      | some z => rw [c] at e; exact ⟨z, e⟩
    unfold SetTable.layClean.free
    cases hf : (List.range (SetTable.runEnd mask i + 1 - i)).find? fun k => (owner.getD (i + k) (some 0)).isNone with
    | some k =>
      obtain ⟨h1, h2, h3⟩ := List.find?_range_eq_some.mp hf
      have hk := List.mem_range.mp h2
      refine ⟨i + k, k, rfl, by omega, ?_, run k (by omega), fun m hm => ?_⟩
      · rintro ⟨z, hz⟩
        rw [Array.getD_eq_getD_getElem?, hz] at h1
        cases h1
      · rw [run m (by omega)]
        refine occ_of m (by omega) ?_
        have h4 := h3 m hm
        cases c : (owner.getD (i + m) (some 0)).isNone with
        | false => rfl
        | true => rw [c] at h4; cases h4
    | none =>
      have hall : ∀ k, k ≤ SetTable.runEnd mask i - i → Occ owner (i + k) := by
        intro k hk
        refine occ_of k (by omega) ?_
        have := List.find?_eq_none.mp hf k (List.mem_range.mpr (by omega))
        exact Bool.eq_false_iff.mpr this
      simp only
      have hi2 : (SetTable.leap mask i per).1 ≤ mask := Nat.le_of_lt_succ (Nat.mod_lt _ (Nat.succ_pos _))
      have sh : ∀ n, leaps mask i per (n + 1) = leaps mask (SetTable.leap mask i per).1 (SetTable.leap mask i per).2 n := by
        intro n
        induction n with
        | zero => rfl
        | succ n ih =>
          show SetTable.leap mask (leaps mask i per (n + 1)).1 (leaps mask i per (n + 1)).2 = _
          rw [ih]
          rfl
      have hd0 : d ≠ 0 := by
        intro z
        subst z
        have := hall 0 (Nat.zero_le _)
        rw [Nat.add_zero] at this
        exact hn this
      obtain ⟨d', rfl⟩ : ∃ d', d = d' + 1 := ⟨d - 1, by omega⟩
      obtain ⟨j, n, g1, g2, g3, g4, g5⟩ := free_spec hs fuel (SetTable.leap mask i per).1 (SetTable.leap mask i per).2 hi2 ⟨d', by omega, by rw [← sh]; exact hn⟩
      have tstep : pw (bare mask) (turnAt (bare mask) i per none) (SetTable.runEnd mask i - i + 1) = turnAt (bare mask) (SetTable.leap mask i per).1 (SetTable.leap mask i per).2 none := by
        show (bare mask).advance (pw (bare mask) (turnAt (bare mask) i per none) (SetTable.runEnd mask i - i)) = _
        unfold turnAt
        have e := pw_run (bare mask) (i := i) (per := per) (M := SetTable.runEnd mask i - i) (d := none) i _ (Nat.le_refl _)
        show (bare mask).advance (pw (bare mask) { j := i, more := SetTable.runEnd mask i - i, i := i, perturb := per, dummy := none } (SetTable.runEnd mask i - i)) = _
        rw [e]
        unfold SetTable.advance
        rw [if_neg (by show ¬ (SetTable.runEnd mask i - i - (SetTable.runEnd mask i - i) > 0); omega)]
        rfl
      refine ⟨j, SetTable.runEnd mask i - i + 1 + n, g1, g2, g3, by rw [pw_add, tstep]; exact g4, fun m hm => ?_⟩
      rcases Nat.lt_or_ge m (SetTable.runEnd mask i - i + 1) with c | c
      · rw [run m (by omega)]
        exact hall m (by omega)
      · obtain ⟨m', rfl⟩ : ∃ m', m = SetTable.runEnd mask i - i + 1 + m' := ⟨m - (SetTable.runEnd mask i - i + 1), by omega⟩
        rw [pw_add, tstep]
        exact g5 m' (by omega)
end Pg

/-! SaG: a table laid anew: all elements -/
namespace Pg
open PySem
structure LayInv (mask : Nat) (hs : List Int) (owner : Array (Option Nat)) (slots : List Nat) : Prop where
  sz : owner.size = mask + 1
  ln : slots.length = hs.length
  iff_ : ∀ (j k : Nat), owner[j]? = some (some k) ↔ slots[k]? = some j
  way : ∀ (k : Nat) (h : Int) (j : Nat), hs[k]? = some h → slots[k]? = some j → ∃ n, (pw (bare mask) ((bare mask).probeStart h) n).j = j ∧ ∀ m, m < n → Occ owner (pw (bare mask) ((bare mask).probeStart h) m).j
theorem LayInv.start (mask : Nat) : LayInv mask [] (Array.replicate (mask + 1) none) [] := by
  refine ⟨by simp, rfl, fun j k => ?_, fun k h j hk => by simp at hk⟩
  constructor
  · intro h
    rw [Array.getElem?_replicate] at h
    split at h <;> cases h
  · intro h
    simp at h
/-- the place for one hash more -/
def spotFor (mask : Nat) (owner : Array (Option Nat)) (h : Int) : Option Nat := SetTable.layClean.free mask owner (SetTable.turns mask) (SetTable.bits h % (mask + 1)) (SetTable.bits h)
def layStep (mask : Nat) (acc : Option (Array (Option Nat) × Nat)) (h : Int) : Option (Array (Option Nat) × Nat) :=
  acc.bind fun p => (spotFor mask p.1 h).map fun j => (p.1.setIfInBounds j (some p.2), p.2 + 1)
theorem layClean_eq (mask : Nat) (hashes : Array Int) : SetTable.layClean mask hashes = (hashes.toList.foldl (layStep mask) (some (Array.replicate (mask + 1) none, 0))).map (·.1) := by
  unfold SetTable.layClean
  rw [← Array.foldl_toList]
  congr 2
  funext acc h
  cases acc with
  | none => rfl
  | some p =>
    show (spotFor mask p.1 h).bind _ = (spotFor mask p.1 h).map _
    cases spotFor mask p.1 h <;> rfl
theorem got_lt {slots : List Nat} {k j : Nat} (e : slots[k]? = some j) : k < slots.length := by
  rcases Nat.lt_or_ge k slots.length with g | g
  · exact g
  · rw [List.getElem?_eq_none g] at e; cases e
theorem LayInv.step {mask K : Nat} (hm : mask + 1 = 2 ^ K) {hs : List Int} {owner : Array (Option Nat)} {slots : List Nat} (L : LayInv mask hs owner slots) (hl : hs.length < 2 ^ K) (h : Int) :
    ∃ j, layStep mask (some (owner, hs.length)) h = some (owner.setIfInBounds j (some hs.length), hs.length + 1) ∧ j ≤ mask ∧ LayInv mask (hs ++ [h]) (owner.setIfInBounds j (some hs.length)) (slots ++ [j]) := by
  have occ : ∀ j, Occ owner j → j ∈ slots := by
    rintro j ⟨k, hk⟩
    exact List.mem_of_getElem? ((L.iff_ j k).mp hk)
  have hi : SetTable.bits h % (mask + 1) ≤ mask := Nat.le_of_lt_succ (Nat.mod_lt _ (Nat.succ_pos _))
  have hi13 := leaps_lt (mask := mask) (per := SetTable.bits h) (Nat.lt_succ_of_le hi) 13
  obtain ⟨d, hd, hn⟩ := steps_free (K := K) (i := (leaps mask (SetTable.bits h % (mask + 1)) (SetTable.bits h) 13).1) (by rw [← hm]; exact hi13) (m := slots) (by rw [L.ln]; exact hl)
  have ht : SetTable.turns mask = mask + 15 := rfl
  obtain ⟨j, n, f1, f2, f3, f4, f5⟩ := free_spec L.sz (SetTable.turns mask) _ (SetTable.bits h) hi ⟨13 + d, by omega, fun z => by
    rw [leaps_late (bits_lt h) d] at z
    have e2 : ∀ x y, stepsAt (mask + 1) x y = stepsAt (2 ^ K) x y := fun x y => by rw [hm]
    rw [e2] at z
    exact hn (occ _ z)⟩
  have jlt : j < owner.size := by rw [L.sz]; omega
  have get : ∀ j', (owner.setIfInBounds j (some hs.length))[j']? = if j' = j then some (some hs.length) else owner[j']? := by
    intro j'
    by_cases c : j' = j
    · subst c
      rw [if_pos rfl, Array.getElem?_setIfInBounds_self_of_lt jlt]
    · rw [if_neg c, Array.getElem?_setIfInBounds_ne (Ne.symm c)]
  have keep : ∀ j', Occ owner j' → Occ (owner.setIfInBounds j (some hs.length)) j' := by
    rintro j' ⟨k, hk⟩
    have c : j' ≠ j := fun z => f3 ⟨k, by rw [← z]; exact hk⟩
    exact ⟨k, by rw [get, if_neg c]; exact hk⟩
  refine ⟨j, ?_, f2, by simp [L.sz], by simp [L.ln], fun j' k => ?_, fun k h' j' hk hj => ?_⟩
  · unfold layStep
    have f1' : spotFor mask owner h = some j := f1
    show (spotFor mask owner h).map _ = _
    rw [f1']
    rfl
  · rw [get]
    by_cases c : j' = j
    · rw [if_pos c]
      constructor
      · intro e
        have : hs.length = k := by simpa using e
        rw [← this, ← L.ln, c]
        simp
      · intro e
        rcases Nat.lt_or_ge k slots.length with g | g
        · rw [List.getElem?_append_left g] at e
          have oj : Occ owner j' := ⟨k, (L.iff_ j' k).mpr e⟩
          rw [c] at oj
          exact absurd oj f3
        · have hk : k < (slots ++ [j]).length := by
            rcases Nat.lt_or_ge k (slots ++ [j]).length with g2 | g2
            · exact g2
            · rw [List.getElem?_eq_none g2] at e; cases e
          rw [List.length_append] at hk
          simp only [List.length_singleton] at hk
          have : k = hs.length := by rw [← L.ln]; omega
          rw [this]
    · rw [if_neg c, L.iff_]
      constructor
      · intro e
        rw [List.getElem?_append_left (got_lt e)]
        exact e
      · intro e
        rcases Nat.lt_or_ge k slots.length with g | g
        · rw [List.getElem?_append_left g] at e
          exact e
        · rw [List.getElem?_append_right g] at e
          cases z : k - slots.length with
          | zero =>
            rw [z] at e
            simp at e
            exact absurd e.symm c
          | succ z2 => rw [z] at e; simp at e
  · rcases Nat.lt_or_ge k hs.length with g | g
    · rw [List.getElem?_append_left g] at hk
      rw [List.getElem?_append_left (by rw [L.ln]; exact g)] at hj
      obtain ⟨n', w1, w2⟩ := L.way k h' j' hk hj
      exact ⟨n', w1, fun m hm' => keep _ (w2 m hm')⟩
    · rw [List.getElem?_append_right g] at hk
      rw [List.getElem?_append_right (by rw [L.ln]; exact g), L.ln] at hj
      cases z : k - hs.length with
      | zero =>
        rw [z] at hk hj
        simp at hk hj
        subst hk hj
        exact ⟨n, f4, fun m hm' => keep _ (f5 m hm')⟩
      | succ z2 => rw [z] at hk; simp at hk
end Pg

/-! SaH: the whole table laid anew -/
namespace Pg
open PySem
theorem lay_fold {mask K : Nat} (hm : mask + 1 = 2 ^ K) : ∀ (rest hs : List Int) (owner : Array (Option Nat)) (slots : List Nat), LayInv mask hs owner slots → (hs ++ rest).length ≤ mask →
    ∃ owner' slots', rest.foldl (layStep mask) (some (owner, hs.length)) = some (owner', (hs ++ rest).length) ∧ LayInv mask (hs ++ rest) owner' slots'
  | [], hs, owner, slots, L, _ => ⟨owner, slots, by rw [List.append_nil]; rfl, by rw [List.append_nil]; exact L⟩
  | h :: rest, hs, owner, slots, L, hl => by
    have hl2 : hs.length < 2 ^ K := by
      rw [List.length_append, List.length_cons] at hl
      omega
    obtain ⟨j, e, _, L2⟩ := L.step hm hl2 h
    have e3 : hs ++ h :: rest = (hs ++ [h]) ++ rest := by simp
    rw [e3] at hl ⊢
    obtain ⟨o2, s2, g1, g2⟩ := lay_fold hm rest (hs ++ [h]) _ _ L2 hl
    refine ⟨o2, s2, ?_, g2⟩
    rw [List.foldl_cons, e, ← g1]
    simp
theorem layClean_spec {mask K : Nat} (hm : mask + 1 = 2 ^ K) {hashes : Array Int} (hl : hashes.size ≤ mask) : ∃ owner slots, SetTable.layClean mask hashes = some owner ∧ LayInv mask hashes.toList owner slots := by
  obtain ⟨o, s, h1, h2⟩ := lay_fold hm hashes.toList [] _ [] (LayInv.start mask) (by simpa using hl)
  refine ⟨o, s, ?_, by simpa using h2⟩
  rw [layClean_eq]
  have h1' : hashes.toList.foldl (layStep mask) (some (Array.replicate (mask + 1) none, 0)) = some (o, ([] ++ hashes.toList).length) := h1
  rw [h1']
  rfl
end Pg

/-! SaI: the places and the order of a table laid anew -/
namespace Pg
open PySem
def liveOf (mask : Nat) (owner : Array (Option Nat)) : List (Nat × Nat) := (List.range (mask + 1)).filterMap fun j => (owner.getD j none).map (j, ·)
theorem live_mem {mask : Nat} {hs : List Int} {owner : Array (Option Nat)} {slots : List Nat} (L : LayInv mask hs owner slots) (p : Nat × Nat) : p ∈ liveOf mask owner ↔ slots[p.2]? = some p.1 := by
  unfold liveOf
  rw [List.mem_filterMap, ← L.iff_]
  constructor
  · rintro ⟨j, hj, e⟩
    have hlt : j < owner.size := by rw [L.sz]; exact List.mem_range.mp hj
    rw [Array.getD_eq_getD_getElem?, Array.getElem?_eq_getElem hlt] at e
    cases c : owner[j] with
    | none =>
      have e' : (owner[j]).map (fun x => (j, x)) = some p := e
      rw [c] at e'
      cases e'
    | some k =>
      have e' : (owner[j]).map (fun x => (j, x)) = some p := e
      rw [c] at e'
      cases e'
      rw [Array.getElem?_eq_getElem hlt, c]
  · intro e
    have hlt : p.1 < owner.size := by
      rcases Nat.lt_or_ge p.1 owner.size with g | g
      · exact g
      · rw [Array.getElem?_eq_none g] at e; cases e
    refine ⟨p.1, List.mem_range.mpr (by rw [← L.sz]; exact hlt), ?_⟩
    rw [Array.getD_eq_getD_getElem?, e]
    rfl
theorem live_sorted (mask : Nat) (owner : Array (Option Nat)) : (liveOf mask owner).Pairwise fun p q => p.1 < q.1 := by
  unfold liveOf
  rw [List.pairwise_filterMap]
  refine List.Pairwise.imp ?_ (List.pairwise_lt_range (n := mask + 1))
  intro a b hab p hp q hq
  have h1 : p.1 = a := by
    cases c : owner.getD a none with
    | none => rw [c] at hp; cases hp
    | some k => rw [c] at hp; cases hp; rfl
  have h2 : q.1 = b := by
    cases c : owner.getD b none with
    | none => rw [c] at hq; cases hq
    | some k => rw [c] at hq; cases hq; rfl
  omega
end Pg

/-! SaJ: the order of a table laid anew is a permutation -/
namespace Pg
open PySem
theorem live_nodup2 {mask : Nat} {hs : List Int} {owner : Array (Option Nat)} {slots : List Nat} (L : LayInv mask hs owner slots) : ((liveOf mask owner).map (·.2)).Nodup := by
  rw [List.nodup_iff_pairwise_ne, List.pairwise_map]
  refine List.Pairwise.imp_of_mem ?_ (live_sorted mask owner)
  intro p q hp hq hpq e
  have h1 := (live_mem L p).mp hp
  have h2 := (live_mem L q).mp hq
  rw [e] at h1
  have h3 := Option.some.inj (h1.symm.trans h2)
  omega
theorem order_mem {mask : Nat} {hs : List Int} {owner : Array (Option Nat)} {slots : List Nat} (L : LayInv mask hs owner slots) (k : Nat) : k ∈ (liveOf mask owner).map (·.2) ↔ k < hs.length := by
  rw [List.mem_map]
  constructor
  · rintro ⟨p, hp, rfl⟩
    have h1 := (live_mem L p).mp hp
    rw [← L.ln]
    exact got_lt h1
  · intro h
    have e : slots[k]? = some (slots[k]'(by rw [L.ln]; exact h)) := List.getElem?_eq_getElem (by rw [L.ln]; exact h)
    exact ⟨(_, k), (live_mem L (_, k)).mpr e, rfl⟩
theorem order_perm {mask : Nat} {hs : List Int} {owner : Array (Option Nat)} {slots : List Nat} (L : LayInv mask hs owner slots) : ((liveOf mask owner).map (·.2)).Perm (List.range hs.length) := by
  have nr : (List.range hs.length).Nodup := List.nodup_range
  refine (List.perm_ext_iff_of_nodup (live_nodup2 L) nr).mpr fun k => ?_
  rw [order_mem L, List.mem_range]
theorem live_length {mask : Nat} {hs : List Int} {owner : Array (Option Nat)} {slots : List Nat} (L : LayInv mask hs owner slots) : (liveOf mask owner).length = hs.length := by
  have := (order_perm L).length_eq
  rw [List.length_map, List.length_range] at this
  exact this
end Pg

/-! SaK: a table laid anew holds what a table holds -/
namespace Pg
open PySem
theorem pick_get {α : Type} (es : Array α) : ∀ (l : List Nat), (∀ k ∈ l, k < es.size) → ∀ i : Nat, (l.filterMap (fun k => es[k]?))[i]? = l[i]?.bind fun k => es[k]?
  | [], _, i => by simp
  | k :: l, h, i => by
    have hk := h k List.mem_cons_self
    rw [List.filterMap_cons_some (b := es[k]) (by rw [Array.getElem?_eq_getElem hk])]
    cases i with
    | zero => simp [Array.getElem?_eq_getElem hk]
    | succ i =>
      rw [List.getElem?_cons_succ, List.getElem?_cons_succ]
      exact pick_get es l (fun k hk => h k (List.mem_cons_of_mem _ hk)) i
theorem laid_spec {mask K : Nat} (hK : 3 ≤ K) (hm : mask + 1 = 2 ^ K) (finger moves : Nat) (led plain : Bool) {es : Array (Int × Value)} (hl : es.size ≤ mask) :
    ∃ t order, SetTable.laid mask finger moves led plain (es.map (·.1)) = some (t, order) ∧ t.mask = mask ∧ order.toList.Perm (List.range es.size) ∧ (order.filterMap (es[·]?)).size = es.size ∧ Tab (order.filterMap (es[·]?)) t := by
  obtain ⟨owner, slots, h1, L⟩ := layClean_spec hm (hashes := es.map (·.1)) (by rw [Array.size_map]; exact hl)
  have ehs : (es.map (·.1)).toList.length = es.size := by rw [Array.length_toList, Array.size_map]
  have pm := order_perm L
  rw [ehs] at pm
  have ll := live_length L
  rw [ehs] at ll
  have olt : ∀ k ∈ (liveOf mask owner).map (·.2), k < es.size := fun k hk => List.mem_range.mp (pm.mem_iff.mp hk)
  have esz : (((liveOf mask owner).map (·.2)).toArray.filterMap (es[·]?)).size = es.size := by
    rw [← Array.length_toList, Array.toList_filterMap]
    have := (pm.filterMap (fun k => es[k]?)).length_eq
    rw [filterMap_getElem?_range, Array.length_toList] at this
    exact this
  refine ⟨{ mask := mask, place := ((liveOf mask owner).map (·.1)).toArray, dummies := #[], finger := finger, led := led, moves := moves, plain := plain }, ((liveOf mask owner).map (·.2)).toArray, ?_, rfl, pm, esz, ?_⟩
  · unfold SetTable.laid
    rw [h1]
    rfl
  · refine ⟨⟨K, hK, hm⟩, ?_, rfl, ?_, ?_, ?_, ?_⟩
    · refine ris_of fun i j a b hi hj hij => ?_
      have hi2 : ((liveOf mask owner).map (·.1))[i]? = some a := by simpa using hi
      have hj2 : ((liveOf mask owner).map (·.1))[j]? = some b := by simpa using hj
      rw [List.getElem?_map] at hi2 hj2
      obtain ⟨p, hp, rfl⟩ := Option.map_eq_some_iff.mp hi2
      obtain ⟨q, hq, rfl⟩ := Option.map_eq_some_iff.mp hj2
      obtain ⟨hil, ep⟩ := List.getElem?_eq_some_iff.mp hp
      obtain ⟨hjl, eq⟩ := List.getElem?_eq_some_iff.mp hq
      have := List.pairwise_iff_getElem.mp (live_sorted mask owner) i j hil hjl hij
      rw [ep, eq] at this
      exact this
    · rw [esz]
      show ((liveOf mask owner).map (·.1)).toArray.size = es.size
      rw [List.size_toArray, List.length_map, ll]
    · intro j hj
      have hj2 : j ∈ (liveOf mask owner).map (·.1) := hj
      obtain ⟨p, hp, rfl⟩ := List.mem_map.mp hj2
      have h2 := (L.iff_ p.1 p.2).mpr ((live_mem L p).mp hp)
      rcases Nat.lt_or_ge p.1 owner.size with g | g
      · rw [L.sz] at g
        exact Nat.le_of_lt_succ g
      · rw [Array.getElem?_eq_none g] at h2; cases h2
    · show ((liveOf mask owner).map (·.1)).toArray.size ≤ mask
      rw [List.size_toArray, List.length_map, ll]
      exact hl
    · intro i j e hi he
      have hi2 : ((liveOf mask owner).map (·.1))[i]? = some j := by simpa using hi
      rw [List.getElem?_map] at hi2
      obtain ⟨p, hp, rfl⟩ := Option.map_eq_some_iff.mp hi2
      rw [← Array.getElem?_toList, Array.toList_filterMap] at he
      have he2 : (((liveOf mask owner).map (·.2)).filterMap (fun k => es[k]?))[i]? = some e := he
      rw [pick_get es _ olt, List.getElem?_map, hp] at he2
      have he3 : es[p.2]? = some e := he2
      have hpm := (live_mem L p).mp (List.mem_of_getElem? hp)
      have hh : (es.map (·.1)).toList[p.2]? = some e.1 := by
        rw [Array.getElem?_toList, Array.getElem?_map, he3]
        rfl
      obtain ⟨n, w1, w2⟩ := L.way p.2 e.1 p.1 hh hpm
      have em : (bare mask).mask = mask := rfl
      refine ⟨n, ?_, fun m hm2 => ?_⟩
      · rw [start_mask (u := bare mask) em.symm, pw_mask (u := bare mask) em.symm]
        exact w1
      · rw [start_mask (u := bare mask) em.symm, pw_mask (u := bare mask) em.symm]
        obtain ⟨k, hk⟩ := w2 m hm2
        exact List.mem_map.mpr ⟨(_, k), (live_mem L (_, k)).mpr ((L.iff_ _ k).mp hk), rfl⟩
theorem sizeAbove_go (n : Nat) : ∀ (fuel K : Nat), n < 2 ^ (K + fuel) → ∃ d, SetTable.sizeAbove.go n fuel (2 ^ K) = 2 ^ (K + d) ∧ d ≤ fuel ∧ n < 2 ^ (K + d) ∧ (d = 0 ∨ 2 ^ (K + d) ≤ 2 * n)
  | 0, K, h => ⟨0, rfl, Nat.le_refl _, h, .inl rfl⟩
  | fuel + 1, K, h => by
    unfold SetTable.sizeAbove.go
    by_cases c : 2 ^ K ≤ n
    · rw [if_pos c, ← Nat.pow_succ]
      obtain ⟨d, h1, h2, h3, h4⟩ := sizeAbove_go n fuel (K + 1) (by rw [show K + 1 + fuel = K + (fuel + 1) from by omega]; exact h)
      have e : K + 1 + d = K + (d + 1) := by omega
      rw [e] at h1 h3 h4
      refine ⟨d + 1, h1, by omega, h3, .inr ?_⟩
      rcases h4 with z | z
      · rw [z, Nat.pow_succ]
        omega
      · exact z
    · rw [if_neg c]
      exact ⟨0, rfl, Nat.zero_le _, by rw [Nat.add_zero]; omega, .inl rfl⟩
theorem sizeAbove_spec {n : Nat} (h : n ≤ 80000) : ∃ K, 3 ≤ K ∧ SetTable.sizeAbove n = 2 ^ K ∧ n < 2 ^ K ∧ 2 ^ K ≤ sizeLine := by
  have h67 : (80000 : Nat) < 2 ^ (3 + 64) := by decide
  obtain ⟨d, h1, h2, h3, h4⟩ := sizeAbove_go n 64 3 (by omega)
  refine ⟨3 + d, by omega, h1, h3, ?_⟩
  have hs : (160000 : Nat) ≤ sizeLine := by decide
  rcases h4 with z | z
  · rw [z]
    have : (2 ^ (3 + 0) : Nat) = 8 := rfl
    omega
  · omega
/-- a table with room -/
structure TabR (es : Array (Int × Value)) (t : SetTable) : Prop where
  tab : Tab es t
  low : t.place.size * 5 < t.mask * 3
theorem TabR.room {es : Array (Int × Value)} {t : SetTable} (T : TabR es t) : t.place.size + 1 ≤ t.mask := by
  have h := T.low
  obtain ⟨K, hK, hm⟩ := T.tab.pow
  have : 2 ^ 3 ≤ 2 ^ K := Nat.pow_le_pow_right (by decide) hK
  have e : (2 ^ 3 : Nat) = 8 := rfl
  omega
theorem Tab.fits {es : Array (Int × Value)} {t : SetTable} (T : Tab es t) : t.fits es.size = true := by
  unfold SetTable.fits SetTable.fill
  rw [T.dm, T.sz]
  have h := T.room
  rw [T.sz] at h
  simp [h]
theorem Tab.gave {es : Array (Int × Value)} {t : SetTable} (T : Tab es t) : t.gaveWay = false := by
  obtain ⟨K, hK, hm⟩ := T.pow
  obtain ⟨k, rfl⟩ : ∃ k, K = k + 1 := ⟨K - 1, by omega⟩
  rw [Nat.pow_succ] at hm
  unfold SetTable.gaveWay
  have : t.mask % 2 = 1 := by omega
  rw [this]
  rfl
theorem Tab.full {es : Array (Int × Value)} {t : SetTable} (T : Tab es t) : t.tooFull = decide (t.place.size * 5 ≥ t.mask * 3) := by
  unfold SetTable.tooFull SetTable.fill
  rw [T.dm]
  rfl
/-- laid anew, four times as wide -/
theorem relaid_spec {es : Array (Int × Value)} (t : SetTable) (h0 : 0 < es.size) (h1 : es.size ≤ 20000) :
    SetTable.sizeAbove (SetTable.grown es.size) ≤ sizeLine ∧ ∃ t' order, t.relaid (es.map (·.1)) (SetTable.grown es.size) = some (t', order) ∧ order.toList.Perm (List.range es.size) ∧ (order.filterMap (es[·]?)).size = es.size ∧ TabR (order.filterMap (es[·]?)) t' := by
  have hg : SetTable.grown es.size = es.size * 4 := by
    unfold SetTable.grown
    rw [if_neg (by omega)]
  rw [hg]
  obtain ⟨K, hK, e, hlt, hle⟩ := sizeAbove_spec (n := es.size * 4) (by omega)
  refine ⟨by rw [e]; exact hle, ?_⟩
  unfold SetTable.relaid
  rw [e]
  have hp : 0 < 2 ^ K := Nat.pow_pos (by decide)
  obtain ⟨t', order, g1, g2, g3, g4, g5⟩ := laid_spec hK (mask := 2 ^ K - 1) (by omega) t.finger (t.movedTo (2 ^ K - 1)) t.led t.plain (es := es) (by omega)
  refine ⟨t', order, g1, g3, g4, g5, ?_⟩
  rw [g5.sz, g4, g2]
  omega
theorem relayAll_spec {es : Array (Int × Value)} (t : SetTable) (h0 : 0 < es.size) (h1 : es.size ≤ 20000) : ∃ es' t', relayAll t es (SetTable.grown es.size) = (es', t', false) ∧ TabR es' t' := by
  obtain ⟨_, t', order, e, hp, hz, T⟩ := relaid_spec t h0 h1
  refine ⟨_, t', ?_, T⟩
  unfold relayAll
  rw [e]
  have hc : (coversAll order es.size && t'.fits (order.filterMap (es[·]?)).size) = true := by
    rw [Bool.and_eq_true]
    exact ⟨List.isPerm_iff.mpr hp, T.tab.fits⟩
  simp only
  rw [if_pos hc]
theorem layNew_spec {es : Array (Int × Value)} {t : SetTable} (T : TabR es t) (h : Int) (x : Value) : ∃ t' p, layNew t es h x = (SetTable.insertAt es p (h, x), t', false, false) ∧ Tab (SetTable.insertAt es p (h, x)) t' := by
  obtain ⟨j, h1, h2, h3⟩ := T.tab.slot h
  obtain ⟨p1, p2⟩ := T.tab.put (x := x) h2 h3 T.room
  refine ⟨(t.put j).1, SetTable.below t.place j, ?_, p2⟩
  unfold layNew
  rw [h1]
  simp only
  rw [p1]
  unfold SetTable.orStandIn
  rw [if_pos p2.fits, p2.fits]
  rfl
end Pg

/-! SaL: a whole number more in a set, however many it holds -/
namespace Pg
open PySem PySem.Spec PyProof.Rows L2
/-- elements: whole numbers with their hashes -/
def EsI (es : Array (Int × Value)) : Prop := ∀ e ∈ es.toList, ∃ (n : Nat) (tk : Tok), n ≤ 2000000 ∧ e = ((n : Int), Value.int (n : Int) tk)
theorem hash_nat {n : Nat} (h : n ≤ 2000000) : hashInt (n : Int) = (n : Int) := by
  have h1 : (((n : Int).natAbs : Nat) : Int) % ((2 ^ 61 - 1 : Nat) : Int) = (n : Int) := by
    rw [Int.natAbs_natCast, ← Int.natCast_emod, Nat.mod_eq_of_lt (by omega)]
  have e : rawHash (n : Int) = (n : Int) := by
    simp only [rawHash, h1]
    have g1 : ¬ (n : Int) < 0 := by omega
    have g2 : ¬ ((n : Int) == -1) = true := by
      intro z
      have z2 : (n : Int) = -1 := eq_of_beq z
      omega
    rw [if_neg g1, if_neg g2]
  unfold hashInt
  have g2 : ¬ ((n : Int) == -1) = true := by
    intro z
    have z2 : (n : Int) = -1 := eq_of_beq z
    omega
  rw [e, if_neg g2]
/-- a set of whole numbers L at a -/
def SetL (h : Heap) (a : Addr) (L : List Nat) : Prop := ∃ o es ep t, h.get? a = some o ∧ o.ExactSet ∧ o.data = .set es ep t ∧ EsI es ∧ (es.toList.map (·.1)).Perm (L.map Int.ofNat) ∧ TabR es t
theorem SetL.size {es : Array (Int × Value)} {L : List Nat} (h : (es.toList.map (·.1)).Perm (L.map Int.ofNat)) : es.size = L.length := by
  have e := h.length_eq
  rw [List.length_map, List.length_map, Array.length_toList] at e
  exact e
theorem mem_hash {es : Array (Int × Value)} {L : List Nat} (hp : (es.toList.map (·.1)).Perm (L.map Int.ofNat)) (k : Nat) : k ∈ L ↔ ∃ e ∈ es.toList, e.1 = (k : Int) := by
  have h1 : (k : Int) ∈ L.map Int.ofNat ↔ k ∈ L := by
    rw [List.mem_map]
    constructor
    · rintro ⟨n, hn, e⟩
      have : n = k := Int.ofNat.inj e
      rw [← this]
      exact hn
    · exact fun h => ⟨k, h, rfl⟩
  rw [← h1, ← hp.mem_iff, List.mem_map]
theorem EsI.elems {es : Array (Int × Value)} (h : EsI es) (P : Program) (w : World) : ElemsOf (intKind P w) es.toList := by
  intro e he
  obtain ⟨n, tk, hn, rfl⟩ := h e he
  exact ⟨⟨(n : Int), intKind_is P w _ _, (hash_nat hn).symm⟩, rfl⟩
theorem EsI.is {es : Array (Int × Value)} (h : EsI es) (P : Program) (w : World) {e : Int × Value} (he : e ∈ es.toList) (k : Nat) : (intKind P w).is (k : Int) e.2 = true ↔ e.1 = (k : Int) := by
  obtain ⟨n, tk, hn, rfl⟩ := h e he
  show ((n : Int) == (k : Int)) = true ↔ (n : Int) = (k : Int)
  exact beq_iff_eq
theorem EsI.put {es : Array (Int × Value)} (h : EsI es) {k : Nat} (hk : k ≤ 2000000) (p : Nat) (tk : Tok) : EsI (SetTable.insertAt es p ((k : Int), Value.int (k : Int) tk)) := by
  intro e he
  rcases ins_mem.mp he with z | z
  · exact ⟨k, tk, hk, z⟩
  · exact h e z
theorem put_perm1 {es : Array (Int × Value)} {L : List Nat} (hp : (es.toList.map (·.1)).Perm (L.map Int.ofNat)) (k p : Nat) (x : Value) : ((SetTable.insertAt es p ((k : Int), x)).toList.map (·.1)).Perm ((k :: L).map Int.ofNat) := by
  rw [ins_list, List.map_append, List.map_cons, List.map_cons]
  refine List.perm_middle.trans (List.Perm.cons _ ?_)
  rw [← List.map_append, List.take_append_drop]
  exact hp
section
variable {P : Program} {w : World} {A : Around} {E : Value → Shared → Prop} {s : Shared}
/-- laid anew where the model holds its words -/
theorem relay_run {a : Addr} {o : Obj} {es : Array (Int × Value)} {ep : Nat} {t : SetTable} (ho : s.heap.get? a = some o) (hd : o.data = .set es ep t) (hf : t.fits es.size = true) (h0 : 0 < es.size) (h1 : es.size ≤ 20000) {Q : Unit → Shared → Prop}
    (hQ : ∀ (es' : Array (Int × Value)) (t' : SetTable), es'.toList.Perm es.toList → TabR es' t' → Q () { s with heap := s.heap.update a (Obj.putSet es' t') }) : wpAny (model P w) A (setRelay a (SetTable.grown es.size)) Q E s := by
  obtain ⟨hle, t', order, e, hp, hz, T⟩ := relaid_spec t h0 h1
  have hpm : (order.filterMap (es[·]?)).toList.Perm es.toList := by
    rw [Array.toList_filterMap]
    have := hp.filterMap (fun k => es[k]?)
    rw [filterMap_getElem?_range] at this
    exact this
  rw [setRelay_eq]
  refine wpAny_bind (wpAny_setState_of ho hd hf ?_)
  dsimp only
  refine wp_if_neg (by omega) ?_
  rw [e]
  dsimp only
  refine wpAny_bind ?_
  refine wp_if_neg (by rw [hz]; simp) ?_
  refine wpAny_pure ?_
  dsimp only
  exact wpAny_storeSet_of ho hd (hQ _ _ hpm T) (by rw [hz, sizeLine_eq]; omega)
/-- the search among whole numbers -/
theorem search_run {a : Addr} {o : Obj} {es : Array (Int × Value)} {ep : Nat} {t : SetTable} (ho : s.heap.get? a = some o) (hd : o.data = .set es ep t) (T : Tab es t) (he : EsI es) {k : Nat} (hk : k ≤ 2000000) (tk : Tok) {Q : SetFound → Shared → Prop}
    (hin : (∃ e ∈ es.toList, e.1 = (k : Int)) → Q (.there none) s) (hout : ∀ j, (∀ e ∈ es.toList, e.1 ≠ (k : Int)) → j ∉ t.place.toList → Way t (k : Int) j → Q (.free j false) s) :
    wpAny (model P w) A (setSearch a (.int (k : Int) tk) (k : Int) true) Q E s := by
  unfold setSearch
  rw [show (100000 : Nat) = 99999 + 1 from rfl, setSearchFrom_succ]
  refine wpAny_bind (wpAny_setState_of ho hd T.fits ?_)
  dsimp only
  refine wp_if_neg (by rw [T.gave]; decide) ?_
  have hs := T.search (k : Int) (fun i => (es[i]?.map (·.1)).getD 0) (fun i e h => by
    show (es[i]?.map (·.1)).getD 0 = e.1
    rw [h]
    rfl)
  rcases hs with ⟨j, i, e, p, h1, h2, h3⟩ | ⟨j, h1, h2, h3, h4⟩
  · rw [Option.getD_none, h1]
    dsimp only
    have hm : e ∈ es.toList := by
      rw [Array.mem_toList_iff]
      exact Array.mem_of_getElem? h2
    obtain ⟨n, tk2, hn, e2⟩ := he e hm
    have hnk : n = k := by
      rw [e2] at h3
      exact Int.ofNat.inj h3
    have rest : wpAny (model P w) A (searchRest a (.int (k : Int) tk) (k : Int) true 99999 es t j i p) Q E s := by
      unfold searchRest
      rw [h2, e2]
      dsimp only
      refine wpAny_bind (wpAny_holding ((intKind P w).eqBool (a := (n : Int)) (b := (k : Int)) (intKind_is P w _ _) (intKind_is P w _ _) ?_))
      refine wpAny_bind (wpAny_setState_of ho hd T.fits ?_)
      dsimp only
      refine wp_if_pos (by simp [hnk]) ?_
      exact wpAny_pure (hin ⟨e, hm, h3⟩)
    by_cases hl : t.led = true
    · refine wp_if_neg (by simp [hl]) ?_
      exact rest
    · refine wp_if_pos (by simp [hl]) ?_
      refine wpAny_bind ?_
      have seen : ∀ (ys : List Value) (Q' : Bool → Shared → Prop), (∀ y ∈ ys, ∃ (i : Int) (t : Tok), y = Value.int i t) → Q' false s → wpAny (model P w) A (searchCouldBeSeen (.int (k : Int) tk) ys) Q' E s := by
        intro ys Q' hy hQ'
        unfold searchCouldBeSeen
        refine wpAny_bind ?_
        refine wpAny_forIn_list _ (fun rest r s' => r.1 = none ∧ s' = s ∧ ∀ y ∈ rest, ∃ (i : Int) (t : Tok), y = Value.int i t) _ ?_ ?_ _ _ ⟨rfl, rfl, hy⟩
        · rintro v rest r s' ⟨hr, rfl, hall⟩
          obtain ⟨i2, t2, rfl⟩ := hall v List.mem_cons_self
          dsimp only
          refine wp_if_pos (by simp [carriedByValue]) ?_
          exact wpAny_pure ⟨rfl, rfl, fun u hu => hall u (List.mem_cons_of_mem _ hu)⟩
        · rintro ⟨r1, r2⟩ s' ⟨hr, rfl, _⟩
          simp only at hr
          subst hr
          exact wpAny_pure hQ'
      refine seen _ _ (fun y hy => ?_) ?_
      · obtain ⟨e', he', ee⟩ := List.mem_map.mp hy
        have he1 : e' ∈ es.toList := by
          have := he'
          simp at this
          simpa using this.1
        obtain ⟨n', tk', _, e3⟩ := he e' he1
        exact ⟨_, _, by rw [← ee, e3]⟩
      · refine wp_if_neg (by decide) ?_
        exact rest
  · rw [Option.getD_none, h1]
    dsimp only
    refine wpAny_pure (hout j (fun e hm => ?_) h2 h3)
    obtain ⟨i, hi⟩ := List.getElem?_of_mem hm
    rw [Array.getElem?_toList] at hi
    exact h4 i e hi
/-- ADDING a whole number -/
theorem addL {a : Addr} {L : List Nat} (hS : SetL s.heap a L) {k : Nat} (hk : k ≤ 2000000) (tk : Tok) (hl : L.length < 20000) {Q : Bool → Shared → Prop}
    (hQ : ∀ b h', Heap.SameBut a s.heap h' → SetL h' a (if k ∈ L then L else k :: L) → Q b { s with heap := h' }) :
    wpAny (model P w) A (setAddHashed a (.int (k : Int) tk) (k : Int)) Q E s := by
  have hS0 := hS
  obtain ⟨o, es, ep, t, ho, hex, hd, he, hp, T⟩ := hS
  have hsz := SetL.size hp
  have hmem := mem_hash hp k
  have hf := T.tab.fits
  have hsame : k ∈ L → ∀ b, Q b s := fun hm b => by
    have := hQ b s.heap (Heap.SameBut.refl a s.heap) (by rw [if_pos hm]; exact hS0)
    cases s
    exact this
  -- what is behind the table's new element
  have behind : k ∉ L → ∀ (es1 : Array (Int × Value)) (t1 : SetTable), EsI es1 → (es1.toList.map (·.1)).Perm ((k :: L).map Int.ofNat) → Tab es1 t1 →
      (t1.tooFull = false → Q true { s with heap := s.heap.update a (Obj.putSet es1 t1) }) ∧
      (∀ es2 t2, es2.toList.Perm es1.toList → TabR es2 t2 → Q true { s with heap := (s.heap.update a (Obj.putSet es1 t1)).update a (Obj.putSet es2 t2) }) := by
    intro hm es1 t1 he1 hp1 T1
    have ho1 := store_at (es' := es1) (t' := t1) ho hd
    refine ⟨fun hfull => ?_, fun es2 t2 pm T2 => ?_⟩
    · refine hQ true _ (Heap.SameBut.update ..) ?_
      rw [if_neg hm]
      refine ⟨_, es1, ep + 1, t1, ho1, ⟨hex.1, hex.2.1, hex.2.2⟩, rfl, he1, hp1, T1, ?_⟩
      rw [T1.full, decide_eq_false_iff_not] at hfull
      omega
    · refine hQ true _ ((Heap.SameBut.update ..).trans (Heap.SameBut.update ..)) ?_
      rw [if_neg hm]
      have ho2 := store_at (es' := es2) (t' := t2) ho1 rfl
      exact ⟨_, es2, ep + 1 + 1, t2, ho2, ⟨hex.1, hex.2.1, hex.2.2⟩, rfl, fun e hm2 => he1 e (pm.mem_iff.mp hm2), (pm.map (·.1)).trans hp1, T2⟩
  unfold setAddHashed
  refine wpAny_holding ?_
  rw [show (100000 : Nat) = 99999 + 1 from rfl, setAddHashedIn_succ]
  refine wpAny_bind (wpAny_setState_of ho hd hf ?_)
  dsimp only
  by_cases hb : es.size < scanBound
  · -- by a scan
    refine wp_if_pos (byScan_of (knd := intKind P w) rfl hb (he.elems P w)) ?_
    refine wpAny_bind ?_
    unfold setAddByScan
    refine wpAny_bind (wpAny_rule ?_)
    have key := fun (Q' : ScanMet → Shared → Prop) => wpAny_setScan_of (Q := Q') (knd := intKind P w) (A := A) (E := E) (s := s) (adding := true) (k := (k : Int)) (x := Value.int (k : Int) tk) (intKind_is P w _ _) ho hd hf (he.elems P w)
    have eh : (intKind P w).hash (k : Int) = (k : Int) := hash_nat hk
    simp only [eh] at key
    refine wpAny_bind (key _ ?_)
    cases hr : List.findIdx? (fun e => (intKind P w).is (k : Int) e.2) es.toList with
    | some j =>
      dsimp only
      obtain ⟨hj, hpj, _⟩ := List.findIdx?_eq_some_iff_getElem.mp hr
      refine wpAny_pure (wpAny_pure ?_)
      exact hsame (hmem.mpr ⟨es.toList[j], List.getElem_mem hj, (he.is P w (List.getElem_mem hj) k).mp hpj⟩) false
    | none =>
      dsimp only
      have hno : k ∉ L := fun hm => by
        obtain ⟨e, hem, ee⟩ := hmem.mp hm
        have := List.findIdx?_eq_none_iff.mp hr e hem
        rw [(he.is P w hem k).mpr ee] at this
        cases this
      obtain ⟨t1, p, el, T1⟩ := layNew_spec T (k : Int) (Value.int (k : Int) tk)
      have hz1 : (SetTable.insertAt es p ((k : Int), Value.int (k : Int) tk)).size = es.size + 1 := ins_size _ _ _
      obtain ⟨g1, g2⟩ := behind hno _ t1 (he.put hk p tk) (put_perm1 hp k p _) T1
      rw [el]
      dsimp only
      have ho1 := store_at (es' := SetTable.insertAt es p ((k : Int), Value.int (k : Int) tk)) (t' := t1) ho hd
      generalize SetTable.insertAt es p ((k : Int), Value.int (k : Int) tk) = es1 at hz1 g1 g2 ho1 T1 ⊢
      refine wpAny_bind (wpAny_pure (a := ()) ?_)
      rw [hashBy_int, ite_self]
      refine wpAny_bind (wpAny_pure ?_)
      simp only [if_true]
      refine wpAny_bind (wpAny_storeSet_of ho hd ?_ (by rw [hz1, sizeLine_eq]; omega))
      cases hfull : t1.tooFull with
      | false =>
        simp only [Bool.not_false, Bool.true_and, Bool.false_eq_true, if_false]
        exact wpAny_pure (wpAny_pure (g1 hfull))
      | true =>
        simp only [Bool.not_false, Bool.true_and, if_true]
        obtain ⟨es2, t2, er, T2⟩ := relayAll_spec (es := es1) t1 (by omega) (by omega)
        have pm : es2.toList.Perm es1.toList := by
          have := relayAll_perm t1 es1 (SetTable.grown es1.size)
          rw [er] at this
          exact this
        have hz2 : es2.size = es1.size := by
          have := pm.length_eq
          rw [Array.length_toList, Array.length_toList] at this
          exact this
        rw [er]
        dsimp only
        refine wpAny_bind (wpAny_pure (a := ()) ?_)
        refine wpAny_bind (wpAny_storeSet_of ho1 rfl ?_ (by rw [hz2, hz1, sizeLine_eq]; omega))
        exact wpAny_pure (wpAny_pure (g2 es2 t2 pm T2))
  · -- by the table
    refine wp_if_neg (by
      intro z
      unfold byScan at z
      rw [Bool.and_eq_true, Bool.and_eq_true, decide_eq_true_eq] at z
      exact hb z.1.2) ?_
    refine wpAny_bind (search_run ho hd T.tab he hk tk (fun hm => ?_) fun j hno hj hw => ?_)
    · dsimp only
      exact wpAny_pure (hsame (hmem.mpr hm) false)
    · dsimp only
      have hno2 : k ∉ L := fun hm => by
        obtain ⟨e, hem, ee⟩ := hmem.mp hm
        exact hno e hem ee
      refine wpAny_bind (wpAny_setState_of ho hd hf ?_)
      dsimp only
      obtain ⟨p1, p2⟩ := T.tab.put (x := Value.int (k : Int) tk) hj hw T.room
      generalize hpt : t.put j = pt at p1 p2 ⊢
      obtain ⟨t1, p⟩ := pt
      dsimp only at p1 p2 ⊢
      subst p1
      have hz1 : (SetTable.insertAt es (SetTable.below t.place j) ((k : Int), Value.int (k : Int) tk)).size = es.size + 1 := ins_size _ _ _
      obtain ⟨g1, g2⟩ := behind hno2 _ t1 (he.put hk _ tk) (put_perm1 hp k _ _) p2
      have ho1 := store_at (es' := SetTable.insertAt es (SetTable.below t.place j) ((k : Int), Value.int (k : Int) tk)) (t' := t1) ho hd
      rw [← hz1]
      generalize SetTable.insertAt es (SetTable.below t.place j) ((k : Int), Value.int (k : Int) tk) = es1 at hz1 g1 g2 ho1 p2 ⊢
      rw [hashBy_int, ite_self]
      refine wpAny_bind (wpAny_pure ?_)
      simp only [if_true]
      refine wpAny_bind (wpAny_storeSet_of ho hd ?_ (by rw [hz1, sizeLine_eq]; omega))
      cases hfull : t1.tooFull with
      | false =>
        simp only [Bool.not_false, Bool.true_and, Bool.false_eq_true, if_false]
        exact wpAny_pure (g1 hfull)
      | true =>
        simp only [Bool.not_false, Bool.true_and, if_true]
        refine wpAny_bind ?_
        exact relay_run (s := { s with heap := s.heap.update a (Obj.putSet es1 t1) }) ho1 rfl p2.fits (by omega) (by omega) fun es2 t2 pm T2 => wpAny_pure (g2 es2 t2 pm T2)
end
end Pg

/-! SaM: set(xs) of a list of whole numbers -/
namespace Pg
open PySem PySem.Spec PyProof.Rows L2
def stepL (L : List Nat) (k : Nat) : List Nat := if k ∈ L then L else k :: L
def metL (ns : List Nat) : List Nat := ns.foldl stepL []
theorem stepL_mem (L : List Nat) (k x : Nat) : x ∈ stepL L k ↔ x ∈ L ∨ x = k := by
  unfold stepL
  by_cases c : k ∈ L
  · rw [if_pos c]
    exact ⟨.inl, fun h => h.elim id (fun e => e ▸ c)⟩
  · rw [if_neg c, List.mem_cons]
    exact Or.comm
theorem fold_len : ∀ (ns L : List Nat), (ns.foldl stepL L).length ≤ L.length + ns.length ∧ ((ns.foldl stepL L).length = L.length + ns.length ↔ (ns.Nodup ∧ ∀ n ∈ ns, n ∉ L))
  | [], L => ⟨Nat.le_refl _, by simp⟩
  | k :: ns, L => by
    obtain ⟨h1, h2⟩ := fold_len ns (stepL L k)
    rw [List.foldl_cons, List.length_cons]
    by_cases c : k ∈ L
    · have e : stepL L k = L := if_pos c
      rw [e] at h1 h2 ⊢
      refine ⟨by omega, ⟨fun z => by omega, fun z => absurd c (z.2 k List.mem_cons_self)⟩⟩
    · have e : (stepL L k).length = L.length + 1 := by
        unfold stepL
        rw [if_neg c, List.length_cons]
      rw [e] at h1 h2
      refine ⟨by omega, ?_⟩
      have e2 : L.length + 1 + ns.length = L.length + (ns.length + 1) := by omega
      rw [e2] at h2
      rw [h2, List.nodup_cons]
      constructor
      · rintro ⟨a1, a2⟩
        refine ⟨⟨fun hk => a2 k hk ((stepL_mem L k k).mpr (.inr rfl)), a1⟩, fun n hn => ?_⟩
        rcases List.mem_cons.mp hn with z | z
        · rw [z]; exact c
        · exact fun hL => a2 n z ((stepL_mem L k n).mpr (.inl hL))
      · rintro ⟨⟨a1, a2⟩, a3⟩
        refine ⟨a2, fun n hn hL => ?_⟩
        rcases (stepL_mem L k n).mp hL with z | z
        · exact a3 n (List.mem_cons_of_mem _ hn) z
        · exact a1 (z ▸ hn)
theorem metL_len (ns : List Nat) : (metL ns).length ≤ ns.length ∧ ((metL ns).length = ns.length ↔ ns.Nodup) := by
  have h := fold_len ns []
  rw [List.length_nil, Nat.zero_add] at h
  refine ⟨h.1, h.2.trans ⟨fun z => z.1, fun z => ⟨z, fun n _ hn => by cases hn⟩⟩⟩
theorem metL_next {ns : List Nat} {i k : Nat} (h : ns[i]? = some k) : metL (ns.take (i + 1)) = if k ∈ metL (ns.take i) then metL (ns.take i) else k :: metL (ns.take i) := by
  unfold metL
  rw [take_next h, List.foldl_append]
  rfl
theorem SetL.keep {h h' : Heap} {a : Addr} {L : List Nat} (x : SetL h a L) (ha : ∀ o, h.get? a = some o → h'.get? a = some o) : SetL h' a L := by
  obtain ⟨o, es, ep, t, ho, r⟩ := x
  exact ⟨o, es, ep, t, ha o ho, r⟩
/-- a new set holds nothing -/
theorem SetL.new {h : Heap} {a : Addr} {led : Bool} (ho : h.get? a = some { cls := .type "set", dict := none, data := .set #[] 0 (.fresh 0 0 led) }) : SetL h a [] := by
  refine ⟨_, #[], 0, _, ho, ⟨rfl, rfl, rfl⟩, rfl, fun e he => by simp at he, by simp, ⟨⟨3, Nat.le_refl _, rfl⟩, fun i j hij hj => by exact absurd hj (Nat.not_lt_zero _), rfl, rfl, fun j hj => by exact absurd hj (by simp [SetTable.fresh]), Nat.zero_le _, fun i j e hi => by simp [SetTable.fresh] at hi⟩, by show 0 * 5 < 7 * 3; decide⟩
section
variable {P : Program} {w : World} {A : Around} {E : Value → Shared → Prop} {s : Shared}
theorem update_nats {I : Addr} {fp wr : List Addr} {G : Array GenState → Array GenState → Prop} {n : Nat} {Pv : Nat → Value → Prop} {St : Nat → Shared → Prop} {R : Result → Shared → Prop}
    (W : WalksS P w A.in1 I fp wr G n Pv St) (S : Addr) (hSf : S ∉ fp) (ns : List Nat) (hn : n = ns.length) (hfew : ns.length ≤ 20000) (hns : ∀ k ∈ ns, k ≤ 2000000) (hval : ∀ i v, Pv i v → ∃ (k : Nat) (tk : Tok), ns[i]? = some k ∧ v = .int (k : Int) tk) :
    ∀ (m i : Nat) (s : Shared), n - i = m → i ≤ n → St i s → SetL s.heap S (metL (ns.take i)) → (∀ s', Moved (S :: wr) G s s' → SetL s'.heap S (metL ns) → R (.ok (.ret .none)) s') →
      codeAny (model P w) A (.builtin "set.update.loop" ⟨[.ref S, .ref I], []⟩) R s := by
  have hSw : S ∉ wr := fun z => hSf (W.sub _ z)
  have wider : ∀ b ∈ wr, b ∈ S :: wr := fun b z => List.mem_cons_of_mem _ z
  intro m
  induction m with
  | zero =>
    intro i s hm hi st hS hR
    obtain rfl : i = n := by omega
    rw [hn, List.take_length] at hS
    refine codeAny_builtin F.entry_set_update_loop ?_
    rw [Around.under_plainId F.plain_set_update_loop _]
    show wpAny _ A.in1 (pyNext (.ref I) >>= _) _ _ s
    refine wpAny_bind (W.done s _ _ st fun s' mv => ?_)
    show wpAny _ A.in1 (ret Value.none) _ _ s'
    exact wpAny_pure (hR s' (mv.mono wider) (hS.keep fun o e => mv.heap S o hSw e))
  | succ m ih =>
    intro i s hm hi st hS hR
    have hlt : i < n := by omega
    refine codeAny_builtin F.entry_set_update_loop ?_
    rw [Around.under_plainId F.plain_set_update_loop _]
    show wpAny _ A.in1 (pyNext (.ref I) >>= _) _ _ s
    refine wpAny_bind (W.item i s _ _ hlt st fun v s' hP st' mv => ?_)
    obtain ⟨k, tk, hk, rfl⟩ := hval i v hP
    have hk2 := hns k (List.mem_of_getElem? hk)
    have hS' : SetL s'.heap S (metL (ns.take i)) := hS.keep fun o e => mv.heap S o hSw e
    show wpAny _ A.in1 (holding [Value.int (k : Int) tk] (setAdd S (.int (k : Int) tk)) >>= _) _ _ s'
    refine wpAny_bind (wpAny_holding ?_)
    unfold setAdd
    refine wpAny_holding ?_
    refine wpAny_bind ((intKind P w).pyHash (k := (k : Int)) (intKind_is P w _ _) ?_)
    have eh : (intKind P w).hash (k : Int) = (k : Int) := hash_nat hk2
    rw [eh]
    have hlen : (metL (ns.take i)).length < 20000 := by
      have h1 := (metL_len (ns.take i)).1
      rw [List.length_take] at h1
      omega
    refine addL (s := { s' with toks := s'.toks + 1 }) hS' hk2 tk hlen fun b h' sb hS2 => ?_
    rw [← metL_next hk] at hS2
    refine wpAny_pure ⟨plainId_quiet F.plain_set_update_loop _, ih (i + 1) _ (by omega) hlt (W.frame _ s' _ _ st' (Nat.le_succ _) fun b hb o e => ?_) hS2 fun s'' mv2 hS3 => ?_⟩
    · rw [sb.2 b (fun z : b = S => hSf (z ▸ hb))]
      exact e
    · refine hR s'' (Moved.trans W.gtrans ((mv.mono wider).then_heap (Nat.le_succ _) fun b o hb e => ?_) mv2) hS3
      rw [sb.2 b (fun z : b = S => hb (z ▸ List.mem_cons_self))]
      exact e
set_option maxRecDepth 100000 in
set_option maxHeartbeats 3200000 in
/-- set(xs) -/
theorem set_nats {l : Addr} {items : Array Value} (ns : List Nat) {Q : Value → Shared → Prop} (hh : A.handled = none) (hl : s.heap.IsList l items) (hi : IntsAre items.toList (ns.map Int.ofNat)) (hfew : ns.length ≤ 20000) (hns : ∀ k ∈ ns, k ≤ 2000000)
    (h : ∀ (h' : Heap) (tk : Nat), SetL h' s.heap.objs.size (metL ns) → (∀ b o, s.heap.get? b = some o → h'.get? b = some o) → Q (.ref s.heap.objs.size) { s with heap := h', toks := tk }) :
    wpAny (model P w) A (call (.type "set") [.ref l]) Q E s := by
  have hisz : items.size = ns.length := by
    have q := IntsAre.length hi
    rw [Array.length_toList, List.length_map] at q
    exact q
  obtain ⟨c, tl, hmro⟩ := F.called_set.mro
  have hmade := F.called_set.made
  have hsub := F.called_set.sub
  refine wpAny_call (codeAny_of_tree ?_)
  show wpAny _ _ (callAny (.type "set") _) _ _ _
  refine wpAny_pure ⟨Code.quiet_builtin _ (by decide +kernel), codeAny_builtin F.entry_type_call ?_⟩
  rw [Around.under_plain (weight_type_call_type "set" [.ref l] []) rfl]
  have h1 := F.called_set.notType
  have h2 := F.called_set.canCreate
  have hct := F.typeCall_set_1 (.ref l)
  repeat (any_goals (first | assumption | wp_step))
  refine codeAny_mono (code_set_new_1 (.ref l) (E := E) (Q₁ := fun obj s₁ => ∃ led : Bool, obj = .ref s.heap.objs.size ∧ s₁ = { s with heap := s.heap.push { cls := .type "set", dict := none, data := .set #[] 0 (.fresh 0 0 led) } }) fun led => ⟨led, rfl, rfl⟩) fun r s₁ hr => ?_
  cases r with
  | error e => exact hr
  | ok fl =>
    cases fl with
    | ret obj =>
      obtain ⟨led, rfl, rfl⟩ := hr
      have hS : (s.heap.push { cls := .type "set", dict := none, data := .set #[] 0 (.fresh 0 0 led) }).get? s.heap.objs.size = some { cls := .type "set", dict := none, data := .set #[] 0 (.fresh 0 0 led) } := Heap.get?_push_size _ rfl
      have hT : Shared.TypeIs { s with heap := s.heap.push { cls := .type "set", dict := none, data := .set #[] 0 (.fresh 0 0 led) } } (.ref s.heap.objs.size) "set" := ⟨_, hS, rfl⟩
      have hli := F.called_set.init.lookup
      have hbi := F.called_set.init.bind (.ref s.heap.objs.size)
      repeat (any_goals (first | assumption | wp_step))
      refine codeAny_mono (codeAny_call_builtin (R := wants (fun r s₂ => r = .none ∧ ∃ h' tk, s₂ = { s with heap := h', toks := tk } ∧ SetL h' s.heap.objs.size (metL ns) ∧ (∀ b o, s.heap.get? b = some o → h'.get? b = some o)) E) F.called_set.init.plain F.entry_set_init (check_set_init_1 hT ?_)) fun r₂ s₂ hr₂ => ?_
      · obtain ⟨ol, hol, hcl, nl, hdl⟩ := hl
        obtain ⟨ocls, odict, odata, oslots⟩ := ol
        simp only at hcl hdl
        subst hcl; subst hdl
        have hol' : (s.heap.push { cls := .type "set", dict := none, data := .set #[] 0 (.fresh 0 0 led) }).get? l = some { cls := .type "list", dict := odict, data := .seq items nl, slots := oslots } := Heap.get?_push_of_some _ hol
        have hsls := F.sub_list_set
        have hslf := F.sub_list_frozenset
        have hne : (Value.type "list" == Value.type "dict") = false := by decide
        have hl1 : (s.heap.push { cls := .type "set", dict := none, data := .set #[] 0 (.fresh 0 0 led) }).IsList l items := ⟨_, hol', rfl, nl, rfl⟩
        unfold Builtin.«set.__init__» noKeywords Builtin.Frozenset.updateFrom
        generalize hPI : pyIter = PI
        wp_walk
        subst hPI
        refine wpAny_pyIter_list hl1 ?_
        refine wpAny_bind (wpAny_runValue ?_)
        have hlS : l < s.heap.objs.size := Heap.lt_size hol
        have hh3 : A.in1.in1.in1.handled = none := by simp [hh]
        have hneI : l ≠ (s.heap.push { cls := .type "set", dict := none, data := .set #[] 0 (.fresh 0 0 led) }).objs.size := by
          rw [Heap.size_push]
          exact Nat.ne_of_lt (Nat.lt_succ_of_lt hlS)
        have hSf : s.heap.objs.size ∉ [(s.heap.push { cls := .type "set", dict := none, data := .set #[] 0 (.fresh 0 0 led) }).objs.size, l] := by
          rw [Heap.size_push]
          intro z
          rcases List.mem_cons.mp z with e | z
          · exact absurd e (Nat.ne_of_lt (Nat.lt_succ_self _))
          · rw [List.mem_singleton] at z
            exact absurd z (Nat.ne_of_gt hlS)
        have hval : ∀ (i : Nat) (v : Value), items[i]? = some v → ∃ (k : Nat) (tk : Tok), ns[i]? = some k ∧ v = .int (k : Int) tk := fun i v hv => by
          obtain ⟨tk, e⟩ := IntsAre.int_at hi i v (by rw [Array.getElem?_toList]; exact hv)
          have hlt : i < ns.length := by
            rw [← hisz]
            rcases Nat.lt_or_ge i items.size with g | g
            · exact g
            · rw [Array.getElem?_eq_none g] at hv; cases hv
          refine ⟨ns[i], tk, List.getElem?_eq_getElem hlt, ?_⟩
          rw [e, List.getD_eq_getElem?_getD, List.getElem?_map, List.getElem?_eq_getElem hlt]
          rfl
        refine update_nats ((Walks.list hh3 _ l hneI items).toS) s.heap.objs.size hSf ns hisz hfew hns hval (items.size - 0) 0 _ (by omega) (Nat.zero_le _)
          ⟨⟨_, Heap.get?_push_size _ rfl, rfl, rfl⟩, (hl1.push _)⟩ ?hS0 ?hR
        case hS0 =>
          have hget : ((s.heap.push { cls := .type "set", dict := none, data := .set #[] 0 (.fresh 0 0 led) }).push { cls := .type "list_iterator", data := .fields #[.ref l, .int 0 0] }).get? s.heap.objs.size
              = some { cls := .type "set", dict := none, data := .set #[] 0 (.fresh 0 0 led) } := Heap.get?_push_of_some _ hS
          exact SetL.new hget
        case hR =>
          intro s' mv hS'
          obtain ⟨h', g', d', tk', os'⟩ := s'
          have eg : g' = s.gens := mv.gens
          have ed : d' = s.drawn := mv.drawn
          have eo : os' = s.os := mv.os
          subst eg; subst ed; subst eo
          show wpAny _ _ _ _ _ _
          refine wpAny_pure ?_
          show wpAny _ _ (ret Value.none) _ _ _
          refine wpAny_pure ⟨rfl, h', tk', rfl, hS', fun b o e => ?_⟩
          have hb := Heap.lt_size e
          refine mv.heap b o (fun z => ?_) (Heap.get?_push_of_some _ (Heap.get?_push_of_some _ e))
          rcases List.mem_cons.mp z with e | z
          · exact absurd e (Nat.ne_of_lt hb)
          · rw [List.mem_singleton, Heap.size_push] at z
            exact absurd z (Nat.ne_of_lt (Nat.lt_succ_of_lt hb))
      · cases r₂ with
        | error e => exact hr₂
        | ok fl₂ =>
          cases fl₂ with
          | ret r =>
            obtain ⟨rfl, h', tk, rfl, hS', hk'⟩ := hr₂
            repeat (any_goals (first | assumption | wp_step))
            exact h _ _ hS' hk'
          | _ => exact hr₂.elim
    | _ => exact hr.elim
end
end Pg

/-! PgS: len(set(xs)) -/
namespace Pg
open PySem PySem.Spec PyProof.Rows L2
def tLenSet (K : PySem.W.Frag) (ta : TE) : TE := fun σ H Q => ta σ H fun x H1 => ∃ (l : Addr) (ns : List Nat), x = .ref l ∧ SqL K H1 l ((ns.map natI).map V.int) ∧ ns.length ≤ 20000 ∧ (∀ n ∈ ns, n ≤ 2000000) ∧ ∀ m : Nat, (m = ns.length ↔ ns.Nodup) → Q (.int m) H1
theorem ints_of : ∀ {ns : List Int} {us : List Value}, Vals (ns.map V.int) us → IntsAre us ns
  | [], _, .nil => .nil
  | n :: _, _, .cons r t => by
    obtain ⟨k, rfl⟩ := r
    exact .cons n k (ints_of t)
theorem pe_lenSet {X : Cx} {a : Expr} {ta : TE} {p p2 q pos : Pos} (hg : Gl X "len") (hm : X.mg "len" = none) (hg2 : Gl X "set") (hm2 : X.mg "set" = none) (ha : PE X a ta) (hc : X.calm = true := by rfl)
    (na : starEach [a] X.env = (false, eval a X.env) :: starEach [] X.env := by rfl) : PE X (.Call (.Name "len" p) [.Call (.Name "set" p2) [a] [] q] [] pos) (tLenSet X.K ta) := by
  refine ⟨fun pins s σ H Q I h => ?_⟩
  refine Call_ (ld_blt I hg hm boot_len ?_)
  refine PyProof.Rows.callWith_builtin1 (PyProof.Rows.args_cons ?_ rfl) rfl rfl
  refine Call_ (ld_blt I hg2 hm2 boot_set ?_)
  refine PyProof.Rows.callWith_type1 (PyProof.Rows.args_cons (thn (ha.run pins s σ H _ I h) fun v s1 ⟨x, H1, I1, r1, q1⟩ => PyProof.Rows.args_nil ?_) na) na rfl
  obtain ⟨l, ns, rfl, hq, hl, hns, q1⟩ := q1
  cases r1
  obtain ⟨its, r, pl, hz⟩ := I1.list hq
  refine set_nats ns (I1.ok.hd hc) pl.isList (ints_of r) hl hns fun h' tk hS hk => ?_
  refine PyProof.Rows.args_nil ?_
  obtain ⟨o, es, ep, t, ho, hex, hd, he, hp, T⟩ := hS
  have hz2 := SetL.size hp
  have hle := metL_len ns
  have I2 : Inv X pins σ H1 { s1 with heap := h', toks := tk } := I1.kept fun b o e => hk b o e
  exact call_len_set ho hex hd T.tab.fits (by rw [hz2]; have := hle.1; omega) ⟨.int (metL ns).length, H1, I2.tok _, ⟨_, by rw [hz2]⟩, q1 _ hle.2⟩
end Pg

/-! PgJ: module checks, what raises nothing -/
namespace Pg
open PySem PySem.Spec PyProof.Rows L2
abbrev Page := R7249h.Spec.Page
abbrev pageD (p : Page) : Dat := .tup [.int (p.offset : Int), dN p.rows]
abbrev pagesD (ps : List Page) : Dat := .lst (ps.map pageD)
/-! ### what the checks tell of a value -/
def kdI (x : RWire.Value) : Int := match datOf x with | .val k _ _ _ _ => k | _ => 0
def nmI (x : RWire.Value) : Int := match datOf x with | .val _ n _ _ _ => n | _ => 0
def osI (x : RWire.Value) : List Int := match datOf x with | .val _ _ o _ _ => o | _ => []
def nsI (x : RWire.Value) : List (List Int) := match datOf x with | .val _ _ _ n _ => n | _ => []
def psD (x : RWire.Value) : List Dat := match datOf x with | .val _ _ _ _ p => p | _ => []
theorem datOf_eq (x : RWire.Value) : datOf x = .val (kdI x) (nmI x) (osI x) (nsI x) (psD x) := by
  cases x <;> simp [kdI, nmI, osI, nsI, psD, datOf]
def wholeV (hi : Nat) : RWire.Value → Option Nat
  | .int i => if 0 ≤ i ∧ i ≤ (hi : Int) then some i.toNat else none
  | _ => none
def allV {α β : Type} (f : α → Option β) : List α → Option (List β)
  | [] => some []
  | x :: r => match f x, allV f r with
    | some a, some l => some (a :: l)
    | _, _ => none
def wholesV (hi : Nat) : RWire.Value → Option (List Nat)
  | .list l => match allV (wholeV hi) l with
    | some ns => if ns.Nodup then some ns else none
    | none => none
  | _ => none
def rowsV (size : Nat) (x : RWire.Value) : Option (List Nat) := match wholesV 1000000 x with
  | some ns => if ns.length ≤ size then some ns else none
  | none => none
def pageV (size : Nat) : RWire.Value → Option Page
  | .list [o, r] => match wholeV 200 o, rowsV size r with
    | some o, some rows => some ⟨o, rows⟩
    | _, _ => none
  | _ => none
def pagesV (size : Nat) : RWire.Value → Option (List Page)
  | .list l => if l.length ≤ 20 then allV (pageV size) l else none
  | _ => none
def tablesV (many : Nat) : RWire.Value → Option (List (List Nat))
  | .list l => if l.length = many then allV (wholesV 1001000) l else none
  | _ => none
theorem wholeV_int (hi : Nat) (i : Int) : wholeV hi (.int i) = if 0 ≤ i ∧ i ≤ (hi : Int) then some i.toNat else none := rfl
theorem isWhole_V (x : RWire.Value) (hi : Nat) : isWhole (kdI x) (nmI x) 0 hi = (wholeV hi x).isSome := by
  cases x with
  | int i =>
    have h1 : kdI (.int i) = 4 := by simp [kdI, datOf]
    have h2 : nmI (.int i) = i := by simp [nmI, datOf]
    rw [h1, h2]
    rw [wholeV_int]
    unfold isWhole
    by_cases c : 0 ≤ i ∧ i ≤ (hi : Int)
    · rw [if_pos c]; simp [c.1, c.2]
    · rw [if_neg c]
      by_cases c1 : 0 ≤ i
      · have c2 : ¬ i ≤ (hi : Int) := fun z => c ⟨c1, z⟩
        simp [c2]
      · simp [c1]
  | bool b => cases b <;> simp [kdI, datOf, isWhole, wholeV]
  | _ => simp [kdI, datOf, isWhole, wholeV]
theorem wholesV_none {hi : Nat} {l : List RWire.Value} (h : allV (wholeV hi) l = none) : wholesV hi (.list l) = none := by
  show (match allV (wholeV hi) l with | some ns => if ns.Nodup then some ns else none | none => none) = none
  rw [h]
theorem wholesV_some {hi : Nat} {l : List RWire.Value} {ns : List Nat} (h : allV (wholeV hi) l = some ns) : wholesV hi (.list l) = if ns.Nodup then some ns else none := by
  show (match allV (wholeV hi) l with | some ns => if ns.Nodup then some ns else none | none => none) = _
  rw [h]
theorem wholeV_nm {x : RWire.Value} {hi n : Nat} (h : wholeV hi x = some n) : nmI x = n ∧ n ≤ hi ∧ x = .int n := by
  cases x with
  | int i =>
    rw [wholeV_int] at h
    by_cases c : 0 ≤ i ∧ i ≤ (hi : Int)
    · rw [if_pos c] at h
      cases h
      have e : ((i.toNat : Nat) : Int) = i := Int.toNat_of_nonneg c.1
      exact ⟨by simp [nmI, datOf, e], by omega, by rw [e]⟩
    · rw [if_neg c] at h
      cases h
  | _ => simp [wholeV] at h
theorem allV_cons {α β : Type} {f : α → Option β} {x : α} {r : List α} {l : List β} (h : allV f (x :: r) = some l) : ∃ a l', f x = some a ∧ allV f r = some l' ∧ l = a :: l' := by
  unfold allV at h
  split at h
  · next a l' h1 h2 =>
    cases h
    exact ⟨a, l', h1, h2, rfl⟩
  · cases h
theorem allV_some {α β : Type} {f : α → Option β} : ∀ {l : List α} {r : List β}, allV f l = some r → r.length = l.length ∧ ∀ (i : Nat) (x : α), l[i]? = some x → ∃ y, r[i]? = some y ∧ f x = some y
  | [], r, h => by
    simp only [allV] at h
    cases h
    exact ⟨rfl, fun i x e => by simp at e⟩
  | x :: l, r, h => by
    obtain ⟨a, l', h1, h2, rfl⟩ := allV_cons h
    obtain ⟨h3, h4⟩ := allV_some h2
    refine ⟨by simp [h3], fun i z e => ?_⟩
    cases i with
    | zero =>
      simp at e
      subst e
      exact ⟨a, rfl, h1⟩
    | succ i => exact h4 i z e
theorem allV_none {α β : Type} {f : α → Option β} : ∀ {l : List α} {i : Nat} {x : α}, l[i]? = some x → f x = none → allV f l = none
  | [], i, x, h, _ => by simp at h
  | y :: l, 0, x, h, hx => by
    simp at h
    subst h
    simp [allV, hx]
  | y :: l, i + 1, x, h, hx => by
    have ih := allV_none (l := l) (i := i) (x := x) (by simpa using h) hx
    simp [allV, ih]
theorem allV_take {α β : Type} {f : α → Option β} : ∀ {l : List α}, (∀ (i : Nat) (x : α), l[i]? = some x → (f x).isSome = true) → (allV f l).isSome = true
  | [], _ => rfl
  | x :: r, h => by
    have h1 := h 0 x rfl
    have h2 := allV_take (l := r) (fun i y e => h (i + 1) y e)
    unfold allV
    cases e1 : f x with
    | none => rw [e1] at h1; cases h1
    | some a =>
      cases e2 : allV f r with
      | none => rw [e2] at h2; cases h2
      | some l => rfl
theorem allV_nm {hi : Nat} : ∀ {l : List RWire.Value} {ns : List Nat}, allV (wholeV hi) l = some ns → l.map nmI = ns.map natI ∧ ∀ n ∈ ns, n ≤ hi
  | [], ns, h => by
    simp only [allV] at h
    cases h
    exact ⟨rfl, fun n z => nomatch z⟩
  | x :: r, ns, h => by
    obtain ⟨a, l', h1, h2, rfl⟩ := allV_cons h
    obtain ⟨h3, h4⟩ := allV_nm h2
    obtain ⟨h5, h6, _⟩ := wholeV_nm h1
    refine ⟨by rw [List.map_cons, List.map_cons, h3, h5], fun n hn => ?_⟩
    rcases List.mem_cons.mp hn with e | e
    · rw [e]; exact h6
    · exact h4 n e
section
variable {C : Addr} {M : List Addr} {H : Hp}
/-- a value's object -/
theorem datAt {v : V} {x : RWire.Value} (d : DAt C M H v (datOf x)) : ∃ a dx o nm p xs, v = .ref a ∧ H a = some (.ins C dx (valF (kdI x) (nmI x) o nm p)) ∧ H p = some (.lst xs) ∧ DAll C M H xs (psD x) := by
  rw [datOf_eq] at d
  obtain ⟨a, dx, o, nm, p, rfl, _, e, _, _, dp⟩ := d.valAt
  obtain ⟨p', xs, e1, _, e2, dx'⟩ := dp.lstAt
  cases e1
  exact ⟨a, dx, o, nm, p, xs, rfl, e, e2, dx'⟩
theorem kd_list (x : RWire.Value) : (∃ l, x = .list l ∧ psD x = datsOf l ∧ kdI x = 7) ∨ ((∀ l, x ≠ .list l) ∧ kdI x ≠ 7) := by
  cases x with
  | list l => exact .inl ⟨l, rfl, by simp [psD, datOf], by simp [kdI, datOf]⟩
  | bool b => exact .inr ⟨fun l e => (nomatch e), by cases b <;> simp [kdI, datOf]⟩
  | _ => exact .inr ⟨fun l e => (nomatch e), by simp [kdI, datOf]⟩
end
abbrev s_numbers_of : Stmt := top 43
abbrev n_numbers_of : List Str := ["value", "part"]
abbrev p_numbers_of : List Str := ["value"]
theorem sc_numbers_of : FnScope n_numbers_of p_numbers_of (defScope s_numbers_of) := ⟨rfl, rfl, rfl, by decide +kernel, rfl, by decide +kernel, by decide +kernel⟩
abbrev s_rows_of : Stmt := top 44
abbrev n_rows_of : List Str := ["pages", "page"]
abbrev p_rows_of : List Str := ["pages"]
theorem sc_rows_of : FnScope n_rows_of p_rows_of (defScope s_rows_of) := ⟨rfl, rfl, rfl, by decide +kernel, rfl, by decide +kernel, by decide +kernel⟩
abbrev s_are_wholes : Stmt := top 45
abbrev n_are_wholes : List Str := ["value", "high", "part"]
abbrev p_are_wholes : List Str := ["value", "high"]
theorem sc_are_wholes : FnScope n_are_wholes p_are_wholes (defScope s_are_wholes) := ⟨rfl, rfl, rfl, by decide +kernel, rfl, by decide +kernel, by decide +kernel⟩
abbrev s_are_rows : Stmt := top 46
abbrev n_are_rows : List Str := ["value", "size"]
abbrev p_are_rows : List Str := ["value", "size"]
theorem sc_are_rows : FnScope n_are_rows p_are_rows (defScope s_are_rows) := ⟨rfl, rfl, rfl, by decide +kernel, rfl, by decide +kernel, by decide +kernel⟩
abbrev s_is_page : Stmt := top 47
abbrev n_is_page : List Str := ["value", "size"]
abbrev p_is_page : List Str := ["value", "size"]
theorem sc_is_page : FnScope n_is_page p_is_page (defScope s_is_page) := ⟨rfl, rfl, rfl, by decide +kernel, rfl, by decide +kernel, by decide +kernel⟩
abbrev s_are_pages : Stmt := top 48
abbrev n_are_pages : List Str := ["value", "size", "part"]
abbrev p_are_pages : List Str := ["value", "size"]
theorem sc_are_pages : FnScope n_are_pages p_are_pages (defScope s_are_pages) := ⟨rfl, rfl, rfl, by decide +kernel, rfl, by decide +kernel, by decide +kernel⟩
abbrev s_are_tables : Stmt := top 49
abbrev n_are_tables : List Str := ["value", "many", "part"]
abbrev p_are_tables : List Str := ["value", "many"]
theorem sc_are_tables : FnScope n_are_tables p_are_tables (defScope s_are_tables) := ⟨rfl, rfl, rfl, by decide +kernel, rfl, by decide +kernel, by decide +kernel⟩
section
variable (C : Addr)
/-- lists that are so short -/
def Few (x : RWire.Value) : Prop := ∀ l, x = .list l → l.length ≤ 20000 ∧ ∀ y ∈ l, ∀ l', y = .list l' → l'.length ≤ 20000 ∧ ∀ z ∈ l', ∀ l'', z = .list l'' → l''.length ≤ 20000
def spNumbersOf : Sp := fun vs H Q _ => ∃ (v : V) (l : List RWire.Value) (M : List Addr), vs = [v] ∧ Off M H ∧ DAt C M H v (datOf (.list l)) ∧ l.length ≤ 20000 ∧ Gives C M H Q (dI (l.map nmI))
def spRowsOf : Sp := fun vs H Q _ => ∃ (v : V) (ps : List Page) (M : List Addr), vs = [v] ∧ Off M H ∧ DAt C M H v (pagesD ps) ∧ ps.length ≤ 20000 ∧ Gives C M H Q (dNN (ps.map (·.rows)))
def spAreWholes : Sp := fun vs H Q _ => ∃ (v : V) (x : RWire.Value) (hi : Nat) (M : List Addr), vs = [v, .int hi] ∧ Off M H ∧ DAt C M H v (datOf x) ∧ (∀ l, x = .list l → l.length ≤ 20000) ∧ hi ≤ 2000000 ∧ Gives C M H Q (.bl (wholesV hi x).isSome)
def spAreRows : Sp := fun vs H Q _ => ∃ (v : V) (x : RWire.Value) (size : Nat) (M : List Addr), vs = [v, .int size] ∧ Off M H ∧ DAt C M H v (datOf x) ∧ (∀ l, x = .list l → l.length ≤ 20000) ∧ Gives C M H Q (.bl (rowsV size x).isSome)
def spIsPage : Sp := fun vs H Q _ => ∃ (v : V) (x : RWire.Value) (size : Nat) (M : List Addr), vs = [v, .int size] ∧ Off M H ∧ DAt C M H v (datOf x) ∧ (∀ l, x = .list l → ∀ y ∈ l, ∀ l', y = .list l' → l'.length ≤ 20000) ∧ Gives C M H Q (.bl (pageV size x).isSome)
def spArePages : Sp := fun vs H Q _ => ∃ (v : V) (x : RWire.Value) (size : Nat) (M : List Addr), vs = [v, .int size] ∧ Off M H ∧ DAt C M H v (datOf x) ∧ Few x ∧ Gives C M H Q (.bl (pagesV size x).isSome)
def spAreTables : Sp := fun vs H Q _ => ∃ (v : V) (x : RWire.Value) (many : Nat) (M : List Addr), vs = [v, .int many] ∧ Off M H ∧ DAt C M H v (datOf x) ∧ Few x ∧ Gives C M H Q (.bl (tablesV many x).isSome)
end
section
variable {P : Program} {w : World} {K : PySem.W.Frag} {mg : Str → Option Value} {base : Heap} {C : Addr} {f : Addr} {fd : FuncData}
theorem few_line {n : Nat} (h : n ≤ 20000) : n ≤ sizeLine := by rw [sizeLine_eq]; omega
theorem ok_numbers_of (D : Df K mg "numbers_of" s_numbers_of p_numbers_of f fd) (T : ClV K C) : Own P w K mg base CX0 1 "numbers_of" p_numbers_of (spNumbersOf C) := by
  refine D.own (D.F.ok sc_numbers_of (fun vs H Q E h => ?_) (fun cdv A outer s H vs Q E hr h => ⟨_, pss_one (ps_ret (pe_lc (own := [("part", 1)]) (g := gName 1) (tt := tYes) rfl sc_numbers_of.nd (pi_list (pe_fldK (K := K) (pv 0))) (blkOk_by (N := n_numbers_of) (sc := defScope s_numbers_of) (by decide +kernel)) (fun _ _ _ _ _ => pg_name (i := 1) sc_numbers_of.nd rfl (Or.inl rfl)) (fun _ _ _ _ _ => pts_nil) (fun _ _ _ _ _ => (pe_fldK (K := K) (pv 1))))), ?_⟩))
  · obtain ⟨v, l, M, rfl, _⟩ := h
    rfl
  · obtain ⟨v, l, M, rfl, off, d, hl, g⟩ := h
    obtain ⟨a, dx, o, nm, p, xs, rfl, e, ep, dp⟩ := datAt d
    have hp : psD (.list l) = datsOf l := by simp [psD, datOf]
    rw [hp] at dp
    have hxl : xs.length = l.length := by rw [dp.length, datsOf_length]
    refine ⟨_, rfl, a, C, dx, _, _, rfl, e, T.cl, T.parts, vl_parts, p, rfl, ⟨_, SqL.of ep⟩, fun D hD => lc_map (C := C) (M := M) (es := (l.map nmI).map Dat.int) (SqL.of ep) off hD (by rw [hxl]; simp) (by rw [hxl]; exact few_line hl) (fun j y e' H' Q' hy he s o' q => ?_) (fun H' s d' => g _ _ s d')⟩
    obtain ⟨dd, hdd, dy⟩ := dp.getV hy
    rw [datsOf_get] at hdd
    cases hx : l[j]? with
    | none => rw [hx] at hdd; cases hdd
    | some x =>
      rw [hx] at hdd
      cases hdd
      have he' : ((l.map nmI).map Dat.int)[j]? = some (.int (nmI x)) := by simp [hx]
      rw [he'] at he
      cases he
      obtain ⟨a', dx', o', nm', p', xs', rfl, ea', _⟩ := datAt dy
      exact ⟨_, rfl, a', C, dx', _, _, rfl, s _ _ ea', T.cl, T.number, vl_number, q _ _ (Same.refl _) (.int _)⟩
theorem ok_rows_of (D : Df K mg "rows_of" s_rows_of p_rows_of f fd) : Own P w K mg base CX0 1 "rows_of" p_rows_of (spRowsOf C) := by
  refine D.own (D.F.ok sc_rows_of (fun vs H Q E h => ?_) (fun cdv A outer s H vs Q E hr h => ⟨_, pss_one (ps_ret (pe_lc (own := [("page", 1)]) (g := gName 1) (tt := tYes) rfl sc_rows_of.nd (pi_list (pv 0)) (blkOk_by (N := n_rows_of) (sc := defScope s_rows_of) (by decide +kernel)) (fun _ _ _ _ _ => pg_name (i := 1) sc_rows_of.nd rfl (Or.inl rfl)) (fun _ _ _ _ _ => pts_nil) (fun _ _ _ _ _ => (pe_ix (ix_tupK (K := K) rfl) (pv 1) pe_int (fun _ _ => rfl))))), ?_⟩))
  · obtain ⟨v, l, M, rfl, _⟩ := h
    rfl
  · obtain ⟨v, ps, M, rfl, off, d, hl, g⟩ := h
    obtain ⟨a, xs, rfl, _, e, dp⟩ := d.lstAt
    have hxl : xs.length = ps.length := by rw [dp.length]; simp
    refine ⟨_, rfl, a, rfl, ⟨_, SqL.of e⟩, fun D hD => lc_map (C := C) (M := M) (es := (ps.map (·.rows)).map dN) (SqL.of e) off hD (by rw [hxl]; simp) (by rw [hxl]; exact few_line hl) (fun j y e' H' Q' hy he s o' q => ?_) (fun H' s d' => g _ _ s d')⟩
    obtain ⟨dd, hdd, dy⟩ := dp.getV hy
    cases hx : ps[j]? with
    | none => rw [List.getElem?_map, hx] at hdd; cases hdd
    | some x =>
      rw [List.getElem?_map, hx] at hdd
      cases hdd
      have he' : ((ps.map (·.rows)).map dN)[j]? = some (dN x.rows) := by simp [hx]
      rw [he'] at he
      cases he
      obtain ⟨t, us, rfl, _, et, du⟩ := dy.tupAt
      cases du with
      | cons h1 du =>
        cases du with
        | cons h2 du =>
          cases du
          exact ⟨_, rfl, t, _, 1, _, rfl, rfl, SqT.of (s _ _ et), atI_nat (j := 1) rfl, q _ _ (Same.refl _) ((h2.more hD).same s)⟩
theorem ok_are_wholes (D : Df K mg "are_wholes" s_are_wholes p_are_wholes f fd) (T : ClV K C) (Kc : Csts mg) (B : Blt mg) (O_is_whole : Own P w K mg base CX0 1 "is_whole" p_is_whole (spIsWhole C)) (O_numbers_of : Own P w K mg base CX0 1 "numbers_of" p_numbers_of (spNumbersOf C)) :
    Own P w K mg base CX0 2 "are_wholes" p_are_wholes (spAreWholes C) := by
  refine D.own (D.F.ok sc_are_wholes (fun vs H Q E h => ?_) (fun cdv A outer s H vs Q E hr h => ⟨_, pss_cons (ps_if (pt_cmpR op_ne (pe_fldK (K := K) (pv 0)) (pe_k Kc.LIST) (nomark _)) (pss_one (ps_ret pe_bl)) pss_nil) (pss_cons (ps_for PassesOwn.never rfl (pi_list (pe_fldK (K := K) (pv 0))) (pg_name (i := 2) sc_are_wholes.nd rfl (Or.inl rfl)) (pss_one (ps_if (pt_not (pt_val (pe_own O_is_whole hr (pa_cons (pv 2) (pa_cons pe_int (pa_cons (pv 1) pa_nil)))))) (pss_one (ps_ret pe_bl)) pss_nil))) (pss_one (ps_ret (pe_cmpR op_eq (pe_lenSet rfl B.len (by rfl) B.set (pe_own O_numbers_of hr (pa_cons (pv 0) pa_nil))) (pe_callB (call_lenK (K := K) rfl) rfl B.len boot_len (pa_cons (pe_fldK (K := K) (pv 0)) pa_nil)) (nomark _))))), ?_⟩))
  · obtain ⟨v, x, hi, M, rfl, _⟩ := h
    rfl
  · obtain ⟨v, x, hi, M, rfl, off, d, hl, hhi, g⟩ := h
    obtain ⟨a, dx, o, nm, p, xs, rfl, e, ep, dp⟩ := datAt d
    refine ⟨_, rfl, a, C, dx, _, _, rfl, e, T.cl, T.kind, vl_kind, rfl, _, rfl, ?_⟩
    rcases kd_list x with ⟨l, rfl, hps, hk⟩ | ⟨hn, hk⟩
    · rw [hps] at dp
      have hll := hl l rfl
      have hxl : xs.length = l.length := by rw [dp.length, datsOf_length]
      refine itF (by rw [dec_int, hk]; rfl) ?_
      refine ⟨_, rfl, a, C, dx, _, _, rfl, e, T.cl, T.parts, vl_parts, p, rfl, ⟨_, SqL.of ep⟩, for_list (K := K) (a := p) (xs := xs) (fun i σ H' => H' = H ∧ (∃ z : Option V, σ = [some (.ref a), some (.int hi), z]) ∧ ∀ j y, j < i → l[j]? = some y → (wholeV hi y).isSome = true) ⟨rfl, ⟨none, rfl⟩, fun j y hj => absurd hj (Nat.not_lt_zero j)⟩ (fun i σ H' _ hh => by rw [hh.1]; exact SqL.of ep) ?_ ?_⟩
      · rintro i y σ H' hy ⟨rfl, ⟨z, rfl⟩, hall⟩
        obtain ⟨dd, hdd, dy⟩ := dp.getV hy
        rw [datsOf_get] at hdd
        cases hx : l[i]? with
        | none => rw [hx] at hdd; cases hdd
        | some x =>
          rw [hx] at hdd
          cases hdd
          rw [datOf_eq] at dy
          refine ⟨_, rfl, _, rfl, y, _, _, _, _, _, 0, hi, M, rfl, dy, _, rfl, ?_⟩
          rw [isWhole_V]
          cases hw : wholeV hi x with
          | none =>
            refine itT rfl ?_
            have e0 : wholesV hi (.list l) = none := wholesV_none (allV_none hx hw)
            rw [e0] at g
            exact g.bl (Same.refl _)
          | some n =>
            refine itF rfl ⟨rfl, ⟨some y, rfl⟩, fun j y' hj hy' => ?_⟩
            rcases Nat.lt_succ_iff_lt_or_eq.mp hj with z | z
            · exact hall j y' z hy'
            · subst z
              rw [hx] at hy'
              cases hy'
              rw [hw]
              rfl
      · rintro σ H' ⟨rfl, ⟨z, rfl⟩, hall⟩
        rw [hxl] at hall
        have hsome : (allV (wholeV hi) l).isSome = true := allV_take fun i y hy => hall i y (by
          rcases Nat.lt_or_ge i l.length with z | z
          · exact z
          · rw [List.getElem?_eq_none z] at hy; cases hy) hy
        obtain ⟨ns, hns⟩ := Option.isSome_iff_exists.mp hsome
        obtain ⟨hnm, hle⟩ := allV_nm hns
        have hlen : ns.length = l.length := (allV_some hns).1
        refine ⟨_, rfl, .ref a, l, M, rfl, off, d, hll, fun r H1 s1 d1 => ?_⟩
        obtain ⟨r', rfl, _, er⟩ := d1.dIAt
        rw [hnm] at er
        refine ⟨r', ns, rfl, SqL.of er, by omega, fun n hn => Nat.le_trans (hle n hn) hhi, fun m hm => ?_⟩
        refine ⟨_, rfl, a, C, dx, _, _, rfl, s1 _ _ e, T.cl, T.parts, vl_parts, p, _, rfl, .inl (SqL.of (s1 _ _ ep)), rfl, ?_⟩
        have e1 : (wholesV hi (.list l)).isSome = decide (V.int (m : Int) = V.int (xs.length : Int)) := by
          rw [dec_int, hxl, ← hlen]
          rw [wholesV_some hns]
          by_cases nd : ns.Nodup
          · have := hm.mpr nd
            simp [nd, this]
          · have h2 : ¬ m = ns.length := fun z => nd (hm.mp z)
            have h3 : ((m : Int) == (ns.length : Int)) = false := by simp; omega
            rw [h3]
            simp [nd]
        rw [e1] at g
        exact g.bl s1
    · refine itT (by rw [dec_int]; simp [hk]) ?_
      have e0 : wholesV hi x = none := by
        cases x with
        | list l => exact absurd rfl (hn l)
        | _ => rfl
      rw [e0] at g
      exact g.bl (Same.refl _)
theorem ok_are_rows (D : Df K mg "are_rows" s_are_rows p_are_rows f fd) (T : ClV K C) (B : Blt mg) (O_are_wholes : Own P w K mg base CX0 2 "are_wholes" p_are_wholes (spAreWholes C)) : Own P w K mg base CX0 3 "are_rows" p_are_rows (spAreRows C) := by
  refine D.own (D.F.ok sc_are_rows (fun vs H Q E h => ?_) (fun cdv A outer s H vs Q E hr h => ⟨_, pss_one (ps_ret (pe_and (pe_own O_are_wholes hr (pa_cons (pv 0) (pa_cons pe_int pa_nil))) (pe_one (pe_cmpR op_le (pe_callB (call_lenK (K := K) rfl) rfl B.len boot_len (pa_cons (pe_fldK (K := K) (pv 0)) pa_nil)) (pv 1) (nomark _))))), ?_⟩))
  · obtain ⟨v, x, size, M, rfl, _⟩ := h
    rfl
  · obtain ⟨v, x, size, M, rfl, off, d, hl, g⟩ := h
    refine ⟨_, rfl, v, x, 1000000, M, rfl, off, d, hl, by omega, fun r H1 s1 d1 => ?_⟩
    cases d1
    refine ⟨_, rfl, ?_⟩
    obtain ⟨a, dx, o, nm, p, xs, rfl, e, ep, dp⟩ := datAt d
    cases hw : wholesV 1000000 x with
    | none =>
      have e0 : rowsV size x = none := by unfold rowsV; rw [hw]
      rw [e0] at g
      exact itF rfl (g.bl s1)
    | some ns =>
      have hlen : xs.length = ns.length := by
        cases x with
        | list l =>
          have hps : psD (.list l) = datsOf l := by simp [psD, datOf]
          rw [hps] at dp
          cases ha : allV (wholeV 1000000) l with
          | none => rw [wholesV_none ha] at hw; cases hw
          | some ns' =>
            rw [wholesV_some ha] at hw
            split at hw
            · cases hw
              rw [dp.length, datsOf_length, (allV_some ha).1]
            · cases hw
        | _ => simp [wholesV] at hw
      refine itT rfl ⟨_, rfl, a, C, dx, _, _, rfl, s1 _ _ e, T.cl, T.parts, vl_parts, p, _, rfl, .inl (SqL.of (s1 _ _ ep)), _, rfl, _, _, rfl, rfl, ?_⟩
      have e0 : (rowsV size x).isSome = decide ((xs.length : Int) ≤ (size : Int)) := by
        unfold rowsV
        rw [hw, hlen]
        by_cases c : ns.length ≤ size
        · have : (ns.length : Int) ≤ (size : Int) := by omega
          simp [c, this]
        · have : ¬ (ns.length : Int) ≤ (size : Int) := by omega
          simp [c, this]
      rw [e0] at g
      exact g.bl s1
theorem pageV_two (size : Nat) (o r : RWire.Value) : pageV size (.list [o, r]) = match wholeV 200 o, rowsV size r with | some o, some rows => some ⟨o, rows⟩ | _, _ => none := rfl
theorem pageV_len {size : Nat} {l : List RWire.Value} (h : l.length ≠ 2) : pageV size (.list l) = none := by
  match l, h with
  | [], _ => rfl
  | [_], _ => rfl
  | [_, _], h => exact absurd rfl h
  | _ :: _ :: _ :: _, _ => rfl
theorem ok_is_page (D : Df K mg "is_page" s_is_page p_is_page f fd) (T : ClV K C) (Kc : Csts mg) (B : Blt mg) (O_is_whole : Own P w K mg base CX0 1 "is_whole" p_is_whole (spIsWhole C)) (O_are_rows : Own P w K mg base CX0 3 "are_rows" p_are_rows (spAreRows C)) :
    Own P w K mg base CX0 4 "is_page" p_is_page (spIsPage C) := by
  refine D.own (D.F.ok sc_is_page (fun vs H Q E h => ?_) (fun cdv A outer s H vs Q E hr h => ⟨_, pss_cons (ps_if (PW.pt (pw_or (pt_cmpR op_ne (pe_fldK (K := K) (pv 0)) (pe_k Kc.LIST) (nomark _)) (pw_or1 (pt_cmpR op_ne (pe_callB (call_lenK (K := K) rfl) rfl B.len boot_len (pa_cons (pe_fldK (K := K) (pv 0)) pa_nil)) pe_int (nomark _))))) (pss_one (ps_ret pe_bl)) pss_nil) (pss_one (ps_ret (pe_and (pe_own O_is_whole hr (pa_cons (pe_ix (ix_listK (K := K) rfl) (pe_fldK (K := K) (pv 0)) pe_int (fun _ _ => rfl)) (pa_cons pe_int (pa_cons pe_int pa_nil)))) (pe_one (pe_own O_are_rows hr (pa_cons (pe_ix (ix_listK (K := K) rfl) (pe_fldK (K := K) (pv 0)) pe_int (fun _ _ => rfl)) (pa_cons (pv 1) pa_nil))))))), ?_⟩))
  · obtain ⟨v, x, size, M, rfl, _⟩ := h
    rfl
  · obtain ⟨v, x, size, M, rfl, off, d, hl, g⟩ := h
    obtain ⟨a, dx, o, nm, p, xs, rfl, e, ep, dp⟩ := datAt d
    refine ⟨_, rfl, a, C, dx, _, _, rfl, e, T.cl, T.kind, vl_kind, rfl, _, rfl, ?_⟩
    rcases kd_list x with ⟨l, rfl, hps, hk⟩ | ⟨hn, hk⟩
    · rw [hps] at dp
      have hxl : xs.length = l.length := by rw [dp.length, datsOf_length]
      refine itF (by rw [dec_int, hk]; rfl) ?_
      refine ⟨_, rfl, a, C, dx, _, _, rfl, e, T.cl, T.parts, vl_parts, p, _, rfl, .inl (SqL.of ep), rfl, _, rfl, ?_⟩
      by_cases h2 : l.length = 2
      · refine itF (by rw [dec_int, hxl, h2]; rfl) ?_
        obtain ⟨y, z, rfl⟩ : ∃ y z, l = [y, z] := by
          match l, h2 with
          | [y, z], _ => exact ⟨y, z, rfl⟩
        obtain ⟨v1, hv1, d1⟩ := dp.get (i := 0) (d := datOf y) (by simp [datsOf])
        obtain ⟨v2, hv2, d2⟩ := dp.get (i := 1) (d := datOf z) (by simp [datsOf])
        have d1' := d1
        rw [datOf_eq] at d1'
        refine ⟨_, rfl, a, C, dx, _, _, rfl, e, T.cl, T.parts, vl_parts, p, _, 0, _, rfl, rfl, SqL.of ep, atI_nat (j := 0) hv1, ?_⟩
        refine ⟨v1, _, _, _, _, _, 0, 200, M, rfl, d1', _, rfl, ?_⟩
        have iw := isWhole_V y 200
        rw [show ((200 : Nat) : Int) = 200 from rfl] at iw
        rw [iw]
        cases hw : wholeV 200 y with
        | none =>
          rw [pageV_two, hw] at g
          exact itF rfl (g.bl (Same.refl _))
        | some n =>
          refine itT rfl ⟨_, rfl, a, C, dx, _, _, rfl, e, T.cl, T.parts, vl_parts, p, _, 1, _, rfl, rfl, SqL.of ep, atI_nat (j := 1) hv2, _, rfl, ?_⟩
          refine ⟨v2, z, size, M, rfl, off, d2, hl _ rfl z (by simp), ?_⟩
          rw [pageV_two, hw] at g
          cases hz : rowsV size z with
          | none =>
            rw [hz] at g
            exact g
          | some rows =>
            rw [hz] at g
            exact g
      · refine itT (by rw [dec_int, hxl]; simp; omega) ?_
        rw [pageV_len h2] at g
        exact g.bl (Same.refl _)
    · refine itT (by rw [dec_int]; simp [hk]) ?_
      have e0 : pageV size x = none := by
        cases x with
        | list l => exact absurd rfl (hn l)
        | _ => rfl
      refine iteT ?_
      rw [e0] at g
      exact g.bl (Same.refl _)
theorem ok_are_pages (D : Df K mg "are_pages" s_are_pages p_are_pages f fd) (T : ClV K C) (Kc : Csts mg) (B : Blt mg) (O_is_page : Own P w K mg base CX0 4 "is_page" p_is_page (spIsPage C)) :
    Own P w K mg base CX0 5 "are_pages" p_are_pages (spArePages C) := by
  refine D.own (D.F.ok sc_are_pages (fun vs H Q E h => ?_) (fun cdv A outer s H vs Q E hr h => ⟨_, pss_cons (ps_if (PW.pt (pw_or (pt_cmpR op_ne (pe_fldK (K := K) (pv 0)) (pe_k Kc.LIST) (nomark _)) (pw_or1 (pt_cmpR op_gt (pe_callB (call_lenK (K := K) rfl) rfl B.len boot_len (pa_cons (pe_fldK (K := K) (pv 0)) pa_nil)) pe_int (nomark _))))) (pss_one (ps_ret pe_bl)) pss_nil) (pss_cons (ps_for PassesOwn.never rfl (pi_list (pe_fldK (K := K) (pv 0))) (pg_name (i := 2) sc_are_pages.nd rfl (Or.inl rfl)) (pss_one (ps_if (pt_not (pt_val (pe_own O_is_page hr (pa_cons (pv 2) (pa_cons (pv 1) pa_nil))))) (pss_one (ps_ret pe_bl)) pss_nil))) (pss_one (ps_ret pe_bl))), ?_⟩))
  · obtain ⟨v, x, size, M, rfl, _⟩ := h
    rfl
  · obtain ⟨v, x, size, M, rfl, off, d, few, g⟩ := h
    obtain ⟨a, dx, o, nm, p, xs, rfl, e, ep, dp⟩ := datAt d
    refine ⟨_, rfl, a, C, dx, _, _, rfl, e, T.cl, T.kind, vl_kind, rfl, _, rfl, ?_⟩
    rcases kd_list x with ⟨l, rfl, hps, hk⟩ | ⟨hn, hk⟩
    · rw [hps] at dp
      have hxl : xs.length = l.length := by rw [dp.length, datsOf_length]
      have pv_ : pagesV size (.list l) = if l.length ≤ 20 then allV (pageV size) l else none := rfl
      refine itF (by rw [dec_int, hk]; rfl) ?_
      refine ⟨_, rfl, a, C, dx, _, _, rfl, e, T.cl, T.parts, vl_parts, p, _, rfl, .inl (SqL.of ep), _, _, rfl, rfl, _, rfl, ?_⟩
      by_cases h2 : l.length ≤ 20
      · rw [pv_, if_pos h2] at g
        refine itF (decide_eq_false (by rw [hxl]; omega)) ?_
        refine ⟨_, rfl, a, C, dx, _, _, rfl, e, T.cl, T.parts, vl_parts, p, rfl, ⟨_, SqL.of ep⟩, for_list (K := K) (a := p) (xs := xs) (fun i σ H' => Same H H' ∧ (∃ z : Option V, σ = [some (.ref a), some (.int size), z]) ∧ ∀ j y, j < i → l[j]? = some y → (pageV size y).isSome = true) ⟨Same.refl _, ⟨none, rfl⟩, fun j y hj => absurd hj (Nat.not_lt_zero j)⟩ (fun i σ H' _ hh => SqL.of (hh.1 _ _ ep)) ?_ ?_⟩
        · rintro i y σ H' hy ⟨s1, ⟨z, rfl⟩, hall⟩
          obtain ⟨dd, hdd, dy⟩ := dp.getV hy
          rw [datsOf_get] at hdd
          cases hx : l[i]? with
          | none => rw [hx] at hdd; cases hdd
          | some x =>
            rw [hx] at hdd
            cases hdd
            have mx : x ∈ l := List.mem_of_getElem? hx
            refine ⟨_, rfl, _, rfl, y, x, size, M, rfl, off.same s1, dy.same s1, fun l' hl' y' hy' l'' hl'' => ((few l rfl).2 x mx l' hl').2 y' hy' l'' hl'', fun r H2 s2 d2 => ?_⟩
            cases d2
            refine ⟨_, rfl, ?_⟩
            cases hw : pageV size x with
            | none =>
              rw [allV_none hx hw] at g
              exact itT rfl (g.bl (s1.trans s2))
            | some n =>
              refine itF rfl ⟨s1.trans s2, ⟨some y, rfl⟩, fun j y' hj hy' => ?_⟩
              rcases Nat.lt_succ_iff_lt_or_eq.mp hj with z | z
              · exact hall j y' z hy'
              · subst z
                rw [hx] at hy'
                cases hy'
                rw [hw]
                rfl
        · rintro σ H' ⟨s1, ⟨z, rfl⟩, hall⟩
          rw [hxl] at hall
          have hsome : (allV (pageV size) l).isSome = true := allV_take fun i y hy => hall i y (by
            rcases Nat.lt_or_ge i l.length with z | z
            · exact z
            · rw [List.getElem?_eq_none z] at hy; cases hy) hy
          rw [hsome] at g
          exact g.bl s1
      · rw [pv_, if_neg h2] at g
        exact itT (decide_eq_true (by rw [hxl]; omega)) (g.bl (Same.refl _))
    · refine itT (by rw [dec_int]; simp [hk]) ?_
      have e0 : pagesV size x = none := by
        cases x with
        | list l => exact absurd rfl (hn l)
        | _ => rfl
      refine iteT ?_
      rw [e0] at g
      exact g.bl (Same.refl _)
theorem ok_are_tables (D : Df K mg "are_tables" s_are_tables p_are_tables f fd) (T : ClV K C) (Kc : Csts mg) (B : Blt mg) (O_are_wholes : Own P w K mg base CX0 2 "are_wholes" p_are_wholes (spAreWholes C)) :
    Own P w K mg base CX0 5 "are_tables" p_are_tables (spAreTables C) := by
  refine D.own (D.F.ok sc_are_tables (fun vs H Q E h => ?_) (fun cdv A outer s H vs Q E hr h => ⟨_, pss_cons (ps_if (PW.pt (pw_or (pt_cmpR op_ne (pe_fldK (K := K) (pv 0)) (pe_k Kc.LIST) (nomark _)) (pw_or1 (pt_cmpR op_ne (pe_callB (call_lenK (K := K) rfl) rfl B.len boot_len (pa_cons (pe_fldK (K := K) (pv 0)) pa_nil)) (pv 1) (nomark _))))) (pss_one (ps_ret pe_bl)) pss_nil) (pss_cons (ps_for PassesOwn.never rfl (pi_list (pe_fldK (K := K) (pv 0))) (pg_name (i := 2) sc_are_tables.nd rfl (Or.inl rfl)) (pss_one (ps_if (pt_not (pt_val (pe_own O_are_wholes hr (pa_cons (pv 2) (pa_cons pe_int pa_nil))))) (pss_one (ps_ret pe_bl)) pss_nil))) (pss_one (ps_ret pe_bl))), ?_⟩))
  · obtain ⟨v, x, many, M, rfl, _⟩ := h
    rfl
  · obtain ⟨v, x, many, M, rfl, off, d, few, g⟩ := h
    obtain ⟨a, dx, o, nm, p, xs, rfl, e, ep, dp⟩ := datAt d
    refine ⟨_, rfl, a, C, dx, _, _, rfl, e, T.cl, T.kind, vl_kind, rfl, _, rfl, ?_⟩
    rcases kd_list x with ⟨l, rfl, hps, hk⟩ | ⟨hn, hk⟩
    · rw [hps] at dp
      have hxl : xs.length = l.length := by rw [dp.length, datsOf_length]
      have pv_ : tablesV many (.list l) = if l.length = many then allV (wholesV 1001000) l else none := rfl
      refine itF (by rw [dec_int, hk]; rfl) ?_
      refine ⟨_, rfl, a, C, dx, _, _, rfl, e, T.cl, T.parts, vl_parts, p, _, rfl, .inl (SqL.of ep), _, rfl, rfl, _, rfl, ?_⟩
      by_cases h2 : l.length = many
      · rw [pv_, if_pos h2] at g
        refine itF (by rw [dec_int, hxl, h2]; simp) ?_
        refine ⟨_, rfl, a, C, dx, _, _, rfl, e, T.cl, T.parts, vl_parts, p, rfl, ⟨_, SqL.of ep⟩, for_list (K := K) (a := p) (xs := xs) (fun i σ H' => Same H H' ∧ (∃ z : Option V, σ = [some (.ref a), some (.int many), z]) ∧ ∀ j y, j < i → l[j]? = some y → (wholesV 1001000 y).isSome = true) ⟨Same.refl _, ⟨none, rfl⟩, fun j y hj => absurd hj (Nat.not_lt_zero j)⟩ (fun i σ H' _ hh => SqL.of (hh.1 _ _ ep)) ?_ ?_⟩
        · rintro i y σ H' hy ⟨s1, ⟨z, rfl⟩, hall⟩
          obtain ⟨dd, hdd, dy⟩ := dp.getV hy
          rw [datsOf_get] at hdd
          cases hx : l[i]? with
          | none => rw [hx] at hdd; cases hdd
          | some x =>
            rw [hx] at hdd
            cases hdd
            have mx : x ∈ l := List.mem_of_getElem? hx
            refine ⟨_, rfl, y, x, 1001000, M, rfl, off.same s1, dy.same s1, fun l' hl' => ((few l rfl).2 x mx l' hl').1, by omega, fun r H2 s2 d2 => ?_⟩
            cases d2
            refine ⟨_, rfl, ?_⟩
            cases hw : wholesV 1001000 x with
            | none =>
              rw [allV_none hx hw] at g
              exact itT rfl (g.bl (s1.trans s2))
            | some n =>
              refine itF rfl ⟨s1.trans s2, ⟨some y, rfl⟩, fun j y' hj hy' => ?_⟩
              rcases Nat.lt_succ_iff_lt_or_eq.mp hj with z | z
              · exact hall j y' z hy'
              · subst z
                rw [hx] at hy'
                cases hy'
                rw [hw]
                rfl
        · rintro σ H' ⟨s1, ⟨z, rfl⟩, hall⟩
          rw [hxl] at hall
          have hsome : (allV (wholesV 1001000) l).isSome = true := allV_take fun i y hy => hall i y (by
            rcases Nat.lt_or_ge i l.length with z | z
            · exact z
            · rw [List.getElem?_eq_none z] at hy; cases hy) hy
          rw [hsome] at g
          exact g.bl s1
      · rw [pv_, if_neg h2] at g
        exact itT (by rw [dec_int, hxl]; simp; omega) (g.bl (Same.refl _))
    · refine itT (by rw [dec_int]; simp [hk]) ?_
      have e0 : tablesV many x = none := by
        cases x with
        | list l => exact absurd rfl (hn l)
        | _ => rfl
      refine iteT ?_
      rw [e0] at g
      exact g.bl (Same.refl _)
end
end Pg

/-! PgK: module checks, what may raise -/
namespace Pg
open PySem PySem.Spec PyProof.Rows L2
section
variable {P : Program} {w : World} {K : PySem.W.Frag} {mg : Str → Option Value} {base : Heap} {C : Addr} {f : Addr} {fd : FuncData}
/-- a def that may raise, by its body -/
theorem fun_okM {x qual : Str} {st : Stmt} {f : Addr} {fd : FuncData} {N ps : List Str} {k : Nat} {sp : Sp} (F : Fun K x qual st f fd) (S : FnScope N ps (defScope st)) (len : ∀ vs H Q E, sp vs H Q E → vs.length = ps.length)
    (hbody : ∀ (cdv : Value) (A : Around) (outer : List Env) (s : Shared) (H : Hp) (vs : List V) (Q : VK) (E : XK), Room k (A.deeper (envOfC qual (defScope st) s.heap.objs.size f cdv)) → sp vs H Q E →
      ∃ t, PSs (cxOf (CXm P w) P w K mg base N qual (defScope st) f cdv A outer s H E) (defBody st) t ∧ t { nx := fun _ H' => Q .non H', rt := Q } (L2.start N vs) H) : FnOk P w K mg base (CXm P w) (k + 1) f fd ps sp := by
  obtain ⟨oc, od, kV, doc, pm, an, cdv, ct, osl, rfl, lk, hcd⟩ := F.ex
  exact fn_of lk hcd S len fun A outer s H vs Q E hr h => hbody cdv A outer s H vs Q E hr h
theorem pe_ownS {X : Cx} {W : WX} {k j : Nat} {x : Str} {ps : List Str} {sp : Sp} {e : Expr} {es : List Expr} {p pos : Pos} {t : TA} (O : Own X.prog X.w X.K X.mg X.base (CXm X.prog X.w) k x ps sp) (hr : Room j X.A) (tk : TakesM X W) (ha : PA X (e :: es) t) (hk : k ≤ j := by first | decide | omega) (hg : Gl X x := by rfl)
    (hdb : (x == ("__debug__" : Str)) = false := by decide) (he : starEach (e :: es) X.env = (false, eval e X.env) :: starEach es X.env := by rfl) (hpl : (backTo pos (starEach es X.env)).any (·.1) = false := by rfl) :
    PE X (.Call (.Name x p) (e :: es) [] pos) (tCallS sp (WE W) t) := by
  obtain ⟨f, fd, g, kp, b, F⟩ := O.ex
  exact pe_callS F (hr.mono hk) hg g kp b (fun σ => passAtM tk σ) ha hdb he hpl
end
/-- what is wanted where an error of the class at X with the text m is raised -/
def Errs (E : XK) (H : Hp) (X : Addr) (m : Str) : Prop := ∀ t H', Same H H' → H' t = some (.tup [.str m]) → E (.ref X) (some t) H'
theorem Errs.new {E : XK} {H H1 : Hp} {X : Addr} {m : Str} (r : Errs E H X m) (s : Same H H1) : ∀ t, H1 t = none → E (.ref X) (some t) (upd H1 t (.tup [.str m])) := fun t ht => r t _ (s.trans (Same.new ht)) upd_same
theorem Errs.same {E : XK} {H H1 : Hp} {X : Addr} {m : Str} (r : Errs E H X m) (s : Same H H1) : Errs E H1 X m := fun t H' s' e => r t H' (s.trans s') e
def rangeV (lo hi : Nat) : RWire.Value → Option Nat
  | .int i => if (lo : Int) ≤ i ∧ i ≤ (hi : Int) then some i.toNat else none
  | _ => none
theorem isWhole_R (x : RWire.Value) (lo hi : Nat) : isWhole (kdI x) (nmI x) lo hi = (rangeV lo hi x).isSome := by
  cases x with
  | int i =>
    have h1 : kdI (.int i) = 4 := by simp [kdI, datOf]
    have h2 : nmI (.int i) = i := by simp [nmI, datOf]
    rw [h1, h2, show rangeV lo hi (.int i) = if (lo : Int) ≤ i ∧ i ≤ (hi : Int) then some i.toNat else none from rfl]
    unfold isWhole
    by_cases c : (lo : Int) ≤ i ∧ i ≤ (hi : Int)
    · rw [if_pos c]; simp [c.1, c.2]
    · rw [if_neg c]
      by_cases c1 : (lo : Int) ≤ i
      · have c2 : ¬ i ≤ (hi : Int) := fun z => c ⟨c1, z⟩
        simp [c2]
      · simp [c1]
  | bool b => cases b <;> simp [kdI, datOf, isWhole, rangeV]
  | _ => simp [kdI, datOf, isWhole, rangeV]
theorem rangeV_nm {x : RWire.Value} {lo hi n : Nat} (h : rangeV lo hi x = some n) : nmI x = n ∧ lo ≤ n ∧ n ≤ hi := by
  cases x with
  | int i =>
    rw [show rangeV lo hi (.int i) = if (lo : Int) ≤ i ∧ i ≤ (hi : Int) then some i.toNat else none from rfl] at h
    by_cases c : (lo : Int) ≤ i ∧ i ≤ (hi : Int)
    · rw [if_pos c] at h
      cases h
      have e : ((i.toNat : Nat) : Int) = i := Int.toNat_of_nonneg (by omega)
      exact ⟨by simp [nmI, datOf, e], by omega, by omega⟩
    · rw [if_neg c] at h
      cases h
  | _ => simp [rangeV] at h
abbrev s_checked_size : Stmt := top 50
abbrev n_checked_size : List Str := ["value"]
abbrev p_checked_size : List Str := ["value"]
theorem sc_checked_size : FnScope n_checked_size p_checked_size (defScope s_checked_size) := ⟨rfl, rfl, rfl, by decide +kernel, rfl, by decide +kernel, by decide +kernel⟩
abbrev s_checked_missed : Stmt := top 52
abbrev n_checked_missed : List Str := ["value"]
abbrev p_checked_missed : List Str := ["value"]
theorem sc_checked_missed : FnScope n_checked_missed p_checked_missed (defScope s_checked_missed) := ⟨rfl, rfl, rfl, by decide +kernel, rfl, by decide +kernel, by decide +kernel⟩
abbrev s_checked_pages : Stmt := top 51
abbrev n_checked_pages : List Str := ["value", "size", "part"]
abbrev p_checked_pages : List Str := ["value", "size"]
theorem sc_checked_pages : FnScope n_checked_pages p_checked_pages (defScope s_checked_pages) := ⟨rfl, rfl, rfl, by decide +kernel, rfl, by decide +kernel, by decide +kernel⟩
abbrev s_checked_tables : Stmt := top 53
abbrev n_checked_tables : List Str := ["value", "many", "part"]
abbrev p_checked_tables : List Str := ["value", "many"]
theorem sc_checked_tables : FnScope n_checked_tables p_checked_tables (defScope s_checked_tables) := ⟨rfl, rfl, rfl, by decide +kernel, rfl, by decide +kernel, by decide +kernel⟩
section
variable (C XO XW : Addr)
def spCheckedSize : Sp := fun vs H Q E => ∃ (v : V) (x : RWire.Value) (M : List Addr), vs = [v] ∧ DAt C M H v (datOf x) ∧ (∀ n : Nat, rangeV 2 20 x = some n → Q (.int n) H) ∧ (rangeV 2 20 x = none → Errs E H XO "size must be an integer from 2 to 20")
def spCheckedMissed : Sp := fun vs H Q E => ∃ (v : V) (x : RWire.Value) (M : List Addr), vs = [v] ∧ DAt C M H v (datOf x) ∧ (∀ n : Nat, rangeV 0 200 x = some n → Q (.int n) H) ∧ (rangeV 0 200 x = none → Errs E H XO "missed must be an integer from 0 to 200")
def spCheckedPages : Sp := fun vs H Q E => ∃ (v : V) (x : RWire.Value) (size : Nat) (M : List Addr), vs = [v, .int size] ∧ Off M H ∧ DAt C M H v (datOf x) ∧ Few x ∧ (∀ ps, pagesV size x = some ps → Gives C M H Q (pagesD ps)) ∧ (pagesV size x = none → Errs E H XW "pages must be a list of at most 20 pages of this size")
def spCheckedTables : Sp := fun vs H Q E => ∃ (v : V) (x : RWire.Value) (many : Nat) (M : List Addr), vs = [v, .int many] ∧ Off M H ∧ many ≤ 20000 ∧ DAt C M H v (datOf x) ∧ Few x ∧ (∀ ts, tablesV many x = some ts → Gives C M H Q (dNN ts)) ∧ (tablesV many x = none → Errs E H XW "tables must be a list of lists of different row numbers, one for each page")
end
section
variable {P : Program} {w : World} {K : PySem.W.Frag} {mg : Str → Option Value} {base : Heap} {C XO XW : Addr} {f : Addr} {fd : FuncData}
theorem ok_checked_size (D : Df K mg "checked_size" s_checked_size p_checked_size f fd) (T : ClV K C) (Kc : Csts mg) (X_OutOfRange : XCls K mg "OutOfRange" XO) (O_is_whole : Own P w K mg base CX0 1 "is_whole" p_is_whole (spIsWhole C)) :
    Own P w K mg base (CXm P w) 2 "checked_size" p_checked_size (spCheckedSize C XO) := by
  refine D.own (fun_okM D.F sc_checked_size (fun vs H Q E h => ?_) (fun cdv A outer s H vs Q E hr h => ⟨_, pss_cons (ps_if (pt_not (pt_val (pe_own O_is_whole hr (pa_cons (pv 0) (pa_cons pe_int (pa_cons pe_int pa_nil)))))) (pss_one (ps_raiseM rfl (takesM_of rfl rfl rfl rfl) (pmk_msg X_OutOfRange rfl (pe_k Kc.SIZE_WORDS)))) pss_nil) (pss_one (ps_ret (pe_fldK (K := K) (pv 0)))), ?_⟩))
  · obtain ⟨v, x, M, rfl, _⟩ := h
    rfl
  · obtain ⟨v, x, M, rfl, d, g, ge⟩ := h
    have d' := d
    rw [datOf_eq] at d'
    obtain ⟨a, dx, o, nm, p, xs, rfl, e, ep, dp⟩ := datAt d
    refine ⟨_, rfl, _, _, _, _, _, _, 2, 20, M, rfl, d', _, rfl, ?_⟩
    have iw := isWhole_R x 2 20
    rw [show ((2 : Nat) : Int) = 2 from rfl, show ((20 : Nat) : Int) = 20 from rfl] at iw
    rw [iw]
    cases hw : rangeV 2 20 x with
    | none => exact itT rfl fun t ht => (ge hw).new (Same.refl _) t ht
    | some n =>
      refine itF rfl ⟨_, rfl, a, C, dx, _, _, rfl, e, T.cl, T.number, vl_number, ?_⟩
      rw [(rangeV_nm hw).1]
      exact g n hw
theorem ok_checked_missed (D : Df K mg "checked_missed" s_checked_missed p_checked_missed f fd) (T : ClV K C) (Kc : Csts mg) (X_OutOfRange : XCls K mg "OutOfRange" XO) (O_is_whole : Own P w K mg base CX0 1 "is_whole" p_is_whole (spIsWhole C)) :
    Own P w K mg base (CXm P w) 2 "checked_missed" p_checked_missed (spCheckedMissed C XO) := by
  refine D.own (fun_okM D.F sc_checked_missed (fun vs H Q E h => ?_) (fun cdv A outer s H vs Q E hr h => ⟨_, pss_cons (ps_if (pt_not (pt_val (pe_own O_is_whole hr (pa_cons (pv 0) (pa_cons pe_int (pa_cons pe_int pa_nil)))))) (pss_one (ps_raiseM rfl (takesM_of rfl rfl rfl rfl) (pmk_msg X_OutOfRange rfl (pe_k Kc.MISSED_WORDS)))) pss_nil) (pss_one (ps_ret (pe_fldK (K := K) (pv 0)))), ?_⟩))
  · obtain ⟨v, x, M, rfl, _⟩ := h
    rfl
  · obtain ⟨v, x, M, rfl, d, g, ge⟩ := h
    have d' := d
    rw [datOf_eq] at d'
    obtain ⟨a, dx, o, nm, p, xs, rfl, e, ep, dp⟩ := datAt d
    refine ⟨_, rfl, _, _, _, _, _, _, 0, 200, M, rfl, d', _, rfl, ?_⟩
    have iw := isWhole_R x 0 200
    rw [show ((0 : Nat) : Int) = 0 from rfl, show ((200 : Nat) : Int) = 200 from rfl] at iw
    rw [iw]
    cases hw : rangeV 0 200 x with
    | none => exact itT rfl fun t ht => (ge hw).new (Same.refl _) t ht
    | some n =>
      refine itF rfl ⟨_, rfl, a, C, dx, _, _, rfl, e, T.cl, T.number, vl_number, ?_⟩
      rw [(rangeV_nm hw).1]
      exact g n hw
theorem wholesV_list {hi : Nat} {x : RWire.Value} {ns : List Nat} (h : wholesV hi x = some ns) : ∃ l, x = .list l ∧ l.map nmI = ns.map natI ∧ ns.length = l.length ∧ ns.Nodup ∧ ∀ n ∈ ns, n ≤ hi := by
  cases x with
  | list l =>
    cases ha : allV (wholeV hi) l with
    | none => rw [wholesV_none ha] at h; cases h
    | some ns' =>
      rw [wholesV_some ha] at h
      split at h
      · next nd =>
        cases h
        obtain ⟨h1, h2⟩ := allV_nm ha
        exact ⟨l, rfl, h1, (allV_some ha).1, nd, h2⟩
      · cases h
  | _ => simp [wholesV] at h
theorem rowsV_wholes {size : Nat} {x : RWire.Value} {ns : List Nat} (h : rowsV size x = some ns) : wholesV 1000000 x = some ns ∧ ns.length ≤ size := by
  unfold rowsV at h
  cases hw : wholesV 1000000 x with
  | none => rw [hw] at h; cases h
  | some ms =>
    rw [hw] at h
    simp only at h
    split at h
    · next c => cases h; exact ⟨rfl, c⟩
    · cases h
theorem pageV_parts {size : Nat} {x : RWire.Value} {p : Page} (h : pageV size x = some p) : ∃ o r, x = .list [o, r] ∧ wholeV 200 o = some p.offset ∧ rowsV size r = some p.rows := by
  cases x with
  | list l =>
    by_cases h2 : l.length = 2
    · match l, h2 with
      | [o, r], _ =>
        rw [pageV_two] at h
        cases h1 : wholeV 200 o with
        | none => rw [h1] at h; cases h
        | some a =>
          rw [h1] at h
          cases h3 : rowsV size r with
          | none => rw [h3] at h; cases h
          | some b =>
            rw [h3] at h
            cases h
            exact ⟨o, r, rfl, h1, h3⟩
    · rw [pageV_len h2] at h; cases h
  | _ => simp [pageV] at h
theorem pagesV_list {size : Nat} {x : RWire.Value} {ps : List Page} (h : pagesV size x = some ps) : ∃ l, x = .list l ∧ l.length ≤ 20 ∧ allV (pageV size) l = some ps := by
  cases x with
  | list l =>
    rw [show pagesV size (.list l) = if l.length ≤ 20 then allV (pageV size) l else none from rfl] at h
    split at h
    · next c => exact ⟨l, rfl, c, h⟩
    · cases h
  | _ => simp [pagesV] at h
theorem tablesV_list {many : Nat} {x : RWire.Value} {ts : List (List Nat)} (h : tablesV many x = some ts) : ∃ l, x = .list l ∧ l.length = many ∧ allV (wholesV 1001000) l = some ts := by
  cases x with
  | list l =>
    rw [show tablesV many (.list l) = if l.length = many then allV (wholesV 1001000) l else none from rfl] at h
    split at h
    · next c => exact ⟨l, rfl, c, h⟩
    · cases h
  | _ => simp [tablesV] at h
theorem ok_checked_pages (D : Df K mg "checked_pages" s_checked_pages p_checked_pages f fd) (T : ClV K C) (Kc : Csts mg) (X_WrongKind : XCls K mg "WrongKind" XW) (O_are_pages : Own P w K mg base CX0 5 "are_pages" p_are_pages (spArePages C)) (O_numbers_of : Own P w K mg base CX0 1 "numbers_of" p_numbers_of (spNumbersOf C)) :
    Own P w K mg base (CXm P w) 6 "checked_pages" p_checked_pages (spCheckedPages C XW) := by
  refine D.own (fun_okM D.F sc_checked_pages (fun vs H Q E h => ?_) (fun cdv A outer s H vs Q E hr h => ⟨_, pss_cons (ps_if (pt_not (pt_val (pe_own O_are_pages hr (pa_cons (pv 0) (pa_cons (pv 1) pa_nil))))) (pss_one (ps_raiseM rfl (takesM_of rfl rfl rfl rfl) (pmk_msg X_WrongKind rfl (pe_k Kc.PAGES_WORDS)))) pss_nil) (pss_one (ps_ret (pe_lc (own := [("part", 2)]) (g := gName 2) (tt := tYes) rfl sc_checked_pages.nd (pi_list (pe_fldK (K := K) (pv 0))) (blkOk_by (N := n_checked_pages) (sc := defScope s_checked_pages) (by decide +kernel)) (fun _ _ _ _ _ => pg_name (i := 2) sc_checked_pages.nd rfl (Or.inl rfl)) (fun _ _ _ _ _ => pts_nil) (fun _ _ _ _ _ => (pe_tup (pa_cons (pe_fldK (K := K) (pe_ix (ix_listK (K := K) rfl) (pe_fldK (K := K) (pv 2)) pe_int (fun _ _ => rfl))) (pa_cons (pe_own O_numbers_of hr (pa_cons (pe_ix (ix_listK (K := K) rfl) (pe_fldK (K := K) (pv 2)) pe_int (fun _ _ => rfl)) pa_nil)) pa_nil))))))), ?_⟩))
  · obtain ⟨v, x, size, M, rfl, _⟩ := h
    rfl
  · obtain ⟨v, x, size, M, rfl, off, d, few, g, ge⟩ := h
    refine ⟨_, rfl, _, rfl, v, x, size, M, rfl, off, d, few, fun r H1 s1 d1 => ?_⟩
    cases d1
    refine ⟨_, rfl, ?_⟩
    cases hw : pagesV size x with
    | none => exact itT rfl fun t ht => (ge hw).new s1 t ht
    | some ps =>
      obtain ⟨l, rfl, hl, ha⟩ := pagesV_list hw
      obtain ⟨a, dx, o, nm, p, xs, rfl, e, ep, dp⟩ := datAt (d.same s1)
      have hps : psD (.list l) = datsOf l := by simp [psD, datOf]
      rw [hps] at dp
      have hxl : xs.length = l.length := by rw [dp.length, datsOf_length]
      obtain ⟨hlen, hat⟩ := allV_some ha
      refine itF rfl ⟨_, rfl, a, C, dx, _, _, rfl, e, T.cl, T.parts, vl_parts, p, rfl, ⟨_, SqL.of ep⟩, fun D hD => lc_map (C := C) (M := M) (es := ps.map pageD) (SqL.of ep) (off.same s1) hD (by rw [hxl, List.length_map, hlen]) (by rw [hxl]; exact few_line (by omega)) (fun j y e' H' Q' hy he s oM q => ?_) (fun H' s d' => g ps hw _ _ (s1.trans s) d')⟩
      obtain ⟨dd, hdd, dy⟩ := dp.getV hy
      rw [datsOf_get] at hdd
      cases hx : l[j]? with
      | none => rw [hx] at hdd; cases hdd
      | some x =>
        rw [hx] at hdd
        cases hdd
        obtain ⟨pg, hpg, hpv⟩ := hat j x hx
        rw [List.getElem?_map, hpg] at he
        cases he
        obtain ⟨ov, rv, rfl, hov, hrv⟩ := pageV_parts hpv
        obtain ⟨hrw, _⟩ := rowsV_wholes hrv
        obtain ⟨lr, rfl, hnm, hlr, _, _⟩ := wholesV_list hrw
        have fewr : lr.length ≤ 20000 := ((few l rfl).2 _ (List.mem_of_getElem? hx) _ rfl).2 _ (by simp) _ rfl
        obtain ⟨a', dx', o', nm', p', xs', rfl, ea', ep', dp'⟩ := datAt dy
        have hps' : psD (.list [ov, .list lr]) = [datOf ov, datOf (.list lr)] := by simp [psD, datOf, datsOf]
        rw [hps'] at dp'
        obtain ⟨v1, hv1, d1⟩ := dp'.get (i := 0) rfl
        obtain ⟨v2, hv2, d2⟩ := dp'.get (i := 1) rfl
        obtain ⟨a1, dx1, o1, nm1, p1, xs1, rfl, ea1, _⟩ := datAt d1
        refine ⟨_, rfl, a', C, dx', _, _, rfl, s _ _ ea', T.cl, T.parts, vl_parts, p', _, 0, _, rfl, rfl, SqL.of (s _ _ ep'), atI_nat (j := 0) hv1, a1, C, dx1, _, _, rfl, s _ _ ea1, T.cl, T.number, vl_number, ?_⟩
        refine ⟨_, rfl, a', C, dx', _, _, rfl, s _ _ ea', T.cl, T.parts, vl_parts, p', _, 1, _, rfl, rfl, SqL.of (s _ _ ep'), atI_nat (j := 1) hv2, ?_⟩
        refine ⟨v2, lr, D :: M, rfl, oM, (d2.more hD).same s, fewr, fun r3 H3 s3 d3 => ⟨two_line, fun t ht => ?_⟩⟩
        rw [hnm] at d3
        have e0 := (wholeV_nm hov).1
        obtain ⟨s4, o4, d4⟩ := new_tup (C := C) (xs := [.int (nmI ov), r3]) (ds := [.int (pg.offset : Int), _]) (oM.same s3) ht (.cons (by rw [e0]; exact .int _) (.cons d3 .nil))
        exact q _ _ (s3.trans s4) d4
theorem ok_checked_tables (D : Df K mg "checked_tables" s_checked_tables p_checked_tables f fd) (T : ClV K C) (Kc : Csts mg) (X_WrongKind : XCls K mg "WrongKind" XW) (O_are_tables : Own P w K mg base CX0 5 "are_tables" p_are_tables (spAreTables C)) (O_numbers_of : Own P w K mg base CX0 1 "numbers_of" p_numbers_of (spNumbersOf C)) :
    Own P w K mg base (CXm P w) 6 "checked_tables" p_checked_tables (spCheckedTables C XW) := by
  refine D.own (fun_okM D.F sc_checked_tables (fun vs H Q E h => ?_) (fun cdv A outer s H vs Q E hr h => ⟨_, pss_cons (ps_if (pt_not (pt_val (pe_own O_are_tables hr (pa_cons (pv 0) (pa_cons (pv 1) pa_nil))))) (pss_one (ps_raiseM rfl (takesM_of rfl rfl rfl rfl) (pmk_msg X_WrongKind rfl (pe_k Kc.TABLES_WORDS)))) pss_nil) (pss_one (ps_ret (pe_lc (own := [("part", 2)]) (g := gName 2) (tt := tYes) rfl sc_checked_tables.nd (pi_list (pe_fldK (K := K) (pv 0))) (blkOk_by (N := n_checked_tables) (sc := defScope s_checked_tables) (by decide +kernel)) (fun _ _ _ _ _ => pg_name (i := 2) sc_checked_tables.nd rfl (Or.inl rfl)) (fun _ _ _ _ _ => pts_nil) (fun _ _ _ _ _ => (pe_own O_numbers_of hr (pa_cons (pv 2) pa_nil)))))), ?_⟩))
  · obtain ⟨v, x, many, M, rfl, _⟩ := h
    rfl
  · obtain ⟨v, x, many, M, rfl, off, hm, d, few, g, ge⟩ := h
    refine ⟨_, rfl, _, rfl, v, x, many, M, rfl, off, d, few, fun r H1 s1 d1 => ?_⟩
    cases d1
    refine ⟨_, rfl, ?_⟩
    cases hw : tablesV many x with
    | none => exact itT rfl fun t ht => (ge hw).new s1 t ht
    | some ts =>
      obtain ⟨l, rfl, hl, ha⟩ := tablesV_list hw
      obtain ⟨a, dx, o, nm, p, xs, rfl, e, ep, dp⟩ := datAt (d.same s1)
      have hps : psD (.list l) = datsOf l := by simp [psD, datOf]
      rw [hps] at dp
      have hxl : xs.length = l.length := by rw [dp.length, datsOf_length]
      obtain ⟨hlen, hat⟩ := allV_some ha
      refine itF rfl ⟨_, rfl, a, C, dx, _, _, rfl, e, T.cl, T.parts, vl_parts, p, rfl, ⟨_, SqL.of ep⟩, fun D hD => lc_map (C := C) (M := M) (es := ts.map dN) (SqL.of ep) (off.same s1) hD (by rw [hxl, List.length_map, hlen]) (by rw [hxl]; exact few_line (by omega)) (fun j y e' H' Q' hy he s o' q => ?_) (fun H' s d' => g ts hw _ _ (s1.trans s) d')⟩
      obtain ⟨dd, hdd, dy⟩ := dp.getV hy
      rw [datsOf_get] at hdd
      cases hx : l[j]? with
      | none => rw [hx] at hdd; cases hdd
      | some x =>
        rw [hx] at hdd
        cases hdd
        obtain ⟨tb, htb, htv⟩ := hat j x hx
        rw [List.getElem?_map, htb] at he
        cases he
        obtain ⟨lr, rfl, hnm, hlr, _, _⟩ := wholesV_list htv
        have fewr : lr.length ≤ 20000 := ((few l rfl).2 _ (List.mem_of_getElem? hx) _ rfl).1
        refine ⟨_, rfl, y, lr, D :: M, rfl, o', (dy.more hD).same s, fewr, fun r3 H3 s3 d3 => ?_⟩
        rw [hnm] at d3
        exact q _ _ s3 d3
end
end Pg

/-! PgL: xs[i] += e, enumerate, min and max with default=; module merge -/
namespace Pg
open PySem PySem.Spec PyProof.Rows L2
section
variable {X : Cx}
/-- xs[i] of a list, by values (for xs[i] op= e) -/
def rGetL (K : PySem.W.Frag) : V → V → Hp → VK → Prop := fun o i H Q => ∃ (p : Addr) (xs : List V) (j : Nat) (v : V), o = .ref p ∧ i = .int j ∧ SqL K H p xs ∧ xs[j]? = some v ∧ Q v H
theorem get_list : PGet X (rGetL X.K) := by
  intro pins s σ H o i ov iv Q I ro ri h
  obtain ⟨p, xs, j, v, rfl, rfl, sq, hj, q⟩ := h
  obtain rfl : ov = Value.ref p := ro
  obtain ⟨t, rfl⟩ := ri
  obtain ⟨its, r, pl, hz⟩ := I.list sq
  obtain ⟨w, ew, rw'⟩ := r.get hj
  have hlt : j < xs.length := by
    rcases Nat.lt_or_ge j xs.length with z | z
    · exact z
    · rw [List.getElem?_eq_none z] at hj; cases hj
  refine PyProof.Rows.getItem_listL (x := w) pl.isList (by omega) (by rw [sizeLine_eq] at hz; omega) (by simpa using ew) ⟨v, H, I, rw', q⟩
end
/-- a walk of enumerate(xs) where the list stands -/
theorem for_enum {K : PySem.W.Frag} {a : Addr} {xs : List V} {g : TG} {tb : TS} {D : Ends} {σ : L2.St} {H : Hp} (Pv : Nat → L2.St → Hp → Prop) (h0 : Pv 0 σ H) (hl : ∀ i σ H, i ≤ xs.length → Pv i σ H → SqL K H a xs)
    (hs : ∀ (i : Nat) (x : V) (T : Addr) (σ : L2.St) (H : Hp), xs[i]? = some x → Pv i σ H → H T = none → g (.ref T) σ (upd H T (.tup [.int (i : Int), x])) fun σ2 H2 => tb { D with nx := Pv (i + 1), ct := Pv (i + 1), bk := D.nx } σ2 H2) (hd : ∀ σ H, Pv xs.length σ H → D.nx σ H) :
    ∃ W : Nat → Nat → L2.St → Hp → Prop, (∃ m, W 0 m σ H) ∧ ∀ i m σ H, W i m σ H →
      ((Ite K a).stop i H ∧ D.nx σ H) ∨ ((Ite K a).go i H ∧ ∃ N : L2.St → Hp → Prop, (∀ σ' H', N σ' H' → ∃ m', m' < m ∧ W (i + 1) m' σ' H') ∧ ∀ v H', (Ite K a).yld i H v H' → g v σ H' fun σ2 H2 => tb { D with nx := N, ct := N, bk := D.nx } σ2 H2) := by
  refine ⟨fun i m σ H => i + m = xs.length ∧ Pv i σ H, ⟨xs.length, by omega, h0⟩, fun i m σ H hw => ?_⟩
  obtain ⟨hm, p⟩ := hw
  have sq := hl i σ H (by omega) p
  by_cases hi : i < xs.length
  · refine .inr ⟨⟨xs, xs[i], sq, List.getElem?_eq_getElem hi⟩, Pv (i + 1), fun σ' H' h => ⟨m - 1, by omega, by omega, h⟩, fun v H' hy => ?_⟩
    obtain ⟨T, x, rfl, hT, rfl, hx⟩ := hy
    exact hs i x T σ H (hx xs sq) p hT
  · exact .inl ⟨⟨xs, sq, by omega⟩, hd σ H (by rw [show xs.length = i from by omega]; exact p)⟩
/-! ### module merge: the mirror -/
def addNew (acc : List Nat) (r : Nat) : List Nat := if r ∈ acc then acc else acc ++ [r]
def firstCome (xs : List (List Nat)) : List Nat := xs.flatten.foldl addNew []
def rankedM (xs : List (List Nat)) (order : List Nat) : List (List Nat) := xs.map fun rows => rows.map order.idxOf
def bump (b : List Int) (r : Nat) : List Int := b.set r (b.getD r 0 + 1)
def behindM (marks : List (List Nat)) (many : Nat) : List Int := marks.foldl (fun b ranks => (ranks.drop 1).foldl bump b) (List.replicate many 0)
/-- one list looked at: its head, if it is free and the least so far -/
def freeStep (behind : List Int) (best : Option Nat) (ranks : List Nat) (head : Nat) : Option Nat :=
  if head < ranks.length ∧ behind.getD (ranks.getD head 0) 0 = 0 ∧ (∀ b, best = some b → ranks.getD head 0 < b) then some (ranks.getD head 0) else best
def firstFree (marks : List (List Nat)) (heads : List Nat) (behind : List Int) : Option Nat :=
  (marks.zip heads).foldl (fun best p => freeStep behind best p.1 p.2) none
def takeStep (taken : Nat) (ranks : List Nat) (head : Nat) (behind : List Int) : Nat × List Int :=
  if head < ranks.length ∧ ranks.getD head 0 = taken then
    (head + 1, if head + 1 < ranks.length then behind.set (ranks.getD (head + 1) 0) (behind.getD (ranks.getD (head + 1) 0) 0 - 1) else behind)
  else (head, behind)
def takeM (taken : Nat) : List (List Nat) → List Nat → List Int → List Nat × List Int
  | ranks :: ms, h :: hs, b => let s := takeStep taken ranks h b; let r := takeM taken ms hs s.2; (s.1 :: r.1, r.2)
  | _, hs, b => (hs, b)
def mergeGo (order : List Nat) (marks : List (List Nat)) : Nat → List Nat → List Int → List Nat
  | 0, _, _ => []
  | n + 1, heads, behind => match firstFree marks heads behind with
    | none => []
    | some best => order.getD best 0 :: mergeGo order marks n (takeM best marks heads behind).1 (takeM best marks heads behind).2
def mergedM (xs : List (List Nat)) : List Nat :=
  let order := firstCome xs
  let marks := rankedM xs order
  mergeGo order marks order.length (marks.map fun _ => 0) (behindM marks order.length)
def agreeM (xs : List (List Nat)) : Bool := decide ((mergedM xs).length = (firstCome xs).length)
/-- the dict of the rows that are known -/
def knownD (acc : List Nat) : List (Key × V) := acc.map fun (r : Nat) => ((Sum.inl (r : Int) : Key), V.bl true)
theorem knownD_put (acc : List Nat) (r : Nat) : putK (knownD acc) (Sum.inl (r : Int)) (.bl true) = knownD (addNew acc r) := by
  unfold putK addNew
  have e : ((knownD acc).any fun kv => decide (kv.1 = (Sum.inl (r : Int) : Key))) = decide (r ∈ acc) := by
    unfold knownD
    rw [List.any_map]
    induction acc with
    | nil => simp
    | cons a l ih =>
      rw [List.any_cons, ih]
      have z : (decide ((Sum.inl (a : Int) : Key) = Sum.inl (r : Int))) = decide (r = a) := by
        rw [key_ll]
        by_cases h : r = a
        · simp [h]
        · simp [h]; omega
      simp only [Function.comp_apply, z, List.mem_cons]
      by_cases h : r = a <;> simp [h]
  rw [e]
  by_cases h : r ∈ acc
  · rw [if_pos (decide_eq_true h), if_pos h]
    unfold knownD
    rw [List.map_map]
    apply List.map_congr_left
    intro a _
    simp only [Function.comp_apply]
    split <;> rfl
  · rw [if_neg (by simpa using h), if_neg h]
    simp [knownD]
abbrev s_first_come : Stmt := top 55
abbrev n_first_come : List Str := ["lists", "known", "rows", "row"]
abbrev p_first_come : List Str := ["lists"]
theorem sc_first_come : FnScope n_first_come p_first_come (defScope s_first_come) := ⟨rfl, rfl, rfl, by decide +kernel, rfl, by decide +kernel, by decide +kernel⟩
section
variable (C : Addr)
def spFirstCome : Sp := fun vs H Q _ => ∃ (v : V) (xs : List (List Nat)) (M : List Addr), vs = [v] ∧ Off M H ∧ DAt C M H v (dNN xs) ∧ xs.flatten.length ≤ 20000 ∧ GivesL H Q ((firstCome xs).map natI)
end
section
variable {P : Program} {w : World} {K : PySem.W.Frag} {mg : Str → Option Value} {base : Heap} {C : Addr} {f : Addr} {fd : FuncData}
theorem foldl_addNew_le : ∀ (l acc : List Nat), (l.foldl addNew acc).length ≤ acc.length + l.length
  | [], acc => Nat.le_refl _
  | r :: l, acc => by
    have h := foldl_addNew_le l (addNew acc r)
    have h2 : (addNew acc r).length ≤ acc.length + 1 := by
      unfold addNew
      split
      · omega
      · simp
    rw [List.foldl_cons, List.length_cons]
    omega
theorem dNN_at {M : List Addr} {H : Hp} {xs : List (List Nat)} {ys : List V} {i : Nat} {y : V} (d : DAll C M H ys (xs.map dN)) (hy : ys[i]? = some y) : ∃ rows r, xs[i]? = some rows ∧ y = .ref r ∧ r ∉ M ∧ H r = some (.lst ((rows.map natI).map V.int)) := by
  obtain ⟨dd, hdd, dy⟩ := d.getV hy
  rw [List.getElem?_map] at hdd
  cases hx : xs[i]? with
  | none => rw [hx] at hdd; cases hdd
  | some rows =>
    rw [hx] at hdd
    cases hdd
    obtain ⟨r, rfl, n, e⟩ := dy.dIAt
    exact ⟨rows, r, rfl, rfl, n, e⟩
theorem nat_at {rows : List Nat} {i : Nat} {y : V} (h : ((rows.map natI).map V.int)[i]? = some y) : ∃ r, rows[i]? = some r ∧ y = .int (r : Int) := by
  rw [List.getElem?_map, List.getElem?_map] at h
  cases hx : rows[i]? with
  | none => rw [hx] at h; cases h
  | some r =>
    rw [hx] at h
    cases h
    exact ⟨r, rfl, rfl⟩
theorem flat_take {xs : List (List Nat)} {i : Nat} {rows : List Nat} (h : xs[i]? = some rows) : (xs.take (i + 1)).flatten = (xs.take i).flatten ++ rows := by
  rw [take_more h]
  simp
theorem flat_le (xs : List (List Nat)) (i : Nat) : (xs.take i).flatten.length ≤ xs.flatten.length := by
  have e : xs.flatten = (xs.take i).flatten ++ (xs.drop i).flatten := by rw [← List.flatten_append, List.take_append_drop]
  rw [e, List.length_append]
  omega
theorem ok_first_come (D : Df K mg "first_come" s_first_come p_first_come f fd) (B : Blt mg) : Own P w K mg base CX0 1 "first_come" p_first_come (spFirstCome C) := by
  refine D.own (D.F.ok sc_first_come (fun vs H Q E h => ?_) (fun cdv A outer s H vs Q E hr h => ⟨_, pss_cons (ps_set (i := 1) sc_first_come.nd rfl (Or.inl rfl) pe_dnewK) (pss_cons (ps_for PassesOwn.never rfl (pi_list (pv 0)) (pg_name (i := 2) sc_first_come.nd rfl (Or.inl rfl)) (pss_one (ps_for PassesOwn.never rfl (pi_list (pv 2)) (pg_name (i := 3) sc_first_come.nd rfl (Or.inl rfl)) (pss_one (ps_dput (hu_of hr) (pv 1) (pv 3) pe_bl rfl))))) (pss_one (ps_ret (pe_callTy (call_list_dK rfl) rfl B.list boot_list (pa_cons (pv 1) pa_nil))))), ?_⟩))
  · obtain ⟨v, xs, M, rfl, _⟩ := h
    rfl
  · obtain ⟨v, xs, M, rfl, off, d, hz, g⟩ := h
    obtain ⟨o, ys, rfl, _, eo, dy⟩ := d.lstAt
    have hyl : ys.length = xs.length := by rw [dy.length, List.length_map]
    refine fun k hk => ?_
    have s0 : Same H (upd H k (.dK [])) := Same.new hk
    refine ⟨_, rfl, o, rfl, ⟨_, SqL.of (s0 _ _ eo)⟩, for_list (K := K) (a := o) (xs := ys) (fun i σ H' => ∃ z z2 : Option V, σ = [some (.ref o), some (.ref k), z, z2] ∧ Same H H' ∧ H' k = some (.dK (knownD ((xs.take i).flatten.foldl addNew [])))) ⟨none, none, rfl, s0, upd_same⟩ (fun i σ H' _ ⟨_, _, _, s1, _⟩ => SqL.of (s1 _ _ eo)) ?_ ?_⟩
    · rintro i y σ H' hy ⟨z, z2, rfl, s1, e1⟩
      obtain ⟨rows, r, hrows, rfl, _, er⟩ := dNN_at dy hy
      have er1 := s1 _ _ er
      refine ⟨_, rfl, r, rfl, ⟨_, SqL.of er1⟩, for_list (K := K) (a := r) (xs := (rows.map natI).map V.int) (fun j σ H' => ∃ z2 : Option V, σ = [some (.ref o), some (.ref k), some (.ref r), z2] ∧ Same H H' ∧ H' k = some (.dK (knownD (((xs.take i).flatten ++ rows.take j).foldl addNew [])))) ⟨z2, rfl, s1, by simpa using e1⟩ (fun j σ H' _ ⟨_, _, s1, _⟩ => SqL.of (s1 _ _ er)) ?_ ?_⟩
      · rintro j y σ H2 hy2 ⟨z2, rfl, s2, e2⟩
        obtain ⟨n, hn, rfl⟩ := nat_at hy2
        have tk := take_more hn
        have hlen : (((xs.take i).flatten ++ rows.take j).foldl addNew []).length ≤ 20000 := by
          have h1 := foldl_addNew_le ((xs.take i).flatten ++ rows.take j) []
          have h2 := flat_le xs (i + 1)
          rw [flat_take hrows, List.length_append] at h2
          have h3 : (rows.take j).length ≤ rows.length := by simp; omega
          rw [List.length_append] at h1
          simp only [List.length_nil] at h1
          omega
        refine ⟨_, rfl, _, rfl, k, _, rfl, DPut.k (k := Sum.inl (n : Int)) e2 (by rw [knownD, List.length_map, sizeLine_eq]; omega), some (.int n), rfl, Same.updNew s2 hk, ?_⟩
        have ef : addNew (((xs.take i).flatten ++ rows.take j).foldl addNew []) n = ((xs.take i).flatten ++ rows.take (j + 1)).foldl addNew [] := by
          rw [tk, ← List.append_assoc]
          exact (List.foldl_append (l' := [n]) (f := addNew) (b := [])).symm
        rw [upd_same, knownD_put, ef]
      · rintro σ H2 ⟨z2, rfl, s2, e2⟩
        rw [List.length_map, List.length_map, List.take_length] at e2
        refine ⟨some (.ref r), z2, rfl, s2, ?_⟩
        rw [flat_take hrows]
        exact e2
    · rintro σ H' ⟨z, z2, rfl, s1, e1⟩
      rw [hyl, List.take_length] at e1
      refine ⟨_, rfl, k, _, rfl, e1, fun q hq => ?_⟩
      refine g q _ (s1.trans (Same.new hq)) (s1.free hq) ?_
      rw [upd_same]
      unfold knownD firstCome
      rw [List.map_map, List.map_map]
      rfl
end
end Pg

/-! PgM: module merge, its other defs -/
namespace Pg
open PySem PySem.Spec PyProof.Rows L2
/-- the dict of the ranks -/
def rankFrom (n : Nat) (o : List Nat) : List (Key × V) := (o.zipIdx n).map fun (p : Nat × Nat) => ((Sum.inl (p.1 : Int) : Key), V.int (p.2 : Int))
abbrev rankD (o : List Nat) : List (Key × V) := rankFrom 0 o
theorem rankD_get : ∀ (o : List Nat) (n r : Nat), r ∈ o → valV (rankFrom n o) (Sum.inl (r : Int)) = some (.int ((n + o.idxOf r : Nat) : Int))
  | [], n, r, h => nomatch h
  | a :: l, n, r, h => by
    unfold rankFrom valV
    rw [List.zipIdx_cons, List.map_cons, List.find?_cons, List.idxOf_cons]
    have z : (decide ((Sum.inl (a : Int) : Key) = Sum.inl (r : Int))) = decide (a = r) := by
      rw [key_ll]
      by_cases e : a = r
      · simp [e]
      · simp [e]; omega
    simp only [z]
    by_cases e : a = r
    · subst e
      simp
    · have e' : (a == r) = false := by simp [e]
      have m : r ∈ l := by
        rcases List.mem_cons.mp h with k | k
        · exact absurd k.symm e
        · exact k
      have ih := rankD_get l (n + 1) r m
      unfold rankFrom valV at ih
      simp only [decide_eq_false e, e', cond_false]
      rw [ih]
      congr 2
      omega
theorem putK_new {l : List (Key × V)} {k : Key} {v : V} (h : ∀ kv ∈ l, kv.1 ≠ k) : putK l k v = l ++ [(k, v)] := by
  unfold putK
  have e : (l.any fun kv => decide (kv.1 = k)) = false := by
    rw [List.any_eq_false]
    intro kv hkv
    simp [h kv hkv]
  rw [e]
  rfl
theorem rankD_put {o : List Nat} {r : Nat} (h : r ∉ o) : putK (rankD o) (Sum.inl (r : Int)) (.int (o.length : Int)) = rankD (o ++ [r]) := by
  rw [putK_new]
  · unfold rankD rankFrom
    rw [List.zipIdx_append, List.map_append]
    simp
  · intro kv hkv
    unfold rankD rankFrom at hkv
    obtain ⟨p, hp, rfl⟩ := List.mem_map.mp hkv
    intro z
    rw [Sum.inl.injEq] at z
    have e : p.1 = r := by omega
    have m : p.1 ∈ o := by
      have := List.mem_zipIdx hp
      obtain ⟨_, _, q⟩ := this
      rw [q]
      exact List.getElem_mem _
    rw [e] at m
    exact h m
theorem ix_nat {n j : Nat} (h : j < n) : ixN n (j : Int) = some j := by
  unfold ixN
  rw [if_pos (by omega), if_pos (by omega)]
  simp
theorem firstCome_mem {xs : List (List Nat)} : (firstCome xs).Nodup ∧ ∀ r, r ∈ firstCome xs ↔ ∃ rows ∈ xs, r ∈ rows := by
  have go : ∀ (l acc : List Nat), acc.Nodup → (l.foldl addNew acc).Nodup ∧ ∀ r, r ∈ l.foldl addNew acc ↔ r ∈ acc ∨ r ∈ l := by
    intro l
    induction l with
    | nil => intro acc h; exact ⟨h, fun r => by simp⟩
    | cons a l ih =>
      intro acc h
      have h2 : (addNew acc a).Nodup := by
        unfold addNew
        split
        · exact h
        · next c =>
          rw [List.nodup_append]
          refine ⟨h, by simp, fun x hx y hy => ?_⟩
          simp at hy
          subst hy
          intro z
          subst z
          exact c hx
      obtain ⟨h3, h4⟩ := ih _ h2
      refine ⟨h3, fun r => ?_⟩
      rw [List.foldl_cons, h4]
      have h5 : r ∈ addNew acc a ↔ r ∈ acc ∨ r = a := by
        unfold addNew
        split
        · next c =>
          constructor
          · exact .inl
          · rintro (z | z)
            · exact z
            · rw [z]; exact c
        · simp
      rw [h5, List.mem_cons]
      constructor
      · rintro ((z | z) | z)
        · exact .inl z
        · exact .inr (.inl z)
        · exact .inr (.inr z)
      · rintro (z | z | z)
        · exact .inl (.inl z)
        · exact .inl (.inr z)
        · exact .inr z
  obtain ⟨h1, h2⟩ := go xs.flatten [] .nil
  refine ⟨h1, fun r => ?_⟩
  unfold firstCome
  rw [h2]
  simp
theorem bump_length (b : List Int) (r : Nat) : (bump b r).length = b.length := by unfold bump; simp
theorem bumps_length : ∀ (l : List Nat) (b : List Int), (l.foldl bump b).length = b.length
  | [], b => rfl
  | r :: l, b => by rw [List.foldl_cons, bumps_length l, bump_length]
theorem behinds_length : ∀ (ms : List (List Nat)) (b : List Int), (ms.foldl (fun b ranks => (ranks.drop 1).foldl bump b) b).length = b.length
  | [], b => rfl
  | r :: l, b => by rw [List.foldl_cons, behinds_length l, bumps_length]
theorem takeStep_length (t : Nat) (m : List Nat) (h : Nat) (b : List Int) : (takeStep t m h b).2.length = b.length := by
  unfold takeStep
  split
  · show (if _ then _ else _ : List Int).length = _
    split
    · simp
    · rfl
  · rfl
theorem takeM_length (t : Nat) : ∀ (ms : List (List Nat)) (hs : List Nat) (b : List Int), (takeM t ms hs b).1.length = hs.length ∧ (takeM t ms hs b).2.length = b.length
  | [], hs, b => ⟨rfl, rfl⟩
  | m :: ms, [], b => ⟨rfl, rfl⟩
  | m :: ms, h :: hs, b => by
    obtain ⟨h1, h2⟩ := takeM_length t ms hs (takeStep t m h b).2
    exact ⟨by show (_ :: _ : List Nat).length = _; simp [h1], by show (takeM t ms hs (takeStep t m h b).2).2.length = _; rw [h2, takeStep_length]⟩
theorem takeM_snoc (t : Nat) (m : List Nat) (h : Nat) : ∀ (ms : List (List Nat)) (hs : List Nat) (b : List Int), ms.length = hs.length →
    takeM t (ms ++ [m]) (hs ++ [h]) b = ((takeM t ms hs b).1 ++ [(takeStep t m h (takeM t ms hs b).2).1], (takeStep t m h (takeM t ms hs b).2).2)
  | [], [], b, _ => rfl
  | m' :: ms, h' :: hs, b, e => by
    have ih := takeM_snoc t m h ms hs (takeStep t m' h' b).2 (by simpa using e)
    show (_ :: (takeM t (ms ++ [m]) (hs ++ [h]) (takeStep t m' h' b).2).1, (takeM t (ms ++ [m]) (hs ++ [h]) (takeStep t m' h' b).2).2) = _
    rw [ih]
    rfl
abbrev s_rank_list : Stmt := top 56
abbrev n_rank_list : List Str := ["rows", "rank", "row"]
abbrev p_rank_list : List Str := ["rows", "rank"]
theorem sc_rank_list : FnScope n_rank_list p_rank_list (defScope s_rank_list) := ⟨rfl, rfl, rfl, by decide +kernel, rfl, by decide +kernel, by decide +kernel⟩
abbrev s_ranked : Stmt := top 57
abbrev n_ranked : List Str := ["lists", "order", "rank", "place", "row", "rows"]
abbrev p_ranked : List Str := ["lists", "order"]
theorem sc_ranked : FnScope n_ranked p_ranked (defScope s_ranked) := ⟨rfl, rfl, rfl, by decide +kernel, rfl, by decide +kernel, by decide +kernel⟩
abbrev s_counted_behind : Stmt := top 58
abbrev n_counted_behind : List Str := ["marks", "many", "behind", "ranks", "at", "place"]
abbrev p_counted_behind : List Str := ["marks", "many"]
theorem sc_counted_behind : FnScope n_counted_behind p_counted_behind (defScope s_counted_behind) := ⟨rfl, rfl, rfl, by decide +kernel, rfl, by decide +kernel, by decide +kernel⟩
abbrev s_first_free : Stmt := top 59
abbrev n_first_free : List Str := ["marks", "heads", "behind", "best", "at", "ranks", "rank"]
abbrev p_first_free : List Str := ["marks", "heads", "behind"]
theorem sc_first_free : FnScope n_first_free p_first_free (defScope s_first_free) := ⟨rfl, rfl, rfl, by decide +kernel, rfl, by decide +kernel, by decide +kernel⟩
abbrev s_take : Stmt := top 60
abbrev n_take : List Str := ["marks", "heads", "behind", "taken", "at", "ranks"]
abbrev p_take : List Str := ["marks", "heads", "behind", "taken"]
theorem sc_take : FnScope n_take p_take (defScope s_take) := ⟨rfl, rfl, rfl, by decide +kernel, rfl, by decide +kernel, by decide +kernel⟩
abbrev s_merged : Stmt := top 61
abbrev n_merged : List Str := ["lists", "order", "marks", "heads", "behind", "rows", "turn", "best", "ranks"]
abbrev p_merged : List Str := ["lists"]
theorem sc_merged : FnScope n_merged p_merged (defScope s_merged) := ⟨rfl, rfl, rfl, by decide +kernel, rfl, by decide +kernel, by decide +kernel⟩
abbrev s_agree : Stmt := top 62
abbrev n_agree : List Str := ["lists"]
abbrev p_agree : List Str := ["lists"]
theorem sc_agree : FnScope n_agree p_agree (defScope s_agree) := ⟨rfl, rfl, rfl, by decide +kernel, rfl, by decide +kernel, by decide +kernel⟩
/-- a list of whole numbers, as it lies there -/
abbrev iV (ns : List Int) : List V := ns.map V.int
abbrev nV (ns : List Nat) : List V := iV (ns.map natI)
def bestI : Option Nat → Int
  | none => -1
  | some r => (r : Int)
section
variable (C : Addr)
def spRankList : Sp := fun vs H Q _ => ∃ (v : V) (rows order : List Nat) (k : Addr) (M : List Addr), vs = [v, .ref k] ∧ Off M H ∧ DAt C M H v (dN rows) ∧ H k = some (.dK (rankD order)) ∧ rows.length ≤ 20000 ∧ (∀ r ∈ rows, r ∈ order) ∧ Gives C M H Q (dN (rows.map order.idxOf))
def spRanked : Sp := fun vs H Q _ => ∃ (v u : V) (xs : List (List Nat)) (order : List Nat) (M : List Addr), vs = [v, u] ∧ Off M H ∧ DAt C M H v (dNN xs) ∧ DAt C M H u (dN order) ∧ order.Nodup ∧ order.length ≤ 20000 ∧ xs.length ≤ 20000 ∧
  (∀ rows ∈ xs, rows.length ≤ 20000 ∧ ∀ r ∈ rows, r ∈ order) ∧ Gives C M H Q (dNN (rankedM xs order))
def spCountedBehind : Sp := fun vs H Q _ => ∃ (v : V) (marks : List (List Nat)) (many : Nat) (M : List Addr), vs = [v, .int many] ∧ Off M H ∧ DAt C M H v (dNN marks) ∧ many ≤ 20000 ∧ (∀ ranks ∈ marks, ranks.length ≤ 20000 ∧ ∀ r ∈ ranks, r < many) ∧ GivesL H Q (behindM marks many)
def spFirstFree : Sp := fun vs H Q _ => ∃ (v : V) (marks : List (List Nat)) (heads : List Nat) (behind : List Int) (h b : Addr) (M : List Addr), vs = [v, .ref h, .ref b] ∧ DAt C M H v (dNN marks) ∧ H h = some (.lst (nV heads)) ∧ H b = some (.lst (iV behind)) ∧ heads.length = marks.length ∧
  (∀ ranks ∈ marks, ∀ r ∈ ranks, r < behind.length) ∧ ∀ H', Same H H' → Q (.int (bestI (firstFree marks heads behind))) H'
def spTake : Sp := fun vs H Q _ => ∃ (v : V) (marks : List (List Nat)) (heads : List Nat) (behind : List Int) (h b : Addr) (taken : Nat) (M : List Addr), vs = [v, .ref h, .ref b, .int taken] ∧ h ∈ M ∧ b ∈ M ∧ h ≠ b ∧ DAt C M H v (dNN marks) ∧ H h = some (.lst (nV heads)) ∧ H b = some (.lst (iV behind)) ∧ heads.length = marks.length ∧
  (∀ ranks ∈ marks, ∀ r ∈ ranks, r < behind.length) ∧ ∀ H', SameB [h, b] H H' → H' h = some (.lst (nV (takeM taken marks heads behind).1)) → H' b = some (.lst (iV (takeM taken marks heads behind).2)) → Q .non H'
def spMerged : Sp := fun vs H Q _ => ∃ (v : V) (xs : List (List Nat)) (M : List Addr), vs = [v] ∧ Off M H ∧ DAt C M H v (dNN xs) ∧ xs.length ≤ 20000 ∧ xs.flatten.length ≤ 20000 ∧ GivesL H Q ((mergedM xs).map natI)
def spAgree : Sp := fun vs H Q _ => ∃ (v : V) (xs : List (List Nat)) (M : List Addr), vs = [v] ∧ Off M H ∧ DAt C M H v (dNN xs) ∧ xs.length ≤ 20000 ∧ xs.flatten.length ≤ 20000 ∧ Gives C M H Q (.bl (agreeM xs))
end
section
variable {P : Program} {w : World} {K : PySem.W.Frag} {mg : Str → Option Value} {base : Heap} {C : Addr} {f : Addr} {fd : FuncData}
theorem ten_line {n : Nat} (h : n ≤ 20000) : n ≤ sizeLine := by rw [sizeLine_eq]; omega
theorem nV_get {rows : List Nat} {i r : Nat} (h : rows[i]? = some r) : (nV rows)[i]? = some (.int (r : Int)) := by
  rw [List.getElem?_map, List.getElem?_map, h]
  rfl
theorem iV_get {rows : List Int} {i : Nat} {r : Int} (h : rows[i]? = some r) : (iV rows)[i]? = some (.int r) := by
  rw [List.getElem?_map, h]
  rfl
theorem iV_set (rows : List Int) (i : Nat) (r : Int) : (iV rows).set i (.int r) = iV (rows.set i r) := List.map_set.symm
theorem nV_set (rows : List Nat) (i r : Nat) : (nV rows).set i (.int (r : Int)) = nV (rows.set i r) := by
  rw [iV_set]
  exact congrArg iV (List.map_set (f := natI) (l := rows) (i := i) (a := r)).symm
theorem get_some {α : Type} {l : List α} {i : Nat} {x : α} (h : l[i]? = some x) : i < l.length := by
  rcases Nat.lt_or_ge i l.length with z | z
  · exact z
  · rw [List.getElem?_eq_none z] at h; cases h
theorem getD_get {l : List Int} {i : Nat} (h : i < l.length) : l[i]? = some (l.getD i 0) := by simp [h]
theorem ok_rank_list (D : Df K mg "rank_list" s_rank_list p_rank_list f fd) : Own P w K mg base CX0 1 "rank_list" p_rank_list (spRankList C) := by
  refine D.own (D.F.ok sc_rank_list (fun vs H Q E h => ?_) (fun cdv A outer s H vs Q E hr h => ⟨_, pss_one (ps_ret (pe_lc (own := [("row", 2)]) (g := gName 2) (tt := tYes) rfl sc_rank_list.nd (pi_list (pv 0)) (blkOk_by (N := n_rank_list) (sc := defScope s_rank_list) (by decide +kernel)) (fun _ _ _ _ _ => pg_name (i := 2) sc_rank_list.nd rfl (Or.inl rfl)) (fun _ _ _ _ _ => pts_nil) (fun _ _ _ _ _ => (pe_dget (hu_of hr) (pv 1) (pv 2) (fun _ _ => rfl))))), ?_⟩))
  · obtain ⟨v, rows, order, k, M, rfl, _⟩ := h
    rfl
  · obtain ⟨v, rows, order, k, M, rfl, off, d, ek, hl, hm, g⟩ := h
    obtain ⟨a, rfl, _, ea⟩ := d.dIAt
    refine ⟨_, rfl, a, rfl, ⟨_, SqL.of ea⟩, fun D hD => lc_map (C := C) (M := M) (es := ((rows.map order.idxOf).map natI).map Dat.int) (SqL.of ea) off hD (by simp) (by rw [List.length_map, List.length_map]; exact ten_line hl) (fun j x e H' Q' hx he s o q => ?_) (fun H' s d' => g _ _ s d')⟩
    obtain ⟨r, hr', rfl⟩ := nat_at hx
    have he' : (((rows.map order.idxOf).map natI).map Dat.int)[j]? = some (.int (order.idxOf r : Nat)) := by simp [hr']
    rw [he'] at he
    cases he
    have gd := rankD_get order 0 r (hm r (List.mem_of_getElem? hr'))
    rw [Nat.zero_add] at gd
    refine ⟨_, rfl, _, rfl, k, _, rfl, ?_, q _ _ (Same.refl _) (.int _)⟩
    have dg := DGet.k (k := Sum.inl (r : Int)) (s _ _ ek)
    rw [gd] at dg
    exact dg
theorem ok_ranked (D : Df K mg "ranked" s_ranked p_ranked f fd) (B : Blt mg) (O_rank_list : Own P w K mg base CX0 1 "rank_list" p_rank_list (spRankList C)) : Own P w K mg base CX0 2 "ranked" p_ranked (spRanked C) := by
  refine D.own (D.F.ok sc_ranked (fun vs H Q E h => ?_) (fun cdv A outer s H vs Q E hr h => ⟨_, pss_cons (ps_set (i := 2) sc_ranked.nd rfl (Or.inr rfl) pe_dnewK) (pss_cons (ps_for PassesOwn.never rfl (pi_enum rfl B.enumerate (pa_cons (pv 1) pa_nil)) (pg_tup rfl (pgs_cons (pg_name (i := 3) sc_ranked.nd rfl (Or.inl rfl)) (pgs_cons (pg_name (i := 4) sc_ranked.nd rfl (Or.inl rfl)) pgs_nil))) (pss_one (ps_dput (hu_of hr) (pv 2) (pv 4) (pv 3) rfl))) (pss_one (ps_ret (pe_lc (own := [("rows", 5)]) (g := gName 5) (tt := tYes) rfl sc_ranked.nd (pi_list (pv 0)) (blkOk_by (N := n_ranked) (sc := defScope s_ranked) (by decide +kernel)) (fun _ _ _ _ _ => pg_name (i := 5) sc_ranked.nd rfl (Or.inl rfl)) (fun _ _ _ _ _ => pts_nil) (fun _ _ _ _ _ => (pe_own O_rank_list hr (pa_cons (pv 5) (pa_cons (pv 2) pa_nil)))))))), ?_⟩))
  · obtain ⟨v, u, xs, order, M, rfl, _⟩ := h
    rfl
  · obtain ⟨v, u, xs, order, M, rfl, off, d, du, nd, ho, hx, hxs, g⟩ := h
    obtain ⟨o, rfl, _, eo⟩ := du.dIAt
    obtain ⟨a, ys, rfl, _, ea, dy⟩ := d.lstAt
    have hyl : ys.length = xs.length := by rw [dy.length, List.length_map]
    refine fun k hk => ?_
    have s0 : Same H (upd H k (.dK [])) := Same.new hk
    refine ⟨_, rfl, o, _, rfl, SqL.of (s0 _ _ eo), for_enum (K := K) (a := o) (xs := nV order) (fun i σ H' => ∃ z z2 z3 : Option V, σ = [some (.ref a), some (.ref o), some (.ref k), z, z2, z3] ∧ Same H H' ∧ H' k = some (.dK (rankD (order.take i)))) ⟨none, none, none, rfl, s0, upd_same⟩ (fun i σ H' _ ⟨_, _, _, _, s1, _⟩ => SqL.of (s1 _ _ eo)) ?_ ?_⟩
    · rintro i y T σ H' hy ⟨z, z2, z3, rfl, s1, e1⟩ hT
      obtain ⟨r, hr', rfl⟩ := nat_at hy
      have hi := get_some hr'
      have ni : r ∉ order.take i := by
        intro hm
        obtain ⟨j, hj, e⟩ := List.getElem_of_mem hm
        rw [List.length_take] at hj
        rw [List.getElem_take] at e
        have e2 : order[j]? = some r := by rw [List.getElem?_eq_getElem (by omega), e]
        have := nd_ix nd e2 hr'
        omega
      have hlen : (order.take i).length = i := by rw [List.length_take]; omega
      refine ⟨T, _, rfl, SqT.of upd_same, rfl, _, _, rfl, _, _, rfl, rfl, ?_⟩
      refine ⟨_, rfl, _, rfl, _, rfl, k, _, rfl, DPut.k (k := Sum.inl (r : Int)) (by rw [upd_ne (ne_of_none e1 hT)]; exact e1) (by show (rankFrom 0 _).length < _; unfold rankFrom; rw [List.length_map, List.length_zipIdx, hlen, sizeLine_eq]; omega), _, _, z3, rfl, Same.updNew (Same.updNew s1 (s1.free hT)) hk, ?_⟩
      have ep := rankD_put ni
      rw [hlen] at ep
      rw [upd_same, ep, take_more hr']
    · rintro σ H' ⟨z, z2, z3, rfl, s1, e1⟩
      rw [List.length_map, List.length_map, List.take_length] at e1
      refine ⟨_, rfl, a, rfl, ⟨_, SqL.of (s1 _ _ ea)⟩, fun D hD => lc_map (C := C) (M := M) (es := (rankedM xs order).map dN) (SqL.of (s1 _ _ ea)) (off.same s1) hD (by rw [hyl]; simp [rankedM]) (by rw [hyl]; exact ten_line hx) (fun j y e H2 Q' hy he s2 o2 q => ?_) (fun H2 s2 d2 => g _ _ (s1.trans s2) d2)⟩
      obtain ⟨rows, r, hrows, rfl, nr, er⟩ := dNN_at dy hy
      have he' : ((rankedM xs order).map dN)[j]? = some (dN (rows.map order.idxOf)) := by simp [rankedM, hrows]
      rw [he'] at he
      cases he
      obtain ⟨hx1, hx2⟩ := hxs rows (List.mem_of_getElem? hrows)
      have dr : DAt C (D :: M) H' (.ref r) (dN rows) := (DAt.dI nr (s1 _ _ er)).more hD
      exact ⟨_, rfl, _, rfl, .ref r, rows, order, k, D :: M, rfl, o2, dr.same s2, s2 _ _ e1, hx1, hx2, fun v3 H3 s3 d3 => q _ _ s3 d3⟩
theorem drop_get {ranks : List Nat} {j r : Nat} (h : ranks[1 + j]? = some r) : (ranks.drop 1).take (j + 1) = (ranks.drop 1).take j ++ [r] := by
  have e : (ranks.drop 1)[j]? = some r := by rw [List.getElem?_drop]; exact h
  exact take_more e
theorem ok_counted_behind (D : Df K mg "counted_behind" s_counted_behind p_counted_behind f fd) (B : Blt mg) : Own P w K mg base CX0 1 "counted_behind" p_counted_behind (spCountedBehind C) := by
  refine D.own (D.F.ok sc_counted_behind (fun vs H Q E h => ?_) (fun cdv A outer s H vs Q E hr h => ⟨_, pss_cons (ps_setLc (i := 2) (own := [("place", 5)]) (g := gName 5) (tt := tYes) rfl sc_counted_behind.nd rfl rfl (sw_true rfl rfl rfl (by decide +kernel)) (pi_range1 rfl B.range (pa_cons (pv 1) pa_nil)) (blkOk_by (N := n_counted_behind) (sc := defScope s_counted_behind) (by decide +kernel)) (fun _ _ _ _ _ => pg_name (i := 5) sc_counted_behind.nd rfl (Or.inl rfl)) (fun _ _ _ _ _ => pts_nil) (fun _ _ _ _ _ => pe_int)) (pss_cons (ps_for PassesOwn.never rfl (pi_list (pv 0)) (pg_name (i := 3) sc_counted_behind.nd rfl (Or.inl rfl)) (pss_one (ps_for PassesOwn.never rfl (pi_range2 rfl B.range (pa_cons pe_int (pa_cons (pe_callB (call_lenK (K := K) rfl) rfl B.len boot_len (pa_cons (pv 3) pa_nil)) pa_nil))) (pg_name (i := 4) sc_counted_behind.nd rfl (Or.inl rfl)) (pss_one (ps_augS (pv 2) (pe_ix (ix_listK (K := K) rfl) (pv 3) (pv 4) (fun _ _ => rfl)) get_list pe_int ip_add set_list))))) (pss_one (ps_ret (pv 2)))), ?_⟩))
  · obtain ⟨v, marks, many, M, rfl, _⟩ := h
    rfl
  · obtain ⟨v, marks, many, M, rfl, off, d, hmany, hms, g⟩ := h
    obtain ⟨a, ys, rfl, _, ea, dy⟩ := d.lstAt
    have hyl : ys.length = marks.length := by rw [dy.length, List.length_map]
    refine ⟨_, rfl, (many : Int), rfl, by omega, by omega, fun p hp => lc_rangeF (C := C) (M := M) (tt := tYes) (lo := 0) (n := many) (fun _ => true) (fun _ => .int 0) off hp (ten_line hmany) (fun j H' Q' _ _ _ q => q H' (Same.refl _)) (fun j H' Q' _ _ s o q => q _ _ (Same.refl _) (.int 0)) fun H1 s1 d1 => ?_⟩
    rw [pick_all] at d1
    have e0 : (List.range many).map (fun _ => Dat.int 0) = (List.replicate many (0 : Int)).map Dat.int := by
      rw [List.map_const', List.length_range, List.map_replicate]
    rw [e0] at d1
    obtain ⟨p', ep', _, e1⟩ := d1.dIAt
    cases ep'
    refine ⟨_, rfl, a, rfl, ⟨_, SqL.of (s1 _ _ ea)⟩, for_list (K := K) (a := a) (xs := ys) (fun i σ H' => ∃ z z2 z3 : Option V, σ = [some (.ref a), some (.int many), some (.ref p), z, z2, z3] ∧ Same H H' ∧ H' p = some (.lst (iV ((marks.take i).foldl (fun b ranks => (ranks.drop 1).foldl bump b) (List.replicate many 0))))) ⟨none, none, none, rfl, s1, e1⟩ (fun i σ H' _ ⟨_, _, _, _, s1, _⟩ => SqL.of (s1 _ _ ea)) ?_ ?_⟩
    · rintro i y σ H' hy ⟨z, z2, z3, rfl, s2, e2⟩
      obtain ⟨ranks, r, hr', rfl, _, er⟩ := dNN_at dy hy
      obtain ⟨hl1, hl2⟩ := hms ranks (List.mem_of_getElem? hr')
      refine ⟨_, rfl, r, _, rfl, .inl (SqL.of (s2 _ _ er)), 1, _, rfl, ⟨by omega, by omega, by omega, by rw [List.length_map, List.length_map]; omega⟩, ?_⟩
      have en : (((nV ranks).length : Int) - 1).toNat = ranks.length - 1 := by rw [List.length_map, List.length_map]; omega
      rw [en]
      refine for_range (lo := 1) (n := ranks.length - 1) (fun j σ H2 => ∃ z2 z3 : Option V, σ = [some (.ref a), some (.int many), some (.ref p), some (.ref r), z2, z3] ∧ Same H H2 ∧ H2 p = some (.lst (iV (((ranks.drop 1).take j).foldl bump ((marks.take i).foldl (fun b ranks => (ranks.drop 1).foldl bump b) (List.replicate many 0)))))) ⟨z2, z3, rfl, s2, e2⟩ ?_ ?_
      · rintro j σ H2 hj ⟨z2, z3, rfl, s3, e3⟩
        obtain ⟨rk, hrk⟩ : ∃ rk, ranks[1 + j]? = some rk := ⟨ranks[1 + j], List.getElem?_eq_getElem (by omega)⟩
        have hb := hl2 rk (List.mem_of_getElem? hrk)
        generalize hbb : ((ranks.drop 1).take j).foldl bump ((marks.take i).foldl (fun b ranks => (ranks.drop 1).foldl bump b) (List.replicate many 0)) = bb at e3
        have hbl : bb.length = many := by rw [← hbb, bumps_length, behinds_length, List.length_replicate]
        have hg := getD_get (l := bb) (i := rk) (by omega)
        refine ⟨_, rfl, _, rfl, _, rfl, r, _, _, _, rfl, rfl, SqL.of (s3 _ _ er), (by show atI (nV ranks) ((1 : Int) + (j : Nat)) = some _; exact at_of (j := 1 + j) (by omega) (nV_get hrk)), p, iV bb, rk, _, rfl, rfl, SqL.of e3, iV_get hg, _, _, rfl, rfl, p, _, _, rk, rfl, rfl, e3, by rw [List.length_map]; exact ix_nat (by omega), ?_⟩
        refine ⟨_, z3, rfl, Same.updNew s3 hp, ?_⟩
        rw [upd_same, drop_get hrk, List.foldl_append, hbb]
        show some (HO.lst ((iV bb).set rk (.int (bb.getD rk 0 + 1)))) = _
        rw [iV_set]
        rfl
      · rintro σ H2 ⟨z2, z3, rfl, s3, e3⟩
        refine ⟨_, _, _, rfl, s3, ?_⟩
        rw [take_more hr', List.foldl_append]
        rw [show (ranks.drop 1).take (ranks.length - 1) = ranks.drop 1 from List.take_of_length_le (by rw [List.length_drop]; omega)] at e3
        exact e3
    · rintro σ H' ⟨z, z2, z3, rfl, s2, e2⟩
      rw [hyl, List.take_length] at e2
      exact ⟨_, rfl, g p _ s2 hp e2⟩
theorem zip_get {ms : List (List Nat)} {hs : List Nat} (e : hs.length = ms.length) {i : Nat} {m : List Nat} (h : ms[i]? = some m) : ∃ hd, hs[i]? = some hd ∧ (ms.zip hs).take (i + 1) = (ms.zip hs).take i ++ [(m, hd)] := by
  have hi := get_some h
  have h2 : hs[i]? = some hs[i] := List.getElem?_eq_getElem (by omega)
  refine ⟨_, h2, take_more ?_⟩
  rw [List.getElem?_zip_eq_some]
  exact ⟨h, h2⟩
theorem ok_first_free (D : Df K mg "first_free" s_first_free p_first_free f fd) (B : Blt mg) : Own P w K mg base CX0 1 "first_free" p_first_free (spFirstFree C) := by
  refine D.own (D.F.ok sc_first_free (fun vs H Q E h => ?_) (fun cdv A outer s H vs Q E hr h => ⟨_, pss_cons (ps_set (i := 3) sc_first_free.nd rfl (Or.inl rfl) (pe_un un_neg pe_int)) (pss_cons (ps_for PassesOwn.never rfl (pi_enum rfl B.enumerate (pa_cons (pv 0) pa_nil)) (pg_tup rfl (pgs_cons (pg_name (i := 4) sc_first_free.nd rfl (Or.inl rfl)) (pgs_cons (pg_name (i := 5) sc_first_free.nd rfl (Or.inl rfl)) pgs_nil))) (pss_one (ps_if (pt_cmpR op_lt (pe_ix (ix_listK (K := K) rfl) (pv 1) (pv 4) (fun _ _ => rfl)) (pe_callB (call_lenK (K := K) rfl) rfl B.len boot_len (pa_cons (pv 5) pa_nil)) (nomark _)) (pss_cons (ps_set (i := 6) sc_first_free.nd rfl (Or.inl rfl) (pe_ix (ix_listK (K := K) rfl) (pv 5) (pe_ix (ix_listK (K := K) rfl) (pv 1) (pv 4) (fun _ _ => rfl)) (fun _ _ => rfl))) (pss_one (ps_if (PW.pt (pw_and (pt_cmpR op_eq (pe_ix (ix_listK (K := K) rfl) (pv 2) (pv 6) (fun _ _ => rfl)) pe_int (nomark _)) (pw_and1 (PW.pt (pw_or (pt_cmpR op_lt (pv 3) pe_int (nomark _)) (pw_or1 (pt_cmpR op_lt (pv 6) (pv 3) (nomark _)))))))) (pss_one (ps_set (i := 3) sc_first_free.nd rfl (Or.inl rfl) (pv 6))) pss_nil))) pss_nil))) (pss_one (ps_ret (pv 3)))), ?_⟩))
  · obtain ⟨v, marks, heads, behind, h, b, M, rfl, _⟩ := h
    rfl
  · obtain ⟨v, marks, heads, behind, h, b, M, rfl, d, eh, eb, hl, hms, g⟩ := h
    obtain ⟨a, ys, rfl, _, ea, dy⟩ := d.lstAt
    have hyl : ys.length = marks.length := by rw [dy.length, List.length_map]
    refine ⟨_, rfl, _, rfl, a, _, rfl, SqL.of ea, for_enum (K := K) (a := a) (xs := ys) (fun i σ H' => ∃ z z2 z3 : Option V, σ = [some (.ref a), some (.ref h), some (.ref b), some (.int (bestI (((marks.zip heads).take i).foldl (fun best p => freeStep behind best p.1 p.2) none))), z, z2, z3] ∧ Same H H') ⟨none, none, none, rfl, Same.refl _⟩ (fun i σ H' _ ⟨_, _, _, _, s1⟩ => SqL.of (s1 _ _ ea)) ?_ ?_⟩
    · rintro i y T σ H' hy ⟨z, z2, z3, rfl, s1⟩ hT
      obtain ⟨ranks, r, hr', rfl, _, er⟩ := dNN_at dy hy
      obtain ⟨hd, hhd, tk⟩ := zip_get hl hr'
      generalize hbest : ((marks.zip heads).take i).foldl (fun best p => freeStep behind best p.1 p.2) none = best
      have hst : ∀ best, List.foldl (fun best (p : List Nat × Nat) => freeStep behind best p.1 p.2) best [(ranks, hd)] = freeStep behind best ranks hd := fun _ => rfl
      rw [tk, List.foldl_append, hbest, hst]
      have sT : Same H (upd H' T (.tup [.int (i : Int), .ref r])) := Same.updNew s1 (s1.free hT)
      refine ⟨T, _, rfl, SqT.of upd_same, rfl, _, _, rfl, _, _, rfl, rfl, ?_⟩
      refine ⟨_, rfl, _, rfl, h, _, _, _, rfl, rfl, SqL.of (sT _ _ eh), atI_nat (j := i) (nV_get hhd), _, rfl, r, _, rfl, .inl (SqL.of (sT _ _ er)), _, _, rfl, rfl, _, rfl, ?_⟩
      rw [List.length_map, List.length_map]
      by_cases c1 : hd < ranks.length
      · refine itT (decide_eq_true (by omega)) ?_
        have hrk : ranks[hd]? = some (ranks.getD hd 0) := by simp [c1]
        generalize hrkk : ranks.getD hd 0 = rk at hrk
        have hb := hms ranks (List.mem_of_getElem? hr') rk (List.mem_of_getElem? hrk)
        refine ⟨_, rfl, _, rfl, _, rfl, h, _, _, _, rfl, rfl, SqL.of (sT _ _ eh), atI_nat (j := i) (nV_get hhd), r, _, _, _, rfl, rfl, SqL.of (sT _ _ er), atI_nat (j := hd) (nV_get hrk), ?_⟩
        refine ⟨_, rfl, _, rfl, b, _, _, _, rfl, rfl, SqL.of (sT _ _ eb), atI_nat (j := rk) (iV_get (getD_get hb)), rfl, _, rfl, ?_⟩
        by_cases c2 : behind.getD rk 0 = 0
        · refine itT (by rw [dec_int, c2]; rfl) ⟨_, rfl, _, _, rfl, rfl, _, rfl, ?_⟩
          cases best with
          | none =>
            refine itT (decide_eq_true (by show (-1 : Int) < 0; omega)) (itT rfl ⟨_, rfl, some (.int (i : Int)), some (.ref r), some (.int (rk : Int)), ?_, sT⟩)
            have e1 : freeStep behind none ranks hd = some rk := by unfold freeStep; rw [hrkk, if_pos ⟨c1, c2, fun b hb => nomatch hb⟩]
            rw [e1]
            rfl
          | some bb =>
            refine itF (decide_eq_false (by show ¬ (bb : Int) < 0; omega)) ⟨_, rfl, _, rfl, _, _, rfl, rfl, _, rfl, ?_⟩
            by_cases c3 : rk < bb
            · refine itT (decide_eq_true (by show (rk : Int) < (bb : Int); omega)) ⟨_, rfl, some (.int (i : Int)), some (.ref r), some (.int (rk : Int)), ?_, sT⟩
              have e1 : freeStep behind (some bb) ranks hd = some rk := by unfold freeStep; rw [hrkk, if_pos ⟨c1, c2, fun b hb => by cases hb; exact c3⟩]
              rw [e1]
              rfl
            · refine itF (decide_eq_false (by show ¬ (rk : Int) < (bb : Int); omega)) ⟨some (.int (i : Int)), some (.ref r), some (.int (rk : Int)), ?_, sT⟩
              have e1 : freeStep behind (some bb) ranks hd = some bb := by unfold freeStep; rw [hrkk, if_neg (fun z => c3 (z.2.2 bb rfl))]
              rw [e1]
              rfl
        · refine itF (by rw [dec_int]; simpa using c2) (itF rfl ⟨some (.int (i : Int)), some (.ref r), some (.int (rk : Int)), ?_, sT⟩)
          have e1 : freeStep behind best ranks hd = best := by unfold freeStep; rw [hrkk, if_neg (fun z => c2 z.2.1)]
          rw [e1]
          rfl
      · refine itF (decide_eq_false (by omega)) ⟨some (.int (i : Int)), some (.ref r), z3, ?_, sT⟩
        have e1 : freeStep behind best ranks hd = best := by unfold freeStep; rw [if_neg (fun z => c1 z.1)]
        rw [e1]
        rfl
    · rintro σ H' ⟨z, z2, z3, rfl, s1⟩
      rw [List.take_of_length_le (by rw [List.length_zip, hyl]; omega)]
      exact ⟨_, rfl, g _ s1⟩
theorem set_mid {α : Type} {x y : α} {r : List α} : ∀ {A : List α} {i : Nat}, A.length = i → (A ++ x :: r).set i y = A ++ y :: r
  | [], _, rfl => rfl
  | a :: A, _, rfl => congrArg (a :: ·) (set_mid (A := A) rfl)
theorem ok_take (D : Df K mg "take" s_take p_take f fd) (B : Blt mg) : Own P w K mg base CX0 1 "take" p_take (spTake C) := by
  refine D.own (D.F.ok sc_take (fun vs H Q E h => ?_) (fun cdv A outer s H vs Q E hr h => ⟨_, pss_one (ps_for PassesOwn.never rfl (pi_enum rfl B.enumerate (pa_cons (pv 0) pa_nil)) (pg_tup rfl (pgs_cons (pg_name (i := 4) sc_take.nd rfl (Or.inl rfl)) (pgs_cons (pg_name (i := 5) sc_take.nd rfl (Or.inl rfl)) pgs_nil))) (pss_one (ps_if (PW.pt (pw_and (pt_cmpR op_lt (pe_ix (ix_listK (K := K) rfl) (pv 1) (pv 4) (fun _ _ => rfl)) (pe_callB (call_lenK (K := K) rfl) rfl B.len boot_len (pa_cons (pv 5) pa_nil)) (nomark _)) (pw_and1 (pt_cmpR op_eq (pe_ix (ix_listK (K := K) rfl) (pv 5) (pe_ix (ix_listK (K := K) rfl) (pv 1) (pv 4) (fun _ _ => rfl)) (fun _ _ => rfl)) (pv 3) (nomark _))))) (pss_cons (ps_augS (pv 1) (pv 4) get_list pe_int ip_add set_list) (pss_one (ps_if (pt_cmpR op_lt (pe_ix (ix_listK (K := K) rfl) (pv 1) (pv 4) (fun _ _ => rfl)) (pe_callB (call_lenK (K := K) rfl) rfl B.len boot_len (pa_cons (pv 5) pa_nil)) (nomark _)) (pss_one (ps_augS (pv 2) (pe_ix (ix_listK (K := K) rfl) (pv 5) (pe_ix (ix_listK (K := K) rfl) (pv 1) (pv 4) (fun _ _ => rfl)) (fun _ _ => rfl)) get_list pe_int ip_sub set_list)) pss_nil))) pss_nil))), ?_⟩))
  · obtain ⟨v, marks, heads, behind, h, b, t, M, rfl, _⟩ := h
    rfl
  · obtain ⟨v, marks, heads, behind, h, b, t, M, rfl, mh, mb, hne, d, eh, eb, hl, hms, g⟩ := h
    obtain ⟨a, ys, rfl, na, ea, dy⟩ := d.lstAt
    have hyl : ys.length = marks.length := by rw [dy.length, List.length_map]
    have ah : a ≠ h := fun z => na (by rw [z]; exact mh)
    have ab : a ≠ b := fun z => na (by rw [z]; exact mb)
    have nab : a ∉ [h, b] := by simp [ah, ab]
    refine ⟨_, rfl, a, _, rfl, SqL.of ea, for_enum (K := K) (a := a) (xs := ys) (fun i σ H' => ∃ z z2 : Option V, σ = [some (.ref a), some (.ref h), some (.ref b), some (.int t), z, z2] ∧ SameB [h, b] H H' ∧
      H' h = some (.lst (nV ((takeM t (marks.take i) (heads.take i) behind).1 ++ heads.drop i))) ∧ H' b = some (.lst (iV (takeM t (marks.take i) (heads.take i) behind).2))) ⟨none, none, rfl, SameB.refl, eh, eb⟩ (fun i σ H' _ ⟨_, _, _, s1, _⟩ => SqL.of (s1 _ _ ea nab)) ?_ ?_⟩
    · rintro i y T σ H' hy ⟨z, z2, rfl, s1, e1, e2⟩ hT
      obtain ⟨ranks, r, hr', rfl, nr, er⟩ := dNN_at dy hy
      have nrb : r ∉ [h, b] := by
        intro z
        rcases List.mem_cons.mp z with z | z
        · exact nr (by rw [z]; exact mh)
        · rcases List.mem_cons.mp z with z | z
          · exact nr (by rw [z]; exact mb)
          · cases z
      have hi := get_some hr'
      obtain ⟨hd, hhd⟩ : ∃ hd, heads[i]? = some hd := ⟨heads[i], List.getElem?_eq_getElem (by omega)⟩
      have tm := take_more hr'
      have th := take_more hhd
      have hdr : heads.drop i = hd :: heads.drop (i + 1) := by
        rw [List.drop_eq_getElem_cons (by omega)]
        rw [(List.getElem?_eq_some_iff.mp hhd).2]
      have lens : (marks.take i).length = (heads.take i).length := by rw [List.length_take, List.length_take, hl]
      have snoc := takeM_snoc t ranks hd (marks.take i) (heads.take i) behind lens
      obtain ⟨l1, l2⟩ := takeM_length t (marks.take i) (heads.take i) behind
      rw [tm, th, snoc]
      generalize htk : takeM t (marks.take i) (heads.take i) behind = tk at e1 e2 l1 l2
      obtain ⟨hs1, b1⟩ := tk
      simp only at e1 e2 l1 l2
      rw [List.length_take] at l1
      have l1' : hs1.length = i := by omega
      rw [hdr] at e1
      have gh : (hs1 ++ hd :: heads.drop (i + 1))[i]? = some hd := by rw [List.getElem?_append_right (by omega), l1']; simp
      have nhT : h ≠ T := fun z => by rw [z, hT] at e1; cases e1
      have nbT : b ≠ T := fun z => by rw [z, hT] at e2; cases e2
      have sT : Same H' (upd H' T (.tup [.int (i : Int), .ref r])) := Same.new hT
      have er1 := s1 _ _ er nrb
      have n1 : h ∈ [h, b] := List.mem_cons_self
      have n2 : b ∈ [h, b] := List.mem_cons_of_mem _ List.mem_cons_self
      have nrh : r ≠ h := fun z => nr (by rw [z]; exact mh)
      have nrb' : r ≠ b := fun z => nr (by rw [z]; exact mb)
      refine ⟨T, _, rfl, SqT.of upd_same, rfl, _, _, rfl, _, _, rfl, rfl, ?_⟩
      refine ⟨_, rfl, _, rfl, h, _, _, _, rfl, rfl, SqL.of (sT _ _ e1), atI_nat (j := i) (nV_get gh), _, rfl, r, _, rfl, .inl (SqL.of (sT _ _ er1)), _, _, rfl, rfl, _, rfl, ?_⟩
      rw [List.length_map, List.length_map]
      by_cases c1 : hd < ranks.length
      · refine itT (decide_eq_true (by omega)) ?_
        have hrk : ranks[hd]? = some (ranks.getD hd 0) := by simp [c1]
        refine ⟨_, rfl, _, rfl, _, rfl, h, _, _, _, rfl, rfl, SqL.of (sT _ _ e1), atI_nat (j := i) (nV_get gh), r, _, _, _, rfl, rfl, SqL.of (sT _ _ er1), atI_nat (j := hd) (nV_get hrk), _, rfl, rfl, _, rfl, ?_⟩
        by_cases c2 : ranks.getD hd 0 = t
        · refine itT (by rw [dec_int, c2]; simp) ?_
          refine ⟨_, rfl, _, rfl, h, nV (hs1 ++ hd :: heads.drop (i + 1)), i, _, rfl, rfl, SqL.of (sT _ _ e1), nV_get gh, _, _, rfl, rfl, h, _, _, i, rfl, rfl, sT _ _ e1, ix_nat (by rw [List.length_map, List.length_map, List.length_append]; simp; omega), ?_⟩
          have es : (nV (hs1 ++ hd :: heads.drop (i + 1))).set i (.int ((hd : Int) + 1)) = nV (hs1 ++ [hd + 1] ++ heads.drop (i + 1)) := by
            have z := nV_set (hs1 ++ hd :: heads.drop (i + 1)) i (hd + 1)
            rw [show ((hd + 1 : Nat) : Int) = (hd : Int) + 1 from by omega] at z
            rw [z]
            rw [set_mid l1']
            simp
          have er2 : ∀ o, upd (upd H' T (.tup [.int (i : Int), .ref r])) h o r = some (.lst (nV ranks)) := fun o => by
            rw [upd_ne nrh]
            exact sT _ _ er1
          have gh2 : (hs1 ++ [hd + 1] ++ heads.drop (i + 1))[i]? = some (hd + 1) := by
            rw [List.append_assoc, List.getElem?_append_right (by omega), l1']; simp
          have eG : (upd (upd H' T (.tup [.int (i : Int), .ref r])) h (.lst ((nV (hs1 ++ hd :: heads.drop (i + 1))).set i (.int ((hd : Int) + 1))))) h = some (.lst (nV (hs1 ++ [hd + 1] ++ heads.drop (i + 1)))) := by rw [upd_same, es]
          have e3 : takeStep t ranks hd b1 = (hd + 1, if hd + 1 < ranks.length then b1.set (ranks.getD (hd + 1) 0) (b1.getD (ranks.getD (hd + 1) 0) 0 - 1) else b1) := by unfold takeStep; rw [if_pos ⟨c1, c2⟩]
          have sT2 : SameB [h, b] H (upd (upd H' T (.tup [.int (i : Int), .ref r])) h (.lst ((nV (hs1 ++ hd :: heads.drop (i + 1))).set i (.int ((hd : Int) + 1))))) := (s1.trans (SameB.of sT)).trans (SameB.upd n1)
          have eb2 : (upd (upd H' T (.tup [.int (i : Int), .ref r])) h (.lst ((nV (hs1 ++ hd :: heads.drop (i + 1))).set i (.int ((hd : Int) + 1))))) b = some (.lst (iV b1)) := by
            rw [upd_ne (Ne.symm hne)]
            exact sT _ _ e2
          refine ⟨_, rfl, _, rfl, h, _, _, _, rfl, rfl, SqL.of eG, atI_nat (j := i) (nV_get gh2), _, rfl, r, _, rfl, .inl (SqL.of (er2 _)), _, _, rfl, rfl, _, rfl, ?_⟩
          rw [List.length_map, List.length_map]
          rw [e3]
          by_cases c3 : hd + 1 < ranks.length
          · rw [if_pos c3]
            have hrk2 : ranks[hd + 1]? = some (ranks.getD (hd + 1) 0) := by simp [c3]
            generalize ranks.getD (hd + 1) 0 = rk2 at hrk2
            have hb2 := hms ranks (List.mem_of_getElem? hr') rk2 (List.mem_of_getElem? hrk2)
            have hb3 : rk2 < b1.length := by omega
            refine itT (decide_eq_true (by omega)) ⟨_, rfl, _, rfl, _, rfl, _, rfl, h, _, _, _, rfl, rfl, SqL.of eG, atI_nat (j := i) (nV_get gh2), r, _, _, _, rfl, rfl, SqL.of (er2 _), atI_nat (j := hd + 1) (nV_get hrk2), b, iV b1, rk2, _, rfl, rfl, SqL.of eb2, iV_get (getD_get hb3), _, _, rfl, rfl, b, _, _, rk2, rfl, rfl, eb2, ix_nat (by rw [List.length_map]; exact hb3), ?_⟩
            refine ⟨some (.int (i : Int)), some (.ref r), rfl, sT2.trans (SameB.upd n2), ?_, ?_⟩
            · rw [upd_ne hne]
              exact eG
            · rw [upd_same]
              show some (HO.lst ((iV b1).set rk2 (.int (b1.getD rk2 0 - 1)))) = _
              rw [iV_set]
          · rw [if_neg c3]
            refine itF (decide_eq_false (by omega)) ⟨some (.int (i : Int)), some (.ref r), rfl, sT2, eG, eb2⟩
        · refine itF (by rw [dec_int]; simp only [beq_eq_false_iff_ne]; omega) ?_
          have e3 : takeStep t ranks hd b1 = (hd, b1) := by unfold takeStep; rw [if_neg (fun z => c2 z.2)]
          refine ⟨_, _, rfl, s1.trans (SameB.of sT), ?_, ?_⟩
          · rw [e3]
            simpa using sT _ _ e1
          · rw [e3]
            exact sT _ _ e2
      · refine itF (decide_eq_false (by omega)) (itF rfl ?_)
        have e3 : takeStep t ranks hd b1 = (hd, b1) := by unfold takeStep; rw [if_neg (fun z => c1 z.1)]
        refine ⟨_, _, rfl, s1.trans (SameB.of sT), ?_, ?_⟩
        · rw [e3]
          simpa using sT _ _ e1
        · rw [e3]
          exact sT _ _ e2
    · rintro σ H' ⟨z, z2, rfl, s1, e1, e2⟩
      rw [hyl, List.take_length, ← hl, List.take_length] at e1 e2
      rw [List.drop_length, List.append_nil] at e1
      exact g _ s1 e1 e2
end
end Pg

/-! PgN: merged, agree -/
namespace Pg
open PySem PySem.Spec PyProof.Rows L2
theorem freeStep_mem {behind : List Int} {best : Option Nat} {ranks : List Nat} {hd r : Nat} (h : freeStep behind best ranks hd = some r) : best = some r ∨ r ∈ ranks := by
  unfold freeStep at h
  split at h
  · next c =>
    cases h
    right
    have e : ranks[hd]? = some (ranks.getD hd 0) := by simp [c.1]
    exact List.mem_of_getElem? e
  · exact .inl h
theorem firstFree_mem {marks : List (List Nat)} {heads : List Nat} {behind : List Int} {r : Nat} (h : firstFree marks heads behind = some r) : ∃ ranks ∈ marks, r ∈ ranks := by
  have go : ∀ (l : List (List Nat × Nat)) (best : Option Nat), l.foldl (fun best p => freeStep behind best p.1 p.2) best = some r → best = some r ∨ ∃ p ∈ l, r ∈ p.1 := by
    intro l
    induction l with
    | nil => intro best h; exact .inl h
    | cons p l ih =>
      intro best h
      rcases ih _ h with z | ⟨p', hp', z⟩
      · rcases freeStep_mem z with z | z
        · exact .inl z
        · exact .inr ⟨p, List.mem_cons_self, z⟩
      · exact .inr ⟨p', List.mem_cons_of_mem _ hp', z⟩
  rcases go _ _ h with z | ⟨p, hp, z⟩
  · cases z
  · exact ⟨p.1, (List.of_mem_zip (show (p.1, p.2) ∈ _ from hp)).1, z⟩
/-- what is new may change -/
theorem SameB.fresh {N : List Addr} {H H1 H2 : Hp} (s : Same H H1) (n : ∀ b ∈ N, H b = none) (t : SameB N H1 H2) : Same H H2 := fun b o e => t b o (s b o e) fun z => by rw [n b z] at e; cases e
section
variable {P : Program} {w : World} {K : PySem.W.Frag} {mg : Str → Option Value} {base : Heap} {C : Addr} {f : Addr} {fd : FuncData}
theorem flat_len {xs : List (List Nat)} {rows : List Nat} (h : rows ∈ xs) : rows.length ≤ xs.flatten.length := by
  induction xs with
  | nil => cases h
  | cons a l ih =>
    rw [List.flatten_cons, List.length_append]
    rcases List.mem_cons.mp h with z | z
    · rw [z]; omega
    · have := ih z; omega
theorem idxOf_lt {o : List Nat} {r : Nat} (h : r ∈ o) : o.idxOf r < o.length := List.idxOf_lt_length_of_mem h
theorem ok_merged (D : Df K mg "merged" s_merged p_merged f fd) (B : Blt mg) (O_first_come : Own P w K mg base CX0 1 "first_come" p_first_come (spFirstCome C)) (O_ranked : Own P w K mg base CX0 2 "ranked" p_ranked (spRanked C))
    (O_counted_behind : Own P w K mg base CX0 1 "counted_behind" p_counted_behind (spCountedBehind C)) (O_first_free : Own P w K mg base CX0 1 "first_free" p_first_free (spFirstFree C)) (O_take : Own P w K mg base CX0 1 "take" p_take (spTake C)) :
    Own P w K mg base CX0 3 "merged" p_merged (spMerged C) := by
  refine D.own (D.F.ok sc_merged (fun vs H Q E h => ?_) (fun cdv A outer s H vs Q E hr h => ⟨_, pss_cons (ps_set (i := 1) sc_merged.nd rfl (Or.inl rfl) (pe_own O_first_come hr (pa_cons (pv 0) pa_nil))) (pss_cons (ps_set (i := 2) sc_merged.nd rfl (Or.inl rfl) (pe_own O_ranked hr (pa_cons (pv 0) (pa_cons (pv 1) pa_nil)))) (pss_cons (ps_setLc (i := 3) (own := [("ranks", 8)]) (g := gName 8) (tt := tYes) rfl sc_merged.nd rfl rfl (sw_true rfl rfl rfl (by decide +kernel)) (pi_list (pv 2)) (blkOk_by (N := n_merged) (sc := defScope s_merged) (by decide +kernel)) (fun _ _ _ _ _ => pg_name (i := 8) sc_merged.nd rfl (Or.inl rfl)) (fun _ _ _ _ _ => pts_nil) (fun _ _ _ _ _ => pe_int)) (pss_cons (ps_set (i := 4) sc_merged.nd rfl (Or.inl rfl) (pe_own O_counted_behind hr (pa_cons (pv 2) (pa_cons (pe_callB (call_lenK (K := K) rfl) rfl B.len boot_len (pa_cons (pv 1) pa_nil)) pa_nil)))) (pss_cons (ps_set (i := 5) sc_merged.nd rfl (Or.inl rfl) (pe_lst pa_nil)) (pss_cons (ps_for PassesOwn.never rfl (pi_range1 rfl B.range (pa_cons (pe_callB (call_lenK (K := K) rfl) rfl B.len boot_len (pa_cons (pv 1) pa_nil)) pa_nil)) (pg_name (i := 6) sc_merged.nd rfl (Or.inl rfl)) (pss_cons (ps_set (i := 7) sc_merged.nd rfl (Or.inl rfl) (pe_own O_first_free hr (pa_cons (pv 2) (pa_cons (pv 3) (pa_cons (pv 4) pa_nil))))) (pss_cons (ps_if (pt_cmpR op_lt (pv 7) pe_int (nomark _)) (pss_one (ps_ret (pv 5))) pss_nil) (pss_cons (ps_expr (pe_bm PySem.F.plainAttrs_list PySem.F.slot_list_append PySem.F.type_list_append mt_append (pv 5) (pa_cons (pe_ix (ix_listK (K := K) rfl) (pv 1) (pv 7) (fun _ _ => rfl)) pa_nil))) (pss_one (ps_expr (pe_own O_take hr (pa_cons (pv 2) (pa_cons (pv 3) (pa_cons (pv 4) (pa_cons (pv 7) pa_nil))))))))))) (pss_one (ps_ret (pv 5)))))))), ?_⟩))
  · obtain ⟨v, xs, M, rfl, _⟩ := h
    rfl
  · obtain ⟨v, xs, M, rfl, off, d, hx, hf, g⟩ := h
    obtain ⟨lo, _, rfl, _⟩ := d.lstAt
    refine ⟨_, rfl, .ref lo, xs, M, rfl, off, d, hf, fun p H1 s1 np e1 => ?_⟩
    have o1 := off.same s1
    have dp1 : DAt C M H1 (.ref p) (dN (firstCome xs)) := .dI (off.new np) e1
    obtain ⟨hnd, hmem⟩ := firstCome_mem (xs := xs)
    have hol : (firstCome xs).length ≤ 20000 := by
      have := foldl_addNew_le xs.flatten []
      simp only [List.length_nil] at this
      have e : (firstCome xs).length = (xs.flatten.foldl addNew []).length := rfl
      omega
    refine ⟨_, rfl, _, rfl, .ref lo, .ref p, xs, firstCome xs, M, rfl, o1, d.same s1, dp1, hnd, hol, hx, fun rows hr => ⟨Nat.le_trans (flat_len hr) hf, fun r hr2 => (hmem r).mpr ⟨rows, hr, hr2⟩⟩, fun r2 H2 s2 d2 => ?_⟩
    generalize hord : firstCome xs = order at *
    generalize hmk : rankedM xs order = marks at d2
    have hml : marks.length = xs.length := by rw [← hmk]; simp [rankedM]
    have hms : ∀ ranks ∈ marks, ranks.length ≤ 20000 ∧ ∀ r ∈ ranks, r < order.length := by
      intro ranks hrk
      rw [← hmk] at hrk
      obtain ⟨rows, hr1, rfl⟩ := List.mem_map.mp hrk
      refine ⟨by rw [List.length_map]; exact Nat.le_trans (flat_len hr1) hf, fun r hr2 => ?_⟩
      obtain ⟨z, hz, rfl⟩ := List.mem_map.mp hr2
      exact idxOf_lt ((hmem z).mpr ⟨rows, hr1, hz⟩)
    have o2 := o1.same s2
    obtain ⟨m, ys, rfl, nm, em, dy⟩ := d2.lstAt
    have hyl : ys.length = marks.length := by rw [dy.length, List.length_map]
    refine ⟨_, rfl, m, rfl, ⟨_, SqL.of em⟩, fun h hh => lc_map (C := C) (M := M) (es := ((marks.map fun _ => 0).map natI).map Dat.int) (SqL.of em) o2 hh (by rw [hyl]; simp) (by rw [hyl, hml]; exact ten_line hx) (fun j y e H' Q' hy he s o q => ?_) (fun H3 s3 d3 => ?_)⟩
    · have e0 : e = .int 0 := by
        have hj := get_some hy
        rw [hyl] at hj
        have z : (((marks.map fun _ => 0).map natI).map Dat.int)[j]? = some (.int 0) := by simp [hj, natI]
        rw [z] at he
        cases he
        rfl
      subst e0
      exact q _ _ (Same.refl _) (.int 0)
    · obtain ⟨h', eh', _, eh3⟩ := d3.dIAt
      cases eh'
      have nh : H h = none := s1.free (s2.free hh)
      have o3 := o2.same s3
      have ep3 := s3 _ _ (s2 _ _ e1)
      refine ⟨_, rfl, _, rfl, p, _, rfl, .inl (SqL.of ep3), .ref m, marks, order.length, M, by rw [List.length_map, List.length_map], o3, d2.same s3, hol, hms, fun b H4 s4 nb e4 => ?_⟩
      refine ⟨zero_line, fun q hq => ?_⟩
      have nbH : H b = none := s1.free (s2.free (s3.free nb))
      have nqH : H q = none := s1.free (s2.free (s3.free (s4.free hq)))
      have nhb : h ≠ b := fun z => by rw [z, nb] at eh3; cases eh3
      have eh4 := s4 _ _ eh3
      have nhq : h ≠ q := fun z => by rw [z, hq] at eh4; cases eh4
      have nbq : b ≠ q := fun z => by rw [z, hq] at e4; cases e4
      have ep4 := s4 _ _ ep3
      have s24 := (s2.trans s3).trans s4
      have npN : p ∉ [q, b, h] := by
        intro z
        simp only [List.mem_cons, List.not_mem_nil, or_false] at z
        rcases z with z | z | z
        · rw [z, hq] at ep4; cases ep4
        · rw [z, nb] at ep3; cases ep3
        · have := s2 _ _ e1
          rw [z, hh] at this; cases this
      have dm5 : DAt C (q :: b :: h :: M) (upd H4 q (.lst [])) (.ref m) (dNN marks) := ((((d2.more hh).same s3).more nb).same s4 |>.more hq).same (Same.new hq)
      have S5 : Same H (upd H4 q (.lst [])) := Same.updNew ((s1.trans s24)) nqH
      have hN : ∀ x ∈ [q, b, h], H x = none := by
        intro x hx
        simp only [List.mem_cons, List.not_mem_nil, or_false] at hx
        rcases hx with z | z | z <;> rw [z] <;> assumption
      have ep5 : upd H4 q (.lst []) p = some (.lst (nV order)) := by
        rw [upd_ne (fun z => npN (by rw [z]; simp))]
        exact ep4
      refine ⟨_, rfl, p, _, rfl, .inl (SqL.of ep5), _, rfl, (by rw [List.length_map, List.length_map]; omega), (by rw [List.length_map, List.length_map]; omega), ?_⟩
      have en : (((nV order).length : Nat) : Int).toNat = order.length := by rw [List.length_map, List.length_map]; omega
      rw [en]
      refine for_range (lo := 0) (n := order.length) (fun i σ H' => ∃ (acc heads : List Nat) (behind : List Int) (z z2 z3 : Option V), σ = [some (.ref lo), some (.ref p), some (.ref m), some (.ref h), some (.ref b), some (.ref q), z, z2, z3] ∧ SameB [q, b, h] (upd H4 q (.lst [])) H' ∧
        H' q = some (.lst (nV acc)) ∧ H' h = some (.lst (nV heads)) ∧ H' b = some (.lst (iV behind)) ∧ heads.length = marks.length ∧ behind.length = order.length ∧ acc.length = i ∧ acc ++ mergeGo order marks (order.length - i) heads behind = mergedM xs)
        ⟨[], marks.map fun _ => 0, behindM marks order.length, none, none, none, rfl, SameB.refl, upd_same, by rw [upd_ne nhq]; exact eh4, by rw [upd_ne nbq]; exact e4, by simp, by unfold behindM; rw [behinds_length, List.length_replicate], rfl, ?_⟩ ?_ ?_
      · rw [Nat.sub_zero, List.nil_append]
        unfold mergedM
        simp only [hord, hmk]
      · rintro i σ H' hi ⟨acc, heads, behind, z, z2, z3, rfl, s5, eq5, eh5, eb5, hl1, hl2, hl3, hgo⟩
        have dm' : DAt C (q :: b :: h :: M) H' (.ref m) (dNN marks) := dm5.sameB fun x o e n => s5 x o e fun z => n (by simp only [List.mem_cons, List.not_mem_nil, or_false] at z ⊢; rcases z with z | z | z <;> simp [z])
        have ep' := s5 _ _ ep5 npN
        obtain ⟨k, hk⟩ : ∃ k, order.length - i = k + 1 := ⟨order.length - i - 1, by omega⟩
        rw [hk] at hgo
        refine ⟨_, rfl, _, rfl, _, rfl, .ref m, marks, heads, behind, h, b, q :: b :: h :: M, rfl, dm', eh5, eb5, hl1, fun ranks hr r hr2 => by rw [hl2]; exact (hms ranks hr).2 r hr2, fun H6 s6 => ?_⟩
        refine ⟨_, rfl, _, _, rfl, rfl, _, rfl, ?_⟩
        have eq6 := s6 _ _ eq5
        cases hff : firstFree marks heads behind with
        | none =>
          refine itT (decide_eq_true (by show (-1 : Int) < 0; omega)) ⟨_, rfl, ?_⟩
          have e0 : mergeGo order marks (k + 1) heads behind = [] := by unfold mergeGo; rw [hff]
          rw [e0, List.append_nil] at hgo
          rw [← hgo] at g
          exact g q _ ((SameB.fresh S5 hN s5).trans s6) nqH eq6
        | some r =>
          refine itF (decide_eq_false (by show ¬ (r : Int) < 0; omega)) ?_
          obtain ⟨ranks, hrk, hr2⟩ := firstFree_mem hff
          have hro := (hms ranks hrk).2 r hr2
          have hget : order[r]? = some (order.getD r 0) := by simp [hro]
          have ep6 := s6 _ _ ep'
          have e0 : mergeGo order marks (k + 1) heads behind = order.getD r 0 :: mergeGo order marks k (takeM r marks heads behind).1 (takeM r marks heads behind).2 := by
            rw [mergeGo, hff]
          rw [e0] at hgo
          refine ⟨_, rfl, .inl ⟨rfl, _, SqL.of eq6⟩, _, rfl, _, rfl, p, _, (r : Nat), _, rfl, rfl, SqL.of ep6, atI_nat (j := r) (nV_get hget), q, nV acc, _, rfl, rfl, eq6, by rw [List.length_map, List.length_map, sizeLine_eq]; omega, ?_⟩
          have eh6 := s6 _ _ eh5
          have eb6 := s6 _ _ eb5
          refine ⟨_, rfl, _, rfl, _, rfl, _, rfl, .ref m, marks, heads, behind, h, b, r, q :: b :: h :: M, rfl, by simp, by simp, nhb, (dm'.same s6).sameB (SameB.upd (by simp)), by rw [upd_ne nhq]; exact eh6, by rw [upd_ne nbq]; exact eb6, hl1, fun ranks hr r hr2 => by rw [hl2]; exact (hms ranks hr).2 r hr2, fun H7 s7 eh7 eb7 => ?_⟩
          obtain ⟨hL1, hL2⟩ := takeM_length r marks heads behind
          have eq7 := s7 q _ upd_same (by simp [Ne.symm nhq, Ne.symm nbq])
          refine ⟨acc ++ [order.getD r 0], (takeM r marks heads behind).1, (takeM r marks heads behind).2, _, _, z3, rfl, ?_, ?_, eh7, eb7, by rw [hL1, hl1], by rw [hL2, hl2], by simp [hl3], ?_⟩
          · intro x o e n
            have n' : x ≠ q ∧ x ≠ b ∧ x ≠ h := by simpa using n
            refine s7 x o ?_ (by simp [n'.2.1, n'.2.2])
            rw [upd_ne n'.1]
            exact s6 _ _ (s5 x o e n)
          · rw [eq7]
            simp
          · rw [show order.length - (i + 1) = k from by omega, List.append_assoc]
            exact hgo
      · rintro σ H' ⟨acc, heads, behind, z, z2, z3, rfl, s5, eq5, eh5, eb5, hl1, hl2, hl3, hgo⟩
        rw [Nat.sub_self, show mergeGo order marks 0 heads behind = [] from rfl, List.append_nil] at hgo
        rw [← hgo] at g
        exact ⟨_, rfl, g q _ (SameB.fresh S5 hN s5) nqH eq5⟩
theorem ok_agree (D : Df K mg "agree" s_agree p_agree f fd) (B : Blt mg) (O_first_come : Own P w K mg base CX0 1 "first_come" p_first_come (spFirstCome C)) (O_merged : Own P w K mg base CX0 3 "merged" p_merged (spMerged C)) :
    Own P w K mg base CX0 4 "agree" p_agree (spAgree C) := by
  refine D.own (D.F.ok sc_agree (fun vs H Q E h => ?_) (fun cdv A outer s H vs Q E hr h => ⟨_, pss_one (ps_ret (pe_cmpR op_eq (pe_callB (call_lenK (K := K) rfl) rfl B.len boot_len (pa_cons (pe_own O_merged hr (pa_cons (pv 0) pa_nil)) pa_nil)) (pe_callB (call_lenK (K := K) rfl) rfl B.len boot_len (pa_cons (pe_own O_first_come hr (pa_cons (pv 0) pa_nil)) pa_nil)) (nomark _))), ?_⟩))
  · obtain ⟨v, xs, M, rfl, _⟩ := h
    rfl
  · obtain ⟨v, xs, M, rfl, off, d, hx, hf, g⟩ := h
    refine ⟨_, rfl, v, xs, M, rfl, off, d, hx, hf, fun a H1 s1 na ea => ?_⟩
    refine ⟨a, _, rfl, .inl (SqL.of ea), _, rfl, v, xs, M, rfl, off.same s1, d.same s1, hf, fun p H2 s2 np e2 => ?_⟩
    refine ⟨p, _, rfl, .inl (SqL.of e2), rfl, ?_⟩
    have z : agreeM xs = decide (V.int ((nV (mergedM xs)).length : Nat) = V.int ((nV (firstCome xs)).length : Nat)) := by
      rw [dec_int]
      unfold agreeM
      rw [List.length_map, List.length_map, List.length_map, List.length_map]
      by_cases c : (mergedM xs).length = (firstCome xs).length
      · simp [c]
      · have : ((mergedM xs).length : Int) ≠ ((firstCome xs).length : Int) := by omega
        simp [c, this]
    rw [z] at g
    exact g.bl (s1.trans s2)
end
end Pg

/-! PgO: min and max with default=, module pages -/
namespace Pg
open PySem PySem.Spec PyProof.Rows L2
/-- the least (the greatest) of these, d if there is none -/
def leastI (d : Int) : List Int → Int
  | [] => d
  | n :: r => r.foldl min n
def mostIn (d : Int) : List Int → Int
  | [] => d
  | n :: r => r.foldl max n
def rMinD (K : PySem.W.Frag) : List V → List V → Hp → VK → Prop := fun vs zs H Q => ∃ (a : Addr) (ns : List Int) (d : Int), vs = [.ref a] ∧ zs = [.int d] ∧ SqL K H a (ns.map V.int) ∧ Q (.int (leastI d ns)) H
def rMaxD (K : PySem.W.Frag) : List V → List V → Hp → VK → Prop := fun vs zs H Q => ∃ (a : Addr) (ns : List Int) (d : Int), vs = [.ref a] ∧ zs = [.int d] ∧ SqL K H a (ns.map V.int) ∧ Q (.int (mostIn d ns)) H
theorem reads_ints {h : Heap} : ∀ {vs : List Value} {ns : List Int}, IntsAre vs ns → ReadsAll h vs (ns.map PyData.int) []
  | _, _, .nil => .nil
  | _, _, .cons n t r => ReadsAll.cons (as := []) (bs := []) (Reads.int n t) (reads_ints r)
theorem alike_ints (ns : List Int) : PySem.W.AlikeAll (ns.map PyData.int) := PySem.W.alikeAll_datum (α := Int) ns
theorem depth_ints : ∀ ns : List Int, PyData.depthAll (ns.map PyData.int) = 0
  | [] => by simp [PyData.depthAll]
  | n :: r => by
    rw [List.map_cons]
    simp only [PyData.depthAll, PyData.depth, depth_ints r]
    rfl
section
variable {X : Cx}
theorem cr_minD (hc : X.calm = true) (hu : X.A.units + 64 < cLine) : CallRK X (.builtin "min") [Str.ofString "default"] (rMinD X.K) := by
  intro pins s σ H vs zs us ws Q I r rz h
  obtain ⟨a, ns, d, rfl, rfl, hs, q⟩ := h
  obtain rfl := Vals.ref1 r
  obtain ⟨w1, rfl, ⟨t, rfl⟩⟩ := vals1 rz
  obtain ⟨its, rv, hl, hz⟩ := I.list hs
  refine PySem.W.min_list_default (I.ok.hd hc) hl.isList (reads_ints (h := s.heap) rv.ints) (alike_ints ns) (by rw [depth_ints]; omega) (fun e h' tk hk => ?_) (fun y ys i v h' tk bs e hi rd hk => ?_)
  · have e' : ns = [] := List.map_eq_nil_iff.mp e
    subst e'
    exact ⟨.int d, H, I.kept hk, ⟨_, rfl⟩, q⟩
  · cases ns with
    | nil => cases e
    | cons n r =>
      rw [List.map_cons] at e
      cases e
      rw [PySem.W.minD_ints] at rd
      cases rd
      exact ⟨.int _, H, I.kept hk, ⟨_, rfl⟩, q⟩
theorem cr_maxD (hc : X.calm = true) (hu : X.A.units + 64 < cLine) : CallRK X (.builtin "max") [Str.ofString "default"] (rMaxD X.K) := by
  intro pins s σ H vs zs us ws Q I r rz h
  obtain ⟨a, ns, d, rfl, rfl, hs, q⟩ := h
  obtain rfl := Vals.ref1 r
  obtain ⟨w1, rfl, ⟨t, rfl⟩⟩ := vals1 rz
  obtain ⟨its, rv, hl, hz⟩ := I.list hs
  refine PySem.W.max_list_default (I.ok.hd hc) hl.isList (reads_ints (h := s.heap) rv.ints) (alike_ints ns) (by rw [depth_ints]; omega) (fun e h' tk hk => ?_) (fun y ys i v h' tk bs e hi rd hk => ?_)
  · have e' : ns = [] := List.map_eq_nil_iff.mp e
    subst e'
    exact ⟨.int d, H, I.kept hk, ⟨_, rfl⟩, q⟩
  · cases ns with
    | nil => cases e
    | cons n r =>
      rw [List.map_cons] at e
      cases e
      rw [PySem.W.maxD_ints] at rd
      cases rd
      exact ⟨.int _, H, I.kept hk, ⟨_, rfl⟩, q⟩
end
/-! ### the mirror -/
def shareM (a b : List Nat) : Bool := a.any fun r => decide (r ∈ b)
def joinedM (marks : List Nat) (f s : Nat) : List Nat := marks.map fun m => if m = (if s > f then s else f) then (if s < f then s else f) else m
def joinStep (lists : List (List Nat)) (later : Nat) (marks : List Nat) (earlier : Nat) : List Nat :=
  if shareM (lists.getD earlier []) (lists.getD later []) = true then joinedM marks (marks.getD earlier 0) (marks.getD later 0) else marks
def groupM (lists : List (List Nat)) : List Nat := (List.range lists.length).foldl (fun marks later => (List.range later).foldl (joinStep lists later) marks) (List.range lists.length)
def marksOf (ps : List Page) : List Nat := groupM (ps.map (·.rows))
def markedM (marks : List Nat) (m : Nat) : List Nat := (List.range marks.length).filter fun i => decide (marks.getD i 0 = m)
def firstsM (marks : List Nat) : List Nat := (List.range marks.length).filter fun i => decide (marks.getD i 0 = i)
def linkedM (ps : List Page) : List (List Nat) := (firstsM (marksOf ps)).map (markedM (marksOf ps))
def pgAt (ps : List Page) (i : Nat) : Page := ps.getD i ⟨0, []⟩
def endMarksM (size : Nat) (ps : List Page) (marks : List Nat) : List Nat := ((List.range ps.length).filter fun i => decide ((pgAt ps i).rows.length < size)).map fun i => marks.getD i 0
def endingM (size : Nat) (ps : List Page) : List Bool := (marksOf ps).map fun m => decide (m ∈ endMarksM size ps (marksOf ps))
def mostI (size : Nat) (ps : List Page) : Int := leastI (-1) (((List.range ps.length).filter fun i => (endingM size ps).getD i false).map fun i => ((pgAt ps i).offset : Int))
def certainM (size : Nat) (ps : List Page) : Bool := decide (mostI size ps = 0)
def beginM (ps : List Page) : Bool := (markedM (marksOf ps) ((marksOf ps).getD (ps.length - 1) 0)).any fun i => decide ((pgAt ps i).offset = 0)
def nextI (size : Nat) (ps : List Page) : Int :=
  if certainM size ps = true then -1 else if ps.length = 0 then 0
  else if beginM ps = true then ((pgAt ps (ps.length - 1)).offset : Int) + size - 1
  else (if (0 : Int) > ((pgAt ps (ps.length - 1)).offset : Int) - ((size : Int) - 1) then 0 else ((pgAt ps (ps.length - 1)).offset : Int) - ((size : Int) - 1))
abbrev s_share : Stmt := top 64
abbrev n_share : List Str := ["first", "second", "row"]
abbrev p_share : List Str := ["first", "second"]
theorem sc_share : FnScope n_share p_share (defScope s_share) := ⟨rfl, rfl, rfl, by decide +kernel, rfl, by decide +kernel, by decide +kernel⟩
abbrev s_joined : Stmt := top 65
abbrev n_joined : List Str := ["marks", "first", "second", "low", "high", "mark"]
abbrev p_joined : List Str := ["marks", "first", "second"]
theorem sc_joined : FnScope n_joined p_joined (defScope s_joined) := ⟨rfl, rfl, rfl, by decide +kernel, rfl, by decide +kernel, by decide +kernel⟩
abbrev s_group_marks : Stmt := top 66
abbrev n_group_marks : List Str := ["pages", "lists", "marks", "later", "earlier"]
abbrev p_group_marks : List Str := ["pages"]
theorem sc_group_marks : FnScope n_group_marks p_group_marks (defScope s_group_marks) := ⟨rfl, rfl, rfl, by decide +kernel, rfl, by decide +kernel, by decide +kernel⟩
abbrev s_pages_marked : Stmt := top 67
abbrev n_pages_marked : List Str := ["marks", "wanted", "at"]
abbrev p_pages_marked : List Str := ["marks", "wanted"]
theorem sc_pages_marked : FnScope n_pages_marked p_pages_marked (defScope s_pages_marked) := ⟨rfl, rfl, rfl, by decide +kernel, rfl, by decide +kernel, by decide +kernel⟩
abbrev s_linked_groups : Stmt := top 68
abbrev n_linked_groups : List Str := ["pages", "marks", "firsts", "at", "first"]
abbrev p_linked_groups : List Str := ["pages"]
theorem sc_linked_groups : FnScope n_linked_groups p_linked_groups (defScope s_linked_groups) := ⟨rfl, rfl, rfl, by decide +kernel, rfl, by decide +kernel, by decide +kernel⟩
abbrev s_ending_marks : Stmt := top 69
abbrev n_ending_marks : List Str := ["size", "pages", "marks", "at"]
abbrev p_ending_marks : List Str := ["size", "pages", "marks"]
theorem sc_ending_marks : FnScope n_ending_marks p_ending_marks (defScope s_ending_marks) := ⟨rfl, rfl, rfl, by decide +kernel, rfl, by decide +kernel, by decide +kernel⟩
abbrev s_ending_pages : Stmt := top 70
abbrev n_ending_pages : List Str := ["size", "pages", "marks", "endings", "mark"]
abbrev p_ending_pages : List Str := ["size", "pages"]
theorem sc_ending_pages : FnScope n_ending_pages p_ending_pages (defScope s_ending_pages) := ⟨rfl, rfl, rfl, by decide +kernel, rfl, by decide +kernel, by decide +kernel⟩
abbrev s_most_missed : Stmt := top 71
abbrev n_most_missed : List Str := ["size", "pages", "ending", "offsets", "at"]
abbrev p_most_missed : List Str := ["size", "pages"]
theorem sc_most_missed : FnScope n_most_missed p_most_missed (defScope s_most_missed) := ⟨rfl, rfl, rfl, by decide +kernel, rfl, by decide +kernel, by decide +kernel⟩
abbrev s_is_certain : Stmt := top 72
abbrev n_is_certain : List Str := ["size", "pages"]
abbrev p_is_certain : List Str := ["size", "pages"]
theorem sc_is_certain : FnScope n_is_certain p_is_certain (defScope s_is_certain) := ⟨rfl, rfl, rfl, by decide +kernel, rfl, by decide +kernel, by decide +kernel⟩
abbrev s_last_has_begin : Stmt := top 73
abbrev n_last_has_begin : List Str := ["pages", "marks", "at"]
abbrev p_last_has_begin : List Str := ["pages"]
theorem sc_last_has_begin : FnScope n_last_has_begin p_last_has_begin (defScope s_last_has_begin) := ⟨rfl, rfl, rfl, by decide +kernel, rfl, by decide +kernel, by decide +kernel⟩
abbrev s_next_offset : Stmt := top 74
abbrev n_next_offset : List Str := ["size", "pages", "last"]
abbrev p_next_offset : List Str := ["size", "pages"]
theorem sc_next_offset : FnScope n_next_offset p_next_offset (defScope s_next_offset) := ⟨rfl, rfl, rfl, by decide +kernel, rfl, by decide +kernel, by decide +kernel⟩
section
variable (C : Addr)
def spShare : Sp := fun vs H Q _ => ∃ (v u : V) (a b : List Nat) (M : List Addr), vs = [v, u] ∧ DAt C M H v (dN a) ∧ DAt C M H u (dN b) ∧ Q (.bl (shareM a b)) H
def spJoined : Sp := fun vs H Q _ => ∃ (v : V) (marks : List Nat) (f s : Nat) (M : List Addr), vs = [v, .int f, .int s] ∧ Off M H ∧ DAt C M H v (dN marks) ∧ marks.length ≤ 20000 ∧ Gives C M H Q (dN (joinedM marks f s))
def spGroupMarks : Sp := fun vs H Q _ => ∃ (v : V) (ps : List Page) (M : List Addr), vs = [v] ∧ Off M H ∧ DAt C M H v (pagesD ps) ∧ ps.length ≤ 20000 ∧ Gives C M H Q (dN (marksOf ps))
def spPagesMarked : Sp := fun vs H Q _ => ∃ (v : V) (marks : List Nat) (m : Nat) (M : List Addr), vs = [v, .int m] ∧ Off M H ∧ DAt C M H v (dN marks) ∧ marks.length ≤ 20000 ∧ Gives C M H Q (dN (markedM marks m))
def spLinkedGroups : Sp := fun vs H Q _ => ∃ (v : V) (ps : List Page) (M : List Addr), vs = [v] ∧ Off M H ∧ DAt C M H v (pagesD ps) ∧ ps.length ≤ 20000 ∧ Gives C M H Q (dNN (linkedM ps))
def spEndingMarks : Sp := fun vs H Q _ => ∃ (v u : V) (size : Nat) (ps : List Page) (marks : List Nat) (M : List Addr), vs = [.int size, v, u] ∧ Off M H ∧ DAt C M H v (pagesD ps) ∧ DAt C M H u (dN marks) ∧ marks.length = ps.length ∧ ps.length ≤ 20000 ∧ Gives C M H Q (dN (endMarksM size ps marks))
def spEndingPages : Sp := fun vs H Q _ => ∃ (v : V) (size : Nat) (ps : List Page) (M : List Addr), vs = [.int size, v] ∧ Off M H ∧ DAt C M H v (pagesD ps) ∧ ps.length ≤ 20000 ∧ Gives C M H Q (.lst ((endingM size ps).map Dat.bl))
def spMostMissed : Sp := fun vs H Q _ => ∃ (v : V) (size : Nat) (ps : List Page) (M : List Addr), vs = [.int size, v] ∧ Off M H ∧ DAt C M H v (pagesD ps) ∧ ps.length ≤ 20000 ∧ Gives C M H Q (.int (mostI size ps))
def spIsCertain : Sp := fun vs H Q _ => ∃ (v : V) (size : Nat) (ps : List Page) (M : List Addr), vs = [.int size, v] ∧ Off M H ∧ DAt C M H v (pagesD ps) ∧ ps.length ≤ 20000 ∧ Gives C M H Q (.bl (certainM size ps))
def spLastHasBegin : Sp := fun vs H Q _ => ∃ (v : V) (ps : List Page) (M : List Addr), vs = [v] ∧ Off M H ∧ DAt C M H v (pagesD ps) ∧ 0 < ps.length ∧ ps.length ≤ 20000 ∧ Gives C M H Q (.bl (beginM ps))
def spNextOffset : Sp := fun vs H Q _ => ∃ (v : V) (size : Nat) (ps : List Page) (M : List Addr), vs = [.int size, v] ∧ Off M H ∧ DAt C M H v (pagesD ps) ∧ ps.length ≤ 20000 ∧ Gives C M H Q (.int (nextI size ps))
end
section
variable {P : Program} {w : World} {K : PySem.W.Frag} {mg : Str → Option Value} {base : Heap} {C : Addr} {f : Addr} {fd : FuncData}
theorem joined_length (marks : List Nat) (f s : Nat) : (joinedM marks f s).length = marks.length := by unfold joinedM; simp
theorem step_length (lists : List (List Nat)) (l : Nat) (marks : List Nat) (e : Nat) : (joinStep lists l marks e).length = marks.length := by
  unfold joinStep
  split
  · rw [joined_length]
  · rfl
theorem steps_length (lists : List (List Nat)) (l : Nat) : ∀ (es marks : List Nat), (es.foldl (joinStep lists l) marks).length = marks.length
  | [], _ => rfl
  | e :: es, marks => by rw [List.foldl_cons, steps_length lists l es, step_length]
theorem groups_length (lists : List (List Nat)) : ∀ (ls marks : List Nat), (ls.foldl (fun marks later => (List.range later).foldl (joinStep lists later) marks) marks).length = marks.length
  | [], _ => rfl
  | e :: es, marks => by rw [List.foldl_cons, groups_length lists es, steps_length]
theorem marks_length (ps : List Page) : (marksOf ps).length = ps.length := by
  unfold marksOf groupM
  rw [groups_length, List.length_range, List.length_map]
theorem inV_nat (r : Nat) (b : List Nat) : inV (.int (r : Int)) (nV b) = decide (r ∈ b) := by
  unfold inV
  rw [List.any_map, List.any_map]
  induction b with
  | nil => simp
  | cons a l ih =>
    rw [List.any_cons, ih]
    simp only [Function.comp_apply, eqV, List.mem_cons]
    by_cases h : r = a
    · simp [h]
    · have h2 : ((natI a : Int) == (r : Int)) = false := by simp only [beq_eq_false_iff_ne, natI]; omega
      rw [h2]
      simp [h]
theorem flat_nats (b : List Nat) : (nV b).all flatV = true := by
  rw [List.all_eq_true]
  intro v hv
  obtain ⟨i, hi, rfl⟩ := List.mem_map.mp hv
  rfl
/-- a page by its number -/
theorem page_at {M : List Addr} {H : Hp} {ps : List Page} {ys : List V} {i : Nat} (d : DAll C M H ys (ps.map pageD)) (hi : i < ps.length) :
    ∃ t r, ys[i]? = some (.ref t) ∧ t ∉ M ∧ r ∉ M ∧ H t = some (.tup [.int ((pgAt ps i).offset : Int), .ref r]) ∧ H r = some (.lst (nV (pgAt ps i).rows)) := by
  obtain ⟨y, hy, dy⟩ := d.get (i := i) (d := pageD (pgAt ps i)) (by
    rw [List.getElem?_map, List.getElem?_eq_getElem hi]
    simp [pgAt, hi])
  obtain ⟨t, xs, rfl, nt, et, dt⟩ := dy.tupAt
  cases dt with
  | cons h1 dt =>
    cases dt with
    | cons h2 dt =>
      cases dt
      cases h1
      obtain ⟨r, rfl, nr, er⟩ := h2.dIAt
      exact ⟨t, r, hy, nt, nr, et, er⟩
theorem ok_share (D : Df K mg "share" s_share p_share f fd) : Own P w K mg base CX0 1 "share" p_share (spShare C) := by
  refine D.own (D.F.ok sc_share (fun vs H Q E h => ?_) (fun cdv A outer s H vs Q E hr h => ⟨_, pss_cons (ps_for PassesOwn.never rfl (pi_list (pv 0)) (pg_name (i := 2) sc_share.nd rfl (Or.inl rfl)) (pss_one (ps_if (pt_cmpR (op_inK (K := K) rfl) (pv 2) (pv 1) (by rfl)) (pss_one (ps_ret pe_bl)) pss_nil))) (pss_one (ps_ret pe_bl)), ?_⟩))
  · obtain ⟨v, u, a, b, M, rfl, _⟩ := h
    rfl
  · obtain ⟨v, u, a, b, M, rfl, da, db, q⟩ := h
    obtain ⟨p, rfl, _, ea⟩ := da.dIAt
    obtain ⟨p', rfl, _, eb⟩ := db.dIAt
    refine ⟨_, rfl, p, rfl, ⟨_, SqL.of ea⟩, for_list (K := K) (a := p) (xs := nV a) (fun i σ H' => H' = H ∧ (∃ z : Option V, σ = [some (.ref p), some (.ref p'), z]) ∧ shareM (a.take i) b = false) ⟨rfl, ⟨none, rfl⟩, rfl⟩ (fun i σ H' _ hh => by rw [hh.1]; exact SqL.of ea) ?_ ?_⟩
    · rintro i y σ H' hy ⟨rfl, ⟨z, rfl⟩, hno⟩
      obtain ⟨r, hr', rfl⟩ := nat_at hy
      refine ⟨_, rfl, _, rfl, p', _, rfl, .inl (SqL.of eb), rfl, flat_nats b, _, rfl, ?_⟩
      rw [if_neg Bool.false_ne_true, inV_nat]
      by_cases c : r ∈ b
      · refine itT (decide_eq_true c) ?_
        have e : shareM a b = true := by
          unfold shareM
          rw [List.any_eq_true]
          exact ⟨r, List.mem_of_getElem? hr', decide_eq_true c⟩
        rw [e] at q
        exact q
      · refine itF (decide_eq_false c) ⟨rfl, ⟨_, rfl⟩, ?_⟩
        unfold shareM at hno ⊢
        rw [take_more hr', List.any_append, hno]
        simp [c]
    · rintro σ H' ⟨rfl, ⟨z, rfl⟩, hno⟩
      rw [List.length_map, List.length_map, List.take_length] at hno
      rw [hno] at q
      exact q
theorem ok_joined (D : Df K mg "joined" s_joined p_joined f fd) (B : Blt mg) : Own P w K mg base CX0 1 "joined" p_joined (spJoined C) := by
  refine D.own (D.F.ok sc_joined (fun vs H Q E h => ?_) (fun cdv A outer s H vs Q E hr h => ⟨_, pss_cons (ps_set (i := 3) sc_joined.nd rfl (Or.inr rfl) (pe_callB (call_min2 rfl) rfl B.min boot_min (pa_cons (pv 1) (pa_cons (pv 2) pa_nil)))) (pss_cons (ps_set (i := 4) sc_joined.nd rfl (Or.inr rfl) (pe_callB (call_max2 rfl) rfl B.max boot_max (pa_cons (pv 1) (pa_cons (pv 2) pa_nil)))) (pss_one (ps_ret (pe_lc (own := [("mark", 5)]) (g := gName 5) (tt := tYes) rfl sc_joined.nd (pi_list (pv 0)) (blkOk_by (N := n_joined) (sc := defScope s_joined) (by decide +kernel)) (fun _ _ _ _ _ => pg_name (i := 5) sc_joined.nd rfl (Or.inl rfl)) (fun _ _ _ _ _ => pts_nil) (fun _ _ _ _ _ => (pe_ifExp (pt_cmpR op_eq (pv 5) (pv 4) (nomark _)) (pv 3) (pv 5))))))), ?_⟩))
  · obtain ⟨v, marks, a, b, M, rfl, _⟩ := h
    rfl
  · obtain ⟨v, marks, a, b, M, rfl, off, d, hl, g⟩ := h
    obtain ⟨p, rfl, _, ep⟩ := d.dIAt
    refine ⟨_, rfl, _, rfl, _, _, rfl, _, rfl, _, rfl, _, _, rfl, _, rfl, p, rfl, ⟨_, SqL.of ep⟩, fun D hD => lc_map (C := C) (M := M) (es := ((joinedM marks a b).map natI).map Dat.int) (SqL.of ep) off hD (by simp [joinedM]) (by rw [List.length_map, List.length_map]; exact ten_line hl) (fun j x e' H' Q' hx he s o q => ?_) (fun H' s d' => g _ _ s d')⟩
    obtain ⟨m, hm, rfl⟩ := nat_at hx
    have he' : (((joinedM marks a b).map natI).map Dat.int)[j]? = some (.int ((if m = (if b > a then b else a) then (if b < a then b else a) else m : Nat) : Int)) := by simp [joinedM, hm]
    rw [he'] at he
    cases he
    refine ⟨_, rfl, _, rfl, rfl, _, rfl, ?_⟩
    have e1 : (if (b : Int) > (a : Int) then (b : Int) else (a : Int)) = ((if b > a then b else a : Nat) : Int) := by
      by_cases c : b > a
      · rw [if_pos c, if_pos (by omega)]
      · rw [if_neg c, if_neg (by omega)]
    have e2 : (if (b : Int) < (a : Int) then (b : Int) else (a : Int)) = ((if b < a then b else a : Nat) : Int) := by
      by_cases c : b < a
      · rw [if_pos c, if_pos (by omega)]
      · rw [if_neg c, if_neg (by omega)]
    rw [e1, dec_int]
    by_cases c : m = (if b > a then b else a)
    · refine itT (by simp [c]) ⟨_, rfl, ?_⟩
      rw [if_pos c] at q
      rw [e2]
      exact q _ _ (Same.refl _) (.int _)
    · refine itF (by simp only [beq_eq_false_iff_ne]; omega) ⟨_, rfl, ?_⟩
      rw [if_neg c] at q
      exact q _ _ (Same.refl _) (.int _)
theorem rgV_nat (n : Nat) : rgV 0 (n : Int) = nV (List.range n) := by
  unfold rgV
  rw [show ((n : Int) - 0).toNat = n from by omega]
  show _ = List.map V.int (List.map natI (List.range n))
  rw [List.map_map]
  apply List.map_congr_left
  intro i _
  simp
theorem range_snoc (n : Nat) : List.range (n + 1) = List.range n ++ [n] := List.range_succ
theorem ok_group_marks (D : Df K mg "group_marks" s_group_marks p_group_marks f fd) (B : Blt mg) (O_rows_of : Own P w K mg base CX0 1 "rows_of" p_rows_of (spRowsOf C)) (O_share : Own P w K mg base CX0 1 "share" p_share (spShare C)) (O_joined : Own P w K mg base CX0 1 "joined" p_joined (spJoined C)) :
    Own P w K mg base CX0 2 "group_marks" p_group_marks (spGroupMarks C) := by
  refine D.own (D.F.ok sc_group_marks (fun vs H Q E h => ?_) (fun cdv A outer s H vs Q E hr h => ⟨_, pss_cons (ps_set (i := 1) sc_group_marks.nd rfl (Or.inl rfl) (pe_own O_rows_of hr (pa_cons (pv 0) pa_nil))) (pss_cons (ps_set (i := 2) sc_group_marks.nd rfl (Or.inl rfl) (pe_listRg rfl rfl B.list (prg_1 rfl B.range (pe_callB (call_lenK (K := K) rfl) rfl B.len boot_len (pa_cons (pv 1) pa_nil))))) (pss_cons (ps_for PassesOwn.never rfl (pi_range1 rfl B.range (pa_cons (pe_callB (call_lenK (K := K) rfl) rfl B.len boot_len (pa_cons (pv 1) pa_nil)) pa_nil)) (pg_name (i := 3) sc_group_marks.nd rfl (Or.inl rfl)) (pss_one (ps_for PassesOwn.never rfl (pi_range1 rfl B.range (pa_cons (pv 3) pa_nil)) (pg_name (i := 4) sc_group_marks.nd rfl (Or.inl rfl)) (pss_one (ps_if (pt_val (pe_own O_share hr (pa_cons (pe_ix (ix_listK (K := K) rfl) (pv 1) (pv 4) (fun _ _ => rfl)) (pa_cons (pe_ix (ix_listK (K := K) rfl) (pv 1) (pv 3) (fun _ _ => rfl)) pa_nil)))) (pss_one (ps_set (i := 2) sc_group_marks.nd rfl (Or.inl rfl) (pe_own O_joined hr (pa_cons (pv 2) (pa_cons (pe_ix (ix_listK (K := K) rfl) (pv 2) (pv 4) (fun _ _ => rfl)) (pa_cons (pe_ix (ix_listK (K := K) rfl) (pv 2) (pv 3) (fun _ _ => rfl)) pa_nil)))))) pss_nil))))) (pss_one (ps_ret (pv 2))))), ?_⟩))
  · obtain ⟨v, ps, M, rfl, _⟩ := h
    rfl
  · obtain ⟨v, ps, M, rfl, off, d, hl, g⟩ := h
    obtain ⟨a, _, rfl, _⟩ := d.lstAt
    refine ⟨_, rfl, .ref a, ps, M, rfl, off, d, hl, fun r1 H1 s1 d1 => ?_⟩
    generalize hlists : ps.map (·.rows) = lists at d1
    have hll : lists.length = ps.length := by rw [← hlists, List.length_map]
    have o1 := off.same s1
    obtain ⟨l, ys, rfl, nl, el, dy⟩ := d1.lstAt
    have hyl : ys.length = lists.length := by rw [dy.length, List.length_map]
    have eg : marksOf ps = groupM lists := by unfold marksOf; rw [hlists]
    refine ⟨_, rfl, l, _, rfl, .inl (SqL.of el), (ys.length : Int), rfl, RgOk.of_le (by omega) (by omega) (by omega) (by omega), fun q hq => ?_⟩
    rw [rgV_nat]
    have s2 : Same H1 (upd H1 q (.lst (nV (List.range ys.length)))) := Same.new hq
    have d2 : DAt C M (upd H1 q (.lst (nV (List.range ys.length)))) (.ref q) (dN (List.range ys.length)) := .dI (o1.new hq) upd_same
    refine ⟨_, rfl, l, _, rfl, .inl (SqL.of (s2 _ _ el)), (ys.length : Int), rfl, by omega, by omega, ?_⟩
    rw [Int.toNat_natCast]
    refine for_range (lo := 0) (n := ys.length) (fun i σ H' => ∃ (u : V) (z z2 : Option V), σ = [some (.ref a), some (.ref l), some u, z, z2] ∧ Same H1 H' ∧ DAt C M H' u (dN ((List.range i).foldl (fun marks later => (List.range later).foldl (joinStep lists later) marks) (List.range lists.length)))) ⟨_, none, none, rfl, s2, by rw [← hyl]; exact d2⟩ ?_ ?_
    · rintro i σ H' hi ⟨u, z, z2, rfl, s3, d3⟩
      refine ⟨_, rfl, (0 : Int) + (i : Nat), rfl, by omega, by omega, ?_⟩
      rw [show ((0 : Int) + (i : Nat)).toNat = i from by omega]
      refine for_range (lo := 0) (n := i) (fun j σ H2 => ∃ (u : V) (z2 : Option V), σ = [some (.ref a), some (.ref l), some u, some (.int ((0 : Int) + (i : Nat))), z2] ∧ Same H1 H2 ∧ DAt C M H2 u (dN ((List.range j).foldl (joinStep lists i) ((List.range i).foldl (fun marks later => (List.range later).foldl (joinStep lists later) marks) (List.range lists.length))))) ⟨u, z2, rfl, s3, d3⟩ ?_ ?_
      · rintro j σ H2 hj ⟨u, z2, rfl, s4, d4⟩
        generalize hcur : (List.range j).foldl (joinStep lists i) ((List.range i).foldl (fun marks later => (List.range later).foldl (joinStep lists later) marks) (List.range lists.length)) = cur at d4
        have hcl : cur.length = lists.length := by rw [← hcur, steps_length, groups_length, List.length_range]
        obtain ⟨yj, hyj, dj⟩ := dy.get (i := j) (d := dN (lists.getD j [])) (by
          rw [List.getElem?_map, List.getElem?_eq_getElem (by omega)]
          simp [show j < lists.length from by omega])
        obtain ⟨yi, hyi, di⟩ := dy.get (i := i) (d := dN (lists.getD i [])) (by
          rw [List.getElem?_map, List.getElem?_eq_getElem (by omega)]
          simp [show i < lists.length from by omega])
        have next : (List.range (j + 1)).foldl (joinStep lists i) ((List.range i).foldl (fun marks later => (List.range later).foldl (joinStep lists later) marks) (List.range lists.length)) = joinStep lists i cur j := by
          rw [range_snoc, List.foldl_append, hcur]
          rfl
        obtain ⟨c, rfl, nc, ec⟩ := d4.dIAt
        have eci := s4 _ _ el
        refine ⟨_, rfl, _, rfl, l, _, _, _, rfl, rfl, SqL.of eci, at_of (j := j) (by omega) hyj, _, rfl, _, rfl, l, _, _, _, rfl, rfl, SqL.of eci, at_of (j := i) (by omega) hyi, ?_⟩
        refine ⟨yj, yi, lists.getD j [], lists.getD i [], M, rfl, dj.same s4, di.same s4, _, rfl, ?_⟩
        have gj : cur[j]? = some (cur.getD j 0) := by simp [show j < cur.length from by omega]
        have gi : cur[i]? = some (cur.getD i 0) := by simp [show i < cur.length from by omega]
        by_cases c1 : shareM (lists.getD j []) (lists.getD i []) = true
        · refine itT c1 ⟨_, rfl, _, rfl, _, rfl, c, _, _, _, rfl, rfl, SqL.of ec, at_of (j := j) (by omega) (nV_get gj), _, rfl, _, rfl, c, _, _, _, rfl, rfl, SqL.of ec, at_of (j := i) (by omega) (nV_get gi), ?_⟩
          refine ⟨.ref c, cur, cur.getD j 0, cur.getD i 0, M, rfl, o1.same s4, d4, by omega, fun r5 H5 s5 d5 => ?_⟩
          refine ⟨r5, _, rfl, s4.trans s5, ?_⟩
          rw [next]
          unfold joinStep
          rw [if_pos c1]
          exact d5
        · refine itF (by simpa using c1) ⟨_, _, rfl, s4, ?_⟩
          rw [next]
          unfold joinStep
          rw [if_neg c1]
          exact d4
      · rintro σ H2 ⟨u, z2, rfl, s4, d4⟩
        refine ⟨u, _, _, rfl, s4, ?_⟩
        rw [range_snoc, List.foldl_append]
        exact d4
    · rintro σ H' ⟨u, z, z2, rfl, s3, d3⟩
      rw [hyl] at d3
      refine ⟨_, rfl, g _ _ (s1.trans s3) ?_⟩
      rw [eg]
      exact d3
theorem pick_nats (p : Nat → Bool) (f : Nat → Nat) (n : Nat) : pick p (fun i => .int (f i : Int)) n = ((((List.range n).filter p).map f).map natI).map Dat.int := by
  unfold pick
  rw [List.map_map, List.map_map]
  rfl
theorem ok_pages_marked (D : Df K mg "pages_marked" s_pages_marked p_pages_marked f fd) (B : Blt mg) : Own P w K mg base CX0 1 "pages_marked" p_pages_marked (spPagesMarked C) := by
  refine D.own (D.F.ok sc_pages_marked (fun vs H Q E h => ?_) (fun cdv A outer s H vs Q E hr h => ⟨_, pss_one (ps_ret (pe_lc (own := [("at", 2)]) (g := gName 2) rfl sc_pages_marked.nd (pi_range1 rfl B.range (pa_cons (pe_callB (call_lenK (K := K) rfl) rfl B.len boot_len (pa_cons (pv 0) pa_nil)) pa_nil)) (blkOk_by (N := n_pages_marked) (sc := defScope s_pages_marked) (by decide +kernel)) (fun _ _ _ _ _ => pg_name (i := 2) sc_pages_marked.nd rfl (Or.inl rfl)) (fun _ _ _ _ _ => (pts_one (pt_cmpR op_eq (pe_ix (ix_listK (K := K) rfl) (pv 0) (pv 2) (fun _ _ => rfl)) (pv 1) (nomark _)))) (fun _ _ _ _ _ => (pv 2)))), ?_⟩))
  · obtain ⟨v, marks, m, M, rfl, _⟩ := h
    rfl
  · obtain ⟨v, marks, m, M, rfl, off, d, hl, g⟩ := h
    obtain ⟨a, rfl, _, ea⟩ := d.dIAt
    refine ⟨_, rfl, a, _, rfl, .inl (SqL.of ea), _, rfl, by rw [List.length_map, List.length_map]; omega, by rw [List.length_map, List.length_map]; omega, ?_⟩
    rw [show (((nV marks).length : Nat) : Int).toNat = marks.length from by rw [List.length_map, List.length_map]; omega]
    refine fun D hD => lc_rangeF (C := C) (M := M) (lo := 0) (n := marks.length) (fun i => decide (marks.getD i 0 = m)) (fun i => .int (i : Int)) off hD (ten_line hl) (fun j H' Q' hj s o q => ?_) (fun j H' Q' hj hp s o q => ?_) fun H1 s1 d1 => g _ _ s1 ?_
    · have gj : marks[j]? = some (marks.getD j 0) := by simp [hj]
      refine ⟨_, rfl, _, rfl, a, _, _, _, rfl, rfl, SqL.of (s _ _ ea), at_of (j := j) (by omega) (nV_get gj), _, rfl, rfl, _, rfl, ?_⟩
      rw [dec_int]
      have e : (((marks.getD j 0 : Nat) : Int) == (m : Int)) = decide (marks.getD j 0 = m) := by
        by_cases c : marks.getD j 0 = m
        · rw [decide_eq_true c]; simp only [beq_iff_eq]; omega
        · rw [decide_eq_false c]; simp only [beq_eq_false_iff_ne]; omega
      rw [e]
      exact q _ (Same.refl _)
    · refine ⟨_, rfl, q _ _ (Same.refl _) ?_⟩
      rw [Int.zero_add]
      exact .int _
    · have e := pick_nats (fun i => decide (marks.getD i 0 = m)) id marks.length
      simp only [id] at e
      rw [e, List.map_id] at d1
      exact d1
theorem ok_linked_groups (D : Df K mg "linked_groups" s_linked_groups p_linked_groups f fd) (B : Blt mg) (O_group_marks : Own P w K mg base CX0 2 "group_marks" p_group_marks (spGroupMarks C)) (O_pages_marked : Own P w K mg base CX0 1 "pages_marked" p_pages_marked (spPagesMarked C)) :
    Own P w K mg base CX0 3 "linked_groups" p_linked_groups (spLinkedGroups C) := by
  refine D.own (D.F.ok sc_linked_groups (fun vs H Q E h => ?_) (fun cdv A outer s H vs Q E hr h => ⟨_, pss_cons (ps_set (i := 1) sc_linked_groups.nd rfl (Or.inr rfl) (pe_own O_group_marks hr (pa_cons (pv 0) pa_nil))) (pss_cons (ps_setLc (i := 2) (own := [("at", 3)]) (g := gName 3) rfl sc_linked_groups.nd rfl rfl (sw_true rfl rfl rfl (by decide +kernel)) (pi_range1 rfl B.range (pa_cons (pe_callB (call_lenK (K := K) rfl) rfl B.len boot_len (pa_cons (pv 1) pa_nil)) pa_nil)) (blkOk_by (N := n_linked_groups) (sc := defScope s_linked_groups) (by decide +kernel)) (fun _ _ _ _ _ => pg_name (i := 3) sc_linked_groups.nd rfl (Or.inl rfl)) (fun _ _ _ _ _ => (pts_one (pt_cmpR op_eq (pe_ix (ix_listK (K := K) rfl) (pv 1) (pv 3) (fun _ _ => rfl)) (pv 3) (nomark _)))) (fun _ _ _ _ _ => (pv 3))) (pss_one (ps_ret (pe_lc (own := [("first", 4)]) (g := gName 4) (tt := tYes) rfl sc_linked_groups.nd (pi_list (pv 2)) (blkOk_by (N := n_linked_groups) (sc := defScope s_linked_groups) (by decide +kernel)) (fun _ _ _ _ _ => pg_name (i := 4) sc_linked_groups.nd rfl (Or.inl rfl)) (fun _ _ _ _ _ => pts_nil) (fun _ _ _ _ _ => (pe_own O_pages_marked hr (pa_cons (pv 1) (pa_cons (pv 4) pa_nil)))))))), ?_⟩))
  · obtain ⟨v, ps, M, rfl, _⟩ := h
    rfl
  · obtain ⟨v, ps, M, rfl, off, d, hl, g⟩ := h
    obtain ⟨a, _, rfl, _⟩ := d.lstAt
    refine ⟨_, rfl, .ref a, ps, M, rfl, off, d, hl, fun r1 H1 s1 d1 => ?_⟩
    have hml := marks_length ps
    generalize hmk : marksOf ps = marks at *
    have o1 := off.same s1
    obtain ⟨m, rfl, _, em⟩ := d1.dIAt
    refine ⟨_, rfl, m, _, rfl, .inl (SqL.of em), _, rfl, by rw [List.length_map, List.length_map]; omega, by rw [List.length_map, List.length_map]; omega, ?_⟩
    rw [show (((nV marks).length : Nat) : Int).toNat = marks.length from by rw [List.length_map, List.length_map]; omega]
    refine fun D hD => lc_rangeF (C := C) (M := M) (lo := 0) (n := marks.length) (fun i => decide (marks.getD i 0 = i)) (fun i => .int (i : Int)) o1 hD (ten_line (by omega)) (fun j H' Q' hj s o q => ?_) (fun j H' Q' hj hp s o q => ?_) fun H2 s2 d2 => ?_
    · have gj : marks[j]? = some (marks.getD j 0) := by simp [hj]
      refine ⟨_, rfl, _, rfl, m, _, _, _, rfl, rfl, SqL.of (s _ _ em), at_of (j := j) (by omega) (nV_get gj), _, rfl, rfl, _, rfl, ?_⟩
      rw [dec_int]
      have e : (((marks.getD j 0 : Nat) : Int) == ((0 : Int) + (j : Nat))) = decide (marks.getD j 0 = j) := by
        by_cases c : marks.getD j 0 = j
        · rw [decide_eq_true c]; simp only [beq_iff_eq]; omega
        · rw [decide_eq_false c]; simp only [beq_eq_false_iff_ne]; omega
      rw [e]
      exact q _ (Same.refl _)
    · refine ⟨_, rfl, q _ _ (Same.refl _) ?_⟩
      rw [Int.zero_add]
      exact .int _
    · have e := pick_nats (fun i => decide (marks.getD i 0 = i)) id marks.length
      simp only [id] at e
      rw [e, List.map_id] at d2
      have hfl : (firstsM marks).length ≤ 20000 := by
        unfold firstsM
        have := List.length_filter_le (fun i => decide (marks.getD i 0 = i)) (List.range marks.length)
        rw [List.length_range] at this
        omega
      change DAt C M H2 (.ref D) (dN (firstsM marks)) at d2
      have g' : Gives C M H Q (.lst (((firstsM marks).map (markedM marks)).map dN)) := by
        have z := g
        unfold linkedM at z
        rw [hmk] at z
        exact z
      obtain ⟨D', eD, _, e2⟩ := d2.dIAt
      cases eD
      refine ⟨_, rfl, D, rfl, ⟨_, SqL.of e2⟩, fun D2 hD2 => lc_map (C := C) (M := M) (es := ((firstsM marks).map (markedM marks)).map dN) (SqL.of e2) (o1.same s2) hD2 (by simp) (by rw [List.length_map, List.length_map]; exact ten_line hfl) (fun j x e' H' Q' hx he s o q => ?_) (fun H' s d' => g' _ _ ((s1.trans s2).trans s) d')⟩
      obtain ⟨n, hn, rfl⟩ := nat_at hx
      have he' : (((firstsM marks).map (markedM marks)).map dN)[j]? = some (dN (markedM marks n)) := by simp [hn]
      rw [he'] at he
      cases he
      exact ⟨_, rfl, _, rfl, .ref m, marks, n, D2 :: M, rfl, o, ((d1.same s2).more hD2).same s, by omega, fun r3 H3 s3 d3 => q _ _ s3 d3⟩
theorem pgAt_get {ps : List Page} {i : Nat} (h : i < ps.length) : ps[i]? = some (pgAt ps i) := by simp [pgAt, h]
theorem ok_ending_marks (D : Df K mg "ending_marks" s_ending_marks p_ending_marks f fd) (B : Blt mg) : Own P w K mg base CX0 1 "ending_marks" p_ending_marks (spEndingMarks C) := by
  refine D.own (D.F.ok sc_ending_marks (fun vs H Q E h => ?_) (fun cdv A outer s H vs Q E hr h => ⟨_, pss_one (ps_ret (pe_lc (own := [("at", 3)]) (g := gName 3) rfl sc_ending_marks.nd (pi_range1 rfl B.range (pa_cons (pe_callB (call_lenK (K := K) rfl) rfl B.len boot_len (pa_cons (pv 1) pa_nil)) pa_nil)) (blkOk_by (N := n_ending_marks) (sc := defScope s_ending_marks) (by decide +kernel)) (fun _ _ _ _ _ => pg_name (i := 3) sc_ending_marks.nd rfl (Or.inl rfl)) (fun _ _ _ _ _ => (pts_one (pt_cmpR op_lt (pe_callB (call_lenK (K := K) rfl) rfl B.len boot_len (pa_cons (pe_ix (ix_tupK (K := K) rfl) (pe_ix (ix_listK (K := K) rfl) (pv 1) (pv 3) (fun _ _ => rfl)) pe_int (fun _ _ => rfl)) pa_nil)) (pv 0) (nomark _)))) (fun _ _ _ _ _ => (pe_ix (ix_listK (K := K) rfl) (pv 2) (pv 3) (fun _ _ => rfl))))), ?_⟩))
  · obtain ⟨v, u, size, ps, marks, M, rfl, _⟩ := h
    rfl
  · obtain ⟨v, u, size, ps, marks, M, rfl, off, d, du, hml, hl, g⟩ := h
    obtain ⟨a, ys, rfl, _, ea, dy⟩ := d.lstAt
    obtain ⟨m, rfl, _, em⟩ := du.dIAt
    have hyl : ys.length = ps.length := by rw [dy.length, List.length_map]
    refine ⟨_, rfl, a, _, rfl, .inl (SqL.of ea), _, rfl, by omega, by omega, ?_⟩
    rw [Int.toNat_natCast, hyl]
    refine fun D hD => lc_rangeF (C := C) (M := M) (lo := 0) (n := ps.length) (fun i => decide ((pgAt ps i).rows.length < size)) (fun i => .int (marks.getD i 0 : Nat)) off hD (ten_line hl) (fun j H' Q' hj s o q => ?_) (fun j H' Q' hj hp s o q => ?_) fun H1 s1 d1 => g _ _ s1 ?_
    · obtain ⟨t, r, hy, _, _, et, er⟩ := page_at dy hj
      refine ⟨_, rfl, _, rfl, a, _, _, _, rfl, rfl, SqL.of (s _ _ ea), at_of (j := j) (by omega) hy, t, _, 1, _, rfl, rfl, SqT.of (s _ _ et), atI_nat (j := 1) rfl, r, _, rfl, .inl (SqL.of (s _ _ er)), _, rfl, _, _, rfl, rfl, _, rfl, ?_⟩
      rw [List.length_map, List.length_map]
      have e : decide (((pgAt ps j).rows.length : Int) < (size : Int)) = decide ((pgAt ps j).rows.length < size) := by
        by_cases c : (pgAt ps j).rows.length < size
        · rw [decide_eq_true c]; exact decide_eq_true (by omega)
        · rw [decide_eq_false c]; exact decide_eq_false (by omega)
      rw [e]
      exact q _ (Same.refl _)
    · have gj : marks[j]? = some (marks.getD j 0) := by simp [show j < marks.length from by omega]
      exact ⟨_, rfl, _, rfl, m, _, _, _, rfl, rfl, SqL.of (s _ _ em), at_of (j := j) (by omega) (nV_get gj), q _ _ (Same.refl _) (.int _)⟩
    · rw [pick_nats (fun i => decide ((pgAt ps i).rows.length < size)) (fun i => marks.getD i 0) ps.length] at d1
      exact d1
theorem ok_ending_pages (D : Df K mg "ending_pages" s_ending_pages p_ending_pages f fd) (O_group_marks : Own P w K mg base CX0 2 "group_marks" p_group_marks (spGroupMarks C)) (O_ending_marks : Own P w K mg base CX0 1 "ending_marks" p_ending_marks (spEndingMarks C)) :
    Own P w K mg base CX0 3 "ending_pages" p_ending_pages (spEndingPages C) := by
  refine D.own (D.F.ok sc_ending_pages (fun vs H Q E h => ?_) (fun cdv A outer s H vs Q E hr h => ⟨_, pss_cons (ps_set (i := 2) sc_ending_pages.nd rfl (Or.inl rfl) (pe_own O_group_marks hr (pa_cons (pv 1) pa_nil))) (pss_cons (ps_set (i := 3) sc_ending_pages.nd rfl (Or.inr rfl) (pe_own O_ending_marks hr (pa_cons (pv 0) (pa_cons (pv 1) (pa_cons (pv 2) pa_nil))))) (pss_one (ps_ret (pe_lc (own := [("mark", 4)]) (g := gName 4) (tt := tYes) rfl sc_ending_pages.nd (pi_list (pv 2)) (blkOk_by (N := n_ending_pages) (sc := defScope s_ending_pages) (by decide +kernel)) (fun _ _ _ _ _ => pg_name (i := 4) sc_ending_pages.nd rfl (Or.inl rfl)) (fun _ _ _ _ _ => pts_nil) (fun _ _ _ _ _ => (pe_cmpR (op_inK (K := K) rfl) (pv 4) (pv 3) (by rfl))))))), ?_⟩))
  · obtain ⟨v, size, ps, M, rfl, _⟩ := h
    rfl
  · obtain ⟨v, size, ps, M, rfl, off, d, hl, g⟩ := h
    obtain ⟨a, _, rfl, _⟩ := d.lstAt
    refine ⟨_, rfl, .ref a, ps, M, rfl, off, d, hl, fun r1 H1 s1 d1 => ?_⟩
    have hml := marks_length ps
    obtain ⟨m, rfl, _, em⟩ := d1.dIAt
    refine ⟨_, rfl, _, rfl, _, rfl, .ref a, .ref m, size, ps, marksOf ps, M, rfl, off.same s1, d.same s1, d1, hml, hl, fun r2 H2 s2 d2 => ?_⟩
    obtain ⟨n, rfl, _, en⟩ := d2.dIAt
    refine ⟨_, rfl, m, rfl, ⟨_, SqL.of (s2 _ _ em)⟩, fun D hD => lc_map (C := C) (M := M) (es := (endingM size ps).map Dat.bl) (SqL.of (s2 _ _ em)) ((off.same s1).same s2) hD (by simp [endingM]) (by rw [List.length_map, List.length_map]; exact ten_line (by omega)) (fun j x e' H' Q' hx he s o q => ?_) (fun H' s d' => g _ _ ((s1.trans s2).trans s) d')⟩
    obtain ⟨k, hk, rfl⟩ := nat_at hx
    have he' : ((endingM size ps).map Dat.bl)[j]? = some (.bl (decide (k ∈ endMarksM size ps (marksOf ps)))) := by simp [endingM, hk]
    rw [he'] at he
    cases he
    refine ⟨_, rfl, _, rfl, n, _, rfl, .inl (SqL.of (s _ _ en)), rfl, flat_nats _, ?_⟩
    rw [if_neg Bool.false_ne_true, inV_nat]
    exact q _ _ (Same.refl _) (.bl _)
theorem ok_most_missed (D : Df K mg "most_missed" s_most_missed p_most_missed f fd) (B : Blt mg) (O_ending_pages : Own P w K mg base CX0 3 "ending_pages" p_ending_pages (spEndingPages C)) : Own P w K mg base CX0 4 "most_missed" p_most_missed (spMostMissed C) := by
  refine D.own (D.F.ok sc_most_missed (fun vs H Q E h => ?_) (fun cdv A outer s H vs Q E hr h => ⟨_, pss_cons (ps_set (i := 2) sc_most_missed.nd rfl (Or.inr rfl) (pe_own O_ending_pages hr (pa_cons (pv 0) (pa_cons (pv 1) pa_nil)))) (pss_cons (ps_setLc (i := 3) (own := [("at", 4)]) (g := gName 4) rfl sc_most_missed.nd rfl rfl (sw_true rfl rfl rfl (by decide +kernel)) (pi_range1 rfl B.range (pa_cons (pe_callB (call_lenK (K := K) rfl) rfl B.len boot_len (pa_cons (pv 1) pa_nil)) pa_nil)) (blkOk_by (N := n_most_missed) (sc := defScope s_most_missed) (by decide +kernel)) (fun _ _ _ _ _ => pg_name (i := 4) sc_most_missed.nd rfl (Or.inl rfl)) (fun _ _ _ _ _ => (pts_one (pt_val (pe_ix (ix_listK (K := K) rfl) (pv 2) (pv 4) (fun _ _ => rfl))))) (fun _ _ _ _ _ => (pe_ix (ix_tupK (K := K) rfl) (pe_ix (ix_listK (K := K) rfl) (pv 1) (pv 4) (fun _ _ => rfl)) pe_int (fun _ _ => rfl)))) (pss_one (ps_ret (pe_callBK (cr_minD rfl hr.units) rfl B.min boot_min (pa_cons (pv 3) pa_nil) (pk_cons (pe_un un_neg pe_int) pk_nil))))), ?_⟩))
  · obtain ⟨v, size, ps, M, rfl, _⟩ := h
    rfl
  · obtain ⟨v, size, ps, M, rfl, off, d, hl, g⟩ := h
    obtain ⟨a, ys, rfl, _, ea, dy⟩ := d.lstAt
    have hyl : ys.length = ps.length := by rw [dy.length, List.length_map]
    refine ⟨_, rfl, _, rfl, .ref a, size, ps, M, rfl, off, d, hl, fun r1 H1 s1 d1 => ?_⟩
    have hel : (endingM size ps).length = ps.length := by unfold endingM; rw [List.length_map, marks_length]
    obtain ⟨b, zs, rfl, _, eb, dz⟩ := d1.lstAt
    refine ⟨_, rfl, a, _, rfl, .inl (SqL.of (s1 _ _ ea)), _, rfl, by omega, by omega, ?_⟩
    rw [Int.toNat_natCast, hyl]
    refine fun D hD => lc_rangeF (C := C) (M := M) (lo := 0) (n := ps.length) (fun i => (endingM size ps).getD i false) (fun i => .int ((pgAt ps i).offset : Int)) (off.same s1) hD (ten_line hl) (fun j H' Q' hj s o q => ?_) (fun j H' Q' hj hp s o q => ?_) fun H2 s2 d2 => ?_
    · obtain ⟨y, hy, dy'⟩ := dz.get (i := j) (d := .bl ((endingM size ps).getD j false)) (by
        rw [List.getElem?_map, List.getElem?_eq_getElem (by omega)]
        simp [show j < (endingM size ps).length from by omega])
      cases dy'
      exact ⟨_, rfl, _, rfl, b, _, _, _, rfl, rfl, SqL.of (s _ _ eb), at_of (j := j) (by omega) hy, _, rfl, q _ (Same.refl _)⟩
    · obtain ⟨t, r, hy, _, _, et, er⟩ := page_at dy hj
      exact ⟨_, rfl, _, rfl, a, _, _, _, rfl, rfl, SqL.of (s _ _ (s1 _ _ ea)), at_of (j := j) (by omega) hy, t, _, 0, _, rfl, rfl, SqT.of (s _ _ (s1 _ _ et)), atI_nat (j := 0) rfl, q _ _ (Same.refl _) (.int _)⟩
    · have e0 : pick (fun i => (endingM size ps).getD i false) (fun i => .int ((pgAt ps i).offset : Int)) ps.length = (((List.range ps.length).filter fun i => (endingM size ps).getD i false).map fun i => ((pgAt ps i).offset : Int)).map Dat.int := by
        unfold pick
        rw [List.map_map]
        rfl
      rw [e0] at d2
      obtain ⟨D', eD, _, e2⟩ := d2.dIAt
      cases eD
      exact ⟨_, rfl, _, rfl, D, _, -1, rfl, rfl, SqL.of e2, g.int (s1.trans s2)⟩
theorem ok_is_certain (D : Df K mg "is_certain" s_is_certain p_is_certain f fd) (O_most_missed : Own P w K mg base CX0 4 "most_missed" p_most_missed (spMostMissed C)) : Own P w K mg base CX0 5 "is_certain" p_is_certain (spIsCertain C) := by
  refine D.own (D.F.ok sc_is_certain (fun vs H Q E h => ?_) (fun cdv A outer s H vs Q E hr h => ⟨_, pss_one (ps_ret (pe_cmpR op_eq (pe_own O_most_missed hr (pa_cons (pv 0) (pa_cons (pv 1) pa_nil))) pe_int (nomark _))), ?_⟩))
  · obtain ⟨v, size, ps, M, rfl, _⟩ := h
    rfl
  · obtain ⟨v, size, ps, M, rfl, off, d, hl, g⟩ := h
    refine ⟨_, rfl, _, rfl, v, size, ps, M, rfl, off, d, hl, fun r1 H1 s1 d1 => ?_⟩
    cases d1
    refine ⟨rfl, ?_⟩
    have e : certainM size ps = decide (V.int (mostI size ps) = V.int 0) := by
      rw [dec_int]
      unfold certainM
      by_cases c : mostI size ps = 0 <;> simp [c]
    rw [e] at g
    exact g.bl s1
theorem ok_last_has_begin (D : Df K mg "last_has_begin" s_last_has_begin p_last_has_begin f fd) (B : Blt mg) (O_group_marks : Own P w K mg base CX0 2 "group_marks" p_group_marks (spGroupMarks C)) (O_pages_marked : Own P w K mg base CX0 1 "pages_marked" p_pages_marked (spPagesMarked C)) :
    Own P w K mg base CX0 3 "last_has_begin" p_last_has_begin (spLastHasBegin C) := by
  refine D.own (D.F.ok sc_last_has_begin (fun vs H Q E h => ?_) (fun cdv A outer s H vs Q E hr h => ⟨_, pss_cons (ps_set (i := 1) sc_last_has_begin.nd rfl (Or.inl rfl) (pe_own O_group_marks hr (pa_cons (pv 0) pa_nil))) (pss_cons (ps_for PassesOwn.never rfl (pi_list (pe_own O_pages_marked hr (pa_cons (pv 1) (pa_cons (pe_ix (ix_listK (K := K) rfl) (pv 1) (pe_op op_sub (pe_callB (call_lenK (K := K) rfl) rfl B.len boot_len (pa_cons (pv 0) pa_nil)) pe_int) (fun _ _ => rfl)) pa_nil)))) (pg_name (i := 2) sc_last_has_begin.nd rfl (Or.inl rfl)) (pss_one (ps_if (pt_cmpR op_eq (pe_ix (ix_tupK (K := K) rfl) (pe_ix (ix_listK (K := K) rfl) (pv 0) (pv 2) (fun _ _ => rfl)) pe_int (fun _ _ => rfl)) pe_int (nomark _)) (pss_one (ps_ret pe_bl)) pss_nil))) (pss_one (ps_ret pe_bl))), ?_⟩))
  · obtain ⟨v, ps, M, rfl, _⟩ := h
    rfl
  · obtain ⟨v, ps, M, rfl, off, d, hpos, hl, g⟩ := h
    obtain ⟨a, ys, rfl, _, ea, dy⟩ := d.lstAt
    have hyl : ys.length = ps.length := by rw [dy.length, List.length_map]
    refine ⟨_, rfl, .ref a, ps, M, rfl, off, d, hl, fun r1 H1 s1 d1 => ?_⟩
    have hml := marks_length ps
    generalize hmk : marksOf ps = marks at *
    obtain ⟨m, rfl, _, em⟩ := d1.dIAt
    have gl : marks[ps.length - 1]? = some (marks.getD (ps.length - 1) 0) := by simp [show ps.length - 1 < marks.length from by omega]
    refine ⟨_, rfl, _, rfl, _, rfl, a, _, rfl, .inl (SqL.of (s1 _ _ ea)), _, _, rfl, rfl, m, _, _, _, rfl, rfl, SqL.of em, at_of (j := ps.length - 1) (by show (ys.length : Int) - 1 = _; omega) (nV_get gl), ?_⟩
    refine ⟨.ref m, marks, _, M, rfl, off.same s1, d1, by omega, fun r2 H2 s2 d2 => ?_⟩
    obtain ⟨n, rfl, _, en⟩ := d2.dIAt
    have hmem : ∀ i ∈ markedM marks (marks.getD (ps.length - 1) 0), i < ps.length := by
      intro i hi
      have := (List.mem_filter.mp hi).1
      rw [List.mem_range] at this
      omega
    have eB : beginM ps = (markedM marks (marks.getD (ps.length - 1) 0)).any fun i => decide ((pgAt ps i).offset = 0) := by unfold beginM; rw [hmk]
    rw [eB] at g
    generalize hl2 : markedM marks (marks.getD (ps.length - 1) 0) = l at *
    refine ⟨n, rfl, ⟨_, SqL.of en⟩, for_list (K := K) (a := n) (xs := nV l) (fun i σ H' => H' = H2 ∧ (∃ z : Option V, σ = [some (.ref a), some (.ref m), z]) ∧ (l.take i).any (fun i => decide ((pgAt ps i).offset = 0)) = false) ⟨rfl, ⟨none, rfl⟩, rfl⟩ (fun i σ H' _ hh => by rw [hh.1]; exact SqL.of en) ?_ ?_⟩
    · rintro i y σ H' hy ⟨rfl, ⟨z, rfl⟩, hno⟩
      obtain ⟨k, hk, rfl⟩ := nat_at hy
      have hkl := hmem k (List.mem_of_getElem? hk)
      obtain ⟨t, r, hyt, _, _, et, er⟩ := page_at dy hkl
      refine ⟨_, rfl, _, rfl, a, _, _, _, rfl, rfl, SqL.of (s2 _ _ (s1 _ _ ea)), at_of (j := k) rfl hyt, t, _, 0, _, rfl, rfl, SqT.of (s2 _ _ (s1 _ _ et)), atI_nat (j := 0) rfl, rfl, _, rfl, ?_⟩
      rw [dec_int]
      by_cases c : (pgAt ps k).offset = 0
      · refine itT (by rw [c]; rfl) ?_
        have e : (l.any fun i => decide ((pgAt ps i).offset = 0)) = true := by
          rw [List.any_eq_true]
          exact ⟨k, List.mem_of_getElem? hk, decide_eq_true c⟩
        rw [e] at g
        exact g.bl (s1.trans s2)
      · refine itF (by simp only [beq_eq_false_iff_ne]; omega) ⟨rfl, ⟨_, rfl⟩, ?_⟩
        rw [take_more hk, List.any_append, hno]
        simp [c]
    · rintro σ H' ⟨rfl, ⟨z, rfl⟩, hno⟩
      rw [List.length_map, List.length_map, List.take_length] at hno
      rw [hno] at g
      exact g.bl (s1.trans s2)
theorem ok_next_offset (D : Df K mg "next_offset" s_next_offset p_next_offset f fd) (B : Blt mg) (O_is_certain : Own P w K mg base CX0 5 "is_certain" p_is_certain (spIsCertain C)) (O_last_has_begin : Own P w K mg base CX0 3 "last_has_begin" p_last_has_begin (spLastHasBegin C)) :
    Own P w K mg base CX0 6 "next_offset" p_next_offset (spNextOffset C) := by
  refine D.own (D.F.ok sc_next_offset (fun vs H Q E h => ?_) (fun cdv A outer s H vs Q E hr h => ⟨_, pss_cons (ps_if (pt_val (pe_own O_is_certain hr (pa_cons (pv 0) (pa_cons (pv 1) pa_nil)))) (pss_one (ps_ret (pe_un un_neg pe_int))) pss_nil) (pss_cons (ps_if (pt_cmpR op_eq (pe_callB (call_lenK (K := K) rfl) rfl B.len boot_len (pa_cons (pv 1) pa_nil)) pe_int (nomark _)) (pss_one (ps_ret pe_int)) pss_nil) (pss_cons (ps_set (i := 2) sc_next_offset.nd rfl (Or.inl rfl) (pe_ix (ix_tupK (K := K) rfl) (pe_ix (ix_listK (K := K) rfl) (pv 1) (pe_op op_sub (pe_callB (call_lenK (K := K) rfl) rfl B.len boot_len (pa_cons (pv 1) pa_nil)) pe_int) (fun _ _ => rfl)) pe_int (fun _ _ => rfl))) (pss_cons (ps_if (pt_val (pe_own O_last_has_begin hr (pa_cons (pv 1) pa_nil))) (pss_one (ps_ret (pe_op op_sub (pe_op op_add (pv 2) (pv 0)) pe_int))) pss_nil) (pss_one (ps_ret (pe_callB (call_max2 rfl) rfl B.max boot_max (pa_cons (pe_op op_sub (pv 2) (pe_op op_sub (pv 0) pe_int)) (pa_cons pe_int pa_nil)))))))), ?_⟩))
  · obtain ⟨v, size, ps, M, rfl, _⟩ := h
    rfl
  · obtain ⟨v, size, ps, M, rfl, off, d, hl, g⟩ := h
    obtain ⟨a, ys, rfl, _, ea, dy⟩ := d.lstAt
    have hyl : ys.length = ps.length := by rw [dy.length, List.length_map]
    refine ⟨_, rfl, _, rfl, .ref a, size, ps, M, rfl, off, d, hl, fun r1 H1 s1 d1 => ?_⟩
    cases d1
    refine ⟨_, rfl, ?_⟩
    unfold nextI at g
    by_cases c1 : certainM size ps = true
    · rw [if_pos c1] at g
      exact itT c1 ⟨_, rfl, g.int s1⟩
    · rw [if_neg c1] at g
      refine itF (by simpa using c1) ⟨_, rfl, a, _, rfl, .inl (SqL.of (s1 _ _ ea)), rfl, _, rfl, ?_⟩
      rw [dec_int, hyl]
      by_cases c2 : ps.length = 0
      · rw [if_pos c2] at g
        exact itT (by rw [c2]; rfl) (g.int s1)
      · rw [if_neg c2] at g
        refine itF (by simp only [beq_eq_false_iff_ne]; omega) ?_
        obtain ⟨t, r, hyt, _, _, et, er⟩ := page_at dy (show ps.length - 1 < ps.length from by omega)
        refine ⟨_, rfl, _, rfl, a, _, rfl, .inl (SqL.of (s1 _ _ ea)), _, _, rfl, rfl, a, _, _, _, rfl, rfl, SqL.of (s1 _ _ ea), at_of (j := ps.length - 1) (by show (ys.length : Int) - 1 = _; omega) hyt, t, _, 0, _, rfl, rfl, SqT.of (s1 _ _ et), atI_nat (j := 0) rfl, ?_⟩
        refine ⟨_, rfl, .ref a, ps, M, rfl, off.same s1, d.same s1, by omega, hl, fun r2 H2 s2 d2 => ?_⟩
        cases d2
        refine ⟨_, rfl, ?_⟩
        by_cases c3 : beginM ps = true
        · rw [if_pos c3] at g
          exact itT c3 ⟨_, rfl, _, rfl, _, _, rfl, rfl, _, _, rfl, rfl, g.int (s1.trans s2)⟩
        · rw [if_neg c3] at g
          exact itF (by simpa using c3) ⟨_, rfl, _, rfl, _, _, rfl, rfl, _, _, rfl, rfl, _, _, rfl, g.int (s1.trans s2)⟩
end
end Pg

/-! PgP: module histories -/
namespace Pg
open PySem PySem.Spec PyProof.Rows L2
/-! ### the mirror -/
def aboveM (l : List Nat) : Nat := l.foldl (fun n r => max n (r + 1)) 0
def greatM (ps : List Page) : Int := mostIn 0 (ps.map fun p => (p.offset : Int))
def exampleAt (size missed : Nat) (ps : List Page) (i : Nat) : List Nat :=
  if (endingM size ps).getD i false = true then
    List.range' (aboveM (ps.map (·.rows)).flatten) missed ++ List.range' (aboveM (ps.map (·.rows)).flatten + missed) ((pgAt ps i).offset - missed) ++ (pgAt ps i).rows
  else List.range' (aboveM (ps.map (·.rows)).flatten + missed + (greatM ps).toNat) (pgAt ps i).offset ++ (pgAt ps i).rows ++ List.range' (aboveM (ps.map (·.rows)).flatten) missed
def exampleM (size missed : Nat) (ps : List Page) : List (List Nat) := (List.range ps.length).map (exampleAt size missed ps)
def overM (size missed : Nat) (ps : List Page) : Bool := decide (0 ≤ mostI size ps ∧ mostI size ps < (missed : Int))
def showsM (size : Nat) (p : Page) (t : List Nat) : Bool := decide ((t.drop p.offset).take size = p.rows)
def unshownM (size : Nat) (ps : List Page) (ts : List (List Nat)) : Option Nat := (List.range ps.length).find? fun i => !showsM size (pgAt ps i) (ts.getD i [])
def numS (i : Nat) : Str := toString (i : Int)
def shownMsg (i : Nat) : Str := Str.empty ++ "table " ++ numS i ++ " does not show page " ++ numS i
def tallyD (l : List Nat) : List (Key × V) := (l.foldl addNew []).map fun (r : Nat) => ((Sum.inl (r : Int) : Key), V.int (l.count r : Nat))
def missedM (ps : List Page) (ts : List (List Nat)) : List Nat := match ts with
  | [] => []
  | t :: _ => t.filter fun r => decide (ts.flatten.count r = ts.length) && !decide (r ∈ (ps.map (·.rows)).flatten)
/-- small pages -/
structure PagesOk (ps : List Page) : Prop where
  len : ps.length ≤ 20
  off : ∀ p ∈ ps, p.offset ≤ 200
  rows : ∀ p ∈ ps, p.rows.length ≤ 20 ∧ ∀ r ∈ p.rows, r ≤ 1000000
abbrev s_above_rows : Stmt := top 76
abbrev n_above_rows : List Str := ["pages", "above", "rows", "row"]
abbrev p_above_rows : List Str := ["pages"]
theorem sc_above_rows : FnScope n_above_rows p_above_rows (defScope s_above_rows) := ⟨rfl, rfl, rfl, by decide +kernel, rfl, by decide +kernel, by decide +kernel⟩
abbrev s_run : Stmt := top 77
abbrev n_run : List Str := ["first", "many"]
abbrev p_run : List Str := ["first", "many"]
theorem sc_run : FnScope n_run p_run (defScope s_run) := ⟨rfl, rfl, rfl, by decide +kernel, rfl, by decide +kernel, by decide +kernel⟩
abbrev s_example_tables : Stmt := top 78
abbrev n_example_tables : List Str := ["size", "pages", "missed", "base", "greatest", "unseen", "ending", "tables", "at", "offset", "rows", "page"]
abbrev p_example_tables : List Str := ["size", "pages", "missed"]
theorem sc_example_tables : FnScope n_example_tables p_example_tables (defScope s_example_tables) := ⟨rfl, rfl, rfl, by decide +kernel, rfl, by decide +kernel, by decide +kernel⟩
abbrev s_checked_example : Stmt := top 79
abbrev n_checked_example : List Str := ["size", "pages", "missed", "most"]
abbrev p_checked_example : List Str := ["size", "pages", "missed"]
theorem sc_checked_example : FnScope n_checked_example p_checked_example (defScope s_checked_example) := ⟨rfl, rfl, rfl, by decide +kernel, rfl, by decide +kernel, by decide +kernel⟩
abbrev s_shows : Stmt := top 80
abbrev n_shows : List Str := ["size", "page", "table", "offset", "rows"]
abbrev p_shows : List Str := ["size", "page", "table"]
theorem sc_shows : FnScope n_shows p_shows (defScope s_shows) := ⟨rfl, rfl, rfl, by decide +kernel, rfl, by decide +kernel, by decide +kernel⟩
abbrev s_check_shown : Stmt := top 81
abbrev n_check_shown : List Str := ["size", "pages", "tables", "at"]
abbrev p_check_shown : List Str := ["size", "pages", "tables"]
theorem sc_check_shown : FnScope n_check_shown p_check_shown (defScope s_check_shown) := ⟨rfl, rfl, rfl, by decide +kernel, rfl, by decide +kernel, by decide +kernel⟩
abbrev s_check_order : Stmt := top 82
abbrev n_check_order : List Str := ["lists"]
abbrev p_check_order : List Str := ["lists"]
theorem sc_check_order : FnScope n_check_order p_check_order (defScope s_check_order) := ⟨rfl, rfl, rfl, by decide +kernel, rfl, by decide +kernel, by decide +kernel⟩
abbrev s_tally : Stmt := top 83
abbrev n_tally : List Str := ["lists", "many", "rows", "row"]
abbrev p_tally : List Str := ["lists"]
theorem sc_tally : FnScope n_tally p_tally (defScope s_tally) := ⟨rfl, rfl, rfl, by decide +kernel, rfl, by decide +kernel, by decide +kernel⟩
abbrev s_missed_rows : Stmt := top 84
abbrev n_missed_rows : List Str := ["pages", "tables", "many", "seen", "row"]
abbrev p_missed_rows : List Str := ["pages", "tables"]
theorem sc_missed_rows : FnScope n_missed_rows p_missed_rows (defScope s_missed_rows) := ⟨rfl, rfl, rfl, by decide +kernel, rfl, by decide +kernel, by decide +kernel⟩
abbrev s_checked_missed_rows : Stmt := top 85
abbrev n_checked_missed_rows : List Str := ["size", "pages", "tables"]
abbrev p_checked_missed_rows : List Str := ["size", "pages", "tables"]
theorem sc_checked_missed_rows : FnScope n_checked_missed_rows p_checked_missed_rows (defScope s_checked_missed_rows) := ⟨rfl, rfl, rfl, by decide +kernel, rfl, by decide +kernel, by decide +kernel⟩
section
variable (C XO XW : Addr)
def spAboveRows : Sp := fun vs H Q _ => ∃ (v : V) (ps : List Page) (M : List Addr), vs = [v] ∧ Off M H ∧ DAt C M H v (pagesD ps) ∧ ps.length ≤ 20000 ∧ Gives C M H Q (.int (aboveM (ps.map (·.rows)).flatten : Nat))
def spRun : Sp := fun vs H Q _ => ∃ (a : Nat) (m : Int), vs = [.int a, .int m] ∧ a ≤ 4000000 ∧ 0 ≤ (a : Int) + m ∧ m ≤ 4000000 ∧ GivesL H Q ((List.range' a m.toNat).map natI)
def spExampleTables : Sp := fun vs H Q _ => ∃ (v : V) (size missed : Nat) (ps : List Page) (M : List Addr), vs = [.int size, v, .int missed] ∧ Off M H ∧ DAt C M H v (pagesD ps) ∧ PagesOk ps ∧ missed ≤ 200 ∧ Gives C M H Q (dNN (exampleM size missed ps))
def spCheckedExample : Sp := fun vs H Q E => ∃ (v : V) (size missed : Nat) (ps : List Page) (M : List Addr), vs = [.int size, v, .int missed] ∧ Off M H ∧ DAt C M H v (pagesD ps) ∧ PagesOk ps ∧ missed ≤ 200 ∧
  (overM size missed ps = false → Gives C M H Q (dNN (exampleM size missed ps))) ∧ (overM size missed ps = true → Errs E H XO "no history misses so many rows")
def spShows : Sp := fun vs H Q _ => ∃ (v u : V) (size : Nat) (p : Page) (t : List Nat) (M : List Addr), vs = [.int size, v, u] ∧ Off M H ∧ DAt C M H v (pageD p) ∧ DAt C M H u (dN t) ∧ Gives C M H Q (.bl (showsM size p t))
def spCheckShown : Sp := fun vs H Q E => ∃ (v u : V) (size : Nat) (ps : List Page) (ts : List (List Nat)) (M : List Addr), vs = [.int size, v, u] ∧ Off M H ∧ DAt C M H v (pagesD ps) ∧ DAt C M H u (dNN ts) ∧ ps.length ≤ 20 ∧ ts.length = ps.length ∧
  (unshownM size ps ts = none → ∀ H', Same H H' → Q .non H') ∧ (∀ i, unshownM size ps ts = some i → Errs E H XO (shownMsg i))
def spCheckOrder : Sp := fun vs H Q E => ∃ (v : V) (xs : List (List Nat)) (M : List Addr), vs = [v] ∧ Off M H ∧ DAt C M H v (dNN xs) ∧ xs.length ≤ 20000 ∧ xs.flatten.length ≤ 20000 ∧ (agreeM xs = true → ∀ H', Same H H' → Q .non H') ∧ (agreeM xs = false → Errs E H XO "rows have changed their order")
def spTally : Sp := fun vs H Q _ => ∃ (v : V) (xs : List (List Nat)) (M : List Addr), vs = [v] ∧ Off M H ∧ DAt C M H v (dNN xs) ∧ xs.flatten.length ≤ 20000 ∧ ∀ p H', Same H H' → H p = none → H' p = some (.dK (tallyD xs.flatten)) → Q (.ref p) H'
def spMissedRows : Sp := fun vs H Q _ => ∃ (v u : V) (ps : List Page) (ts : List (List Nat)) (M : List Addr), vs = [v, u] ∧ Off M H ∧ DAt C M H v (pagesD ps) ∧ DAt C M H u (dNN ts) ∧ ps.length ≤ 20000 ∧ (ps.map (·.rows)).flatten.length ≤ 20000 ∧ ts.flatten.length ≤ 20000 ∧ Gives C M H Q (dN (missedM ps ts))
def spCheckedMissedRows : Sp := fun vs H Q E => ∃ (v u : V) (size : Nat) (ps : List Page) (ts : List (List Nat)) (M : List Addr), vs = [.int size, v, u] ∧ Off M H ∧ DAt C M H v (pagesD ps) ∧ DAt C M H u (dNN ts) ∧ ps.length ≤ 20 ∧ ts.length = ps.length ∧ (ps.map (·.rows)).flatten.length ≤ 20000 ∧ ts.flatten.length ≤ 20000 ∧
  (unshownM size ps ts = none → agreeM ts = true → Gives C M H Q (dN (missedM ps ts))) ∧ (∀ i, unshownM size ps ts = some i → Errs E H XO (shownMsg i)) ∧ (unshownM size ps ts = none → agreeM ts = false → Errs E H XO "rows have changed their order")
end
section
variable {P : Program} {w : World} {K : PySem.W.Frag} {mg : Str → Option Value} {base : Heap} {C XO XW : Addr} {f : Addr} {fd : FuncData}
theorem ok_above_rows (D : Df K mg "above_rows" s_above_rows p_above_rows f fd) (B : Blt mg) (O_rows_of : Own P w K mg base CX0 1 "rows_of" p_rows_of (spRowsOf C)) : Own P w K mg base CX0 2 "above_rows" p_above_rows (spAboveRows C) := by
  refine D.own (D.F.ok sc_above_rows (fun vs H Q E h => ?_) (fun cdv A outer s H vs Q E hr h => ⟨_, pss_cons (ps_set (i := 1) sc_above_rows.nd rfl (Or.inl rfl) pe_int) (pss_cons (ps_for PassesOwn.never rfl (pi_list (pe_own O_rows_of hr (pa_cons (pv 0) pa_nil))) (pg_name (i := 2) sc_above_rows.nd rfl (Or.inl rfl)) (pss_one (ps_for PassesOwn.never rfl (pi_list (pv 2)) (pg_name (i := 3) sc_above_rows.nd rfl (Or.inl rfl)) (pss_one (ps_set (i := 1) sc_above_rows.nd rfl (Or.inl rfl) (pe_callB (call_max2 rfl) rfl B.max boot_max (pa_cons (pv 1) (pa_cons (pe_op op_add (pv 3) pe_int) pa_nil)))))))) (pss_one (ps_ret (pv 1)))), ?_⟩))
  · obtain ⟨v, ps, M, rfl, _⟩ := h
    rfl
  · obtain ⟨v, ps, M, rfl, off, d, hl, g⟩ := h
    obtain ⟨a, _, rfl, _⟩ := d.lstAt
    refine ⟨_, rfl, .ref a, ps, M, rfl, off, d, hl, fun r1 H1 s1 d1 => ?_⟩
    generalize hlists : ps.map (·.rows) = xs at *
    obtain ⟨o, ys, rfl, _, eo, dy⟩ := d1.lstAt
    have hyl : ys.length = xs.length := by rw [dy.length, List.length_map]
    refine ⟨o, rfl, ⟨_, SqL.of eo⟩, for_list (K := K) (a := o) (xs := ys) (fun i σ H' => H' = H1 ∧ ∃ z z2 : Option V, σ = [some (.ref a), some (.int (aboveM (xs.take i).flatten : Nat)), z, z2]) ⟨rfl, none, none, rfl⟩ (fun i σ H' _ hh => by rw [hh.1]; exact SqL.of eo) ?_ ?_⟩
    · rintro i y σ H' hy ⟨rfl, z, z2, rfl⟩
      obtain ⟨rows, r, hrows, rfl, _, er⟩ := dNN_at dy hy
      refine ⟨_, rfl, r, rfl, ⟨_, SqL.of er⟩, for_list (K := K) (a := r) (xs := nV rows) (fun j σ H2 => H2 = H' ∧ ∃ z2 : Option V, σ = [some (.ref a), some (.int (aboveM ((xs.take i).flatten ++ rows.take j) : Nat)), some (.ref r), z2]) ⟨rfl, z2, by simp⟩ (fun j σ H2 _ hh => by rw [hh.1]; exact SqL.of er) ?_ ?_⟩
      · rintro j y σ H2 hy2 ⟨rfl, z2, rfl⟩
        obtain ⟨n, hn, rfl⟩ := nat_at hy2
        refine ⟨_, rfl, _, rfl, _, _, rfl, rfl, _, _, rfl, rfl, some (.int n), ?_⟩
        have e1 : aboveM ((xs.take i).flatten ++ rows.take (j + 1)) = max (aboveM ((xs.take i).flatten ++ rows.take j)) (n + 1) := by
          unfold aboveM
          rw [take_more hn, ← List.append_assoc, List.foldl_append]
          rfl
        have e2 : (if (n : Int) + 1 > (aboveM ((xs.take i).flatten ++ rows.take j) : Nat) then (n : Int) + 1 else (aboveM ((xs.take i).flatten ++ rows.take j) : Nat)) = ((aboveM ((xs.take i).flatten ++ rows.take (j + 1)) : Nat) : Int) := by
          rw [e1]
          split <;> omega
        rw [← e2]
        rfl
      · rintro σ H2 ⟨rfl, z2, rfl⟩
        rw [List.length_map, List.length_map, List.take_length]
        refine ⟨rfl, some (.ref r), z2, ?_⟩
        rw [flat_take hrows]
    · rintro σ H' ⟨rfl, z, z2, rfl⟩
      rw [hyl, List.take_length]
      exact ⟨_, rfl, g.int s1⟩
theorem ok_run (D : Df K mg "run" s_run p_run f fd) (B : Blt mg) : Own P w K mg base CX0 1 "run" p_run spRun := by
  refine D.own (D.F.ok sc_run (fun vs H Q E h => ?_) (fun cdv A outer s H vs Q E hr h => ⟨_, pss_one (ps_ret (pe_listRg rfl rfl B.list (prg_2 rfl B.range (pv 0) (pe_op op_add (pv 0) (pv 1))))), ?_⟩))
  · obtain ⟨a, m, rfl, _⟩ := h
    rfl
  · obtain ⟨a, m, rfl, ha, h0, hm, g⟩ := h
    refine ⟨_, rfl, _, rfl, _, rfl, _, _, rfl, rfl, _, _, rfl, rfl, RgOk.of_le (by omega) (by omega) (by omega) (by omega), fun q hq => g q _ (Same.new hq) hq ?_⟩
    rw [upd_same]
    have e : rgV (a : Int) ((a : Int) + m) = ((List.range' a m.toNat).map natI).map V.int := by
      unfold rgV
      rw [show ((a : Int) + m - a).toNat = m.toNat from by omega, List.range'_eq_map_range, List.map_map, List.map_map]
      apply List.map_congr_left
      intro i _
      simp
    exact congrArg (fun x => some (HO.lst x)) e
theorem above_le {l : List Nat} (h : ∀ r ∈ l, r ≤ 1000000) : aboveM l ≤ 1000001 := by
  have go : ∀ (l : List Nat) (n : Nat), n ≤ 1000001 → (∀ r ∈ l, r ≤ 1000000) → l.foldl (fun n r => max n (r + 1)) n ≤ 1000001 := by
    intro l
    induction l with
    | nil => intro n hn _; exact hn
    | cons a l ih =>
      intro n hn h
      exact ih _ (by have := h a List.mem_cons_self; show max n (a + 1) ≤ _; omega) fun r hr => h r (List.mem_cons_of_mem _ hr)
  exact go l 0 (by omega) h
theorem mostIn_le {k : Int} {l : List Int} (h : ∀ n ∈ l, 0 ≤ n ∧ n ≤ k) (hk : 0 ≤ k) : 0 ≤ mostIn 0 l ∧ mostIn 0 l ≤ k := by
  have go : ∀ (l : List Int) (n : Int), 0 ≤ n → n ≤ k → (∀ n ∈ l, 0 ≤ n ∧ n ≤ k) → 0 ≤ l.foldl max n ∧ l.foldl max n ≤ k := by
    intro l
    induction l with
    | nil => intro n h0 h1 _; exact ⟨h0, h1⟩
    | cons a l ih =>
      intro n h0 h1 h
      have := h a List.mem_cons_self
      exact ih _ (by omega) (by omega) fun r hr => h r (List.mem_cons_of_mem _ hr)
  cases l with
  | nil => exact ⟨by show (0 : Int) ≤ 0; omega, hk⟩
  | cons a l =>
    have := h a List.mem_cons_self
    exact go l a this.1 this.2 fun r hr => h r (List.mem_cons_of_mem _ hr)
theorem great_le {ps : List Page} (ok : PagesOk ps) : 0 ≤ greatM ps ∧ greatM ps ≤ 200 := by
  refine mostIn_le (fun n hn => ?_) (by omega)
  obtain ⟨p, hp, rfl⟩ := List.mem_map.mp hn
  have := ok.off p hp
  exact ⟨by omega, by omega⟩
theorem pgAt_mem {ps : List Page} {i : Nat} (h : i < ps.length) : pgAt ps i ∈ ps := List.mem_of_getElem? (pgAt_get h)
theorem nV_app (a b : List Nat) : nV a ++ nV b = nV (a ++ b) := by simp
theorem nV_length (a : List Nat) : (nV a).length = a.length := by simp
theorem ok_example_tables (D : Df K mg "example_tables" s_example_tables p_example_tables f fd) (B : Blt mg) (O_above_rows : Own P w K mg base CX0 2 "above_rows" p_above_rows (spAboveRows C)) (O_run : Own P w K mg base CX0 1 "run" p_run spRun)
    (O_ending_pages : Own P w K mg base CX0 3 "ending_pages" p_ending_pages (spEndingPages C)) : Own P w K mg base CX0 4 "example_tables" p_example_tables (spExampleTables C) := by
  refine D.own (D.F.ok sc_example_tables (fun vs H Q E h => ?_) (fun cdv A outer s H vs Q E hr h => ⟨_, pss_cons (ps_set (i := 3) sc_example_tables.nd rfl (Or.inl rfl) (pe_own O_above_rows hr (pa_cons (pv 1) pa_nil))) (pss_cons (ps_set (i := 4) sc_example_tables.nd rfl (Or.inl rfl) (pe_callBK (cr_maxD rfl hr.units) rfl B.max boot_max (pa_cons (pe_lc (own := [("page", 11)]) (g := gName 11) (tt := tYes) rfl sc_example_tables.nd (pi_list (pv 1)) (blkOk_by (N := n_example_tables) (sc := defScope s_example_tables) (by decide +kernel)) (fun _ _ _ _ _ => pg_name (i := 11) sc_example_tables.nd rfl (Or.inl rfl)) (fun _ _ _ _ _ => pts_nil) (fun _ _ _ _ _ => (pe_ix (ix_tupK (K := K) rfl) (pv 11) pe_int (fun _ _ => rfl)))) pa_nil) (pk_cons pe_int pk_nil))) (pss_cons (ps_set (i := 5) sc_example_tables.nd rfl (Or.inl rfl) (pe_own O_run hr (pa_cons (pv 3) (pa_cons (pv 2) pa_nil)))) (pss_cons (ps_set (i := 6) sc_example_tables.nd rfl (Or.inl rfl) (pe_own O_ending_pages hr (pa_cons (pv 0) (pa_cons (pv 1) pa_nil)))) (pss_cons (ps_set (i := 7) sc_example_tables.nd rfl (Or.inl rfl) (pe_lst pa_nil)) (pss_cons (ps_for PassesOwn.never rfl (pi_range1 rfl B.range (pa_cons (pe_callB (call_lenK (K := K) rfl) rfl B.len boot_len (pa_cons (pv 1) pa_nil)) pa_nil)) (pg_name (i := 8) sc_example_tables.nd rfl (Or.inl rfl)) (pss_cons (ps_asg (pe_ix (ix_listK (K := K) rfl) (pv 1) (pv 8) (fun _ _ => rfl)) (pg_tup rfl (pgs_cons (pg_name (i := 9) sc_example_tables.nd rfl (Or.inl rfl)) (pgs_cons (pg_name (i := 10) sc_example_tables.nd rfl (Or.inl rfl)) pgs_nil)))) (pss_one (ps_if (pt_val (pe_ix (ix_listK (K := K) rfl) (pv 6) (pv 8) (fun _ _ => rfl))) (pss_one (ps_expr (pe_bm PySem.F.plainAttrs_list PySem.F.slot_list_append PySem.F.type_list_append mt_append (pv 7) (pa_cons (pe_op op_cat (pe_op op_cat (pv 5) (pe_own O_run hr (pa_cons (pe_op op_add (pv 3) (pv 2)) (pa_cons (pe_op op_sub (pv 9) (pv 2)) pa_nil)))) (pv 10)) pa_nil)))) (pss_one (ps_expr (pe_bm PySem.F.plainAttrs_list PySem.F.slot_list_append PySem.F.type_list_append mt_append (pv 7) (pa_cons (pe_op op_cat (pe_op op_cat (pe_own O_run hr (pa_cons (pe_op op_add (pe_op op_add (pv 3) (pv 2)) (pv 4)) (pa_cons (pv 9) pa_nil))) (pv 10)) (pv 5)) pa_nil)))))))) (pss_one (ps_ret (pv 7)))))))), ?_⟩))
  · obtain ⟨v, size, missed, ps, M, rfl, _⟩ := h
    rfl
  · obtain ⟨v, size, missed, ps, M, rfl, off, d, ok, hmi, g⟩ := h
    have hl : ps.length ≤ 20000 := Nat.le_trans ok.len (by omega)
    obtain ⟨a, ys, rfl, _, ea, dy⟩ := d.lstAt
    have hyl : ys.length = ps.length := by rw [dy.length, List.length_map]
    refine ⟨_, rfl, .ref a, ps, M, rfl, off, d, hl, fun r1 H1 s1 d1 => ?_⟩
    cases d1
    have hab : aboveM (ps.map (·.rows)).flatten ≤ 1000001 := by
      refine above_le fun r hr => ?_
      obtain ⟨rows, hrows, hr2⟩ := List.mem_flatten.mp hr
      obtain ⟨p, hp, rfl⟩ := List.mem_map.mp hrows
      exact (ok.rows p hp).2 r hr2
    generalize hbase : aboveM (ps.map (·.rows)).flatten = b at hab
    refine ⟨_, rfl, a, rfl, ⟨_, SqL.of (s1 _ _ ea)⟩, fun D hD => lc_map (C := C) (M := M) (es := (ps.map fun p => (p.offset : Int)).map Dat.int) (SqL.of (s1 _ _ ea)) (off.same s1) hD (by rw [hyl]; simp) (by rw [hyl]; exact ten_line hl) (fun j x e' H' Q' hx he s o q => ?_) (fun H2 s2 d2 => ?_)⟩
    · have hj := get_some hx
      rw [hyl] at hj
      obtain ⟨t, r, hy, _, _, et, er⟩ := page_at dy hj
      rw [hy] at hx
      cases hx
      have he' : ((ps.map fun p => (p.offset : Int)).map Dat.int)[j]? = some (.int ((pgAt ps j).offset : Int)) := by
        rw [List.getElem?_map, List.getElem?_map, pgAt_get hj]
        rfl
      rw [he'] at he
      cases he
      exact ⟨_, rfl, t, _, 0, _, rfl, rfl, SqT.of (s _ _ (s1 _ _ et)), atI_nat (j := 0) rfl, q _ _ (Same.refl _) (.int _)⟩
    · obtain ⟨D', eD, _, e2⟩ := d2.dIAt
      cases eD
      obtain ⟨hg0, hg1⟩ := great_le ok
      refine ⟨D, _, 0, rfl, rfl, SqL.of e2, ?_⟩
      show tSeq _ _ _ _ _
      change tSeq _ _ _ (List.set _ 4 (some (V.int (greatM ps)))) _
      generalize hgr : greatM ps = gr at hg0 hg1
      have o2 := (off.same s1).same s2
      refine ⟨_, rfl, _, rfl, b, missed, rfl, by omega, by omega, by omega, fun u H3 s3 nu eu => ?_⟩
      rw [Int.toNat_natCast] at eu
      have s13 := (s1.trans s2).trans s3
      refine ⟨_, rfl, _, rfl, .ref a, size, ps, M, rfl, o2.same s3, d.same s13, hl, fun r4 H4 s4 d4 => ?_⟩
      have hel : (endingM size ps).length = ps.length := by unfold endingM; rw [List.length_map, marks_length]
      obtain ⟨z, zs, rfl, _, ez, dz⟩ := d4.lstAt
      have s14 := s13.trans s4
      have off4 := off.same s14
      refine ⟨zero_line, fun q hq => ?_⟩
      have ea4 := s14 _ _ ea
      have sq := Same.new (o := .lst []) hq
      refine ⟨_, rfl, a, _, rfl, .inl (SqL.of (sq _ _ ea4)), _, rfl, by omega, by omega, ?_⟩
      rw [Int.toNat_natCast, hyl]
      refine for_range (lo := 0) (n := ps.length) (fun i σ H' => ∃ z1 z2 z3 z4 : Option V, σ = [some (.int size), some (.ref a), some (.int missed), some (.int b), some (.int gr), some (.ref u), some (.ref z), some (.ref q), z1, z2, z3, z4] ∧ LcInv C M H4 q (fun _ => true) (fun i => dN (exampleAt size missed ps i)) i H') ⟨_, _, _, _, rfl, LcInv.start hq⟩ ?_ ?_
      · rintro i σ H' hi ⟨z1, z2, z3, z4, rfl, x⟩
        obtain ⟨t, r, hy, _, _, et, er⟩ := page_at dy hi
        obtain ⟨zi, hzi, dzi⟩ := dz.get (i := i) (d := .bl ((endingM size ps).getD i false)) (by
          rw [List.getElem?_map, List.getElem?_eq_getElem (by omega)]
          simp [show i < (endingM size ps).length from by omega])
        cases dzi
        have pm := pgAt_mem hi
        have ho := ok.off _ pm
        have hrw := (ok.rows _ pm).1
        obtain ⟨acc, eacc, _⟩ := x.2
        have sx := x.1
        refine ⟨_, rfl, _, rfl, a, _, _, _, rfl, rfl, SqL.of (sx _ _ ea4), at_of (j := i) (by omega) hy, t, _, rfl, SqT.of (sx _ _ (s14 _ _ et)), rfl, _, _, rfl, _, _, rfl, rfl, ?_⟩
        refine ⟨_, rfl, _, rfl, z, _, _, _, rfl, rfl, SqL.of (sx _ _ ez), at_of (j := i) (by omega) hzi, _, rfl, ?_⟩
        have eu' := sx _ _ (s4 _ _ eu)
        have er' := sx _ _ (s14 _ _ er)
        by_cases c : (endingM size ps).getD i false = true
        · refine itT c ⟨_, rfl, .inl ⟨rfl, _, SqL.of eacc⟩, _, rfl, _, rfl, _, rfl, _, _, rfl, rfl, _, rfl, _, rfl, _, _, rfl, rfl, b + missed, ((pgAt ps i).offset : Int) - (missed : Int), rfl, by omega, by omega, by omega, fun p1 H5 s5 n5 e5 => ?_⟩
          refine ⟨u, p1, _, _, rfl, rfl, s5 _ _ eu', e5, by rw [List.length_map, List.length_map, List.length_map, List.length_map, List.length_range', List.length_range', sizeLine_eq]; omega, fun p2 hp2 => ?_⟩
          have s6 := Same.new (o := .lst (nV (List.range' b missed) ++ iV ((List.range' (b + missed) (((pgAt ps i).offset : Int) - (missed : Int)).toNat).map natI))) hp2
          refine ⟨_, rfl, p2, r, _, _, rfl, rfl, upd_same, s6 _ _ (s5 _ _ er'), by simp only [List.length_append, List.length_map, List.length_range', sizeLine_eq]; omega, fun p3 hp3 => ?_⟩
          have s7 := (s5.trans s6).trans (Same.new (o := .lst (nV (List.range' b missed) ++ iV ((List.range' (b + missed) (((pgAt ps i).offset : Int) - (missed : Int)).toNat).map natI) ++ nV (pgAt ps i).rows)) hp3)
          have ofx := x.off off4
          have np3 : p3 ∉ q :: M := ((ofx.same s5).same s6).new hp3
          obtain ⟨acc', e8, l8, x8⟩ := x.turn (y := .ref p3) hq rfl s7 (.dI np3 (by
            rw [upd_same]
            unfold exampleAt
            rw [if_pos c, hbase, show (((pgAt ps i).offset : Int) - (missed : Int)).toNat = (pgAt ps i).offset - missed from by omega]
            simp only [List.map_append])) (by rw [sizeLine_eq]; omega)
          exact ⟨q, acc', _, rfl, rfl, e8, l8, _, _, _, _, rfl, x8⟩
        · refine itF (by simpa using c) ⟨_, rfl, .inl ⟨rfl, _, SqL.of eacc⟩, _, rfl, _, rfl, _, _, rfl, rfl, _, rfl, _, _, rfl, rfl, _, rfl, b + missed + gr.toNat, ((pgAt ps i).offset : Int), (show [V.int ((b : Int) + (missed : Int) + gr), V.int ((pgAt ps i).offset : Int)] = [V.int ((b + missed + gr.toNat : Nat) : Int), V.int ((pgAt ps i).offset : Int)] from by rw [show (b : Int) + (missed : Int) + gr = ((b + missed + gr.toNat : Nat) : Int) from by omega]), by omega, by omega, by omega, fun p1 H5 s5 n5 e5 => ?_⟩
          rw [Int.toNat_natCast] at e5
          refine ⟨_, rfl, p1, r, _, _, rfl, rfl, e5, s5 _ _ er', by rw [List.length_map, List.length_map, List.length_map, List.length_map, List.length_range', sizeLine_eq]; omega, fun p2 hp2 => ?_⟩
          have s6 := Same.new (o := .lst (nV (List.range' (b + missed + gr.toNat) (pgAt ps i).offset) ++ nV (pgAt ps i).rows)) hp2
          refine ⟨_, rfl, p2, u, _, _, rfl, rfl, upd_same, s6 _ _ (s5 _ _ eu'), by simp only [List.length_append, List.length_map, List.length_range', sizeLine_eq]; omega, fun p3 hp3 => ?_⟩
          have s7 := (s5.trans s6).trans (Same.new (o := .lst (nV (List.range' (b + missed + gr.toNat) (pgAt ps i).offset) ++ nV (pgAt ps i).rows ++ nV (List.range' b missed))) hp3)
          have ofx := x.off off4
          have np3 : p3 ∉ q :: M := ((ofx.same s5).same s6).new hp3
          obtain ⟨acc', e8, l8, x8⟩ := x.turn (y := .ref p3) hq rfl s7 (.dI np3 (by
            rw [upd_same]
            unfold exampleAt
            rw [if_neg c, hbase, hgr]
            simp only [List.map_append])) (by rw [sizeLine_eq]; omega)
          exact ⟨q, acc', _, rfl, rfl, e8, l8, _, _, _, _, rfl, x8⟩
      · rintro σ H' ⟨z1, z2, z3, z4, rfl, x⟩
        obtain ⟨s5, d5⟩ := x.done hq off4
        rw [pick_all] at d5
        refine ⟨_, rfl, g _ _ (s14.trans s5) ?_⟩
        show DAt C M H' (.ref q) (.lst (((List.range ps.length).map (exampleAt size missed ps)).map dN))
        rw [List.map_map]
        exact d5
theorem ok_checked_example (D : Df K mg "checked_example" s_checked_example p_checked_example f fd) (Kc : Csts mg) (X_OutOfRange : XCls K mg "OutOfRange" XO) (O_most_missed : Own P w K mg base CX0 4 "most_missed" p_most_missed (spMostMissed C))
    (O_example_tables : Own P w K mg base CX0 4 "example_tables" p_example_tables (spExampleTables C)) : Own P w K mg base (CXm P w) 5 "checked_example" p_checked_example (spCheckedExample C XO) := by
  refine D.own (fun_okM D.F sc_checked_example (fun vs H Q E h => ?_) (fun cdv A outer s H vs Q E hr h => ⟨_, pss_cons (ps_set (i := 3) sc_checked_example.nd rfl (Or.inl rfl) (pe_own O_most_missed hr (pa_cons (pv 0) (pa_cons (pv 1) pa_nil)))) (pss_cons (ps_if (PW.pt (pw_and (pt_cmpR op_ge (pv 3) pe_int (nomark _)) (pw_and1 (pt_cmpR op_lt (pv 3) (pv 2) (nomark _))))) (pss_one (ps_raiseM rfl (takesM_of rfl rfl rfl rfl) (pmk_msg X_OutOfRange rfl (pe_k Kc.HISTORY_WORDS)))) pss_nil) (pss_one (ps_ret (pe_own O_example_tables hr (pa_cons (pv 0) (pa_cons (pv 1) (pa_cons (pv 2) pa_nil))))))), ?_⟩))
  · obtain ⟨v, size, missed, ps, M, rfl, _⟩ := h
    rfl
  · obtain ⟨v, size, missed, ps, M, rfl, off, d, ok, hmi, g, ge⟩ := h
    have hl : ps.length ≤ 20000 := Nat.le_trans ok.len (by omega)
    refine ⟨_, rfl, _, rfl, v, size, ps, M, rfl, off, d, hl, fun r1 H1 s1 d1 => ?_⟩
    cases d1
    have fin : overM size missed ps = false → ∀ H', Same H H' → spExampleTables C [.int size, v, .int missed] H' Q E0 := fun c H' s' => ⟨v, size, missed, ps, M, rfl, off.same s', d.same s', ok, hmi, fun r H2 s2 d2 => g c r H2 (s'.trans s2) d2⟩
    refine ⟨_, rfl, _, _, rfl, rfl, _, rfl, ?_⟩
    by_cases c1 : 0 ≤ mostI size ps
    · refine itT (decide_eq_true c1) ⟨_, rfl, _, rfl, _, _, rfl, rfl, _, rfl, ?_⟩
      by_cases c2 : mostI size ps < (missed : Int)
      · refine itT (decide_eq_true c2) fun t ht => (ge ?_).new s1 t ht
        unfold overM
        exact decide_eq_true ⟨c1, c2⟩
      · refine itF (decide_eq_false c2) ⟨_, rfl, _, rfl, _, rfl, fin ?_ _ s1⟩
        unfold overM
        exact decide_eq_false fun z => c2 z.2
    · refine itF (decide_eq_false c1) (itF rfl ⟨_, rfl, _, rfl, _, rfl, fin ?_ _ s1⟩)
      unfold overM
      exact decide_eq_false fun z => c1 z.1
theorem cut_any {xs : List V} {lo n : Nat} : cutV xs (some (lo : Int)) (some ((lo + n : Nat) : Int)) = (xs.drop lo).take n := by
  unfold cutV
  rw [HT.sIx_nat, HT.sIx_nat]
  by_cases h : lo ≤ xs.length
  · rw [Nat.min_eq_left h]
    by_cases h2 : lo + n ≤ xs.length
    · rw [Nat.min_eq_left h2]
      congr 1
      omega
    · rw [Nat.min_eq_right (by omega)]
      rw [List.take_of_length_le (by rw [List.length_drop]; omega), List.take_of_length_le (by rw [List.length_drop]; omega)]
  · rw [Nat.min_eq_right (show xs.length ≤ lo + n from by omega), Nat.min_eq_right (show xs.length ≤ lo from by omega)]
    rw [List.drop_of_length_le (Nat.le_refl _), List.drop_of_length_le (by omega)]
    simp
theorem dp_nats {K : PySem.W.Frag} {H : Hp} : ∀ l : List Nat, DpAll K H (nV l) ((l.map natI).map PyData.int)
  | [] => .nil
  | n :: r => .cons (.int _) (dp_nats r)
theorem shaped_nats (l : List Nat) : SeqAt.shaped (.list ((l.map natI).map PyData.int)) = true := by
  have h1 : PyData.canLayAll0 ((l.map natI).map PyData.int) = true := by
    induction l with
    | nil => rfl
    | cons a l ih =>
      rw [List.map_cons, List.map_cons]
      simp only [PyData.canLayAll0, PyData.canLay0, ih]
      rfl
  unfold SeqAt.shaped
  simp only [PyData.canLay0, h1, PyData.depth, depth_ints]
  rfl
theorem eqv_nats : ∀ a b : List Nat, PyData.eqvAll ((a.map natI).map PyData.int) ((b.map natI).map PyData.int) = decide (a = b)
  | [], [] => rfl
  | [], _ :: _ => rfl
  | _ :: _, [] => rfl
  | x :: a, y :: b => by
    rw [List.map_cons, List.map_cons, List.map_cons, List.map_cons]
    simp only [PyData.eqvAll, PyData.eqv, eqv_nats a b]
    by_cases h : x = y
    · subst h
      by_cases h2 : a = b <;> simp [h2]
    · have h2 : ((natI x : Int) == natI y) = false := by simp only [beq_eq_false_iff_ne, natI]; omega
      rw [h2]
      simp [h]
/-- a page that stands -/
theorem pageAt_of {M : List Addr} {H : Hp} {v : V} {p : Page} (d : DAt C M H v (pageD p)) : ∃ t r, v = .ref t ∧ H t = some (.tup [.int (p.offset : Int), .ref r]) ∧ H r = some (.lst (nV p.rows)) := by
  obtain ⟨t, xs, rfl, nt, et, dt⟩ := d.tupAt
  cases dt with
  | cons h1 dt =>
    cases dt with
    | cons h2 dt =>
      cases dt
      cases h1
      obtain ⟨r, rfl, nr, er⟩ := h2.dIAt
      exact ⟨t, r, rfl, et, er⟩
theorem ok_shows (D : Df K mg "shows" s_shows p_shows f fd) : Own P w K mg base CX0 1 "shows" p_shows (spShows C) := by
  refine D.own (D.F.ok sc_shows (fun vs H Q E h => ?_) (fun cdv A outer s H vs Q E hr h => ⟨_, pss_cons (ps_asg (pv 1) (pg_tup rfl (pgs_cons (pg_name (i := 3) sc_shows.nd rfl (Or.inl rfl)) (pgs_cons (pg_name (i := 4) sc_shows.nd rfl (Or.inl rfl)) pgs_nil)))) (pss_one (ps_ret (pe_cmpR (op_eqD hr.units) (pe_slice sl_list (pv 2) (po_some (pv 3)) (po_some (pe_op op_add (pv 3) (pv 0)))) (pv 4) (nomark _)))), ?_⟩))
  · obtain ⟨v, u, size, p, t, M, rfl, _⟩ := h
    rfl
  · obtain ⟨v, u, size, p, tb, M, rfl, off, d, du, g⟩ := h
    obtain ⟨t, r, rfl, et, er⟩ := pageAt_of d
    obtain ⟨a, rfl, _, ea⟩ := du.dIAt
    refine ⟨_, rfl, t, _, rfl, SqT.of et, rfl, _, _, rfl, _, _, rfl, rfl, ?_⟩
    refine ⟨_, rfl, _, rfl, _, rfl, _, rfl, _, rfl, _, _, rfl, rfl, _, rfl, a, _, rfl, SqL.of ea, fun q hq => ?_⟩
    have e1 : cutV (nV tb) (some (p.offset : Int)) (some ((p.offset : Int) + (size : Int))) = nV ((tb.drop p.offset).take size) := by
      rw [show (p.offset : Int) + (size : Int) = ((p.offset + size : Nat) : Int) from by omega, cut_any, ← List.map_drop, ← List.map_drop, ← List.map_take, ← List.map_take]
    have s1 := Same.new (o := .lst (cutV (nV tb) (some (p.offset : Int)) (some ((p.offset : Int) + (size : Int))))) hq
    refine ⟨_, rfl, .list ((((tb.drop p.offset).take size).map natI).map PyData.int), .list ((p.rows.map natI).map PyData.int), .lst (SqL.of (show _ = some (HO.lst (nV ((tb.drop p.offset).take size))) from by rw [upd_same]; exact congrArg (fun x => some (HO.lst x)) e1)) (dp_nats _), .lst (SqL.of (s1 _ _ er)) (dp_nats _), shaped_nats _, shaped_nats _, ?_⟩
    have e2 : PyData.eqv (.list ((((tb.drop p.offset).take size).map natI).map PyData.int)) (.list ((p.rows.map natI).map PyData.int)) = showsM size p tb := by
      simp only [PyData.eqv]
      exact eqv_nats _ _
    rw [e2]
    exact g.bl s1
theorem numS_len {i : Nat} (h : i < 600) : (numS i).length ≤ 10 := by
  have : ∀ i : Fin 600, (numS i.val).length ≤ 10 := by decide +kernel
  exact this ⟨i, h⟩
theorem log_small {i : Nat} (h : i < 600) : (i : Int).natAbs.log2 < 1920 := by
  have : ∀ i : Fin 600, ((i.val : Nat) : Int).natAbs.log2 < 1920 := by decide +kernel
  exact this ⟨i, h⟩
theorem app_len (a b : Str) : (a ++ b).length = a.length + b.length := by
  show (a.cps ++ b.cps).size = _
  rw [Array.size_append]
  rfl
theorem ok_check_shown (D : Df K mg "check_shown" s_check_shown p_check_shown f fd) (B : Blt mg) (X_OutOfRange : XCls K mg "OutOfRange" XO) (O_shows : Own P w K mg base CX0 1 "shows" p_shows (spShows C)) :
    Own P w K mg base (CXm P w) 2 "check_shown" p_check_shown (spCheckShown C XO) := by
  refine D.own (fun_okM D.F sc_check_shown (fun vs H Q E h => ?_) (fun cdv A outer s H vs Q E hr h => ⟨_, pss_one (ps_for (passes_of rfl) rfl (pi_range1 rfl B.range (pa_cons (pe_callB (call_lenK (K := K) rfl) rfl B.len boot_len (pa_cons (pv 1) pa_nil)) pa_nil)) (pg_name (i := 3) sc_check_shown.nd rfl (Or.inl rfl)) (pss_one (ps_if (pt_not (pt_val (pe_own O_shows hr (pa_cons (pv 0) (pa_cons (pe_ix (ix_listK (K := K) rfl) (pv 1) (pv 3) (fun _ _ => rfl)) (pa_cons (pe_ix (ix_listK (K := K) rfl) (pv 2) (pv 3) (fun _ _ => rfl)) pa_nil)))))) (pss_one (ps_raiseM rfl (takesM_of rfl rfl rfl rfl) (pmk_msg X_OutOfRange rfl (pe_joined (PJ.cons pe_str (PJ.cons (pe_fmt (pv 3)) (PJ.cons pe_str (PJ.cons (pe_fmt (pv 3)) PJ.nil)))))))) pss_nil))), ?_⟩))
  · obtain ⟨v, u, size, ps, ts, M, rfl, _⟩ := h
    rfl
  · obtain ⟨v, u, size, ps, ts, M, rfl, off, d, du, hl, htl, g, ge⟩ := h
    obtain ⟨a, ys, rfl, _, ea, dy⟩ := d.lstAt
    have hyl : ys.length = ps.length := by rw [dy.length, List.length_map]
    obtain ⟨b, zs, rfl, _, eb, dz⟩ := du.lstAt
    refine ⟨_, rfl, a, _, rfl, .inl (SqL.of ea), _, rfl, by omega, by omega, ?_⟩
    rw [Int.toNat_natCast, hyl]
    refine for_range (lo := 0) (n := ps.length) (fun i σ H' => (∃ z : Option V, σ = [some (.int size), some (.ref a), some (.ref b), z]) ∧ Same H H' ∧ ∀ j, j < i → showsM size (pgAt ps j) (ts.getD j []) = true) ⟨⟨none, rfl⟩, Same.refl _, fun j hj => absurd hj (Nat.not_lt_zero j)⟩ ?_ ?_
    · rintro i σ H' hi ⟨⟨z, rfl⟩, s1, hall⟩
      obtain ⟨y, hy, dyi⟩ := dy.get (i := i) (d := pageD (pgAt ps i)) (by rw [List.getElem?_map, pgAt_get hi]; rfl)
      obtain ⟨zi, hzi, dzi⟩ := dz.get (i := i) (d := dN (ts.getD i [])) (by
        rw [List.getElem?_map, List.getElem?_eq_getElem (by omega)]
        simp [show i < ts.length from by omega])
      refine ⟨_, rfl, _, rfl, _, rfl, a, _, _, _, rfl, rfl, SqL.of (s1 _ _ ea), at_of (j := i) (by omega) hy, _, rfl, _, rfl, b, _, _, _, rfl, rfl, SqL.of (s1 _ _ eb), at_of (j := i) (by omega) hzi, ?_⟩
      refine ⟨y, zi, size, pgAt ps i, ts.getD i [], M, rfl, off.same s1, dyi.same s1, dzi.same s1, fun r2 H2 s2 d2 => ?_⟩
      cases d2
      refine ⟨_, rfl, ?_⟩
      cases c : showsM size (pgAt ps i) (ts.getD i []) with
      | false =>
        have e1 : unshownM size ps ts = some i := by
          unfold unshownM
          rw [List.find?_range_eq_some]
          refine ⟨by rw [c]; rfl, by rw [List.mem_range]; exact hi, fun j hj => ?_⟩
          rw [hall j hj]
          rfl
        have n1 := numS_len (i := i) (by omega)
        have n2 : ("table " : Str).length = 6 := by decide +kernel
        have n3 : (" does not show page " : Str).length = 20 := by decide +kernel
        have n4 : Str.empty.length = 0 := by decide +kernel
        have e0 : (toString ((0 : Int) + (i : Nat)) : Str) = numS i := by rw [Int.zero_add]; rfl
        refine itT rfl ⟨_, rfl, by rw [app_len, sizeLine_eq]; omega, _, rfl, .inr ⟨_, rfl, by rw [Int.zero_add]; exact log_small (by omega), ?_⟩⟩
        rw [e0]
        refine ⟨_, rfl, by rw [app_len, app_len, sizeLine_eq]; omega, _, rfl, by rw [app_len, app_len, app_len, sizeLine_eq]; omega, _, rfl, .inr ⟨_, rfl, by rw [Int.zero_add]; exact log_small (by omega), ?_⟩⟩
        rw [e0]
        exact ⟨_, rfl, by rw [app_len, app_len, app_len, app_len, sizeLine_eq]; omega, fun t ht => (ge i e1).new (s1.trans s2) t ht⟩
      | true =>
        refine itF rfl ⟨⟨_, rfl⟩, s1.trans s2, fun j hj => ?_⟩
        rcases Nat.lt_succ_iff_lt_or_eq.mp hj with z | z
        · exact hall j z
        · rw [z]; exact c
    · rintro σ H' ⟨⟨z, rfl⟩, s1, hall⟩
      refine g ?_ _ s1
      unfold unshownM
      rw [List.find?_eq_none]
      intro j hj
      rw [List.mem_range] at hj
      rw [hall j hj]
      decide
theorem ok_check_order (D : Df K mg "check_order" s_check_order p_check_order f fd) (Kc : Csts mg) (X_OutOfRange : XCls K mg "OutOfRange" XO) (O_agree : Own P w K mg base CX0 4 "agree" p_agree (spAgree C)) :
    Own P w K mg base (CXm P w) 5 "check_order" p_check_order (spCheckOrder C XO) := by
  refine D.own (fun_okM D.F sc_check_order (fun vs H Q E h => ?_) (fun cdv A outer s H vs Q E hr h => ⟨_, pss_one (ps_if (pt_not (pt_val (pe_own O_agree hr (pa_cons (pv 0) pa_nil)))) (pss_one (ps_raiseM rfl (takesM_of rfl rfl rfl rfl) (pmk_msg X_OutOfRange rfl (pe_k Kc.ORDER_WORDS)))) pss_nil), ?_⟩))
  · obtain ⟨v, xs, M, rfl, _⟩ := h
    rfl
  · obtain ⟨v, xs, M, rfl, off, d, hx, hf, g, ge⟩ := h
    refine ⟨_, rfl, v, xs, M, rfl, off, d, hx, hf, fun r1 H1 s1 d1 => ?_⟩
    cases d1
    refine ⟨_, rfl, ?_⟩
    cases c : agreeM xs with
    | true => exact itF rfl (g c _ s1)
    | false => exact itT rfl fun t ht => (ge c).new s1 t ht
end
end Pg

/-! PgQ: tally, missed_rows, checked_missed_rows -/
namespace Pg
open PySem PySem.Spec PyProof.Rows L2
theorem key_nat (a r : Nat) : (decide ((Sum.inl (a : Int) : Key) = Sum.inl (r : Int))) = decide (a = r) := by
  rw [key_ll]
  by_cases e : a = r
  · simp [e]
  · simp [e]; omega
theorem foldl_addNew_mem : ∀ (l acc : List Nat) (r : Nat), r ∈ l.foldl addNew acc ↔ r ∈ acc ∨ r ∈ l
  | [], acc, r => by simp
  | a :: l, acc, r => by
    rw [List.foldl_cons, foldl_addNew_mem l]
    have h5 : r ∈ addNew acc a ↔ r ∈ acc ∨ r = a := by
      unfold addNew
      split
      · next c =>
        constructor
        · exact .inl
        · rintro (z | z)
          · exact z
          · rw [z]; exact c
      · simp
    rw [h5, List.mem_cons]
    constructor
    · rintro ((z | z) | z)
      · exact .inl z
      · exact .inr (.inl z)
      · exact .inr (.inr z)
    · rintro (z | z | z)
      · exact .inl (.inl z)
      · exact .inl (.inr z)
      · exact .inr z
theorem valV_map (g : Nat → V) : ∀ (acc : List Nat) (r : Nat), valV (acc.map fun (a : Nat) => ((Sum.inl (a : Int) : Key), g a)) (Sum.inl (r : Int)) = if r ∈ acc then some (g r) else none
  | [], r => rfl
  | a :: l, r => by
    unfold valV
    rw [List.map_cons, List.find?_cons]
    simp only [key_nat]
    by_cases e : a = r
    · subst e
      simp
    · have ih := valV_map g l r
      unfold valV at ih
      simp only [decide_eq_false e]
      rw [ih]
      by_cases h : r ∈ l
      · rw [if_pos h, if_pos (List.mem_cons_of_mem _ h)]
      · rw [if_neg h, if_neg (by rw [List.mem_cons]; rintro (z | z); exact e z.symm; exact h z)]
theorem tally_val (l : List Nat) (r : Nat) : valV (tallyD l) (Sum.inl (r : Int)) = if r ∈ l then some (.int (l.count r : Nat)) else none := by
  unfold tallyD
  rw [valV_map (fun r => V.int (l.count r : Nat))]
  by_cases h : r ∈ l
  · rw [if_pos h, if_pos ((foldl_addNew_mem l [] r).mpr (.inr h))]
  · rw [if_neg h, if_neg (fun z => by rcases (foldl_addNew_mem l [] r).mp z with z | z; cases z; exact h z)]
theorem tally_get (l : List Nat) (r : Nat) : (valV (tallyD l) (Sum.inl (r : Int))).getD (.int 0) = .int (l.count r : Nat) := by
  rw [tally_val]
  by_cases h : r ∈ l
  · rw [if_pos h]; rfl
  · rw [if_neg h, List.count_eq_zero.mpr h]; rfl
theorem putK_map (g : Nat → V) (acc : List Nat) (r : Nat) (v : V) : putK (acc.map fun (a : Nat) => ((Sum.inl (a : Int) : Key), g a)) (Sum.inl (r : Int)) v = (addNew acc r).map fun (a : Nat) => ((Sum.inl (a : Int) : Key), if a = r then v else g a) := by
  unfold putK addNew
  have e : ((acc.map fun (a : Nat) => ((Sum.inl (a : Int) : Key), g a)).any fun kv => decide (kv.1 = (Sum.inl (r : Int) : Key))) = decide (r ∈ acc) := by
    rw [List.any_map]
    induction acc with
    | nil => simp
    | cons a l ih =>
      rw [List.any_cons, ih]
      simp only [Function.comp_apply, key_nat, List.mem_cons]
      by_cases h : a = r
      · simp [h]
      · have h' : ¬ r = a := fun z => h z.symm
        simp [h, h']
  rw [e]
  by_cases h : r ∈ acc
  · rw [if_pos (decide_eq_true h), if_pos h, List.map_map]
    apply List.map_congr_left
    intro a _
    simp only [Function.comp_apply]
    by_cases k : a = r
    · subst k
      simp
    · have k2 : ¬ ((Sum.inl (a : Int) : Key) = Sum.inl (r : Int)) := fun z => k (by rw [Sum.inl.injEq] at z; omega)
      simp [k, k2]
  · rw [if_neg (by simpa using h), if_neg h, List.map_append]
    have e2 : (acc.map fun (a : Nat) => ((Sum.inl (a : Int) : Key), g a)) = acc.map fun (a : Nat) => ((Sum.inl (a : Int) : Key), if a = r then v else g a) := by
      apply List.map_congr_left
      intro a ha
      have k : ¬ a = r := fun z => h (by rw [← z]; exact ha)
      simp [k]
    rw [e2]
    simp
theorem tally_put (l : List Nat) (r : Nat) : putK (tallyD l) (Sum.inl (r : Int)) (.int ((l.count r : Nat) + 1 : Int)) = tallyD (l ++ [r]) := by
  unfold tallyD
  rw [putK_map (fun r => V.int (l.count r : Nat)), List.foldl_append]
  show (addNew (l.foldl addNew []) r).map _ = (addNew (l.foldl addNew []) r).map _
  apply List.map_congr_left
  intro a _
  have c : (l ++ [r]).count a = l.count a + if a = r then 1 else 0 := by
    rw [List.count_append, List.count_singleton]
    by_cases k : a = r
    · subst k; simp
    · have k' : (r == a) = false := by simp; exact fun z => k z.symm
      simp [k, k']
  rw [c]
  by_cases k : a = r
  · subst k; simp
  · simp [k]
theorem tally_length (l : List Nat) : (tallyD l).length ≤ l.length := by
  unfold tallyD
  rw [List.length_map]
  have := foldl_addNew_le l []
  simpa using this
theorem filter_range (l : List Nat) (c : Nat → Bool) (g : Nat → Dat) : pick (fun j => c (l.getD j 0)) (fun j => g (l.getD j 0)) l.length = (l.filter c).map g := by
  unfold pick
  have e : (List.range l.length).map (fun j => l.getD j 0) = l := by
    apply List.ext_getElem?
    intro j
    rw [List.getElem?_map]
    by_cases h : j < l.length
    · rw [List.getElem?_range h]; simp [h]
    · rw [List.getElem?_eq_none (by rw [List.length_range]; omega), List.getElem?_eq_none (by omega)]; rfl
  have e2 : l.filter c = ((List.range l.length).filter fun j => c (l.getD j 0)).map fun j => l.getD j 0 := by
    conv => lhs; rw [← e]
    rw [List.filter_map]
    rfl
  rw [e2, List.map_map]
  rfl
section
variable {P : Program} {w : World} {K : PySem.W.Frag} {mg : Str → Option Value} {base : Heap} {C XO XW : Addr} {f : Addr} {fd : FuncData}
theorem ok_tally (D : Df K mg "tally" s_tally p_tally f fd) (B : Blt mg) : Own P w K mg base CX0 1 "tally" p_tally (spTally C) := by
  refine D.own (D.F.ok sc_tally (fun vs H Q E h => ?_) (fun cdv A outer s H vs Q E hr h => ⟨_, pss_cons (ps_set (i := 1) sc_tally.nd rfl (Or.inl rfl) pe_dnewK) (pss_cons (ps_for PassesOwn.never rfl (pi_list (pv 0)) (pg_name (i := 2) sc_tally.nd rfl (Or.inl rfl)) (pss_one (ps_for PassesOwn.never rfl (pi_list (pv 2)) (pg_name (i := 3) sc_tally.nd rfl (Or.inl rfl)) (pss_one (ps_dput (hu_of hr) (pv 1) (pv 3) (pe_op op_add (pe_dget2 (hu_of hr) (pv 1) (pv 3) pe_int ⟨rfl, rfl, rfl, rfl⟩) pe_int) rfl))))) (pss_one (ps_ret (pv 1)))), ?_⟩))
  · obtain ⟨v, xs, M, rfl, _⟩ := h
    rfl
  · obtain ⟨v, xs, M, rfl, off, d, hz, g⟩ := h
    obtain ⟨o, ys, rfl, _, eo, dy⟩ := d.lstAt
    have hyl : ys.length = xs.length := by rw [dy.length, List.length_map]
    refine fun k hk => ?_
    have s0 : Same H (upd H k (.dK [])) := Same.new hk
    refine ⟨_, rfl, o, rfl, ⟨_, SqL.of (s0 _ _ eo)⟩, for_list (K := K) (a := o) (xs := ys) (fun i σ H' => ∃ z z2 : Option V, σ = [some (.ref o), some (.ref k), z, z2] ∧ Same H H' ∧ H' k = some (.dK (tallyD (xs.take i).flatten))) ⟨none, none, rfl, s0, upd_same⟩ (fun i σ H' _ ⟨_, _, _, s1, _⟩ => SqL.of (s1 _ _ eo)) ?_ ?_⟩
    · rintro i y σ H' hy ⟨z, z2, rfl, s1, e1⟩
      obtain ⟨rows, r, hrows, rfl, _, er⟩ := dNN_at dy hy
      have er1 := s1 _ _ er
      refine ⟨_, rfl, r, rfl, ⟨_, SqL.of er1⟩, for_list (K := K) (a := r) (xs := nV rows) (fun j σ H' => ∃ z2 : Option V, σ = [some (.ref o), some (.ref k), some (.ref r), z2] ∧ Same H H' ∧ H' k = some (.dK (tallyD ((xs.take i).flatten ++ rows.take j)))) ⟨z2, rfl, s1, by simpa using e1⟩ (fun j σ H' _ ⟨_, _, s1, _⟩ => SqL.of (s1 _ _ er)) ?_ ?_⟩
      · rintro j y σ H2 hy2 ⟨z2, rfl, s2, e2⟩
        obtain ⟨n, hn, rfl⟩ := nat_at hy2
        have hlen : (tallyD ((xs.take i).flatten ++ rows.take j)).length ≤ 20000 := by
          have h1 := tally_length ((xs.take i).flatten ++ rows.take j)
          have h2 := flat_le xs (i + 1)
          rw [flat_take hrows, List.length_append] at h2
          have h3 : (rows.take j).length ≤ rows.length := by simp; omega
          rw [List.length_append] at h1
          omega
        have ef := tally_put ((xs.take i).flatten ++ rows.take j) n
        rw [List.append_assoc, ← take_more hn] at ef
        refine ⟨_, rfl, k, rfl, .inl ⟨_, .inl e2⟩, _, rfl, _, DGet.k (k := Sum.inl (n : Int)) e2, _, 1, tally_get _ _, rfl, _, rfl, _, rfl, k, _, rfl, DPut.k (k := Sum.inl (n : Int)) e2 (by rw [sizeLine_eq]; omega), some (.int n), rfl, Same.updNew s2 hk, ?_⟩
        rw [upd_same]
        exact congrArg (fun x => some (HO.dK x)) ef
      · rintro σ H2 ⟨z2, rfl, s2, e2⟩
        rw [List.length_map, List.length_map, List.take_length] at e2
        refine ⟨some (.ref r), z2, rfl, s2, ?_⟩
        rw [flat_take hrows]
        exact e2
    · rintro σ H' ⟨z, z2, rfl, s1, e1⟩
      rw [hyl, List.take_length] at e1
      exact ⟨_, rfl, g k _ s1 hk e1⟩
theorem ok_missed_rows (D : Df K mg "missed_rows" s_missed_rows p_missed_rows f fd) (B : Blt mg) (O_rows_of : Own P w K mg base CX0 1 "rows_of" p_rows_of (spRowsOf C)) (O_tally : Own P w K mg base CX0 1 "tally" p_tally (spTally C)) :
    Own P w K mg base CX0 2 "missed_rows" p_missed_rows (spMissedRows C) := by
  refine D.own (D.F.ok sc_missed_rows (fun vs H Q E h => ?_) (fun cdv A outer s H vs Q E hr h => ⟨_, pss_cons (ps_if (pt_cmpR op_eq (pe_callB (call_lenK (K := K) rfl) rfl B.len boot_len (pa_cons (pv 1) pa_nil)) pe_int (nomark _)) (pss_one (ps_ret (pe_lst pa_nil))) pss_nil) (pss_cons (ps_set (i := 2) sc_missed_rows.nd rfl (Or.inr rfl) (pe_own O_tally hr (pa_cons (pv 1) pa_nil))) (pss_cons (ps_set (i := 3) sc_missed_rows.nd rfl (Or.inr rfl) (pe_own O_tally hr (pa_cons (pe_own O_rows_of hr (pa_cons (pv 0) pa_nil)) pa_nil))) (pss_one (ps_ret (pe_lc (own := [("row", 4)]) (g := gName 4) rfl sc_missed_rows.nd (pi_list (pe_ix (ix_listK (K := K) rfl) (pv 1) pe_int (fun _ _ => rfl))) (blkOk_by (N := n_missed_rows) (sc := defScope s_missed_rows) (by decide +kernel)) (fun _ _ _ _ _ => pg_name (i := 4) sc_missed_rows.nd rfl (Or.inl rfl)) (fun _ _ _ _ _ => (pts_one (PW.pt (pw_and (pt_cmpR op_eq (pe_dget (hu_of hr) (pv 2) (pv 4) (fun _ _ => rfl)) (pe_callB (call_lenK (K := K) rfl) rfl B.len boot_len (pa_cons (pv 1) pa_nil)) (nomark _)) (pw_and1 (pt_cmp (pc_dnotin (hu_of hr) (pv 4) (pv 3)) (by rfl))))))) (fun _ _ _ _ _ => (pv 4))))))), ?_⟩))
  · obtain ⟨v, u, ps, ts, M, rfl, _⟩ := h
    rfl
  · obtain ⟨v, u, ps, ts, M, rfl, off, d, du, hl, hf1, hf2, g⟩ := h
    obtain ⟨a, _, rfl, _⟩ := d.lstAt
    obtain ⟨b, zs, rfl, _, eb, dz⟩ := du.lstAt
    have hzl : zs.length = ts.length := by rw [dz.length, List.length_map]
    refine ⟨_, rfl, b, _, rfl, .inl (SqL.of eb), rfl, _, rfl, ?_⟩
    rw [dec_int, hzl]
    cases ts with
    | nil =>
      refine itT rfl ⟨zero_line, fun p hp => ?_⟩
      exact g.ints off (Same.new hp) hp upd_same
    | cons t rest =>
      refine itF (by simp only [List.length_cons, beq_eq_false_iff_ne]; omega) ?_
      refine ⟨_, rfl, .ref b, t :: rest, M, rfl, off, du, hf2, fun p1 H1 s1 n1 e1 => ?_⟩
      refine ⟨_, rfl, .ref a, ps, M, rfl, off.same s1, d.same s1, hl, fun r2 H2 s2 d2 => ?_⟩
      refine ⟨r2, _, M, rfl, (off.same s1).same s2, d2, hf1, fun p2 H3 s3 n3 e3 => ?_⟩
      have s13 := (s1.trans s2).trans s3
      have o3 := off.same s13
      obtain ⟨y0, hy0, d0⟩ := dz.get (i := 0) (d := dN t) rfl
      obtain ⟨c, rfl, nc, ec⟩ := d0.dIAt
      refine ⟨_, rfl, b, _, 0, _, rfl, rfl, SqL.of (s13 _ _ eb), atI_nat (j := 0) hy0, c, rfl, ⟨_, SqL.of (s13 _ _ ec)⟩, fun D hD => lc_listF (C := C) (M := M) (xs := nV t) (fun j => (fun r => decide ((t :: rest).flatten.count r = (t :: rest).length) && !decide (r ∈ (ps.map (·.rows)).flatten)) (t.getD j 0)) (fun j => (fun r => Dat.int ((r : Nat) : Int)) (t.getD j 0)) (SqL.of (s13 _ _ ec)) o3 hD (by rw [nV_length]; exact ten_line (Nat.le_trans (flat_len (xs := t :: rest) List.mem_cons_self) hf2)) (fun j x H' Q' hx s o q => ?_) (fun j x H' Q' hx hp s o q => ?_) fun H4 s4 d4 => g _ _ (s13.trans s4) ?_⟩
      · obtain ⟨r, hr', rfl⟩ := nat_at hx
        have gd : t.getD j 0 = r := by rw [List.getD_eq_getElem?_getD, hr']; rfl
        rw [gd] at q
        have mem : r ∈ (t :: rest).flatten := List.mem_flatten.mpr ⟨t, List.mem_cons_self, List.mem_of_getElem? hr'⟩
        have dg := DGet.k (k := Sum.inl (r : Int)) (s _ _ (s3 _ _ (s2 _ _ e1)))
        rw [tally_val, if_pos mem] at dg
        refine ⟨_, rfl, _, rfl, p1, _, rfl, dg, _, rfl, b, _, rfl, .inl (SqL.of (s _ _ (s13 _ _ eb))), rfl, _, rfl, ?_⟩
        rw [dec_int, hzl]
        by_cases c1 : (t :: rest).flatten.count r = (t :: rest).length
        · refine itT (by rw [c1]; simp) ?_
          have dg2 := DGet.k (k := Sum.inl (r : Int)) (s _ _ e3)
          rw [tally_val] at dg2
          refine ⟨_, rfl, _, rfl, p2, _, rfl, dg2, _, rfl, ?_⟩
          have e5 : (!(if r ∈ (ps.map (·.rows)).flatten then some (V.int ((ps.map (·.rows)).flatten.count r : Nat)) else none).isSome) = (decide ((t :: rest).flatten.count r = (t :: rest).length) && !decide (r ∈ (ps.map (·.rows)).flatten)) := by
            rw [decide_eq_true c1]
            by_cases c2 : r ∈ (ps.map (·.rows)).flatten
            · rw [if_pos c2, decide_eq_true c2]; rfl
            · rw [if_neg c2, decide_eq_false c2]; rfl
          rw [e5]
          exact q _ (Same.refl _)
        · refine itF (by simp only [beq_eq_false_iff_ne]; omega) ?_
          have e5 : (decide ((t :: rest).flatten.count r = (t :: rest).length) && !decide (r ∈ (ps.map (·.rows)).flatten)) = false := by rw [decide_eq_false c1]; rfl
          simp only [e5] at q
          exact q _ (Same.refl _)
      · obtain ⟨r, hr', rfl⟩ := nat_at hx
        have gd : t.getD j 0 = r := by rw [List.getD_eq_getElem?_getD, hr']; rfl
        rw [gd] at q
        exact ⟨_, rfl, q _ _ (Same.refl _) (.int _)⟩
      · rw [nV_length, filter_range t (fun r => decide ((t :: rest).flatten.count r = (t :: rest).length) && !decide (r ∈ (ps.map (·.rows)).flatten)) (fun r => Dat.int ((r : Nat) : Int))] at d4
        show DAt C M H4 (.ref D) (.lst (((missedM ps (t :: rest)).map natI).map Dat.int))
        rw [List.map_map]
        exact d4
theorem ok_checked_missed_rows (D : Df K mg "checked_missed_rows" s_checked_missed_rows p_checked_missed_rows f fd) (O_check_shown : Own P w K mg base (CXm P w) 2 "check_shown" p_check_shown (spCheckShown C XO))
    (O_check_order : Own P w K mg base (CXm P w) 5 "check_order" p_check_order (spCheckOrder C XO)) (O_missed_rows : Own P w K mg base CX0 2 "missed_rows" p_missed_rows (spMissedRows C)) :
    Own P w K mg base (CXm P w) 6 "checked_missed_rows" p_checked_missed_rows (spCheckedMissedRows C XO) := by
  refine D.own (fun_okM D.F sc_checked_missed_rows (fun vs H Q E h => ?_) (fun cdv A outer s H vs Q E hr h => ⟨_, pss_cons (ps_expr (pe_ownS O_check_shown hr (takesM_of rfl rfl rfl rfl) (pa_cons (pv 0) (pa_cons (pv 1) (pa_cons (pv 2) pa_nil))))) (pss_cons (ps_expr (pe_ownS O_check_order hr (takesM_of rfl rfl rfl rfl) (pa_cons (pv 2) pa_nil))) (pss_one (ps_ret (pe_own O_missed_rows hr (pa_cons (pv 1) (pa_cons (pv 2) pa_nil)))))), ?_⟩))
  · obtain ⟨v, u, size, ps, ts, M, rfl, _⟩ := h
    rfl
  · obtain ⟨v, u, size, ps, ts, M, rfl, off, d, du, hl, htl, hf1, hf2, g, ge1, ge2⟩ := h
    refine ⟨_, rfl, _, rfl, _, rfl, v, u, size, ps, ts, M, rfl, off, d, du, hl, htl, fun hn H1 s1 => ?_, fun i hi => ge1 i hi⟩
    refine ⟨_, rfl, u, ts, M, rfl, off.same s1, du.same s1, by omega, hf2, fun ha H2 s2 => ?_, fun ha => (ge2 hn ha).same s1⟩
    exact ⟨_, rfl, _, rfl, v, u, ps, ts, M, rfl, (off.same s1).same s2, (d.same s1).same s2, (du.same s1).same s2, by omega, hf1, hf2, fun r H3 s3 d3 => g hn ha r H3 ((s1.trans s2).trans s3) d3⟩
end
end Pg

/-! PgR: own methods; module collector -/
namespace Pg
open PySem PySem.Spec PyProof.Rows L2
/-- an own method of the class at C: it keeps its promise -/
structure OwnM (P : Program) (w : World) (K : PySem.W.Frag) (mg : Str → Option Value) (base : Heap) (CX : CXT) (C : Addr) (k : Nat) (m : Str) (ps : List Str) (sp : Sp) : Prop where
  ex : ∃ (f : Addr) (fd : FuncData), Cls K C ∧ Meth K C m f ∧ Binds K fd ps [] ∧ FnOk P w K mg base CX k f fd ps sp
/-- where an own method stands -/
structure DfM (K : PySem.W.Frag) (C : Addr) (m qual : Str) (st : Stmt) (ps : List Str) (f : Addr) (fd : FuncData) : Prop where
  F : Fun K m qual st f fd
  m : Meth K C m f
  b : Binds K fd ps []
theorem DfM.own {P : Program} {w : World} {K : PySem.W.Frag} {mg : Str → Option Value} {base : Heap} {CX : CXT} {C : Addr} {k : Nat} {m qual : Str} {st : Stmt} {ps : List Str} {f : Addr} {fd : FuncData} {sp : Sp} (D : DfM K C m qual st ps f fd) (c : Cls K C) (G : FnOk P w K mg base CX k f fd ps sp) :
    OwnM P w K mg base CX C k m ps sp := ⟨f, fd, c, D.m, D.b, G⟩
def tMth (C : Addr) (m : Str) (sp : Sp) (ta : TE) (t : TA) : TE := fun σ H Q => ta σ H fun x H1 => ∃ a dx fs, x = .ref a ∧ H1 a = some (.ins C dx fs) ∧ fs.lookup m = none ∧ t σ H1 fun vs H2 => sp (x :: vs) H2 Q E0
theorem pe_mth {X : Cx} {C : Addr} {k j : Nat} {m : Str} {ps : List Str} {sp : Sp} {o e : Expr} {es : List Expr} {apos pos : Pos} {ta : TE} {t : TA} {pl : Sem Bool} (O : OwnM X.prog X.w X.K X.mg X.base CX0 C k m ps sp) (hr : Room j X.A) (he : PE X o ta) (ha : PA X (e :: es) t)
    (hk : k ≤ j := by first | decide | omega) (hst : starEach (e :: es) X.env = (false, eval e X.env) :: starEach es X.env := by rfl) (hpl : (backTo pos (starEach es X.env)).any (·.1) = false := by rfl)
    (ht : eval (.Call (.Attribute o m apos) (e :: es) [] pos) X.env = (do
      let ov ← eval o X.env
      standAt apos.atName
      let (f, first) ← holding [ov] (getMethod ov m pl)
      callWith pos f first (backTo pos (starEach (e :: es) X.env)) (backToKw pos (keywordEach [] X.env))) := by rfl) :
    PE X (.Call (.Attribute o m apos) (e :: es) [] pos) (tMth C m sp ta t) := by
  obtain ⟨f, fd, c, hm, b, F⟩ := O.ex
  have q := pe_meth (pl := pl) (pos := pos) (apos := apos) he c hm F (hr.mono hk) b .nil pass0 ha hst hpl ht
  refine ⟨fun pins s σ H Q I h => q.run pins s σ H Q I ?_⟩
  have e1 : ∀ x, (fun (vs : List V) (H1 : Hp) => sp (x :: (vs ++ [])) H1 Q E0) = fun vs H1 => sp (x :: vs) H1 Q E0 := by
    intro x
    funext vs H1
    rw [List.append_nil]
  show ta σ H fun x H1 => ∃ a dx fs, x = .ref a ∧ H1 a = some (.ins C dx fs) ∧ fs.lookup m = none ∧ t σ H1 fun vs H2 => sp (x :: (vs ++ [])) H2 Q E0
  have e2 : (fun (x : V) (H1 : Hp) => ∃ a dx fs, x = .ref a ∧ H1 a = some (.ins C dx fs) ∧ fs.lookup m = none ∧ t σ H1 fun vs H2 => sp (x :: (vs ++ [])) H2 Q E0) = fun x H1 => ∃ a dx fs, x = .ref a ∧ H1 a = some (.ins C dx fs) ∧ fs.lookup m = none ∧ t σ H1 fun vs H2 => sp (x :: vs) H2 Q E0 := by
    funext x H1
    rw [e1 x]
  rw [e2]
  exact h
theorem pe_mth0 {X : Cx} {C : Addr} {k j : Nat} {m : Str} {ps : List Str} {sp : Sp} {o : Expr} {apos pos : Pos} {ta : TE} {pl : Sem Bool} (O : OwnM X.prog X.w X.K X.mg X.base CX0 C k m ps sp) (hr : Room j X.A) (he : PE X o ta)
    (hk : k ≤ j := by first | decide | omega)
    (ht : eval (.Call (.Attribute o m apos) [] [] pos) X.env = (do
      let ov ← eval o X.env
      standAt apos.atName
      let (f, first) ← holding [ov] (getMethod ov m pl)
      callWith pos f first (backTo pos (starEach [] X.env)) (backToKw pos (keywordEach [] X.env))) := by rfl) :
    PE X (.Call (.Attribute o m apos) [] [] pos) (tMth C m sp ta tNil) := by
  obtain ⟨f, fd, c, hm, b, F⟩ := O.ex
  have q := pe_meth0 (pl := pl) (pos := pos) (apos := apos) he c hm F (hr.mono hk) b .nil pass0 ht
  exact ⟨fun pins s σ H Q I h => q.run pins s σ H Q I h⟩
/-! ### outcomes -/
def wordD (x : Str) : Dat := .val 6 0 (codes x) [] []
def rejD (sort msg : Str) : Dat := .val 7 0 [] [] [wordD "rejected", wordD sort, wordD msg]
def failD (d : Dat) : Dat := .val 7 0 [] [] [wordD "failed", d]
def numsD (ns : List Nat) : Dat := .val 7 0 [] [] ((ns.map natI).map dInt)
def fulD (ps : List Page) : Dat := .val 7 0 [] [] [wordD "fulfilled", .val 8 0 [] [codes "rows", codes "pages"] [numsD (mergedM (ps.map (·.rows))), dInt (ps.length : Nat)]]
def nullD : Dat := .val 1 0 [] [] []
def nothingD : Dat := .val 0 0 [] [] []
abbrev s_fulfilled_value : Stmt := top 87
abbrev n_fulfilled_value : List Str := ["pages", "names", "parts"]
abbrev p_fulfilled_value : List Str := ["pages"]
theorem sc_fulfilled_value : FnScope n_fulfilled_value p_fulfilled_value (defScope s_fulfilled_value) := ⟨rfl, rfl, rfl, by decide +kernel, rfl, by decide +kernel, by decide +kernel⟩
abbrev s_rejected_value : Stmt := top 88
abbrev n_rejected_value : List Str := ["sort", "message"]
abbrev p_rejected_value : List Str := ["sort", "message"]
theorem sc_rejected_value : FnScope n_rejected_value p_rejected_value (defScope s_rejected_value) := ⟨rfl, rfl, rfl, by decide +kernel, rfl, by decide +kernel, by decide +kernel⟩
abbrev s_failed_value : Stmt := top 89
abbrev n_failed_value : List Str := ["reason"]
abbrev p_failed_value : List Str := ["reason"]
theorem sc_failed_value : FnScope n_failed_value p_failed_value (defScope s_failed_value) := ⟨rfl, rfl, rfl, by decide +kernel, rfl, by decide +kernel, by decide +kernel⟩
section
variable (C : Addr)
def spFulfilled : Sp := fun vs H Q _ => ∃ (v : V) (ps : List Page) (M : List Addr), vs = [v] ∧ Off M H ∧ DAt C [] H v (pagesD ps) ∧ ps.length ≤ 20000 ∧ (ps.map (·.rows)).flatten.length ≤ 20000 ∧ Gives C M H Q (fulD ps)
def spRejected : Sp := fun vs H Q _ => ∃ (a b : Str) (M : List Addr), vs = [.str a, .str b] ∧ Off M H ∧ a.cps.size ≤ sizeLine ∧ b.cps.size ≤ sizeLine ∧ Gives C M H Q (rejD a b)
def spFailed : Sp := fun vs H Q _ => ∃ (v : V) (d : Dat) (M : List Addr), vs = [v] ∧ Off M H ∧ DAt C M H v d ∧ Gives C M H Q (failD d)
end
theorem mergeGo_length (order : List Nat) (marks : List (List Nat)) : ∀ (n : Nat) (heads : List Nat) (behind : List Int), (mergeGo order marks n heads behind).length ≤ n
  | 0, _, _ => Nat.le_refl _
  | n + 1, heads, behind => by
    unfold mergeGo
    split
    · exact Nat.zero_le _
    · next best _ =>
      rw [List.length_cons]
      have := mergeGo_length order marks n (takeM best marks heads behind).1 (takeM best marks heads behind).2
      exact Nat.succ_le_succ this
theorem merged_length (xs : List (List Nat)) : (mergedM xs).length ≤ xs.flatten.length := by
  unfold mergedM
  have h1 := mergeGo_length (firstCome xs) (rankedM xs (firstCome xs)) (firstCome xs).length ((rankedM xs (firstCome xs)).map fun _ => 0) (behindM (rankedM xs (firstCome xs)) (firstCome xs).length)
  have h2 := foldl_addNew_le xs.flatten []
  simp only [List.length_nil] at h2
  have e : (firstCome xs).length = (xs.flatten.foldl addNew []).length := rfl
  simp only
  omega
theorem str_line {x : Str} (h : x.cps.size ≤ 1000) : x.cps.size ≤ sizeLine := by rw [sizeLine_eq]; omega
section
variable {P : Program} {w : World} {K : PySem.W.Frag} {mg : Str → Option Value} {base : Heap} {C XO XW CC : Addr} {f : Addr} {fd : FuncData}
theorem ok_failed_value (D : Df K mg "failed_value" s_failed_value p_failed_value f fd) (O_list_value : Own P w K mg base CX0 3 "list_value" p_list_value (spListV C)) (O_word_value : Own P w K mg base CX0 4 "word_value" p_word_value (spWordValue C)) :
    Own P w K mg base CX0 5 "failed_value" p_failed_value (spFailed C) := by
  refine D.own (D.F.ok sc_failed_value (fun vs H Q E h => ?_) (fun cdv A outer s H vs Q E hr h => ⟨_, pss_one (ps_ret (pe_own O_list_value hr (pa_cons (pe_lst (pa_cons (pe_own O_word_value hr (pa_cons pe_str pa_nil)) (pa_cons (pv 0) pa_nil))) pa_nil))), ?_⟩))
  · obtain ⟨v, d, M, rfl, _⟩ := h
    rfl
  · obtain ⟨v, d, M, rfl, off, dv, g⟩ := h
    refine ⟨"failed", M, rfl, off, str_line (by decide +kernel), fun r1 H1 s1 d1 => ⟨_, rfl, two_line, fun p hp => ?_⟩⟩
    obtain ⟨s2, o2, d2⟩ := new_lst (C := C) (ds := [wordD "failed", d]) (off.same s1) hp (.cons d1 (.cons (dv.same s1) .nil))
    exact ⟨.ref p, _, M, rfl, o2, d2, fun r3 H3 s3 d3 => g _ _ ((s1.trans s2).trans s3) d3⟩
theorem ok_rejected_value (D : Df K mg "rejected_value" s_rejected_value p_rejected_value f fd) (O_list_value : Own P w K mg base CX0 3 "list_value" p_list_value (spListV C)) (O_word_value : Own P w K mg base CX0 4 "word_value" p_word_value (spWordValue C)) :
    Own P w K mg base CX0 5 "rejected_value" p_rejected_value (spRejected C) := by
  refine D.own (D.F.ok sc_rejected_value (fun vs H Q E h => ?_) (fun cdv A outer s H vs Q E hr h => ⟨_, pss_one (ps_ret (pe_own O_list_value hr (pa_cons (pe_lst (pa_cons (pe_own O_word_value hr (pa_cons pe_str pa_nil)) (pa_cons (pe_own O_word_value hr (pa_cons (pv 0) pa_nil)) (pa_cons (pe_own O_word_value hr (pa_cons (pv 1) pa_nil)) pa_nil)))) pa_nil))), ?_⟩))
  · obtain ⟨a, b, M, rfl, _⟩ := h
    rfl
  · obtain ⟨a, b, M, rfl, off, ha, hb, g⟩ := h
    refine ⟨"rejected", M, rfl, off, str_line (by decide +kernel), fun r1 H1 s1 d1 => ?_⟩
    refine ⟨_, rfl, a, M, rfl, off.same s1, ha, fun r2 H2 s2 d2 => ?_⟩
    refine ⟨_, rfl, b, M, rfl, (off.same s1).same s2, hb, fun r3 H3 s3 d3 => ⟨by show 3 ≤ sizeLine; rw [sizeLine_eq]; omega, fun p hp => ?_⟩⟩
    obtain ⟨s4, o4, d4⟩ := new_lst (C := C) (ds := [wordD "rejected", wordD a, wordD b]) (((off.same s1).same s2).same s3) hp (.cons ((d1.same s2).same s3) (.cons (d2.same s3) (.cons d3 .nil)))
    exact ⟨.ref p, _, M, rfl, o4, d4, fun r5 H5 s5 d5 => g _ _ ((((s1.trans s2).trans s3).trans s4).trans s5) d5⟩
theorem ok_fulfilled_value (D : Df K mg "fulfilled_value" s_fulfilled_value p_fulfilled_value f fd) (B : Blt mg) (O_list_value : Own P w K mg base CX0 3 "list_value" p_list_value (spListV C)) (O_word_value : Own P w K mg base CX0 4 "word_value" p_word_value (spWordValue C))
    (O_word_octets : Own P w K mg base CX0 1 "word_octets" p_word_octets (spWordOctets C)) (O_number_list : Own P w K mg base CX0 4 "number_list" p_number_list (spNumList C)) (O_merged : Own P w K mg base CX0 3 "merged" p_merged (spMerged C)) (O_rows_of : Own P w K mg base CX0 1 "rows_of" p_rows_of (spRowsOf C))
    (O_integer_value : Own P w K mg base CX0 3 "integer_value" p_integer_value (spInteger C)) (O_record_value : Own P w K mg base CX0 3 "record_value" p_record_value (spRecord C)) : Own P w K mg base CX0 5 "fulfilled_value" p_fulfilled_value (spFulfilled C) := by
  refine D.own (D.F.ok sc_fulfilled_value (fun vs H Q E h => ?_) (fun cdv A outer s H vs Q E hr h => ⟨_, pss_cons (ps_set (i := 1) sc_fulfilled_value.nd rfl (Or.inl rfl) (pe_lst (pa_cons (pe_own O_word_octets hr (pa_cons pe_str pa_nil)) (pa_cons (pe_own O_word_octets hr (pa_cons pe_str pa_nil)) pa_nil)))) (pss_cons (ps_set (i := 2) sc_fulfilled_value.nd rfl (Or.inl rfl) (pe_lst (pa_cons (pe_own O_number_list hr (pa_cons (pe_own O_merged hr (pa_cons (pe_own O_rows_of hr (pa_cons (pv 0) pa_nil)) pa_nil)) pa_nil)) (pa_cons (pe_own O_integer_value hr (pa_cons (pe_callB (call_lenK (K := K) rfl) rfl B.len boot_len (pa_cons (pv 0) pa_nil)) pa_nil)) pa_nil)))) (pss_one (ps_ret (pe_own O_list_value hr (pa_cons (pe_lst (pa_cons (pe_own O_word_value hr (pa_cons pe_str pa_nil)) (pa_cons (pe_own O_record_value hr (pa_cons (pv 1) (pa_cons (pv 2) pa_nil))) pa_nil))) pa_nil))))), ?_⟩))
  · obtain ⟨v, ps, M, rfl, _⟩ := h
    rfl
  · obtain ⟨v, ps, M, rfl, off, d, hl, hf, g⟩ := h
    obtain ⟨a, ys, rfl, _, ea, dy⟩ := d.lstAt
    have hyl : ys.length = ps.length := by rw [dy.length, List.length_map]
    refine ⟨"rows", M, rfl, off, str_line (by decide +kernel), fun r1 H1 s1 d1 => ?_⟩
    refine ⟨"pages", M, rfl, off.same s1, str_line (by decide +kernel), fun r2 H2 s2 d2 => ⟨two_line, fun p hp => ?_⟩⟩
    have o2 := (off.same s1).same s2
    obtain ⟨s3, o3, d3⟩ := new_lst (C := C) (ds := [dI (codes "rows"), dI (codes "pages")]) o2 hp (.cons (d1.same s2) (.cons d2 .nil))
    have s13 := (s1.trans s2).trans s3
    refine ⟨_, rfl, .ref a, ps, [], rfl, Off.nil, d.same s13, hl, fun r4 H4 s4 d4 => ?_⟩
    refine ⟨r4, _, [], rfl, Off.nil, d4, by rw [List.length_map]; exact hl, hf, fun p5 H5 s5 n5 e5 => ?_⟩
    have hml := merged_length (ps.map (·.rows))
    refine ⟨.ref p5, (mergedM (ps.map (·.rows))).map natI, M, rfl, (o3.same s4).same s5, by rw [List.length_map]; exact ten_line (Nat.le_trans hml hf), .dI ((o3.same s4).new n5) e5, fun r6 H6 s6 d6 => ?_⟩
    have s46 := (s4.trans s5).trans s6
    refine ⟨_, rfl, a, _, rfl, .inl (SqL.of (s46 _ _ (s13 _ _ ea))), ?_⟩
    refine ⟨(ys.length : Int), M, rfl, o3.same s46, fun r7 H7 s7 d7 => ⟨two_line, fun p2 hp2 => ?_⟩⟩
    obtain ⟨s8, o8, d8⟩ := new_lst (C := C) (ds := [numsD (mergedM (ps.map (·.rows))), dInt (ps.length : Nat)]) ((o3.same s46).same s7) hp2 (.cons (d6.same s7) (.cons (by rw [hyl] at d7; exact d7) .nil))
    have s48 := (s46.trans s7).trans s8
    refine ⟨"fulfilled", M, rfl, o8, str_line (by decide +kernel), fun r9 H9 s9 d9 => ?_⟩
    refine ⟨_, rfl, _, rfl, .ref p, .ref p2, [codes "rows", codes "pages"], _, M, rfl, o8.same s9, (d3.same s48).same s9, d8.same s9, fun r10 H10 s10 d10 => ⟨two_line, fun p3 hp3 => ?_⟩⟩
    obtain ⟨s11, o11, d11⟩ := new_lst (C := C) (ds := [wordD "fulfilled", .val 8 0 [] [codes "rows", codes "pages"] [numsD (mergedM (ps.map (·.rows))), dInt (ps.length : Nat)]]) ((o8.same s9).same s10) hp3 (.cons (d9.same s10) (.cons d10 .nil))
    exact ⟨.ref p3, _, M, rfl, o11, d11, fun r12 H12 s12 d12 => g _ _ (((((s13.trans s48).trans s9).trans s10).trans s11).trans s12) d12⟩
end
end Pg

/-! PgT: class Collector -/
namespace Pg
open PySem PySem.Spec PyProof.Rows L2
def colF (sz mo : Int) (l : Addr) (k : Int) (o : Addr) : List (Str × V) := [("size", .int sz), ("most", .int mo), ("pages", .ref l), ("asked", .int k), ("outcome", .ref o)]
structure ClC (K : PySem.W.Frag) (CC : Addr) : Prop where
  cl : Cls K CC
  size : NoAttr K CC "size"
  most : NoAttr K CC "most"
  pages : NoAttr K CC "pages"
  asked : NoAttr K CC "asked"
  outcome : NoAttr K CC "outcome"
section
variable {sz mo k k' : Int} {l o o' : Addr}
theorem cl_size : (colF sz mo l k o).lookup ("size" : Str) = some (.int sz) := lk_here
theorem cl_most : (colF sz mo l k o).lookup ("most" : Str) = some (.int mo) := (lk_past (by decide +kernel)).trans lk_here
theorem cl_pages : (colF sz mo l k o).lookup ("pages" : Str) = some (.ref l) := (lk_past (by decide +kernel)).trans ((lk_past (by decide +kernel)).trans lk_here)
theorem cl_asked : (colF sz mo l k o).lookup ("asked" : Str) = some (.int k) := (lk_past (by decide +kernel)).trans ((lk_past (by decide +kernel)).trans ((lk_past (by decide +kernel)).trans lk_here))
theorem cl_outcome : (colF sz mo l k o).lookup ("outcome" : Str) = some (.ref o) := (lk_past (by decide +kernel)).trans ((lk_past (by decide +kernel)).trans ((lk_past (by decide +kernel)).trans ((lk_past (by decide +kernel)).trans lk_here)))
theorem cl_meth {m : Str} (h : (m == "size") = false ∧ (m == "most") = false ∧ (m == "pages") = false ∧ (m == "asked") = false ∧ (m == "outcome") = false) : (colF sz mo l k o).lookup m = none :=
  (lk_past h.1).trans ((lk_past h.2.1).trans ((lk_past h.2.2.1).trans ((lk_past h.2.2.2.1).trans ((lk_past h.2.2.2.2).trans rfl))))
theorem put_asked : putF "asked" (.int k') (colF sz mo l k o) = colF sz mo l k' o := by
  unfold colF
  rw [put_past (by decide +kernel), put_past (by decide +kernel), put_past (by decide +kernel), put_here]
theorem put_outcome : putF "outcome" (.ref o') (colF sz mo l k o) = colF sz mo l k o' := by
  unfold colF
  rw [put_past (by decide +kernel), put_past (by decide +kernel), put_past (by decide +kernel), put_past (by decide +kernel), put_here]
theorem put_col : putF "outcome" (.ref o) (putF "asked" (.int k) (putF "pages" (.ref l) (putF "most" (.int mo) (putF "size" (.int sz) [])))) = colF sz mo l k o := by
  repeat (first | rw [put_nil] | rw [put_past (by decide +kernel)])
  rfl
theorem col_len : (colF sz mo l k o).length < 1000 := by show 5 < 1000; decide
end
/-! ### the mirror -/
structure CS where
  size : Int
  most : Int
  pages : List Page
  asked : Option Nat
  out : Dat
def CS.fin (s : CS) (d : Dat) : CS := { s with asked := none, out := d }
def rowsL (ps : List Page) : List (List Nat) := ps.map (·.rows)
def manyMsg (n : Nat) : Str := Str.empty ++ "not certain after " ++ numS n ++ " pages"
def fetchMsg (a s : Nat) : Str := Str.empty ++ "fetch(" ++ numS a ++ ") must return an array of at most " ++ numS s ++ " different row numbers"
def orderD : Dat := rejD "RangeError" "rows have changed their order"
def goOnM (s : CS) : CS :=
  if agreeM (rowsL s.pages) = false then s.fin orderD
  else if certainM s.size.toNat s.pages = true then s.fin (fulD s.pages)
  else if (s.pages.length : Int) = s.most then s.fin (rejD "RangeError" (manyMsg s.pages.length))
  else { s with asked := some (nextI s.size.toNat s.pages).toNat }
def acceptM (s : CS) (x : RWire.Value) : CS := match s.asked with
  | none => s
  | some a => match rowsV s.size.toNat x with
    | some rows => goOnM { s with pages := s.pages ++ [(⟨a, rows⟩ : Page)] }
    | none => s.fin (rejD "TypeError" (fetchMsg a s.size.toNat))
def replyM (s : CS) (x : RWire.Value) : CS := match s.asked with
  | none => s
  | some _ => if kdI x = 1 then s.fin (failD (wordD "stop")) else acceptM s x
def feedM (s : CS) (rs : List RWire.Value) : CS := acceptM (rs.foldl replyM s) .nothing
def initM (x y : RWire.Value) : CS :=
  if rangeV 2 20 x = none then ⟨nmI x, nmI y, [], none, rejD "RangeError" "size must be an integer from 2 to 20"⟩
  else if rangeV 1 20 y = none then ⟨nmI x, nmI y, [], none, rejD "RangeError" "most must be an integer from 1 to 20"⟩
  else ⟨nmI x, nmI y, [], some 0, nullD⟩
/-- a collector that may go on -/
structure GoOk (s : CS) : Prop where
  s2 : 2 ≤ s.size
  s20 : s.size ≤ 20
  m20 : s.most ≤ 20
  len : (s.pages.length : Int) ≤ s.most
  rows : ∀ p ∈ s.pages, p.rows.length ≤ 20
  off : ∀ p ∈ s.pages, p.offset + 19 ≤ 19 * s.pages.length
/-- a collector that asks -/
structure AskOk (s : CS) (a : Nat) : Prop where
  s2 : 2 ≤ s.size
  s20 : s.size ≤ 20
  m20 : s.most ≤ 20
  len : (s.pages.length : Int) < s.most
  rows : ∀ p ∈ s.pages, p.rows.length ≤ 20
  off : ∀ p ∈ s.pages, p.offset + 19 ≤ 19 * s.pages.length
  ask : a ≤ 19 * s.pages.length
def CSOk (s : CS) : Prop := ∀ a, s.asked = some a → AskOk s a
theorem flatten_le {k : Nat} : ∀ {ps : List Page}, (∀ p ∈ ps, p.rows.length ≤ k) → (rowsL ps).flatten.length ≤ k * ps.length
  | [], _ => by simp [rowsL]
  | p :: ps, h => by
    have h1 := h p List.mem_cons_self
    have h2 := flatten_le (ps := ps) (k := k) fun q hq => h q (List.mem_cons_of_mem _ hq)
    show (p.rows ++ (rowsL ps).flatten).length ≤ k * (ps.length + 1)
    rw [List.length_append, Nat.mul_add]
    omega
theorem GoOk.plen {s : CS} (h : GoOk s) : s.pages.length ≤ 20 := by
  have := h.len
  have := h.m20
  omega
theorem GoOk.flat {s : CS} (h : GoOk s) : (rowsL s.pages).flatten.length ≤ 20000 := by
  have h1 := flatten_le h.rows
  have h2 := h.plen
  omega
theorem next_nat {size : Nat} {ps : List Page} (hs : 1 ≤ size) (hc : certainM size ps = false) : nextI size ps = ((nextI size ps).toNat : Int) := by
  have h : 0 ≤ nextI size ps := by
    unfold nextI
    rw [if_neg (by rw [hc]; exact Bool.false_ne_true)]
    split
    · omega
    · split
      · omega
      · split <;> omega
  omega
theorem next_le {size : Nat} {ps : List Page} (hs : 2 ≤ size) (h20 : size ≤ 20) (hoff : ∀ p ∈ ps, p.offset + 19 ≤ 19 * ps.length) : (nextI size ps).toNat ≤ 19 * ps.length := by
  unfold nextI
  split
  · omega
  · split
    · omega
    · next c =>
      have hm := hoff (pgAt ps (ps.length - 1)) (pgAt_mem (by omega))
      split
      · omega
      · split <;> omega
theorem goOn_ok {s : CS} (h : GoOk s) : CSOk (goOnM s) := by
  intro a ha
  unfold goOnM at ha ⊢
  split at ha
  · cases ha
  · next c1 =>
    split at ha
    · cases ha
    · next c2 =>
      split at ha
      · cases ha
      · next c3 =>
        rw [if_neg c1, if_neg c2, if_neg c3]
        simp only [Option.some.injEq] at ha
        subst ha
        have l := h.len
        have z2 := h.s2
        have z20 := h.s20
        exact ⟨h.s2, h.s20, h.m20, by show (s.pages.length : Int) < s.most; omega, h.rows, h.off, next_le (by omega) (by omega) h.off⟩
theorem AskOk.go {s : CS} {a : Nat} {rows : List Nat} {x : RWire.Value} (h : AskOk s a) (hr : rowsV s.size.toNat x = some rows) : GoOk { s with pages := s.pages ++ [(⟨a, rows⟩ : Page)] } := by
  have hrl := (rowsV_wholes hr).2
  have z20 := h.s20
  have z2 := h.s2
  have l := h.len
  have ak := h.ask
  refine ⟨h.s2, h.s20, h.m20, ?_, fun p hp => ?_, fun p hp => ?_⟩
  · show ((s.pages ++ [(⟨a, rows⟩ : Page)]).length : Int) ≤ s.most
    rw [List.length_append]
    simp only [List.length_singleton]
    omega
  · rcases List.mem_append.mp hp with z | z
    · exact h.rows p z
    · simp only [List.mem_singleton] at z
      subst z
      show rows.length ≤ 20
      omega
  · show p.offset + 19 ≤ 19 * (s.pages ++ [(⟨a, rows⟩ : Page)]).length
    rw [List.length_append]
    simp only [List.length_singleton]
    rcases List.mem_append.mp hp with z | z
    · have := h.off p z
      omega
    · simp only [List.mem_singleton] at z
      subst z
      show a + 19 ≤ _
      omega
theorem accept_ok {s : CS} (h : CSOk s) (x : RWire.Value) : CSOk (acceptM s x) := by
  unfold acceptM
  split
  · exact h
  · next a ha =>
    split
    · next rows hr => exact goOn_ok ((h a ha).go hr)
    · intro b hb
      cases hb
theorem reply_ok {s : CS} (h : CSOk s) (x : RWire.Value) : CSOk (replyM s x) := by
  unfold replyM
  split
  · exact h
  · split
    · intro b hb
      cases hb
    · exact accept_ok h x
theorem init_ok (x y : RWire.Value) : CSOk (initM x y) := by
  unfold initM
  split
  · intro b hb; cases hb
  · next c1 =>
    split
    · intro b hb; cases hb
    · next c2 =>
      intro b hb
      cases hb
      cases h1 : rangeV 2 20 x with
      | none => exact absurd h1 c1
      | some n =>
        cases h2 : rangeV 1 20 y with
        | none => exact absurd h2 c2
        | some m =>
          obtain ⟨e1, e2, e3⟩ := rangeV_nm h1
          obtain ⟨e4, e5, e6⟩ := rangeV_nm h2
          refine ⟨by show 2 ≤ nmI x; omega, by show nmI x ≤ 20; omega, by show nmI y ≤ 20; omega, by show ((0 : Nat) : Int) < nmI y; omega, (fun p hp => nomatch hp), (fun p hp => nomatch hp), Nat.zero_le _⟩
/-- a collector that stands at c, its pages' list at l -/
def ColAt (C CC : Addr) (M : List Addr) (H : Hp) (c l : Addr) (s : CS) : Prop := ∃ dx o xs, c ∈ M ∧ l ∈ M ∧ c ≠ l ∧ H c = some (.ins CC dx (colF s.size s.most l (bestI s.asked) o)) ∧ H l = some (.lst xs) ∧ DAll C M H xs (s.pages.map pageD) ∧ DAt C M H (.ref o) s.out
theorem SameB.mono {M N : List Addr} {H H' : Hp} (s : SameB M H H') (h : ∀ b ∈ M, b ∈ N) : SameB N H H' := fun b o e n => s b o e fun z => n (h b z)
theorem ColAt.same {C CC : Addr} {M : List Addr} {H H' : Hp} {c l : Addr} {s : CS} (x : ColAt C CC M H c l s) (t : Same H H') : ColAt C CC M H' c l s := by
  obtain ⟨dx, o, xs, h1, h2, h3, h4, h5, h6, h7⟩ := x
  exact ⟨dx, o, xs, h1, h2, h3, t _ _ h4, t _ _ h5, h6.same t, h7.same t⟩
/-- the collector has ended -/
theorem ColAt.fin {C CC : Addr} {M : List Addr} {H H' : Hp} {c l o' : Addr} {s : CS} {d : Dat} {dx : Addr} (x : ColAt C CC M H c l s) (t : SameB [c] H H') (e : ∃ dx, H' c = some (.ins CC dx (colF s.size s.most l (-1) o'))) (dd : DAt C M H (.ref o') d) : ColAt C CC M H' c l (s.fin d) := by
  obtain ⟨dx, o, xs, h1, h2, h3, h4, h5, h6, h7⟩ := x
  obtain ⟨dx', e⟩ := e
  have tM : SameB M H H' := t.mono fun b hb => by simp at hb; rw [hb]; exact h1
  exact ⟨dx', o', xs, h1, h2, h3, e, t _ _ h5 (by simp; exact fun z => h3 z.symm), h6.sameB tM, dd.sameB tM⟩
abbrev s_Collector_init : Stmt := inClass (top 90) 0
abbrev n_Collector_init : List Str := ["self", "size", "most"]
abbrev p_Collector_init : List Str := ["self", "size", "most"]
theorem sc_Collector_init : FnScope n_Collector_init p_Collector_init (defScope s_Collector_init) := ⟨rfl, rfl, rfl, by decide +kernel, rfl, by decide +kernel, by decide +kernel⟩
abbrev s_Collector_finish : Stmt := inClass (top 90) 1
abbrev n_Collector_finish : List Str := ["self", "outcome"]
abbrev p_Collector_finish : List Str := ["self", "outcome"]
theorem sc_Collector_finish : FnScope n_Collector_finish p_Collector_finish (defScope s_Collector_finish) := ⟨rfl, rfl, rfl, by decide +kernel, rfl, by decide +kernel, by decide +kernel⟩
abbrev s_Collector_go_on : Stmt := inClass (top 90) 2
abbrev n_Collector_go_on : List Str := ["self", "many"]
abbrev p_Collector_go_on : List Str := ["self"]
theorem sc_Collector_go_on : FnScope n_Collector_go_on p_Collector_go_on (defScope s_Collector_go_on) := ⟨rfl, rfl, rfl, by decide +kernel, rfl, by decide +kernel, by decide +kernel⟩
abbrev s_Collector_accept : Stmt := inClass (top 90) 3
abbrev n_Collector_accept : List Str := ["self", "value", "words"]
abbrev p_Collector_accept : List Str := ["self", "value"]
theorem sc_Collector_accept : FnScope n_Collector_accept p_Collector_accept (defScope s_Collector_accept) := ⟨rfl, rfl, rfl, by decide +kernel, rfl, by decide +kernel, by decide +kernel⟩
abbrev s_Collector_give_up : Stmt := inClass (top 90) 4
abbrev n_Collector_give_up : List Str := ["self", "reason"]
abbrev p_Collector_give_up : List Str := ["self", "reason"]
theorem sc_Collector_give_up : FnScope n_Collector_give_up p_Collector_give_up (defScope s_Collector_give_up) := ⟨rfl, rfl, rfl, by decide +kernel, rfl, by decide +kernel, by decide +kernel⟩
abbrev s_Collector_feed : Stmt := inClass (top 90) 5
abbrev n_Collector_feed : List Str := ["self", "replies", "reply"]
abbrev p_Collector_feed : List Str := ["self", "replies"]
theorem sc_Collector_feed : FnScope n_Collector_feed p_Collector_feed (defScope s_Collector_feed) := ⟨rfl, rfl, rfl, by decide +kernel, rfl, by decide +kernel, by decide +kernel⟩
abbrev s_Collector_wanted : Stmt := inClass (top 90) 6
abbrev n_Collector_wanted : List Str := ["self"]
abbrev p_Collector_wanted : List Str := ["self"]
theorem sc_Collector_wanted : FnScope n_Collector_wanted p_Collector_wanted (defScope s_Collector_wanted) := ⟨rfl, rfl, rfl, by decide +kernel, rfl, by decide +kernel, by decide +kernel⟩
section
variable (C CC : Addr)
def spFinish : Sp := fun vs H Q _ => ∃ (c dx l o o' : Addr) (sz mo k : Int), vs = [.ref c, .ref o'] ∧ H c = some (.ins CC dx (colF sz mo l k o)) ∧ ∀ H', SameB [c] H H' → H' c = some (.ins CC dx (colF sz mo l (-1) o')) → Q .non H'
def spGoOn : Sp := fun vs H Q _ => ∃ (c l : Addr) (s : CS) (M : List Addr), vs = [.ref c] ∧ Off M H ∧ ColAt C CC M H c l s ∧ GoOk s ∧ ∀ H', SameB [c] H H' → ColAt C CC M H' c l (goOnM s) → Q .non H'
def spAccept : Sp := fun vs H Q _ => ∃ (c l : Addr) (v : V) (x : RWire.Value) (s : CS) (a : Nat) (M : List Addr), vs = [.ref c, v] ∧ Off M H ∧ ColAt C CC M H c l s ∧ s.asked = some a ∧ AskOk s a ∧ DAt C M H v (datOf x) ∧ (∀ l, x = .list l → l.length ≤ 20000) ∧
  ∀ H', SameB [c, l] H H' → ColAt C CC M H' c l (acceptM s x) → Q .non H'
def spGiveUp : Sp := fun vs H Q _ => ∃ (c l : Addr) (v : V) (d : Dat) (s : CS) (M : List Addr), vs = [.ref c, v] ∧ Off M H ∧ ColAt C CC M H c l s ∧ DAt C M H v d ∧ ∀ H', SameB [c] H H' → ColAt C CC M H' c l (s.fin (failD d)) → Q .non H'
def spFeed : Sp := fun vs H Q _ => ∃ (c l : Addr) (v : V) (rs : List RWire.Value) (s : CS) (M : List Addr), vs = [.ref c, v] ∧ Off M H ∧ ColAt C CC M H c l s ∧ CSOk s ∧ DAt C M H v (.lst (datsOf rs)) ∧ (∀ x ∈ rs, ∀ l, x = .list l → l.length ≤ 20000) ∧
  ∀ H', SameB [c, l] H H' → ColAt C CC M H' c l (feedM s rs) → Q .non H'
def spWanted : Sp := fun vs H Q _ => ∃ (c l : Addr) (s : CS) (M : List Addr), vs = [.ref c] ∧ ColAt C CC M H c l s ∧ GivesL H Q (s.asked.toList.map natI)
def spCInit : Sp := fun vs H Q _ => ∃ (c dx : Addr) (v u : V) (x y : RWire.Value) (M : List Addr), vs = [.ref c, v, u] ∧ Off M H ∧ c ∈ M ∧ H c = some (.ins CC dx []) ∧ DAt C M H v (datOf x) ∧ DAt C M H u (datOf y) ∧
  ∀ l H', H l = none → SameB [c] H H' → ColAt C CC (l :: M) H' c l (initM x y) → Q .non H'
end
section
variable {P : Program} {w : World} {K : PySem.W.Frag} {mg : Str → Option Value} {base : Heap} {C XO XW CC : Addr} {f : Addr} {fd : FuncData}
theorem ok_finish (D : DfM K CC "finish" "Collector.finish" s_Collector_finish p_Collector_finish f fd) (T : ClC K CC) : OwnM P w K mg base CX0 CC 1 "finish" p_Collector_finish (spFinish CC) := by
  refine D.own T.cl (D.F.ok sc_Collector_finish (fun vs H Q E h => ?_) (fun cdv A outer s H vs Q E hr h => ⟨_, pss_cons (ps_fld (pv 0) (pe_un un_neg pe_int) rfl) (pss_one (ps_fld (pv 0) (pv 1) rfl)), ?_⟩))
  · obtain ⟨c, dx, l, o, o', sz, mo, k, rfl, _⟩ := h
    rfl
  · obtain ⟨c, dx, l, o, o', sz, mo, k, rfl, e, q⟩ := h
    refine ⟨_, rfl, _, rfl, c, CC, dx, _, rfl, e, T.cl, T.asked, col_len, ?_⟩
    refine ⟨_, rfl, _, rfl, c, CC, dx, _, rfl, upd_same, T.cl, T.outcome, (by rw [put_asked]; exact col_len), ?_⟩
    refine q _ (fun b u eb nb => ?_) ?_
    · have nb' : b ≠ c := by simpa using nb
      rw [upd_ne nb', upd_ne nb']
      exact eb
    · rw [upd_same, put_asked, put_outcome]
theorem ok_give_up (D : DfM K CC "give_up" "Collector.give_up" s_Collector_give_up p_Collector_give_up f fd) (T : ClC K CC) (M_Collector_finish : OwnM P w K mg base CX0 CC 1 "finish" p_Collector_finish (spFinish CC)) (O_failed_value : Own P w K mg base CX0 5 "failed_value" p_failed_value (spFailed C)) :
    OwnM P w K mg base CX0 CC 6 "give_up" p_Collector_give_up (spGiveUp C CC) := by
  refine D.own T.cl (D.F.ok sc_Collector_give_up (fun vs H Q E h => ?_) (fun cdv A outer s H vs Q E hr h => ⟨_, pss_one (ps_expr (pe_mth M_Collector_finish hr (pv 0) (pa_cons (pe_own O_failed_value hr (pa_cons (pv 1) pa_nil)) pa_nil))), ?_⟩))
  · obtain ⟨c, l, v, d, s, M, rfl, _⟩ := h
    rfl
  · obtain ⟨c, l, v, d, s, M, rfl, off, col, dv, q⟩ := h
    have col' := col
    obtain ⟨dx, o, xs, h1, h2, h3, h4, h5, h6, h7⟩ := col'
    refine ⟨_, rfl, c, dx, _, rfl, h4, cl_meth (by decide +kernel), _, rfl, v, d, M, rfl, off, dv, fun r H1 s1 d1 => ?_⟩
    have d1' := d1
    obtain ⟨o', dx', oo, nn, pp, rfl, _⟩ := d1'.valAt
    refine ⟨c, dx, l, o, o', _, _, _, rfl, s1 _ _ h4, fun H2 s2 e2 => ?_⟩
    exact q H2 ((SameB.of s1).trans s2) ((col.same s1).fin (dx := dx) s2 ⟨dx, e2⟩ d1)
theorem ok_go_on (D : DfM K CC "go_on" "Collector.go_on" s_Collector_go_on p_Collector_go_on f fd) (T : ClC K CC) (B : Blt mg) (Kc : Csts mg) (M_Collector_finish : OwnM P w K mg base CX0 CC 1 "finish" p_Collector_finish (spFinish CC)) (O_agree : Own P w K mg base CX0 4 "agree" p_agree (spAgree C))
    (O_rows_of : Own P w K mg base CX0 1 "rows_of" p_rows_of (spRowsOf C)) (O_rejected_value : Own P w K mg base CX0 5 "rejected_value" p_rejected_value (spRejected C)) (O_is_certain : Own P w K mg base CX0 5 "is_certain" p_is_certain (spIsCertain C))
    (O_fulfilled_value : Own P w K mg base CX0 5 "fulfilled_value" p_fulfilled_value (spFulfilled C)) (O_next_offset : Own P w K mg base CX0 6 "next_offset" p_next_offset (spNextOffset C)) :
    OwnM P w K mg base CX0 CC 7 "go_on" p_Collector_go_on (spGoOn C CC) := by
  refine D.own T.cl (D.F.ok sc_Collector_go_on (fun vs H Q E h => ?_) (fun cdv A outer s H vs Q E hr h => ⟨_, pss_cons (ps_set (i := 1) sc_Collector_go_on.nd rfl (Or.inl rfl) (pe_callB (call_lenK (K := K) rfl) rfl B.len boot_len (pa_cons (pe_fldK (K := K) (pv 0)) pa_nil))) (pss_one (ps_if (pt_not (pt_val (pe_own O_agree hr (pa_cons (pe_own O_rows_of hr (pa_cons (pe_fldK (K := K) (pv 0)) pa_nil)) pa_nil)))) (pss_one (ps_expr (pe_mth M_Collector_finish hr (pv 0) (pa_cons (pe_own O_rejected_value hr (pa_cons pe_str (pa_cons (pe_k Kc.ORDER_WORDS) pa_nil))) pa_nil)))) (pss_one (ps_if (pt_val (pe_own O_is_certain hr (pa_cons (pe_fldK (K := K) (pv 0)) (pa_cons (pe_fldK (K := K) (pv 0)) pa_nil)))) (pss_one (ps_expr (pe_mth M_Collector_finish hr (pv 0) (pa_cons (pe_own O_fulfilled_value hr (pa_cons (pe_fldK (K := K) (pv 0)) pa_nil)) pa_nil)))) (pss_one (ps_if (pt_cmpR op_eq (pv 1) (pe_fldK (K := K) (pv 0)) (nomark _)) (pss_one (ps_expr (pe_mth M_Collector_finish hr (pv 0) (pa_cons (pe_own O_rejected_value hr (pa_cons pe_str (pa_cons (pe_joined (PJ.cons pe_str (PJ.cons (pe_fmt (pv 1)) (PJ.cons pe_str PJ.nil)))) pa_nil))) pa_nil)))) (pss_one (ps_fld (pv 0) (pe_own O_next_offset hr (pa_cons (pe_fldK (K := K) (pv 0)) (pa_cons (pe_fldK (K := K) (pv 0)) pa_nil))) rfl)))))))), ?_⟩))
  · obtain ⟨c, l, s, M, rfl, _⟩ := h
    rfl
  · obtain ⟨c, l, s, M, rfl, off, col, ok, q⟩ := h
    have col' := col
    obtain ⟨dx, o, xs, h1, h2, h3, h4, h5, h6, h7⟩ := col'
    have hxl : xs.length = s.pages.length := by rw [h6.length, List.length_map]
    have hl := ok.plen
    have hf := ok.flat
    have hl2 : s.pages.length ≤ 20000 := by omega
    obtain ⟨n, hn⟩ : ∃ n : Nat, s.size = n := ⟨s.size.toNat, by have := ok.s2; omega⟩
    have hnt : s.size.toNat = n := by omega
    have hs2 := ok.s2
    have dl : DAt C [] H (.ref l) (pagesD s.pages) := .lst (by simp) h5 (h6.keep fun b o e _ => ⟨by simp, e⟩)
    have sz1 : ("RangeError" : Str).cps.size ≤ sizeLine := str_line (by decide +kernel)
    -- the end of a branch that ends
    have fin : ∀ (d : Dat) (r : V) (H1 : Hp), Same H H1 → DAt C M H1 r d → goOnM s = s.fin d → (∃ k n os ns ps, d = .val k n os ns ps) → spFinish CC [.ref c, r] H1 (fun v H2 => Q .non H2) E0 := by
      rintro d r H1 s1 d1 eg ⟨_, _, _, _, _, rfl⟩
      have d1' := d1
      obtain ⟨o', dx', oo, nn, pp, rfl, _⟩ := d1'.valAt
      refine ⟨c, dx, l, o, o', _, _, _, rfl, s1 _ _ h4, fun H2 s2 e2 => ?_⟩
      refine q H2 ((SameB.of s1).trans s2) ?_
      rw [eg]
      exact (col.same s1).fin (dx := dx) s2 ⟨dx, e2⟩ d1
    refine ⟨_, rfl, c, CC, dx, _, _, rfl, h4, T.cl, T.pages, cl_pages, l, _, rfl, .inl (SqL.of h5), ?_⟩
    rw [hxl]
    refine ⟨_, rfl, c, CC, dx, _, _, rfl, h4, T.cl, T.pages, cl_pages, .ref l, s.pages, [], rfl, Off.nil, dl, hl2, fun r1 H1 s1 d1 => ?_⟩
    refine ⟨r1, rowsL s.pages, [], rfl, Off.nil, d1, by rw [rowsL, List.length_map]; exact hl2, hf, fun r2 H2 s2 d2 => ?_⟩
    cases d2
    refine ⟨_, rfl, ?_⟩
    have s12 := s1.trans s2
    cases c1 : agreeM (rowsL s.pages) with
    | false =>
      refine itT rfl ⟨_, rfl, c, dx, _, rfl, s12 _ _ h4, cl_meth (by decide +kernel), ?_⟩
      refine ⟨"RangeError", "rows have changed their order", M, rfl, off.same s12, sz1, str_line (by decide +kernel), fun r3 H3 s3 d3 => ?_⟩
      exact fin orderD r3 H3 (s12.trans s3) d3 (by unfold goOnM; rw [if_pos c1]) ⟨_, _, _, _, _, rfl⟩
    | true =>
      have c1' : ¬ agreeM (rowsL s.pages) = false := by rw [c1]; decide
      refine itF rfl ?_
      refine ⟨_, rfl, c, CC, dx, _, _, rfl, s12 _ _ h4, T.cl, T.size, cl_size, _, rfl, c, CC, dx, _, _, rfl, s12 _ _ h4, T.cl, T.pages, cl_pages, .ref l, n, s.pages, [], by rw [hn], Off.nil, dl.same s12, hl2, fun r3 H3 s3 d3 => ?_⟩
      cases d3
      have s13 := s12.trans s3
      refine ⟨_, rfl, ?_⟩
      cases c2 : certainM n s.pages with
      | true =>
        refine itT rfl ⟨_, rfl, c, dx, _, rfl, s13 _ _ h4, cl_meth (by decide +kernel), ?_⟩
        refine ⟨_, rfl, c, CC, dx, _, _, rfl, s13 _ _ h4, T.cl, T.pages, cl_pages, .ref l, s.pages, M, rfl, off.same s13, dl.same s13, hl2, hf, fun r4 H4 s4 d4 => ?_⟩
        exact fin (fulD s.pages) r4 H4 (s13.trans s4) d4 (by unfold goOnM; rw [if_neg c1', hnt, if_pos c2]) ⟨_, _, _, _, _, rfl⟩
      | false =>
        have c2' : ¬ certainM n s.pages = true := by rw [c2]; decide
        refine itF rfl ⟨_, rfl, _, rfl, c, CC, dx, _, _, rfl, s13 _ _ h4, T.cl, T.most, cl_most, rfl, _, rfl, ?_⟩
        rw [dec_int]
        by_cases c3 : (s.pages.length : Int) = s.most
        · have n1 := numS_len (i := s.pages.length) (by omega)
          have n2 : ("not certain after " : Str).length = 18 := by decide +kernel
          have n3 : (" pages" : Str).length = 6 := by decide +kernel
          have n4 : Str.empty.length = 0 := by decide +kernel
          refine itT (by rw [c3]; simp) ⟨_, rfl, c, dx, _, rfl, s13 _ _ h4, cl_meth (by decide +kernel), ?_⟩
          refine ⟨_, rfl, by rw [app_len, sizeLine_eq]; omega, _, rfl, .inr ⟨_, rfl, log_small (by omega), ?_⟩⟩
          change ∃ y : Str, V.str (numS s.pages.length) = V.str y ∧ _
          refine ⟨_, rfl, by rw [app_len, app_len, sizeLine_eq]; omega, _, rfl, by rw [app_len, app_len, app_len, sizeLine_eq]; omega, ?_⟩
          refine ⟨"RangeError", manyMsg s.pages.length, M, rfl, off.same s13, sz1, ?_, fun r4 H4 s4 d4 => ?_⟩
          · show (manyMsg s.pages.length).length ≤ _
            unfold manyMsg
            rw [app_len, app_len, app_len, sizeLine_eq]; omega
          · exact fin _ r4 H4 (s13.trans s4) d4 (by unfold goOnM; rw [if_neg c1', hnt, if_neg c2', if_pos c3]) ⟨_, _, _, _, _, rfl⟩
        · refine itF (by simp only [beq_eq_false_iff_ne]; exact c3) ?_
          refine ⟨_, rfl, c, CC, dx, _, _, rfl, s13 _ _ h4, T.cl, T.size, cl_size, _, rfl, c, CC, dx, _, _, rfl, s13 _ _ h4, T.cl, T.pages, cl_pages, .ref l, n, s.pages, [], by rw [hn], Off.nil, dl.same s13, hl2, fun r4 H4 s4 d4 => ?_⟩
          cases d4
          have s14 := s13.trans s4
          refine ⟨_, rfl, c, CC, dx, _, rfl, s14 _ _ h4, T.cl, T.asked, col_len, ?_⟩
          rw [put_asked]
          refine q _ ((SameB.of s14).trans (SameB.upd (by simp))) ?_
          have eg : goOnM s = { s with asked := some (nextI n s.pages).toNat } := by unfold goOnM; rw [if_neg c1', hnt, if_neg c2', if_neg c3]
          rw [eg]
          have tM : SameB M H (upd H4 c (.ins CC dx (colF s.size s.most l (nextI n s.pages) o))) := (SameB.of s14).trans (SameB.upd h1)
          refine ⟨dx, o, xs, h1, h2, h3, ?_, ?_, h6.sameB tM, h7.sameB tM⟩
          · rw [upd_same]
            show some (HO.ins CC dx (colF s.size s.most l (nextI n s.pages) o)) = some (HO.ins CC dx (colF s.size s.most l ((nextI n s.pages).toNat : Nat) o))
            rw [← next_nat (by omega) c2]
          · rw [upd_ne (Ne.symm h3)]
            exact s14 _ _ h5
theorem ok_accept (D : DfM K CC "accept" "Collector.accept" s_Collector_accept p_Collector_accept f fd) (T : ClC K CC) (M_Collector_finish : OwnM P w K mg base CX0 CC 1 "finish" p_Collector_finish (spFinish CC)) (M_Collector_go_on : OwnM P w K mg base CX0 CC 7 "go_on" p_Collector_go_on (spGoOn C CC))
    (O_are_rows : Own P w K mg base CX0 3 "are_rows" p_are_rows (spAreRows C)) (O_numbers_of : Own P w K mg base CX0 1 "numbers_of" p_numbers_of (spNumbersOf C)) (O_rejected_value : Own P w K mg base CX0 5 "rejected_value" p_rejected_value (spRejected C)) :
    OwnM P w K mg base CX0 CC 8 "accept" p_Collector_accept (spAccept C CC) := by
  refine D.own T.cl (D.F.ok sc_Collector_accept (fun vs H Q E h => ?_) (fun cdv A outer s H vs Q E hr h => ⟨_, pss_one (ps_if (pt_val (pe_own O_are_rows hr (pa_cons (pv 1) (pa_cons (pe_fldK (K := K) (pv 0)) pa_nil)))) (pss_cons (ps_expr (pe_bm PySem.F.plainAttrs_list PySem.F.slot_list_append PySem.F.type_list_append mt_append (pe_fldK (K := K) (pv 0)) (pa_cons (pe_tup (pa_cons (pe_fldK (K := K) (pv 0)) (pa_cons (pe_own O_numbers_of hr (pa_cons (pv 1) pa_nil)) pa_nil))) pa_nil))) (pss_one (ps_expr (pe_mth0 M_Collector_go_on hr (pv 0))))) (pss_cons (ps_set (i := 2) sc_Collector_accept.nd rfl (Or.inl rfl) (pe_joined (PJ.cons pe_str (PJ.cons (pe_fmt (pe_fldK (K := K) (pv 0))) (PJ.cons pe_str (PJ.cons (pe_fmt (pe_fldK (K := K) (pv 0))) (PJ.cons pe_str PJ.nil))))))) (pss_one (ps_expr (pe_mth M_Collector_finish hr (pv 0) (pa_cons (pe_own O_rejected_value hr (pa_cons pe_str (pa_cons (pv 2) pa_nil))) pa_nil)))))), ?_⟩))
  · obtain ⟨c, l, v, x, s, a, M, rfl, _⟩ := h
    rfl
  · obtain ⟨c, l, v, x, s, a, M, rfl, off, col, ha, ok, dv, hlen, q⟩ := h
    have col' := col
    obtain ⟨dx, o, xs, h1, h2, h3, h4, h5, h6, h7⟩ := col'
    have hxl : xs.length = s.pages.length := by rw [h6.length, List.length_map]
    obtain ⟨n, hn⟩ : ∃ n : Nat, s.size = n := ⟨s.size.toNat, by have := ok.s2; omega⟩
    have hnt : s.size.toNat = n := by omega
    have hs20 := ok.s20
    have hm20 := ok.m20
    have hlm := ok.len
    have hak := ok.ask
    have hbest : bestI s.asked = (a : Int) := by rw [ha]; rfl
    rw [hbest] at h4
    refine ⟨_, rfl, _, rfl, c, CC, dx, _, _, rfl, h4, T.cl, T.size, cl_size, v, x, n, M, by rw [hn], off, dv, hlen, fun r1 H1 s1 d1 => ?_⟩
    cases d1
    refine ⟨_, rfl, ?_⟩
    cases hw : rowsV n x with
    | some rows =>
      obtain ⟨lr, rfl, hnm, hlr, _, _⟩ := wholesV_list (rowsV_wholes hw).1
      have eA : acceptM s (.list lr) = goOnM { s with pages := s.pages ++ [(⟨a, rows⟩ : Page)] } := by unfold acceptM; rw [ha]; simp only; rw [hnt, hw]
      refine itT rfl ⟨_, rfl, c, CC, dx, _, _, rfl, s1 _ _ h4, T.cl, T.pages, cl_pages, .inl ⟨rfl, _, SqL.of (s1 _ _ h5)⟩, ?_⟩
      refine ⟨_, rfl, c, CC, dx, _, _, rfl, s1 _ _ h4, T.cl, T.asked, cl_asked, _, rfl, v, lr, M, rfl, off.same s1, dv.same s1, hlen lr rfl, fun r2 H2 s2 d2 => ⟨two_line, fun t ht => ?_⟩⟩
      rw [hnm] at d2
      have s12 := s1.trans s2
      obtain ⟨s3, o3, d3⟩ := new_tup (C := C) (xs := [.int (a : Int), r2]) (ds := [.int (a : Int), dN rows]) (off.same s12) ht (.cons (.int _) (.cons d2 .nil))
      have s13 := s12.trans s3
      refine ⟨l, xs, .ref t, rfl, rfl, s13 _ _ h5, by rw [hxl, sizeLine_eq]; omega, ?_⟩
      have nc : c ≠ l := h3
      have h4' : (upd (upd H2 t (.tup [.int (a : Int), r2])) l (.lst (xs ++ [.ref t]))) c = some (.ins CC dx (colF s.size s.most l (a : Int) o)) := by
        rw [upd_ne nc]
        exact s13 _ _ h4
      have tM : SameB M H (upd (upd H2 t (.tup [.int (a : Int), r2])) l (.lst (xs ++ [.ref t]))) := (SameB.of s13).trans (SameB.upd h2)
      refine ⟨_, rfl, c, dx, _, rfl, h4', cl_meth (by decide +kernel), ?_⟩
      refine ⟨c, l, { s with pages := s.pages ++ [(⟨a, rows⟩ : Page)] }, M, rfl, (off.same s13).upd, ?_, ok.go (by rw [hnt]; exact hw), fun H5 s5 col5 => ?_⟩
      · refine ⟨dx, o, xs ++ [.ref t], h1, h2, h3, ?_, upd_same, ?_, h7.sameB tM⟩
        · show _ = some (HO.ins CC dx (colF s.size s.most l (bestI s.asked) o))
          rw [hbest]
          exact h4'
        · rw [List.map_append]
          exact (h6.sameB tM).snoc (d3.sameB (SameB.upd h2))
      · refine q H5 ?_ (by rw [eA]; exact col5)
        have t1 : SameB [c, l] H (upd (upd H2 t (.tup [.int (a : Int), r2])) l (.lst (xs ++ [.ref t]))) := (SameB.of s13).trans (SameB.upd (by simp))
        exact t1.trans (s5.mono fun b hb => by simp at hb; simp [hb])
    | none =>
      have eA : acceptM s x = s.fin (rejD "TypeError" (fetchMsg a n)) := by unfold acceptM; rw [ha]; simp only; rw [hnt, hw]
      have n1 := numS_len (i := a) (by omega)
      have n1' := numS_len (i := n) (by omega)
      have n2 : ("fetch(" : Str).length = 6 := by decide +kernel
      have n3 : (") must return an array of at most " : Str).length = 34 := by decide +kernel
      have n5 : (" different row numbers" : Str).length = 22 := by decide +kernel
      have n4 : Str.empty.length = 0 := by decide +kernel
      rw [hn] at h4
      refine itF rfl ⟨_, rfl, by rw [app_len, sizeLine_eq]; omega, _, rfl, c, CC, dx, _, _, rfl, s1 _ _ h4, T.cl, T.asked, cl_asked, .inr ⟨_, rfl, log_small (by omega), ?_⟩⟩
      change ∃ y : Str, V.str (numS a) = V.str y ∧ _
      refine ⟨_, rfl, by rw [app_len, app_len, sizeLine_eq]; omega, _, rfl, by rw [app_len, app_len, app_len, sizeLine_eq]; omega, _, rfl, c, CC, dx, _, _, rfl, s1 _ _ h4, T.cl, T.size, cl_size, .inr ⟨_, rfl, log_small (by omega), ?_⟩⟩
      change ∃ y : Str, V.str (numS n) = V.str y ∧ _
      refine ⟨_, rfl, by rw [app_len, app_len, app_len, app_len, sizeLine_eq]; omega, _, rfl, by rw [app_len, app_len, app_len, app_len, app_len, sizeLine_eq]; omega, ?_⟩
      refine ⟨_, rfl, c, dx, _, rfl, s1 _ _ h4, cl_meth (by decide +kernel), ?_⟩
      refine ⟨_, rfl, "TypeError", fetchMsg a n, M, rfl, off.same s1, str_line (by decide +kernel), ?_, fun r4 H4 s4 d4 => ?_⟩
      · show (fetchMsg a n).length ≤ _
        unfold fetchMsg
        rw [app_len, app_len, app_len, app_len, app_len, sizeLine_eq]; omega
      · have d4' := d4
        obtain ⟨o', dx', oo, nn, pp, rfl, _⟩ := d4'.valAt
        refine ⟨c, dx, l, o, o', _, _, _, rfl, s4 _ _ (s1 _ _ h4), fun H5 s5 e5 => ?_⟩
        have s14 := s1.trans s4
        refine q H5 (((SameB.of s14).trans s5).mono fun b hb => by simp at hb; simp [hb]) ?_
        rw [eA]
        exact (col.same s14).fin (dx := dx) s5 ⟨dx, by rw [hn]; exact e5⟩ d4
theorem ok_wanted (D : DfM K CC "wanted" "Collector.wanted" s_Collector_wanted p_Collector_wanted f fd) (T : ClC K CC) : OwnM P w K mg base CX0 CC 1 "wanted" p_Collector_wanted (spWanted C CC) := by
  refine D.own T.cl (D.F.ok sc_Collector_wanted (fun vs H Q E h => ?_) (fun cdv A outer s H vs Q E hr h => ⟨_, pss_cons (ps_if (pt_cmpR op_ge (pe_fldK (K := K) (pv 0)) pe_int (nomark _)) (pss_one (ps_ret (pe_lst (pa_cons (pe_fldK (K := K) (pv 0)) pa_nil)))) pss_nil) (pss_one (ps_ret (pe_lst pa_nil))), ?_⟩))
  · obtain ⟨c, l, s, M, rfl, _⟩ := h
    rfl
  · obtain ⟨c, l, s, M, rfl, col, g⟩ := h
    obtain ⟨dx, o, xs, h1, h2, h3, h4, h5, h6, h7⟩ := col
    refine ⟨_, rfl, c, CC, dx, _, _, rfl, h4, T.cl, T.asked, cl_asked, _, _, rfl, rfl, _, rfl, ?_⟩
    cases ha : s.asked with
    | none =>
      rw [ha] at g
      refine itF (decide_eq_false (by show ¬ (-1 : Int) ≥ 0; omega)) ⟨zero_line, fun p hp => ?_⟩
      exact g p _ (Same.new hp) hp upd_same
    | some a =>
      rw [ha] at g h4
      refine itT (decide_eq_true (by show (a : Int) ≥ 0; omega)) ⟨_, rfl, c, CC, dx, _, _, rfl, h4, T.cl, T.asked, cl_asked, by show 1 ≤ sizeLine; rw [sizeLine_eq]; omega, fun p hp => ?_⟩
      exact g p _ (Same.new hp) hp upd_same
end
end Pg

/-! PgU: Collector.feed, Collector.__init__ -/
namespace Pg
open PySem PySem.Spec PyProof.Rows L2
section
variable {P : Program} {w : World} {K : PySem.W.Frag} {mg : Str → Option Value} {base : Heap} {C XO XW CC : Addr} {f : Addr} {fd : FuncData}
/-- what is off is off where only some of it was changed -/
theorem Off.sameB {M N : List Addr} {H H' : Hp} (x : Off M H) (s : SameB N H H') (h : ∀ b ∈ N, ∃ o, H' b = some o) : Off M H' := fun b hb => by
  by_cases hn : b ∈ N
  · exact h b hn
  · obtain ⟨o, e⟩ := x b hb
    exact ⟨o, s b o e hn⟩
theorem ColAt.offs {M : List Addr} {H : Hp} {c l : Addr} {s : CS} (x : ColAt C CC M H c l s) : ∀ b ∈ [c, l], ∃ o, H b = some o := by
  obtain ⟨dx, o, xs, h1, h2, h3, h4, h5, h6, h7⟩ := x
  intro b hb
  simp only [List.mem_cons, List.not_mem_nil, or_false] at hb
  rcases hb with z | z
  · rw [z]; exact ⟨_, h4⟩
  · rw [z]; exact ⟨_, h5⟩
theorem ok_feed (D : DfM K CC "feed" "Collector.feed" s_Collector_feed p_Collector_feed f fd) (T : ClC K CC) (TV : ClV K C) (Kc : Csts mg) (M_Collector_give_up : OwnM P w K mg base CX0 CC 6 "give_up" p_Collector_give_up (spGiveUp C CC)) (M_Collector_accept : OwnM P w K mg base CX0 CC 8 "accept" p_Collector_accept (spAccept C CC))
    (O_word_value : Own P w K mg base CX0 4 "word_value" p_word_value (spWordValue C)) (O_simple_value : Own P w K mg base CX0 3 "simple_value" p_simple_value (spSimple C)) :
    OwnM P w K mg base CX0 CC 9 "feed" p_Collector_feed (spFeed C CC) := by
  refine D.own T.cl (D.F.ok sc_Collector_feed (fun vs H Q E h => ?_) (fun cdv A outer s H vs Q E hr h => ⟨_, pss_cons (ps_for PassesOwn.never rfl (pi_list (pv 1)) (pg_name (i := 2) sc_Collector_feed.nd rfl (Or.inl rfl)) (pss_one (ps_if (PW.pt (pw_and (pt_cmpR op_ge (pe_fldK (K := K) (pv 0)) pe_int (nomark _)) (pw_and1 (pt_cmpR op_eq (pe_fldK (K := K) (pv 2)) (pe_k Kc.NULL) (nomark _))))) (pss_one (ps_expr (pe_mth M_Collector_give_up hr (pv 0) (pa_cons (pe_own O_word_value hr (pa_cons pe_str pa_nil)) pa_nil)))) (pss_one (ps_if (pt_cmpR op_ge (pe_fldK (K := K) (pv 0)) pe_int (nomark _)) (pss_one (ps_expr (pe_mth M_Collector_accept hr (pv 0) (pa_cons (pv 2) pa_nil)))) pss_nil))))) (pss_one (ps_if (pt_cmpR op_ge (pe_fldK (K := K) (pv 0)) pe_int (nomark _)) (pss_one (ps_expr (pe_mth M_Collector_accept hr (pv 0) (pa_cons (pe_own O_simple_value hr (pa_cons (pe_k Kc.NOTHING) pa_nil)) pa_nil)))) pss_nil)), ?_⟩))
  · obtain ⟨c, l, v, rs, s, M, rfl, _⟩ := h
    rfl
  · obtain ⟨c, l, v, rs, s, M, rfl, off, col, ok, dv, hlen, q⟩ := h
    obtain ⟨p, ys, rfl, np, ep, dy⟩ := dv.lstAt
    have mc : c ∈ M := by obtain ⟨_, _, _, h1, _⟩ := col; exact h1
    have ml : l ∈ M := by obtain ⟨_, _, _, _, h1, _⟩ := col; exact h1
    have sub : ∀ b ∈ [c, l], b ∈ M := by
      intro b hb
      simp only [List.mem_cons, List.not_mem_nil, or_false] at hb
      rcases hb with z | z <;> rw [z] <;> assumption
    have npc : p ∉ [c, l] := fun z => np (sub p z)
    have hyl : ys.length = rs.length := by rw [dy.length, datsOf_length]
    refine ⟨_, rfl, p, rfl, ⟨_, SqL.of ep⟩, for_list (K := K) (a := p) (xs := ys) (fun i σ H' => (∃ z : Option V, σ = [some (.ref c), some (.ref p), z]) ∧ SameB [c, l] H H' ∧ ColAt C CC M H' c l ((rs.take i).foldl replyM s) ∧ CSOk ((rs.take i).foldl replyM s)) ⟨⟨none, rfl⟩, SameB.refl, col, ok⟩ (fun i σ H' _ hh => SqL.of (hh.2.1 _ _ ep npc)) ?_ ?_⟩
    · rintro i y σ H' hy ⟨⟨z, rfl⟩, s1, col1, ok1⟩
      obtain ⟨dd, hdd, dyi⟩ := dy.getV hy
      rw [datsOf_get] at hdd
      cases hx : rs[i]? with
      | none => rw [hx] at hdd; cases hdd
      | some x =>
        rw [hx] at hdd
        cases hdd
        have mx : x ∈ rs := List.mem_of_getElem? hx
        have tk : (rs.take (i + 1)).foldl replyM s = replyM ((rs.take i).foldl replyM s) x := by
          rw [take_more hx, List.foldl_append]
          rfl
        rw [tk]
        generalize (rs.take i).foldl replyM s = cs at col1 ok1
        have off1 : Off M H' := off.sameB s1 col1.offs
        have dyi1 : DAt C M H' y (datOf x) := dyi.sameB (s1.mono sub)
        obtain ⟨a1, dx1, o1, nm1, p1, xs1, rfl, ea1, _⟩ := datAt dyi1
        have col2 := col1
        obtain ⟨dx, o, xs, h1, h2, h3, h4, h5, h6, h7⟩ := col2
        have ok2 := reply_ok ok1 x
        cases ha : cs.asked with
        | none =>
          have e0 : replyM cs x = cs := by unfold replyM; rw [ha]
          rw [ha] at h4
          refine ⟨_, rfl, c, CC, dx, _, _, rfl, h4, T.cl, T.asked, cl_asked, _, _, rfl, rfl, _, rfl, itF (decide_eq_false (by show ¬ (-1 : Int) ≥ 0; omega)) (itF rfl ?_)⟩
          refine ⟨_, rfl, c, CC, dx, _, _, rfl, h4, T.cl, T.asked, cl_asked, _, _, rfl, rfl, _, rfl, itF (decide_eq_false (by show ¬ (-1 : Int) ≥ 0; omega)) ⟨⟨_, rfl⟩, s1, ?_, ?_⟩⟩
          · rw [e0]; exact col1
          · rw [e0]; exact ok1
        | some a =>
          have h4' := h4
          rw [ha] at h4'
          refine ⟨_, rfl, c, CC, dx, _, _, rfl, h4', T.cl, T.asked, cl_asked, _, _, rfl, rfl, _, rfl, itT (decide_eq_true (by show (a : Int) ≥ 0; omega)) ?_⟩
          refine ⟨_, rfl, a1, C, dx1, _, _, rfl, ea1, TV.cl, TV.kind, vl_kind, rfl, _, rfl, ?_⟩
          rw [dec_int]
          by_cases ck : kdI x = 1
          · have e0 : replyM cs x = cs.fin (failD (wordD "stop")) := by unfold replyM; rw [ha]; simp only; rw [if_pos ck]
            refine itT (by rw [ck]; rfl) ⟨_, rfl, c, dx, _, rfl, h4', cl_meth (by decide +kernel), ?_⟩
            refine ⟨"stop", M, rfl, off1, str_line (by decide +kernel), fun r2 H2 s2 d2 => ?_⟩
            refine ⟨c, l, r2, wordD "stop", cs, M, rfl, off1.same s2, col1.same s2, d2, fun H3 s3 col3 => ?_⟩
            rw [e0] at ok2 ⊢
            exact ⟨⟨_, rfl⟩, s1.trans ((SameB.of s2).trans (s3.mono fun b hb => by simp at hb; simp [hb])), col3, ok2⟩
          · have e0 : replyM cs x = acceptM cs x := by unfold replyM; rw [ha]; simp only; rw [if_neg ck]
            refine itF (by simp only [beq_eq_false_iff_ne]; exact ck) ?_
            refine ⟨_, rfl, c, CC, dx, _, _, rfl, h4', T.cl, T.asked, cl_asked, _, _, rfl, rfl, _, rfl, itT (decide_eq_true (by show (a : Int) ≥ 0; omega)) ?_⟩
            refine ⟨_, rfl, c, dx, _, rfl, h4', cl_meth (by decide +kernel), _, rfl, ?_⟩
            refine ⟨c, l, .ref a1, x, cs, a, M, rfl, off1, col1, ha, ok1 a ha, dyi1, hlen x mx, fun H3 s3 col3 => ?_⟩
            rw [e0] at ok2 ⊢
            exact ⟨⟨_, rfl⟩, s1.trans s3, col3, ok2⟩
    · rintro σ H' ⟨⟨z, rfl⟩, s1, col1, ok1⟩
      rw [hyl, List.take_length] at col1 ok1
      have eF : feedM s rs = acceptM (rs.foldl replyM s) .nothing := rfl
      rw [eF] at q
      generalize rs.foldl replyM s = cs at col1 ok1 q
      have off1 : Off M H' := off.sameB s1 col1.offs
      have col2 := col1
      obtain ⟨dx, o, xs, h1, h2, h3, h4, h5, h6, h7⟩ := col2
      cases ha : cs.asked with
      | none =>
        have e0 : acceptM cs .nothing = cs := by unfold acceptM; rw [ha]
        rw [ha] at h4
        rw [e0] at q
        exact ⟨_, rfl, c, CC, dx, _, _, rfl, h4, T.cl, T.asked, cl_asked, _, _, rfl, rfl, _, rfl, itF (decide_eq_false (by show ¬ (-1 : Int) ≥ 0; omega)) (q _ s1 col1)⟩
      | some a =>
        rw [ha] at h4
        refine ⟨_, rfl, c, CC, dx, _, _, rfl, h4, T.cl, T.asked, cl_asked, _, _, rfl, rfl, _, rfl, itT (decide_eq_true (by show (a : Int) ≥ 0; omega)) ?_⟩
        refine ⟨_, rfl, c, dx, _, rfl, h4, cl_meth (by decide +kernel), ?_⟩
        refine ⟨0, M, rfl, off1, fun r2 H2 s2 d2 => ?_⟩
        refine ⟨c, l, r2, .nothing, cs, a, M, rfl, off1.same s2, col1.same s2, ha, ok1 a ha, by simpa [datOf] using d2, (fun l e => nomatch e), fun H3 s3 col3 => ?_⟩
        exact q H3 (s1.trans ((SameB.of s2).trans s3)) col3
theorem ok_Collector_init (D : Fun K "__init__" "Collector.__init__" s_Collector_init f fd) (T : ClC K CC) (TV : ClV K C) (Kc : Csts mg) (M_Collector_finish : OwnM P w K mg base CX0 CC 1 "finish" p_Collector_finish (spFinish CC))
    (O_simple_value : Own P w K mg base CX0 3 "simple_value" p_simple_value (spSimple C)) (O_is_whole : Own P w K mg base CX0 1 "is_whole" p_is_whole (spIsWhole C)) (O_rejected_value : Own P w K mg base CX0 5 "rejected_value" p_rejected_value (spRejected C)) :
    FnOk P w K mg base CX0 6 f fd p_Collector_init (spCInit C CC) := by
  refine D.ok sc_Collector_init (fun vs H Q E h => ?_) (fun cdv A outer s H vs Q E hr h => ⟨_, pss_cons (ps_fld (pv 0) (pe_fldK (K := K) (pv 1)) rfl) (pss_cons (ps_fld (pv 0) (pe_fldK (K := K) (pv 2)) rfl) (pss_cons (ps_fld (pv 0) (pe_lst pa_nil) rfl) (pss_cons (ps_fld (pv 0) pe_int rfl) (pss_cons (ps_fld (pv 0) (pe_own O_simple_value hr (pa_cons (pe_k Kc.NULL) pa_nil)) rfl) (pss_one (ps_if (pt_not (pt_val (pe_own O_is_whole hr (pa_cons (pv 1) (pa_cons pe_int (pa_cons pe_int pa_nil)))))) (pss_one (ps_expr (pe_mth M_Collector_finish hr (pv 0) (pa_cons (pe_own O_rejected_value hr (pa_cons pe_str (pa_cons (pe_k Kc.SIZE_WORDS) pa_nil))) pa_nil)))) (pss_one (ps_if (pt_not (pt_val (pe_own O_is_whole hr (pa_cons (pv 2) (pa_cons pe_int (pa_cons pe_int pa_nil)))))) (pss_one (ps_expr (pe_mth M_Collector_finish hr (pv 0) (pa_cons (pe_own O_rejected_value hr (pa_cons pe_str (pa_cons (pe_k Kc.MOST_WORDS) pa_nil))) pa_nil)))) pss_nil)))))))), ?_⟩)
  · obtain ⟨c, dx, v, u, x, y, M, rfl, _⟩ := h
    rfl
  · obtain ⟨c, dx, v, u, x, y, M, rfl, off, hc, ec, dv, du, q⟩ := h
    have kp : ∀ o, SameB M H (upd H c o) := fun o => SameB.upd hc
    obtain ⟨a, dxa, oa, na, pa, xa, rfl, ea, epa, _⟩ := datAt dv
    obtain ⟨b, dxb, ob, nb, pb, xb, rfl, eb, epb, _⟩ := datAt du
    have nac : a ≠ c := fun z => by rw [z, ec] at ea; cases ea
    have nbc : b ≠ c := fun z => by rw [z, ec] at eb; cases eb
    refine ⟨_, rfl, a, C, dxa, _, _, rfl, ea, TV.cl, TV.number, vl_number, _, rfl, c, CC, dx, [], rfl, ec, T.cl, T.size, (by show 0 < 1000; decide), ?_⟩
    refine ⟨_, rfl, b, C, dxb, _, _, rfl, (by rw [upd_ne nbc]; exact eb), TV.cl, TV.number, vl_number, _, rfl, c, CC, dx, _, rfl, upd_same, T.cl, T.most, (by show 1 < 1000; decide), ?_⟩
    refine ⟨zero_line, fun l hl => ?_⟩
    have hlc : l ≠ c := fun z => by rw [z, upd_same] at hl; cases hl
    have hlH : H l = none := by rw [upd_ne hlc, upd_ne hlc] at hl; exact hl
    refine ⟨_, rfl, c, CC, dx, _, rfl, (by rw [upd_ne (Ne.symm hlc)]; exact upd_same), T.cl, T.pages, (by show 2 < 1000; decide), ?_⟩
    refine ⟨_, rfl, c, CC, dx, _, rfl, upd_same, T.cl, T.asked, (by show 3 < 1000; decide), ?_⟩
    -- the heap here
    generalize hH4 : upd (upd (upd (upd (upd H c (.ins CC dx (putF "size" (.int (nmI x)) []))) c (.ins CC dx (putF "most" (.int (nmI y)) (putF "size" (.int (nmI x)) [])))) l (.lst [])) c (.ins CC dx (putF "pages" (.ref l) (putF "most" (.int (nmI y)) (putF "size" (.int (nmI x)) []))))) c (.ins CC dx (putF "asked" (.int 0) (putF "pages" (.ref l) (putF "most" (.int (nmI y)) (putF "size" (.int (nmI x)) []))))) = H4
    have c4 : H4 c = some (.ins CC dx (putF "asked" (.int 0) (putF "pages" (.ref l) (putF "most" (.int (nmI y)) (putF "size" (.int (nmI x)) []))))) := by rw [← hH4, upd_same]
    have l4 : H4 l = some (.lst []) := by rw [← hH4, upd_ne hlc, upd_ne hlc, upd_same]
    have t4 : SameB [c] H H4 := by
      intro b o e n
      have n' : b ≠ c := by simpa using n
      have n2 : b ≠ l := fun z => by rw [z, hlH] at e; cases e
      rw [← hH4, upd_ne n', upd_ne n', upd_ne n2, upd_ne n', upd_ne n']
      exact e
    have t4M : SameB M H H4 := t4.mono fun b hb => by simp at hb; rw [hb]; exact hc
    have off4 : Off (l :: M) H4 := (off.sameB t4 fun b hb => by simp at hb; rw [hb]; exact ⟨_, c4⟩).cons l4
    refine ⟨1, l :: M, rfl, off4, fun r5 H5 s5 d5 => ?_⟩
    have d5' := d5
    obtain ⟨o', dx', oo, nn, pp, rfl, no', _⟩ := d5'.valAt
    refine ⟨_, rfl, c, CC, dx, _, rfl, s5 _ _ c4, T.cl, T.outcome, (by show 4 < 1000; decide), ?_⟩
    rw [put_col]
    have hl0 : (c : Addr) ∈ l :: M := List.mem_cons_of_mem _ hc
    have hl1 : l ∈ l :: M := List.mem_cons_self
    generalize hH6 : upd H5 c (.ins CC dx (colF (nmI x) (nmI y) l 0 o')) = H6
    have c6 : H6 c = some (.ins CC dx (colF (nmI x) (nmI y) l 0 o')) := by rw [← hH6, upd_same]
    have t6 : SameB [c] H4 H6 := by rw [← hH6]; exact (SameB.of s5).trans (SameB.upd (by simp))
    have t06 := t4.trans t6
    have t06M : SameB M H H6 := t06.mono fun b hb => by simp at hb; rw [hb]; exact hc
    have dv6 : DAt C M H6 (.ref a) (datOf x) := dv.sameB t06M
    have du6 : DAt C M H6 (.ref b) (datOf y) := du.sameB t06M
    have off6 : Off (l :: M) H6 := off4.sameB t6 fun b hb => by simp at hb; rw [hb]; exact ⟨_, c6⟩
    have l6 : H6 l = some (.lst []) := t6 _ _ l4 (by simpa using hlc)
    have col6 : ColAt C CC (l :: M) H6 c l ⟨nmI x, nmI y, [], some 0, nullD⟩ := ⟨dx, o', [], hl0, hl1, Ne.symm hlc, c6, l6, .nil, d5.sameB (by rw [← hH6]; exact SameB.upd hl0)⟩
    have fin : ∀ (m : Str), m.cps.size ≤ sizeLine → initM x y = (⟨nmI x, nmI y, [], some 0, nullD⟩ : CS).fin (rejD "RangeError" m) → spRejected C [.str "RangeError", .str m] H6 (fun r H7 => spFinish CC [.ref c, r] H7 (fun v H8 => Q .non H8) E0) E0 := by
      intro m hm eI
      refine ⟨"RangeError", m, l :: M, rfl, off6, str_line (by decide +kernel), hm, fun r7 H7 s7 d7 => ?_⟩
      have d7' := d7
      obtain ⟨o7, dx7, oo7, nn7, pp7, rfl, no7, _⟩ := d7'.valAt
      refine ⟨c, dx, l, o', o7, _, _, _, rfl, s7 _ _ c6, fun H8 s8 e8 => ?_⟩
      refine q l H8 hlH (t06.trans ((SameB.of s7).trans s8)) ?_
      rw [eI]
      exact (col6.same s7).fin (dx := dx) s8 ⟨dx, e8⟩ d7
    have dv6' := dv6
    have du6' := du6
    rw [datOf_eq] at dv6' du6'
    refine ⟨_, rfl, .ref a, _, _, _, _, _, 2, 20, M, rfl, dv6', _, rfl, ?_⟩
    have iw := isWhole_R x 2 20
    rw [show ((2 : Nat) : Int) = 2 from rfl, show ((20 : Nat) : Int) = 20 from rfl] at iw
    rw [iw]
    cases h1 : rangeV 2 20 x with
    | none =>
      refine itT rfl ⟨_, rfl, c, dx, _, rfl, c6, cl_meth (by decide +kernel), ?_⟩
      exact fin "size must be an integer from 2 to 20" (str_line (by decide +kernel)) (by unfold initM; rw [if_pos h1]; rfl)
    | some n =>
      have h1' : ¬ rangeV 2 20 x = none := by rw [h1]; exact fun z => nomatch z
      refine itF rfl ⟨_, rfl, .ref b, _, _, _, _, _, 1, 20, M, rfl, du6', _, rfl, ?_⟩
      have iw2 := isWhole_R y 1 20
      rw [show ((1 : Nat) : Int) = 1 from rfl, show ((20 : Nat) : Int) = 20 from rfl] at iw2
      rw [iw2]
      cases h2 : rangeV 1 20 y with
      | none =>
        refine itT rfl ⟨_, rfl, c, dx, _, rfl, c6, cl_meth (by decide +kernel), ?_⟩
        exact fin "most must be an integer from 1 to 20" (str_line (by decide +kernel)) (by unfold initM; rw [if_neg h1', if_pos h2]; rfl)
      | some m =>
        have h2' : ¬ rangeV 1 20 y = none := by rw [h2]; exact fun z => nomatch z
        refine itF rfl ?_
        refine q l H6 hlH t06 ?_
        have eI : initM x y = ⟨nmI x, nmI y, [], some 0, nullD⟩ := by unfold initM; rw [if_neg h1', if_neg h2']
        rw [eI]
        exact col6
end
end Pg

/-! PgV: module doors, the doors 0 to 6 -/
namespace Pg
open PySem PySem.Spec PyProof.Rows L2
/-- what a door comes to: a value; an error of one of the two classes -/
inductive Res where
  | ok (d : Dat)
  | wrong (m : Str)
  | range (m : Str)
def ResIs (C XO XW : Addr) (M : List Addr) (H : Hp) (Q : VK) (E : XK) : Res → Prop
  | .ok d => Gives C M H Q d
  | .wrong m => Errs E H XW m
  | .range m => Errs E H XO m
theorem Gives.same {C : Addr} {M : List Addr} {H H' : Hp} {Q : VK} {d : Dat} (g : Gives C M H Q d) (s : Same H H') : Gives C M H' Q d := fun r H2 s2 d2 => g r H2 (s.trans s2) d2
theorem ResIs.same {C XO XW : Addr} {M : List Addr} {H H' : Hp} {Q : VK} {E : XK} {r : Res} (x : ResIs C XO XW M H Q E r) (s : Same H H') : ResIs C XO XW M H' Q E r := by
  cases r with
  | ok d => exact Gives.same x s
  | wrong m => exact Errs.same x s
  | range m => exact Errs.same x s
/-! ### the mirror -/
def orderW : Str := "rows have changed their order"
def numD (n : Int) : Dat := if n < 0 then nullD else dInt n
def listsD (xs : List (List Nat)) : Dat := .val 7 0 [] [] (xs.map numsD)
def mergedD (ps : List Page) : Dat := if agreeM (rowsL ps) = true then numsD (mergedM (rowsL ps)) else nullD
def truthD (b : Bool) : Dat := .val (if b then 3 else 2) 0 [] [] []
def pagesRes (door : Int) (size : Nat) (ps : List Page) : Res :=
  if door = 2 then .ok (listsD (linkedM ps)) else if door = 3 then .ok (mergedD ps)
  else if agreeM (rowsL ps) = false then .range orderW
  else if door = 0 then .ok (numD (mostI size ps)) else if door = 1 then .ok (truthD (certainM size ps)) else .ok (numD (nextI size ps))
def exampleRes (size : Nat) (ps : List Page) (x : RWire.Value) : Res := match rangeV 0 200 x with
  | none => .range "missed must be an integer from 0 to 200"
  | some m => if agreeM (rowsL ps) = false then .range orderW else if overM size m ps = true then .range "no history misses so many rows" else .ok (listsD (exampleM size m ps))
def missedRes (size : Nat) (ps : List Page) (x : RWire.Value) : Res := match tablesV ps.length x with
  | none => .wrong "tables must be a list of lists of different row numbers, one for each page"
  | some ts => match unshownM size ps ts with
    | some i => .range (shownMsg i)
    | none => if agreeM ts = false then .range orderW else .ok (numsD (missedM ps ts))
def argV (gs : List RWire.Value) (i : Nat) : RWire.Value := gs.getD i .nothing
def logRes (door : Int) (gs : List RWire.Value) : Res := match rangeV 2 20 (argV gs 0) with
  | none => .range "size must be an integer from 2 to 20"
  | some size => match pagesV size (argV gs 1) with
    | none => .wrong "pages must be a list of at most 20 pages of this size"
    | some ps => if door ≤ 4 then pagesRes door size ps else if door = 5 then exampleRes size ps (argV gs 2) else missedRes size ps (argV gs 2)
abbrev s_number_or_null : Stmt := top 92
abbrev n_number_or_null : List Str := ["number"]
abbrev p_number_or_null : List Str := ["number"]
theorem sc_number_or_null : FnScope n_number_or_null p_number_or_null (defScope s_number_or_null) := ⟨rfl, rfl, rfl, by decide +kernel, rfl, by decide +kernel, by decide +kernel⟩
abbrev s_lists_value : Stmt := top 93
abbrev n_lists_value : List Str := ["lists", "numbers"]
abbrev p_lists_value : List Str := ["lists"]
theorem sc_lists_value : FnScope n_lists_value p_lists_value (defScope s_lists_value) := ⟨rfl, rfl, rfl, by decide +kernel, rfl, by decide +kernel, by decide +kernel⟩
abbrev s_merged_value : Stmt := top 94
abbrev n_merged_value : List Str := ["pages", "lists"]
abbrev p_merged_value : List Str := ["pages"]
theorem sc_merged_value : FnScope n_merged_value p_merged_value (defScope s_merged_value) := ⟨rfl, rfl, rfl, by decide +kernel, rfl, by decide +kernel, by decide +kernel⟩
abbrev s_pages_answer : Stmt := top 95
abbrev n_pages_answer : List Str := ["door", "size", "pages"]
abbrev p_pages_answer : List Str := ["door", "size", "pages"]
theorem sc_pages_answer : FnScope n_pages_answer p_pages_answer (defScope s_pages_answer) := ⟨rfl, rfl, rfl, by decide +kernel, rfl, by decide +kernel, by decide +kernel⟩
abbrev s_example_answer : Stmt := top 96
abbrev n_example_answer : List Str := ["size", "pages", "value", "missed"]
abbrev p_example_answer : List Str := ["size", "pages", "value"]
theorem sc_example_answer : FnScope n_example_answer p_example_answer (defScope s_example_answer) := ⟨rfl, rfl, rfl, by decide +kernel, rfl, by decide +kernel, by decide +kernel⟩
abbrev s_missed_answer : Stmt := top 97
abbrev n_missed_answer : List Str := ["size", "pages", "value", "tables"]
abbrev p_missed_answer : List Str := ["size", "pages", "value"]
theorem sc_missed_answer : FnScope n_missed_answer p_missed_answer (defScope s_missed_answer) := ⟨rfl, rfl, rfl, by decide +kernel, rfl, by decide +kernel, by decide +kernel⟩
abbrev s_log_answer : Stmt := top 98
abbrev n_log_answer : List Str := ["door", "given", "size", "pages"]
abbrev p_log_answer : List Str := ["door", "given"]
theorem sc_log_answer : FnScope n_log_answer p_log_answer (defScope s_log_answer) := ⟨rfl, rfl, rfl, by decide +kernel, rfl, by decide +kernel, by decide +kernel⟩
section
variable (C XO XW : Addr)
def spNumberOrNull : Sp := fun vs H Q _ => ∃ (n : Int) (M : List Addr), vs = [.int n] ∧ Off M H ∧ Gives C M H Q (numD n)
def spListsValue : Sp := fun vs H Q _ => ∃ (v : V) (xs : List (List Nat)) (M : List Addr), vs = [v] ∧ Off M H ∧ DAt C M H v (dNN xs) ∧ xs.length ≤ 20000 ∧ (∀ r ∈ xs, r.length ≤ 20000) ∧ Gives C M H Q (listsD xs)
def spMergedValue : Sp := fun vs H Q _ => ∃ (v : V) (ps : List Page) (M : List Addr), vs = [v] ∧ Off M H ∧ DAt C M H v (pagesD ps) ∧ PagesOk ps ∧ Gives C M H Q (mergedD ps)
def spPagesAnswer : Sp := fun vs H Q E => ∃ (door : Int) (size : Nat) (v : V) (ps : List Page) (M : List Addr), vs = [.int door, .int size, v] ∧ Off M H ∧ DAt C M H v (pagesD ps) ∧ PagesOk ps ∧ ResIs C XO XW M H Q E (pagesRes door size ps)
def spExampleAnswer : Sp := fun vs H Q E => ∃ (size : Nat) (v u : V) (ps : List Page) (x : RWire.Value) (M : List Addr), vs = [.int size, v, u] ∧ Off M H ∧ DAt C M H v (pagesD ps) ∧ PagesOk ps ∧ DAt C M H u (datOf x) ∧ ResIs C XO XW M H Q E (exampleRes size ps x)
def spMissedAnswer : Sp := fun vs H Q E => ∃ (size : Nat) (v u : V) (ps : List Page) (x : RWire.Value) (M : List Addr), vs = [.int size, v, u] ∧ Off M H ∧ DAt C M H v (pagesD ps) ∧ PagesOk ps ∧ DAt C M H u (datOf x) ∧ Few x ∧ (∀ ts, tablesV ps.length x = some ts → ts.flatten.length ≤ 20000) ∧ ResIs C XO XW M H Q E (missedRes size ps x)
def spLogAnswer : Sp := fun vs H Q E => ∃ (door : Int) (v : V) (gs : List RWire.Value) (M : List Addr), vs = [.int door, v] ∧ Off M H ∧ DAt C M H v (.lst (datsOf gs)) ∧ 4 ≤ gs.length ∧ (∀ x ∈ gs, Few x) ∧ (∀ k ts, tablesV k (argV gs 2) = some ts → ts.flatten.length ≤ 20000) ∧ ResIs C XO XW M H Q E (logRes door gs)
end
theorem PagesOk.flat {ps : List Page} (ok : PagesOk ps) : (rowsL ps).flatten.length ≤ 20000 := by
  have h1 := flatten_le (k := 20) fun p hp => (ok.rows p hp).1
  have := ok.len
  omega
theorem PagesOk.l2 {ps : List Page} (ok : PagesOk ps) : ps.length ≤ 20000 := Nat.le_trans ok.len (by omega)
theorem allV_mem {α β : Type} {f : α → Option β} : ∀ {l : List α} {r : List β}, allV f l = some r → ∀ y ∈ r, ∃ x ∈ l, f x = some y
  | [], r, h, y, hy => by
    simp only [allV] at h
    cases h
    cases hy
  | x :: l, r, h, y, hy => by
    obtain ⟨a, l', h1, h2, rfl⟩ := allV_cons h
    rcases List.mem_cons.mp hy with z | z
    · exact ⟨x, List.mem_cons_self, by rw [z]; exact h1⟩
    · obtain ⟨x', hx', e⟩ := allV_mem h2 y z
      exact ⟨x', List.mem_cons_of_mem _ hx', e⟩
theorem pages_ok {size : Nat} {x : RWire.Value} {ps : List Page} (hs : size ≤ 20) (h : pagesV size x = some ps) : PagesOk ps := by
  obtain ⟨l, rfl, hl, ha⟩ := pagesV_list h
  refine ⟨by rw [(allV_some ha).1]; exact hl, fun p hp => ?_, fun p hp => ?_⟩
  · obtain ⟨x, _, e⟩ := allV_mem ha p hp
    obtain ⟨o, r, _, ho, hr⟩ := pageV_parts e
    exact (wholeV_nm ho).2.1
  · obtain ⟨x, _, e⟩ := allV_mem ha p hp
    obtain ⟨o, r, _, ho, hr⟩ := pageV_parts e
    obtain ⟨hw, hl2⟩ := rowsV_wholes hr
    obtain ⟨_, _, _, _, _, hm⟩ := wholesV_list hw
    exact ⟨by omega, hm⟩
theorem filter_len (p : Nat → Bool) (n : Nat) : ((List.range n).filter p).length ≤ n := by
  have := List.length_filter_le p (List.range n)
  rw [List.length_range] at this
  exact this
theorem linked_len {ps : List Page} (ok : PagesOk ps) : (linkedM ps).length ≤ 20000 ∧ ∀ r ∈ linkedM ps, r.length ≤ 20000 := by
  have hm := marks_length ps
  have h0 := ok.l2
  refine ⟨?_, fun r hr => ?_⟩
  · unfold linkedM firstsM
    rw [List.length_map]
    have := filter_len (fun i => decide ((marksOf ps).getD i 0 = i)) (marksOf ps).length
    omega
  · unfold linkedM at hr
    obtain ⟨i, _, rfl⟩ := List.mem_map.mp hr
    unfold markedM
    have := filter_len (fun j => decide ((marksOf ps).getD j 0 = i)) (marksOf ps).length
    omega
theorem example_len {ps : List Page} (ok : PagesOk ps) {size m : Nat} (hm : m ≤ 200) : (exampleM size m ps).length ≤ 20000 ∧ ∀ r ∈ exampleM size m ps, r.length ≤ 20000 := by
  refine ⟨?_, fun r hr => ?_⟩
  · unfold exampleM
    rw [List.length_map, List.length_range]
    exact ok.l2
  · unfold exampleM at hr
    obtain ⟨i, hi, rfl⟩ := List.mem_map.mp hr
    rw [List.mem_range] at hi
    have pm := pgAt_mem hi
    have h1 := ok.off _ pm
    have h2 := (ok.rows _ pm).1
    unfold exampleAt
    split
    · simp only [List.length_append, List.length_range']
      omega
    · simp only [List.length_append, List.length_range']
      omega
theorem missed_len {ps : List Page} {ts : List (List Nat)} (h : ts.flatten.length ≤ 20000) : (missedM ps ts).length ≤ 20000 := by
  cases ts with
  | nil => exact Nat.zero_le _
  | cons t r =>
    have h1 := flat_len (xs := t :: r) List.mem_cons_self
    show (t.filter fun r_1 => decide ((t :: r).flatten.count r_1 = (t :: r).length) && !decide (r_1 ∈ (ps.map (·.rows)).flatten)).length ≤ 20000
    have := List.length_filter_le (fun r_1 => decide ((t :: r).flatten.count r_1 = (t :: r).length) && !decide (r_1 ∈ (ps.map (·.rows)).flatten)) t
    omega
section
variable {P : Program} {w : World} {K : PySem.W.Frag} {mg : Str → Option Value} {base : Heap} {C XO XW CC : Addr} {f : Addr} {fd : FuncData}
theorem ok_number_or_null (D : Df K mg "number_or_null" s_number_or_null p_number_or_null f fd) (Kc : Csts mg) (O_simple_value : Own P w K mg base CX0 3 "simple_value" p_simple_value (spSimple C)) (O_integer_value : Own P w K mg base CX0 3 "integer_value" p_integer_value (spInteger C)) :
    Own P w K mg base CX0 4 "number_or_null" p_number_or_null (spNumberOrNull C) := by
  refine D.own (D.F.ok sc_number_or_null (fun vs H Q E h => ?_) (fun cdv A outer s H vs Q E hr h => ⟨_, pss_cons (ps_if (pt_cmpR op_lt (pv 0) pe_int (nomark _)) (pss_one (ps_ret (pe_own O_simple_value hr (pa_cons (pe_k Kc.NULL) pa_nil)))) pss_nil) (pss_one (ps_ret (pe_own O_integer_value hr (pa_cons (pv 0) pa_nil)))), ?_⟩))
  · obtain ⟨n, M, rfl, _⟩ := h
    rfl
  · obtain ⟨n, M, rfl, off, g⟩ := h
    refine ⟨_, rfl, _, _, rfl, rfl, _, rfl, ?_⟩
    by_cases c : n < 0
    · have e : numD n = nullD := if_pos c
      rw [e] at g
      exact itT (decide_eq_true c) ⟨1, M, rfl, off, g⟩
    · have e : numD n = dInt n := if_neg c
      rw [e] at g
      exact itF (decide_eq_false c) ⟨_, rfl, n, M, rfl, off, g⟩
theorem ok_lists_value (D : Df K mg "lists_value" s_lists_value p_lists_value f fd) (O_list_value : Own P w K mg base CX0 3 "list_value" p_list_value (spListV C)) (O_number_list : Own P w K mg base CX0 4 "number_list" p_number_list (spNumList C)) :
    Own P w K mg base CX0 5 "lists_value" p_lists_value (spListsValue C) := by
  refine D.own (D.F.ok sc_lists_value (fun vs H Q E h => ?_) (fun cdv A outer s H vs Q E hr h => ⟨_, pss_one (ps_ret (pe_own O_list_value hr (pa_cons (pe_lc (own := [("numbers", 1)]) (g := gName 1) (tt := tYes) rfl sc_lists_value.nd (pi_list (pv 0)) (blkOk_by (N := n_lists_value) (sc := defScope s_lists_value) (by decide +kernel)) (fun _ _ _ _ _ => pg_name (i := 1) sc_lists_value.nd rfl (Or.inl rfl)) (fun _ _ _ _ _ => pts_nil) (fun _ _ _ _ _ => (pe_own O_number_list hr (pa_cons (pv 1) pa_nil)))) pa_nil))), ?_⟩))
  · obtain ⟨v, xs, M, rfl, _⟩ := h
    rfl
  · obtain ⟨v, xs, M, rfl, off, d, hl, hr2, g⟩ := h
    obtain ⟨a, ys, rfl, _, ea, dy⟩ := d.lstAt
    have hyl : ys.length = xs.length := by rw [dy.length, List.length_map]
    refine ⟨_, rfl, a, rfl, ⟨_, SqL.of ea⟩, fun D hD => lc_map (C := C) (M := M) (es := xs.map numsD) (SqL.of ea) off hD (by rw [hyl]; simp) (by rw [hyl]; exact ten_line hl) (fun j x e' H' Q' hx he s o q => ?_) (fun H' s d' => ⟨.ref D, xs.map numsD, M, rfl, off.same s, d', fun r H2 s2 d2 => g r H2 (s.trans s2) d2⟩)⟩
    obtain ⟨rows, r, hrows, rfl, nr, er⟩ := dNN_at dy hx
    rw [List.getElem?_map, hrows] at he
    cases he
    have dr : DAt C (D :: M) H (.ref r) (dN rows) := (DAt.dI nr er).more hD
    exact ⟨_, rfl, .ref r, rows.map natI, D :: M, rfl, o, by rw [List.length_map]; exact ten_line (hr2 rows (List.mem_of_getElem? hrows)), dr.same s, fun r3 H3 s3 d3 => q _ _ s3 d3⟩
theorem ok_merged_value (D : Df K mg "merged_value" s_merged_value p_merged_value f fd) (Kc : Csts mg) (O_rows_of : Own P w K mg base CX0 1 "rows_of" p_rows_of (spRowsOf C)) (O_agree : Own P w K mg base CX0 4 "agree" p_agree (spAgree C)) (O_merged : Own P w K mg base CX0 3 "merged" p_merged (spMerged C))
    (O_number_list : Own P w K mg base CX0 4 "number_list" p_number_list (spNumList C)) (O_simple_value : Own P w K mg base CX0 3 "simple_value" p_simple_value (spSimple C)) : Own P w K mg base CX0 5 "merged_value" p_merged_value (spMergedValue C) := by
  refine D.own (D.F.ok sc_merged_value (fun vs H Q E h => ?_) (fun cdv A outer s H vs Q E hr h => ⟨_, pss_cons (ps_set (i := 1) sc_merged_value.nd rfl (Or.inl rfl) (pe_own O_rows_of hr (pa_cons (pv 0) pa_nil))) (pss_cons (ps_if (pt_val (pe_own O_agree hr (pa_cons (pv 1) pa_nil))) (pss_one (ps_ret (pe_own O_number_list hr (pa_cons (pe_own O_merged hr (pa_cons (pv 1) pa_nil)) pa_nil)))) pss_nil) (pss_one (ps_ret (pe_own O_simple_value hr (pa_cons (pe_k Kc.NULL) pa_nil))))), ?_⟩))
  · obtain ⟨v, ps, M, rfl, _⟩ := h
    rfl
  · obtain ⟨v, ps, M, rfl, off, d, ok, g⟩ := h
    obtain ⟨a, _, rfl, _⟩ := d.lstAt
    have hl := ok.l2
    have hf := ok.flat
    have hrl : (rowsL ps).length ≤ 20000 := by rw [rowsL, List.length_map]; exact hl
    refine ⟨_, rfl, .ref a, ps, M, rfl, off, d, hl, fun r1 H1 s1 d1 => ?_⟩
    refine ⟨_, rfl, r1, rowsL ps, M, rfl, off.same s1, d1, hrl, hf, fun r2 H2 s2 d2 => ?_⟩
    cases d2
    refine ⟨_, rfl, ?_⟩
    cases c : agreeM (rowsL ps) with
    | true =>
      have e : mergedD ps = numsD (mergedM (rowsL ps)) := if_pos c
      rw [e] at g
      refine itT rfl ⟨_, rfl, r1, rowsL ps, M, rfl, (off.same s1).same s2, d1.same s2, hrl, hf, fun p H3 s3 np e3 => ?_⟩
      have hml := merged_length (rowsL ps)
      exact ⟨.ref p, (mergedM (rowsL ps)).map natI, M, rfl, ((off.same s1).same s2).same s3, by rw [List.length_map]; exact ten_line (Nat.le_trans hml hf), .dI (((off.same s1).same s2).new np) e3, fun r4 H4 s4 d4 => g r4 H4 (((s1.trans s2).trans s3).trans s4) d4⟩
    | false =>
      have e : mergedD ps = nullD := if_neg (by rw [c]; decide)
      rw [e] at g
      exact itF rfl ⟨1, M, rfl, (off.same s1).same s2, fun r3 H3 s3 d3 => g r3 H3 ((s1.trans s2).trans s3) d3⟩
theorem ok_pages_answer (D : Df K mg "pages_answer" s_pages_answer p_pages_answer f fd) (O_lists_value : Own P w K mg base CX0 5 "lists_value" p_lists_value (spListsValue C)) (O_linked_groups : Own P w K mg base CX0 3 "linked_groups" p_linked_groups (spLinkedGroups C))
    (O_merged_value : Own P w K mg base CX0 5 "merged_value" p_merged_value (spMergedValue C)) (O_check_order : Own P w K mg base (CXm P w) 5 "check_order" p_check_order (spCheckOrder C XO)) (O_rows_of : Own P w K mg base CX0 1 "rows_of" p_rows_of (spRowsOf C))
    (O_number_or_null : Own P w K mg base CX0 4 "number_or_null" p_number_or_null (spNumberOrNull C)) (O_most_missed : Own P w K mg base CX0 4 "most_missed" p_most_missed (spMostMissed C)) (O_truth_value : Own P w K mg base CX0 4 "truth_value" p_truth_value (spTruth C))
    (O_is_certain : Own P w K mg base CX0 5 "is_certain" p_is_certain (spIsCertain C)) (O_next_offset : Own P w K mg base CX0 6 "next_offset" p_next_offset (spNextOffset C)) : Own P w K mg base (CXm P w) 7 "pages_answer" p_pages_answer (spPagesAnswer C XO XW) := by
  refine D.own (fun_okM D.F sc_pages_answer (fun vs H Q E h => ?_) (fun cdv A outer s H vs Q E hr h => ⟨_, pss_cons (ps_if (pt_cmpR op_eq (pv 0) pe_int (nomark _)) (pss_one (ps_ret (pe_own O_lists_value hr (pa_cons (pe_own O_linked_groups hr (pa_cons (pv 2) pa_nil)) pa_nil)))) pss_nil) (pss_cons (ps_if (pt_cmpR op_eq (pv 0) pe_int (nomark _)) (pss_one (ps_ret (pe_own O_merged_value hr (pa_cons (pv 2) pa_nil)))) pss_nil) (pss_cons (ps_expr (pe_ownS O_check_order hr (takesM_of rfl rfl rfl rfl) (pa_cons (pe_own O_rows_of hr (pa_cons (pv 2) pa_nil)) pa_nil))) (pss_cons (ps_if (pt_cmpR op_eq (pv 0) pe_int (nomark _)) (pss_one (ps_ret (pe_own O_number_or_null hr (pa_cons (pe_own O_most_missed hr (pa_cons (pv 1) (pa_cons (pv 2) pa_nil))) pa_nil)))) pss_nil) (pss_cons (ps_if (pt_cmpR op_eq (pv 0) pe_int (nomark _)) (pss_one (ps_ret (pe_own O_truth_value hr (pa_cons (pe_own O_is_certain hr (pa_cons (pv 1) (pa_cons (pv 2) pa_nil))) pa_nil)))) pss_nil) (pss_one (ps_ret (pe_own O_number_or_null hr (pa_cons (pe_own O_next_offset hr (pa_cons (pv 1) (pa_cons (pv 2) pa_nil))) pa_nil)))))))), ?_⟩))
  · obtain ⟨door, size, v, ps, M, rfl, _⟩ := h
    rfl
  · obtain ⟨door, size, v, ps, M, rfl, off, d, ok, g⟩ := h
    have hl := ok.l2
    have hf := ok.flat
    obtain ⟨hl1, hl2⟩ := linked_len ok
    have hrl : (rowsL ps).length ≤ 20000 := by rw [rowsL, List.length_map]; exact hl
    unfold pagesRes at g
    refine ⟨_, rfl, rfl, _, rfl, ?_⟩
    rw [dec_int]
    by_cases c2 : door = 2
    · rw [if_pos c2] at g
      refine itT (by rw [c2]; rfl) ⟨_, rfl, v, ps, M, rfl, off, d, hl, fun r1 H1 s1 d1 => ?_⟩
      exact ⟨r1, linkedM ps, M, rfl, off.same s1, d1, hl1, hl2, Gives.same g s1⟩
    · rw [if_neg c2] at g
      refine itF (by simp only [beq_eq_false_iff_ne]; exact c2) ⟨_, rfl, rfl, _, rfl, ?_⟩
      rw [dec_int]
      by_cases c3 : door = 3
      · rw [if_pos c3] at g
        exact itT (by rw [c3]; rfl) ⟨_, rfl, v, ps, M, rfl, off, d, ok, g⟩
      · rw [if_neg c3] at g
        refine itF (by simp only [beq_eq_false_iff_ne]; exact c3) ⟨_, rfl, v, ps, M, rfl, off, d, hl, fun r1 H1 s1 d1 => ?_⟩
        refine ⟨r1, rowsL ps, M, rfl, off.same s1, d1, hrl, hf, fun ha H2 s2 => ?_, fun ha => ?_⟩
        · have s12 := s1.trans s2
          rw [if_neg (by rw [ha]; decide)] at g
          refine ⟨_, rfl, rfl, _, rfl, ?_⟩
          rw [dec_int]
          by_cases c0 : door = 0
          · rw [if_pos c0] at g
            refine itT (by rw [c0]; rfl) ⟨_, rfl, _, rfl, v, size, ps, M, rfl, off.same s12, d.same s12, hl, fun r3 H3 s3 d3 => ?_⟩
            cases d3
            exact ⟨_, M, rfl, (off.same s12).same s3, Gives.same g (s12.trans s3)⟩
          · rw [if_neg c0] at g
            refine itF (by simp only [beq_eq_false_iff_ne]; exact c0) ⟨_, rfl, rfl, _, rfl, ?_⟩
            rw [dec_int]
            by_cases c1 : door = 1
            · rw [if_pos c1] at g
              refine itT (by rw [c1]; rfl) ⟨_, rfl, _, rfl, v, size, ps, M, rfl, off.same s12, d.same s12, hl, fun r3 H3 s3 d3 => ?_⟩
              cases d3
              exact ⟨_, M, rfl, (off.same s12).same s3, Gives.same g (s12.trans s3)⟩
            · rw [if_neg c1] at g
              refine itF (by simp only [beq_eq_false_iff_ne]; exact c1) ⟨_, rfl, _, rfl, v, size, ps, M, rfl, off.same s12, d.same s12, hl, fun r3 H3 s3 d3 => ?_⟩
              cases d3
              exact ⟨_, M, rfl, (off.same s12).same s3, Gives.same g (s12.trans s3)⟩
        · rw [if_pos ha] at g
          exact Errs.same g s1
theorem ok_example_answer (D : Df K mg "example_answer" s_example_answer p_example_answer f fd) (O_lists_value : Own P w K mg base CX0 5 "lists_value" p_lists_value (spListsValue C)) (O_checked_missed : Own P w K mg base (CXm P w) 2 "checked_missed" p_checked_missed (spCheckedMissed C XO))
    (O_check_order : Own P w K mg base (CXm P w) 5 "check_order" p_check_order (spCheckOrder C XO)) (O_rows_of : Own P w K mg base CX0 1 "rows_of" p_rows_of (spRowsOf C)) (O_checked_example : Own P w K mg base (CXm P w) 5 "checked_example" p_checked_example (spCheckedExample C XO)) :
    Own P w K mg base (CXm P w) 6 "example_answer" p_example_answer (spExampleAnswer C XO XW) := by
  refine D.own (fun_okM D.F sc_example_answer (fun vs H Q E h => ?_) (fun cdv A outer s H vs Q E hr h => ⟨_, pss_cons (ps_set (i := 3) sc_example_answer.nd rfl (Or.inl rfl) (pe_ownS O_checked_missed hr (takesM_of rfl rfl rfl rfl) (pa_cons (pv 2) pa_nil))) (pss_cons (ps_expr (pe_ownS O_check_order hr (takesM_of rfl rfl rfl rfl) (pa_cons (pe_own O_rows_of hr (pa_cons (pv 1) pa_nil)) pa_nil))) (pss_one (ps_ret (pe_own O_lists_value hr (pa_cons (pe_ownS O_checked_example hr (takesM_of rfl rfl rfl rfl) (pa_cons (pv 0) (pa_cons (pv 1) (pa_cons (pv 3) pa_nil)))) pa_nil))))), ?_⟩))
  · obtain ⟨size, v, u, ps, x, M, rfl, _⟩ := h
    rfl
  · obtain ⟨size, v, u, ps, x, M, rfl, off, d, ok, du, g⟩ := h
    have hl := ok.l2
    have hf := ok.flat
    have hrl : (rowsL ps).length ≤ 20000 := by rw [rowsL, List.length_map]; exact hl
    unfold exampleRes at g
    refine ⟨_, rfl, u, x, M, rfl, du, fun m hm => ?_, fun hn => by rw [hn] at g; exact g⟩
    rw [hm] at g
    simp only at g
    have hm2 := (rangeV_nm hm).2.2
    refine ⟨_, rfl, v, ps, M, rfl, off, d, hl, fun r1 H1 s1 d1 => ?_⟩
    refine ⟨r1, rowsL ps, M, rfl, off.same s1, d1, hrl, hf, fun ha H2 s2 => ?_, fun ha => ?_⟩
    · have s12 := s1.trans s2
      rw [if_neg (by rw [ha]; decide)] at g
      refine ⟨_, rfl, _, rfl, _, rfl, v, size, m, ps, M, rfl, off.same s12, d.same s12, ok, hm2, fun ho r3 H3 s3 d3 => ?_, fun ho => ?_⟩
      · rw [if_neg (by rw [ho]; decide)] at g
        obtain ⟨e1, e2⟩ := example_len ok (size := size) hm2
        exact ⟨r3, _, M, rfl, (off.same s12).same s3, d3, e1, e2, Gives.same g (s12.trans s3)⟩
      · rw [if_pos ho] at g
        exact Errs.same g s12
    · rw [if_pos ha] at g
      exact Errs.same g s1
theorem ok_missed_answer (D : Df K mg "missed_answer" s_missed_answer p_missed_answer f fd) (B : Blt mg) (O_number_list : Own P w K mg base CX0 4 "number_list" p_number_list (spNumList C)) (O_checked_tables : Own P w K mg base (CXm P w) 6 "checked_tables" p_checked_tables (spCheckedTables C XW))
    (O_checked_missed_rows : Own P w K mg base (CXm P w) 6 "checked_missed_rows" p_checked_missed_rows (spCheckedMissedRows C XO)) : Own P w K mg base (CXm P w) 7 "missed_answer" p_missed_answer (spMissedAnswer C XO XW) := by
  refine D.own (fun_okM D.F sc_missed_answer (fun vs H Q E h => ?_) (fun cdv A outer s H vs Q E hr h => ⟨_, pss_cons (ps_set (i := 3) sc_missed_answer.nd rfl (Or.inl rfl) (pe_ownS O_checked_tables hr (takesM_of rfl rfl rfl rfl) (pa_cons (pv 2) (pa_cons (pe_callB (call_lenK (K := K) rfl) rfl B.len boot_len (pa_cons (pv 1) pa_nil)) pa_nil)))) (pss_one (ps_ret (pe_own O_number_list hr (pa_cons (pe_ownS O_checked_missed_rows hr (takesM_of rfl rfl rfl rfl) (pa_cons (pv 0) (pa_cons (pv 1) (pa_cons (pv 3) pa_nil)))) pa_nil)))), ?_⟩))
  · obtain ⟨size, v, u, ps, x, M, rfl, _⟩ := h
    rfl
  · obtain ⟨size, v, u, ps, x, M, rfl, off, d, ok, du, few, hfl, g⟩ := h
    have hl := ok.l2
    have hf := ok.flat
    obtain ⟨a, ys, rfl, _, ea, dy⟩ := d.lstAt
    have hyl : ys.length = ps.length := by rw [dy.length, List.length_map]
    unfold missedRes at g
    refine ⟨_, rfl, _, rfl, a, _, rfl, .inl (SqL.of ea), u, x, ps.length, M, by rw [hyl], off, hl, du, few, fun ts ht r1 H1 s1 d1 => ?_, fun hn => by rw [hn] at g; exact g⟩
    rw [ht] at g
    simp only at g
    have htl : ts.length = ps.length := by
      obtain ⟨l, _, h1, h2⟩ := tablesV_list ht
      rw [(allV_some h2).1, h1]
    have hf2 := hfl ts ht
    refine ⟨_, rfl, _, rfl, _, rfl, .ref a, r1, size, ps, ts, M, rfl, off.same s1, d.same s1, d1, ok.len, htl, hf, hf2, fun hn ha r2 H2 s2 d2 => ?_, fun i hi => ?_, fun hn ha => ?_⟩
    · rw [hn] at g
      simp only at g
      rw [if_neg (by rw [ha]; decide)] at g
      have hml := missed_len (ps := ps) hf2
      exact ⟨r2, (missedM ps ts).map natI, M, rfl, (off.same s1).same s2, by rw [List.length_map]; exact ten_line hml, d2, Gives.same g (s1.trans s2)⟩
    · rw [hi] at g
      exact Errs.same g s1
    · rw [hn] at g
      simp only at g
      rw [if_pos ha] at g
      exact Errs.same g s1
/-- an argument by its number -/
theorem arg_at {M : List Addr} {H : Hp} {gs : List RWire.Value} {ys : List V} {i : Nat} (d : DAll C M H ys (datsOf gs)) (hi : i < gs.length) : ∃ v, ys[i]? = some v ∧ DAt C M H v (datOf (argV gs i)) ∧ argV gs i ∈ gs := by
  have e : gs[i]? = some (argV gs i) := by simp [argV, hi]
  obtain ⟨v, hv, dv⟩ := d.get (i := i) (d := datOf (argV gs i)) (by rw [datsOf_get, e]; rfl)
  exact ⟨v, hv, dv, List.mem_of_getElem? e⟩
theorem ok_log_answer (D : Df K mg "log_answer" s_log_answer p_log_answer f fd) (O_checked_size : Own P w K mg base (CXm P w) 2 "checked_size" p_checked_size (spCheckedSize C XO)) (O_checked_pages : Own P w K mg base (CXm P w) 6 "checked_pages" p_checked_pages (spCheckedPages C XW))
    (O_pages_answer : Own P w K mg base (CXm P w) 7 "pages_answer" p_pages_answer (spPagesAnswer C XO XW)) (O_example_answer : Own P w K mg base (CXm P w) 6 "example_answer" p_example_answer (spExampleAnswer C XO XW)) (O_missed_answer : Own P w K mg base (CXm P w) 7 "missed_answer" p_missed_answer (spMissedAnswer C XO XW)) :
    Own P w K mg base (CXm P w) 8 "log_answer" p_log_answer (spLogAnswer C XO XW) := by
  refine D.own (fun_okM D.F sc_log_answer (fun vs H Q E h => ?_) (fun cdv A outer s H vs Q E hr h => ⟨_, pss_cons (ps_set (i := 2) sc_log_answer.nd rfl (Or.inl rfl) (pe_ownS O_checked_size hr (takesM_of rfl rfl rfl rfl) (pa_cons (pe_ix (ix_listK (K := K) rfl) (pv 1) pe_int (fun _ _ => rfl)) pa_nil))) (pss_cons (ps_set (i := 3) sc_log_answer.nd rfl (Or.inl rfl) (pe_ownS O_checked_pages hr (takesM_of rfl rfl rfl rfl) (pa_cons (pe_ix (ix_listK (K := K) rfl) (pv 1) pe_int (fun _ _ => rfl)) (pa_cons (pv 2) pa_nil)))) (pss_cons (ps_if (pt_cmpR op_le (pv 0) pe_int (nomark _)) (pss_one (ps_ret (pe_ownS O_pages_answer hr (takesM_of rfl rfl rfl rfl) (pa_cons (pv 0) (pa_cons (pv 2) (pa_cons (pv 3) pa_nil)))))) pss_nil) (pss_cons (ps_if (pt_cmpR op_eq (pv 0) pe_int (nomark _)) (pss_one (ps_ret (pe_ownS O_example_answer hr (takesM_of rfl rfl rfl rfl) (pa_cons (pv 2) (pa_cons (pv 3) (pa_cons (pe_ix (ix_listK (K := K) rfl) (pv 1) pe_int (fun _ _ => rfl)) pa_nil)))))) pss_nil) (pss_one (ps_ret (pe_ownS O_missed_answer hr (takesM_of rfl rfl rfl rfl) (pa_cons (pv 2) (pa_cons (pv 3) (pa_cons (pe_ix (ix_listK (K := K) rfl) (pv 1) pe_int (fun _ _ => rfl)) pa_nil))))))))), ?_⟩))
  · obtain ⟨door, v, gs, M, rfl, _⟩ := h
    rfl
  · obtain ⟨door, v, gs, M, rfl, off, d, h4, few, hfl, g⟩ := h
    obtain ⟨a, ys, rfl, _, ea, dy⟩ := d.lstAt
    obtain ⟨v0, hv0, d0, m0⟩ := arg_at dy (i := 0) (by omega)
    obtain ⟨v1, hv1, d1, m1⟩ := arg_at dy (i := 1) (by omega)
    obtain ⟨v2, hv2, d2, m2⟩ := arg_at dy (i := 2) (by omega)
    unfold logRes at g
    refine ⟨_, rfl, a, _, 0, _, rfl, rfl, SqL.of ea, atI_nat (j := 0) hv0, v0, argV gs 0, M, rfl, d0, fun size hs => ?_, fun hn => by rw [hn] at g; exact g⟩
    rw [hs] at g
    simp only at g
    have hs20 := (rangeV_nm hs).2.2
    refine ⟨_, rfl, a, _, 1, _, rfl, rfl, SqL.of ea, atI_nat (j := 1) hv1, _, rfl, v1, argV gs 1, size, M, rfl, off, d1, few _ m1, fun ps hp r1 H1 s1 dp => ?_, fun hn => by rw [hn] at g; exact g⟩
    rw [hp] at g
    simp only at g
    have ok := pages_ok hs20 hp
    refine ⟨_, rfl, _, _, rfl, rfl, _, rfl, ?_⟩
    by_cases c4 : door ≤ 4
    · rw [if_pos c4] at g
      exact itT (decide_eq_true c4) ⟨_, rfl, _, rfl, _, rfl, door, size, r1, ps, M, rfl, off.same s1, dp, ok, g.same s1⟩
    · rw [if_neg c4] at g
      refine itF (decide_eq_false c4) ⟨_, rfl, rfl, _, rfl, ?_⟩
      rw [dec_int]
      by_cases c5 : door = 5
      · rw [if_pos c5] at g
        exact itT (by rw [c5]; rfl) ⟨_, rfl, _, rfl, _, rfl, a, _, 2, _, rfl, rfl, SqL.of (s1 _ _ ea), atI_nat (j := 2) hv2, size, r1, v2, ps, argV gs 2, M, rfl, off.same s1, dp, ok, d2.same s1, g.same s1⟩
      · rw [if_neg c5] at g
        exact itF (by simp only [beq_eq_false_iff_ne]; exact c5) ⟨_, rfl, _, rfl, _, rfl, a, _, 2, _, rfl, rfl, SqL.of (s1 _ _ ea), atI_nat (j := 2) hv2, size, r1, v2, ps, argV gs 2, M, rfl, off.same s1, dp, ok, d2.same s1, few _ m2, fun ts ht => hfl _ ts ht, g.same s1⟩
end
end Pg

/-! PhA: class Session -/
namespace Pg
open PySem PySem.Spec PyProof.Rows L2
def sesF (sl : Addr) : List (Str × V) := [("slots", .ref sl)]
structure ClS (K : PySem.W.Frag) (CZ : Addr) : Prop where
  cl : Cls K CZ
  slots : NoAttr K CZ "slots"
theorem ss_slots {sl : Addr} : (sesF sl).lookup ("slots" : Str) = some (.ref sl) := lk_here
theorem ss_meth {sl : Addr} {m : Str} (h : (m == "slots") = false) : (sesF sl).lookup m = none := (lk_past h).trans rfl
abbrev Slot := Option (Addr × Addr × CS)
def slotV : Slot → V
  | none => .non
  | some (c, _, _) => .ref c
abbrev SS := List (Option CS)
def absS (sts : List Slot) : SS := sts.map fun o => o.map fun (p : Addr × Addr × CS) => p.2.2
structure SesAt (C CC CZ : Addr) (N M : List Addr) (H : Hp) (ses sl : Addr) (sts : List Slot) : Prop where
  sub : ∀ b ∈ N, b ∈ M
  ms : ses ∈ N
  ml : sl ∈ N
  es : ∃ dx, H ses = some (.ins CZ dx (sesF sl))
  el : H sl = some (.lst (sts.map slotV))
  len : sts.length = 3
  at_ : ∀ (i : Nat) c l s, sts[i]? = some (some (c, l, s)) → ColAt C CC M H c l s ∧ CSOk s ∧ l ≠ sl ∧ c ∈ N ∧ l ∈ N
  ne : ∀ (i j : Nat) c l s c' l' s', i ≠ j → sts[i]? = some (some (c, l, s)) → sts[j]? = some (some (c', l', s')) → c ≠ c' ∧ l ≠ l'
/-- behind a door: the session with what is new in it -/
structure Next (C CC CZ : Addr) (N M : List Addr) (H : Hp) (ses sl : Addr) (ss : SS) (N' M' : List Addr) (H' : Hp) (sts' : List Slot) : Prop where
  ses : SesAt C CC CZ N' M' H' ses sl sts'
  abs : absS sts' = ss
  off : Off M' H'
  sub : ∀ b ∈ M, b ∈ M'
  newM : ∀ b ∈ M', b ∈ M ∨ H b = none
  newN : ∀ b ∈ N', b ∈ N ∨ H b = none
  same : SameB N H H'
theorem SesAt.same {C CC CZ : Addr} {N M : List Addr} {H H' : Hp} {ses sl : Addr} {sts : List Slot} (x : SesAt C CC CZ N M H ses sl sts) (s : Same H H') : SesAt C CC CZ N M H' ses sl sts :=
  ⟨x.sub, x.ms, x.ml, let ⟨dx, e⟩ := x.es; ⟨dx, s _ _ e⟩, s _ _ x.el, x.len, fun i c l t h => let ⟨h1, h2⟩ := x.at_ i c l t h; ⟨h1.same s, h2⟩, x.ne⟩
theorem Next.refl {C CC CZ : Addr} {N M : List Addr} {H H' : Hp} {ses sl : Addr} {sts : List Slot} (x : SesAt C CC CZ N M H ses sl sts) (off : Off M H) (s : Same H H') : Next C CC CZ N M H ses sl (absS sts) N M H' sts :=
  ⟨x.same s, rfl, off.same s, fun _ h => h, fun _ h => .inl h, fun _ h => .inl h, SameB.of s⟩
theorem Next.more {C CC CZ : Addr} {N M N' M' : List Addr} {H H1 H2 : Hp} {ses sl : Addr} {ss : SS} {sts : List Slot} (x : Next C CC CZ N M H ses sl ss N' M' H1 sts) (s : Same H1 H2) : Next C CC CZ N M H ses sl ss N' M' H2 sts :=
  ⟨x.ses.same s, x.abs, x.off.same s, x.sub, x.newM, x.newN, x.same.trans (SameB.of s)⟩
/-- from a heap that has only more -/
theorem Next.from {C CC CZ : Addr} {N M N' M' : List Addr} {H0 H H1 : Hp} {ses sl : Addr} {ss : SS} {sts : List Slot} (s : Same H0 H) (x : Next C CC CZ N M H ses sl ss N' M' H1 sts) : Next C CC CZ N M H0 ses sl ss N' M' H1 sts :=
  ⟨x.ses, x.abs, x.off, x.sub, fun b hb => (x.newM b hb).imp id s.free, fun b hb => (x.newN b hb).imp id s.free, fun b o e n => x.same b o (s b o e) n⟩
theorem ColAt.more {C CC : Addr} {M : List Addr} {H : Hp} {c l p : Addr} {s : CS} (x : ColAt C CC M H c l s) (hp : H p = none) : ColAt C CC (p :: M) H c l s := by
  obtain ⟨dx, o, xs, h1, h2, h3, h4, h5, h6, h7⟩ := x
  exact ⟨dx, o, xs, List.mem_cons_of_mem _ h1, List.mem_cons_of_mem _ h2, h3, h4, h5, h6.more hp, h7.more hp⟩
/-- another one's change -/
theorem ColAt.other {C CC : Addr} {M N : List Addr} {H H' : Hp} {c l : Addr} {s : CS} (x : ColAt C CC M H c l s) (t : SameB N H H') (hN : ∀ b ∈ N, b ∈ M) (hc : c ∉ N) (hl : l ∉ N) : ColAt C CC M H' c l s := by
  obtain ⟨dx, o, xs, h1, h2, h3, h4, h5, h6, h7⟩ := x
  exact ⟨dx, o, xs, h1, h2, h3, t _ _ h4 hc, t _ _ h5 hl, h6.sameB (t.mono hN), h7.sameB (t.mono hN)⟩
theorem ColAt.kinds {C CC : Addr} {M : List Addr} {H : Hp} {c l : Addr} {s : CS} (x : ColAt C CC M H c l s) : (∃ dx fs, H c = some (.ins CC dx fs) ∧ fs.length = 5) ∧ ∃ xs, H l = some (.lst xs) := by
  obtain ⟨dx, o, xs, h1, h2, h3, h4, h5, h6, h7⟩ := x
  exact ⟨⟨dx, _, h4, rfl⟩, xs, h5⟩
theorem set_same {α : Type} : ∀ {l : List α} {i : Nat} {x : α}, l[i]? = some x → l.set i x = l
  | [], _, _, h => by simp at h
  | a :: l, 0, x, h => by simp at h; rw [h]; rfl
  | a :: l, i + 1, x, h => congrArg (a :: ·) (set_same (l := l) (i := i) (x := x) (by simpa using h))
/-- one collector has changed -/
theorem SesAt.step {C CC CZ : Addr} {N M : List Addr} {H H' : Hp} {ses sl c l : Addr} {sts : List Slot} {s s' : CS} {p : Nat} (x : SesAt C CC CZ N M H ses sl sts) (hp : sts[p]? = some (some (c, l, s))) (t : SameB [c, l] H H') (col : ColAt C CC M H' c l s') (ok : CSOk s') :
    SesAt C CC CZ N M H' ses sl (sts.set p (some (c, l, s'))) := by
  have hlt := get_some hp
  obtain ⟨col0, ok0, nsl, mc, ml⟩ := x.at_ p c l s hp
  obtain ⟨⟨dxc, fs, ec, lf⟩, xs0, el0⟩ := col0.kinds
  obtain ⟨dx, es⟩ := x.es
  have n1 : ses ∉ [c, l] := by
    intro z
    simp only [List.mem_cons, List.not_mem_nil, or_false] at z
    rcases z with z | z
    · rw [z, ec] at es
      cases es
      simp [sesF] at lf
    · rw [z, el0] at es; cases es
  have n2 : sl ∉ [c, l] := by
    intro z
    simp only [List.mem_cons, List.not_mem_nil, or_false] at z
    rcases z with z | z
    · have := x.el
      rw [z, ec] at this; cases this
    · exact nsl z.symm
  refine ⟨x.sub, x.ms, x.ml, ⟨dx, t _ _ es n1⟩, ?_, by rw [List.length_set]; exact x.len, fun i c2 l2 s2 hi => ?_, fun i j c2 l2 s2 c3 l3 s3 hij hi hj => ?_⟩
  · rw [t _ _ x.el n2, List.map_set]
    congr 2
    refine (set_same ?_).symm
    rw [List.getElem?_map, hp]
    rfl
  · by_cases e : i = p
    · subst e
      rw [List.getElem?_set_self hlt] at hi
      cases hi
      exact ⟨col, ok, nsl, mc, ml⟩
    · rw [List.getElem?_set_ne (Ne.symm e)] at hi
      obtain ⟨a1, a2, a3, a4, a5⟩ := x.at_ i c2 l2 s2 hi
      obtain ⟨b1, b2⟩ := x.ne i p c2 l2 s2 c l s e hi hp
      obtain ⟨⟨dx2, fs2, ec2, _⟩, xs2, el2⟩ := a1.kinds
      refine ⟨a1.other t (fun b hb => ?_) ?_ ?_, a2, a3, a4, a5⟩
      · simp only [List.mem_cons, List.not_mem_nil, or_false] at hb
        rcases hb with z | z <;> rw [z] <;> exact x.sub _ (by assumption)
      · intro z
        simp only [List.mem_cons, List.not_mem_nil, or_false] at z
        rcases z with z | z
        · exact b1 z
        · rw [z, el0] at ec2; cases ec2
      · intro z
        simp only [List.mem_cons, List.not_mem_nil, or_false] at z
        rcases z with z | z
        · rw [z, ec] at el2; cases el2
        · exact b2 z
  · have key : ∀ (k : Nat) c4 l4 s4, (sts.set p (some (c, l, s')))[k]? = some (some (c4, l4, s4)) → ∃ s5, sts[k]? = some (some (c4, l4, s5)) := by
      intro k c4 l4 s4 hk
      by_cases e : k = p
      · subst e
        rw [List.getElem?_set_self hlt] at hk
        cases hk
        exact ⟨s, hp⟩
      · rw [List.getElem?_set_ne (Ne.symm e)] at hk
        exact ⟨s4, hk⟩
    obtain ⟨s4, h4⟩ := key i c2 l2 s2 hi
    obtain ⟨s5, h5⟩ := key j c3 l3 s3 hj
    exact x.ne i j c2 l2 s4 c3 l3 s5 hij h4 h5
/-- a new collector in a slot -/
theorem SesAt.put {C CC CZ : Addr} {N M : List Addr} {H H1 : Hp} {ses sl c l : Addr} {sts : List Slot} {s : CS} {p : Nat} (x : SesAt C CC CZ N M H ses sl sts) (hp : p < 3) (hc : H c = none) (hl : H l = none) (hcl : c ≠ l) (t : Same H H1) (col : ColAt C CC (l :: c :: M) H1 c l s) (ok : CSOk s) :
    SesAt C CC CZ (l :: c :: N) (l :: c :: M) (upd H1 sl (.lst ((sts.map slotV).set p (.ref c)))) ses sl (sts.set p (some (c, l, s))) := by
  have hlt : p < sts.length := by rw [x.len]; exact hp
  obtain ⟨dx, es⟩ := x.es
  have hsl := t _ _ x.el
  have nsl : ses ≠ sl := fun z => by rw [z, x.el] at es; cases es
  have lsl : l ≠ sl := fun z => by rw [z, x.el] at hl; cases hl
  have csl : c ≠ sl := fun z => by rw [z, x.el] at hc; cases hc
  have msl : sl ∈ l :: c :: M := List.mem_cons_of_mem _ (List.mem_cons_of_mem _ (x.sub _ x.ml))
  have tu : ∀ o, SameB [sl] H1 (upd H1 sl o) := fun o => SameB.upd (by simp)
  have sub1 : ∀ b ∈ [sl], b ∈ l :: c :: M := fun b hb => by simp only [List.mem_singleton] at hb; rw [hb]; exact msl
  refine ⟨fun b hb => ?_, List.mem_cons_of_mem _ (List.mem_cons_of_mem _ x.ms), List.mem_cons_of_mem _ (List.mem_cons_of_mem _ x.ml), ⟨dx, by rw [upd_ne nsl]; exact t _ _ es⟩, ?_, by rw [List.length_set]; exact x.len, fun i c2 l2 s2 hi => ?_, fun i j c2 l2 s2 c3 l3 s3 hij hi hj => ?_⟩
  · rcases List.mem_cons.mp hb with z | z
    · rw [z]; exact List.mem_cons_self
    · rcases List.mem_cons.mp z with z | z
      · rw [z]; exact List.mem_cons_of_mem _ List.mem_cons_self
      · exact List.mem_cons_of_mem _ (List.mem_cons_of_mem _ (x.sub b z))
  · rw [upd_same, List.map_set]
    rfl
  · by_cases e : i = p
    · subst e
      rw [List.getElem?_set_self hlt] at hi
      cases hi
      exact ⟨col.other (tu _) sub1 (by simpa using csl) (by simpa using lsl), ok, lsl, List.mem_cons_of_mem _ List.mem_cons_self, List.mem_cons_self⟩
    · rw [List.getElem?_set_ne (Ne.symm e)] at hi
      obtain ⟨a1, a2, a3, a4, a5⟩ := x.at_ i c2 l2 s2 hi
      obtain ⟨⟨dx2, fs2, ec2, _⟩, xs2, el2⟩ := a1.kinds
      have n1 : c2 ≠ sl := fun z => by rw [z, x.el] at ec2; cases ec2
      exact ⟨(((a1.more hc).more hl).same t).other (tu _) sub1 (by simpa using n1) (by simpa using a3), a2, a3, List.mem_cons_of_mem _ (List.mem_cons_of_mem _ a4), List.mem_cons_of_mem _ (List.mem_cons_of_mem _ a5)⟩
  · have key : ∀ (k : Nat) c4 l4 s4, (sts.set p (some (c, l, s)))[k]? = some (some (c4, l4, s4)) → (k = p ∧ c4 = c ∧ l4 = l) ∨ (k ≠ p ∧ sts[k]? = some (some (c4, l4, s4))) := by
      intro k c4 l4 s4 hk
      by_cases e : k = p
      · subst e
        rw [List.getElem?_set_self hlt] at hk
        cases hk
        exact .inl ⟨rfl, rfl, rfl⟩
      · rw [List.getElem?_set_ne (Ne.symm e)] at hk
        exact .inr ⟨e, hk⟩
    have old : ∀ (k : Nat) c4 l4 s4, sts[k]? = some (some (c4, l4, s4)) → c4 ≠ c ∧ l4 ≠ l := by
      intro k c4 l4 s4 hk
      obtain ⟨a1, _⟩ := x.at_ k c4 l4 s4 hk
      obtain ⟨⟨dx2, fs2, ec2, _⟩, xs2, el2⟩ := a1.kinds
      exact ⟨(fun z => by rw [z, hc] at ec2; cases ec2), (fun z => by rw [z, hl] at el2; cases el2)⟩
    rcases key i c2 l2 s2 hi with ⟨e1, e2, e3⟩ | ⟨e1, e2⟩
    · rcases key j c3 l3 s3 hj with ⟨e4, e5, e6⟩ | ⟨e4, e5⟩
      · exact absurd (e1.trans e4.symm) hij
      · obtain ⟨f1, f2⟩ := old j c3 l3 s3 e5
        rw [e2, e3]
        exact ⟨f1.symm, f2.symm⟩
    · rcases key j c3 l3 s3 hj with ⟨e4, e5, e6⟩ | ⟨e4, e5⟩
      · obtain ⟨f1, f2⟩ := old i c2 l2 s2 e2
        rw [e5, e6]
        exact ⟨f1, f2⟩
      · exact x.ne i j c2 l2 s2 c3 l3 s3 hij e2 e5
theorem abs_set (sts : List Slot) (p : Nat) (c l : Addr) (s : CS) : absS (sts.set p (some (c, l, s))) = (absS sts).set p (some s) := by
  unfold absS
  rw [List.map_set]
  rfl
theorem abs_get {sts : List Slot} {p : Nat} {s : CS} (h : (absS sts)[p]? = some (some s)) : ∃ c l, sts[p]? = some (some (c, l, s)) := by
  unfold absS at h
  rw [List.getElem?_map] at h
  cases e : sts[p]? with
  | none => rw [e] at h; cases h
  | some o =>
    rw [e] at h
    cases o with
    | none => cases h
    | some q =>
      obtain ⟨c, l, t⟩ := q
      cases h
      exact ⟨c, l, rfl⟩
end Pg

/-! PhB: Session's methods -/
namespace Pg
open PySem PySem.Spec PyProof.Rows L2
def slotN (gs : List RWire.Value) : Nat := (nmI (argV gs 0)).toNat
def listV : RWire.Value → List RWire.Value
  | .list l => l
  | _ => []
def fillM (door : Int) (gs : List RWire.Value) (ss : SS) : SS := ss.set (slotN gs) (some (if door = 8 then feedM (initM (argV gs 1) (argV gs 2)) (listV (argV gs 3)) else initM (argV gs 1) (argV gs 2)))
def readM (door : Int) (gs : List RWire.Value) (ss : SS) : SS × Dat := match ss[slotN gs]? with
  | some (some s) => if door = 9 then (ss, numsD s.asked.toList) else if door = 12 then (ss, s.out) else if door = 10 then (ss.set (slotN gs) (some (acceptM s (argV gs 1))), nothingD)
    else (ss.set (slotN gs) (some (s.fin (failD (datOf (argV gs 1))))), nothingD)
  | _ => (ss, nothingD)
def sesM (door : Int) (gs : List RWire.Value) (ss : SS) : SS × Res := if door ≤ 6 then (ss, logRes door gs) else if door ≤ 8 then (fillM door gs ss, .ok nothingD) else ((readM door gs ss).1, .ok (readM door gs ss).2)
/-- what a request must be to be answered -/
structure Due (door : Int) (gs : List RWire.Value) (ss : SS) : Prop where
  four : 4 ≤ gs.length
  few : ∀ x ∈ gs, Few x
  tabs : ∀ k ts, tablesV k (argV gs 2) = some ts → ts.flatten.length ≤ 20000
  slot : 7 ≤ door → ∃ p : Nat, p < 3 ∧ nmI (argV gs 0) = p
  reps : door = 8 → ∃ l, argV gs 3 = .list l
  col : 9 ≤ door → ∃ s, ss[slotN gs]? = some (some s) ∧ (door = 10 → ∃ a, s.asked = some a)
/-- an own class that is made -/
structure OwnC (P : Program) (w : World) (K : PySem.W.Frag) (mg : Str → Option Value) (base : Heap) (C CC : Addr) : Prop where
  ex : ∃ (f : Addr) (fd : FuncData), mg "Collector" = some (.ref CC) ∧ Mk K CC f ∧ Binds K fd p_Collector_init [] ∧ FnOk P w K mg base CX0 6 f fd p_Collector_init (spCInit C CC)
theorem pe_col {X : Cx} {C CC : Addr} {j : Nat} {e : Expr} {es : List Expr} {p pos : Pos} {t : TA} (O : OwnC X.prog X.w X.K X.mg X.base C CC) (hr : Room j X.A) (ha : PA X (e :: es) t) (hk : 7 ≤ j := by first | decide | omega) (hg : Gl X "Collector" := by rfl)
    (he : starEach (e :: es) X.env = (false, eval e X.env) :: starEach es X.env := by rfl) (hpl : (backTo pos (starEach es X.env)).any (·.1) = false := by rfl) :
    PE X (.Call (.Name "Collector" p) (e :: es) [] pos) (tMake CC (spCInit C CC) [] E0 t) := by
  obtain ⟨f, fd, g, M, b, F⟩ := O.ex
  exact pe_make (p := p) (pos := pos) M F (hr.mono hk) hg g b .nil pass0 ha (by decide) he hpl
abbrev s_Session_init : Stmt := inClass (top 99) 0
abbrev n_Session_init : List Str := ["self"]
abbrev p_Session_init : List Str := ["self"]
theorem sc_Session_init : FnScope n_Session_init p_Session_init (defScope s_Session_init) := ⟨rfl, rfl, rfl, by decide +kernel, rfl, by decide +kernel, by decide +kernel⟩
abbrev s_Session_fill : Stmt := inClass (top 99) 1
abbrev n_Session_fill : List Str := ["self", "door", "given", "collector"]
abbrev p_Session_fill : List Str := ["self", "door", "given"]
theorem sc_Session_fill : FnScope n_Session_fill p_Session_fill (defScope s_Session_fill) := ⟨rfl, rfl, rfl, by decide +kernel, rfl, by decide +kernel, by decide +kernel⟩
abbrev s_Session_read : Stmt := inClass (top 99) 2
abbrev n_Session_read : List Str := ["self", "door", "given", "collector"]
abbrev p_Session_read : List Str := ["self", "door", "given"]
theorem sc_Session_read : FnScope n_Session_read p_Session_read (defScope s_Session_read) := ⟨rfl, rfl, rfl, by decide +kernel, rfl, by decide +kernel, by decide +kernel⟩
abbrev s_Session_returned : Stmt := inClass (top 99) 3
abbrev n_Session_returned : List Str := ["self", "door", "given"]
abbrev p_Session_returned : List Str := ["self", "door", "given"]
theorem sc_Session_returned : FnScope n_Session_returned p_Session_returned (defScope s_Session_returned) := ⟨rfl, rfl, rfl, by decide +kernel, rfl, by decide +kernel, by decide +kernel⟩
section
variable (C CC CZ XO XW : Addr)
def spSInit : Sp := fun vs H Q _ => ∃ (x dx : Addr), vs = [.ref x] ∧ H x = some (.ins CZ dx []) ∧ ∀ sl H', H sl = none → SameB [x] H H' → H' x = some (.ins CZ dx (sesF sl)) → H' sl = some (.lst [.non, .non, .non]) → Q .non H'
def spFill : Sp := fun vs H Q _ => ∃ (ses sl : Addr) (door : Int) (v : V) (gs : List RWire.Value) (sts : List Slot) (p : Nat) (N M : List Addr), vs = [.ref ses, .int door, v] ∧ Off M H ∧ SesAt C CC CZ N M H ses sl sts ∧ DAt C M H v (.lst (datsOf gs)) ∧ 4 ≤ gs.length ∧ (∀ x ∈ gs, Few x) ∧
  nmI (argV gs 0) = p ∧ p < 3 ∧ (door = 8 → ∃ l, argV gs 3 = .list l) ∧ ∀ r H' N' M' sts', Next C CC CZ N M H ses sl (fillM door gs (absS sts)) N' M' H' sts' → DAt C M' H' r nothingD → Q r H'
def spRead : Sp := fun vs H Q _ => ∃ (ses sl : Addr) (door : Int) (v : V) (gs : List RWire.Value) (sts : List Slot) (p : Nat) (s : CS) (N M : List Addr), vs = [.ref ses, .int door, v] ∧ Off M H ∧ SesAt C CC CZ N M H ses sl sts ∧ DAt C M H v (.lst (datsOf gs)) ∧ 4 ≤ gs.length ∧ (∀ x ∈ gs, Few x) ∧
  nmI (argV gs 0) = p ∧ (absS sts)[p]? = some (some s) ∧ (door = 10 → ∃ a, s.asked = some a) ∧ ∀ r H' N' M' sts', Next C CC CZ N M H ses sl (readM door gs (absS sts)).1 N' M' H' sts' → DAt C M' H' r (readM door gs (absS sts)).2 → Q r H'
def spReturned : Sp := fun vs H Q E => ∃ (ses sl : Addr) (door : Int) (v : V) (gs : List RWire.Value) (sts : List Slot) (N M : List Addr), vs = [.ref ses, .int door, v] ∧ Off M H ∧ SesAt C CC CZ N M H ses sl sts ∧ DAt C M H v (.lst (datsOf gs)) ∧ Due door gs (absS sts) ∧
  (∀ d, (sesM door gs (absS sts)).2 = .ok d → ∀ r H' N' M' sts', Next C CC CZ N M H ses sl (sesM door gs (absS sts)).1 N' M' H' sts' → DAt C M' H' r d → Q r H') ∧
  (∀ m, (sesM door gs (absS sts)).2 = .wrong m → Errs E H XW m) ∧ (∀ m, (sesM door gs (absS sts)).2 = .range m → Errs E H XO m)
end
section
variable {P : Program} {w : World} {K : PySem.W.Frag} {mg : Str → Option Value} {base : Heap} {C XO XW CC CZ : Addr} {f : Addr} {fd : FuncData}
theorem ok_Session_init (D : Fun K "__init__" "Session.__init__" s_Session_init f fd) (TZ : ClS K CZ) : FnOk P w K mg base CX0 1 f fd p_Session_init (spSInit CZ) := by
  refine D.ok sc_Session_init (fun vs H Q E h => ?_) (fun cdv A outer s H vs Q E hr h => ⟨_, pss_one (ps_fld (pv 0) (pe_lst (pa_cons pe_non (pa_cons pe_non (pa_cons pe_non pa_nil)))) rfl), ?_⟩)
  · obtain ⟨x, dx, rfl, _⟩ := h
    rfl
  · obtain ⟨x, dx, rfl, e, q⟩ := h
    refine ⟨by show 3 ≤ sizeLine; rw [sizeLine_eq]; omega, fun sl hs => ?_⟩
    have nx : sl ≠ x := fun z => by rw [z, e] at hs; cases hs
    refine ⟨_, rfl, x, CZ, dx, [], rfl, (by rw [upd_ne (Ne.symm nx)]; exact e), TZ.cl, TZ.slots, (by show 0 < 1000; decide), ?_⟩
    refine q sl _ hs ((SameB.of (Same.new hs)).trans (SameB.upd (by simp))) upd_same ?_
    rw [upd_ne nx, upd_same]
theorem ok_fill (D : DfM K CZ "fill" "Session.fill" s_Session_fill p_Session_fill f fd) (TZ : ClS K CZ) (TV : ClV K C) (T : ClC K CC) (Kc : Csts mg) (OC : OwnC P w K mg base C CC) (M_Collector_feed : OwnM P w K mg base CX0 CC 9 "feed" p_Collector_feed (spFeed C CC)) (O_simple_value : Own P w K mg base CX0 3 "simple_value" p_simple_value (spSimple C)) :
    OwnM P w K mg base CX0 CZ 10 "fill" p_Session_fill (spFill C CC CZ) := by
  refine D.own TZ.cl (D.F.ok sc_Session_fill (fun vs H Q E h => ?_) (fun cdv A outer s H vs Q E hr h => ⟨_, pss_cons (ps_set (i := 3) sc_Session_fill.nd rfl (Or.inl rfl) (pe_col OC hr (pa_cons (pe_ix (ix_listK (K := K) rfl) (pv 2) pe_int (fun _ _ => rfl)) (pa_cons (pe_ix (ix_listK (K := K) rfl) (pv 2) pe_int (fun _ _ => rfl)) pa_nil)))) (pss_cons (ps_if (pt_cmpR op_eq (pv 1) pe_int (nomark _)) (pss_one (ps_expr (pe_mth M_Collector_feed hr (pv 3) (pa_cons (pe_fldK (K := K) (pe_ix (ix_listK (K := K) rfl) (pv 2) pe_int (fun _ _ => rfl))) pa_nil)))) pss_nil) (pss_cons (ps_asg (pv 3) (pg_sub (pe_fldK (K := K) (pv 0)) (pe_fldK (K := K) (pe_ix (ix_listK (K := K) rfl) (pv 2) pe_int (fun _ _ => rfl))) set_list)) (pss_one (ps_ret (pe_own O_simple_value hr (pa_cons (pe_k Kc.NOTHING) pa_nil)))))), ?_⟩))
  · obtain ⟨ses, sl, door, v, gs, sts, p, N, M, rfl, _⟩ := h
    rfl
  · obtain ⟨ses, sl, door, v, gs, sts, p, N, M, rfl, off, x, d, h4, few, hp0, hp, h8, q⟩ := h
    obtain ⟨a, ys, rfl, _, ea, dy⟩ := d.lstAt
    obtain ⟨v0, hv0, d0, _⟩ := arg_at dy (i := 0) (by omega)
    obtain ⟨v1, hv1, d1, _⟩ := arg_at dy (i := 1) (by omega)
    obtain ⟨v2, hv2, d2, _⟩ := arg_at dy (i := 2) (by omega)
    obtain ⟨v3, hv3, d3, m3⟩ := arg_at dy (i := 3) (by omega)
    obtain ⟨a0, dx0, o0, nm0, p0, xs0, rfl, ea0, _⟩ := datAt d0
    obtain ⟨dxs, es⟩ := x.es
    have hslot : slotN gs = p := by unfold slotN; rw [hp0]; exact Int.toNat_natCast p
    refine ⟨_, rfl, a, _, 1, _, rfl, rfl, SqL.of ea, atI_nat (j := 1) hv1, _, rfl, a, _, 2, _, rfl, rfl, SqL.of ea, atI_nat (j := 2) hv2, fun c dx nc nd ne => ?_⟩
    have S0 : Same H (upd (upd H dx (.own c)) c (.ins CC dx [])) := Same.updNew (Same.new nd) nc
    refine ⟨c, dx, v1, v2, argV gs 1, argV gs 2, c :: M, rfl, (Off.same off S0).cons upd_same, List.mem_cons_self, upd_same, (d1.more nc).same S0, (d2.more nc).same S0, fun l H1 hl t col => ⟨rfl, ?_⟩⟩
    have hcl : l ≠ c := fun z => by rw [z, upd_same] at hl; cases hl
    have hld : l ≠ dx := fun z => by rw [z, upd_ne ne, upd_same] at hl; cases hl
    have hlH : H l = none := by rw [upd_ne hcl, upd_ne hld] at hl; exact hl
    have S1 : Same H H1 := fun b o e => t b o (S0 b o e) (by simp only [List.mem_singleton]; exact ne_of_none e nc)
    have offc : Off (l :: c :: M) H1 := by
      obtain ⟨_, o_, xs_, _, _, _, e1, e2, _⟩ := col
      exact ((off.same S1).cons e1).cons e2
    have ok0 := init_ok (argV gs 1) (argV gs 2)
    refine ⟨_, rfl, rfl, _, rfl, ?_⟩
    rw [dec_int]
    by_cases c8 : door = 8
    · obtain ⟨rl, hrl⟩ := h8 c8
      rw [hrl] at d3
      have hv : datOf (.list rl) = .val 7 0 [] [] (datsOf rl) := by simp [datOf]
      rw [hv] at d3
      obtain ⟨a3, dx3, o3, nm3, p3, rfl, _, ea3, _, _, dp3⟩ := d3.valAt
      have hcol := col
      obtain ⟨dxc, oc, xc, _, _, _, ec, _⟩ := hcol
      refine itT (by rw [c8]; rfl) ⟨_, rfl, c, dxc, _, rfl, ec, cl_meth (by decide +kernel), _, rfl, a, _, 3, _, rfl, rfl, SqL.of (S1 _ _ ea), atI_nat (j := 3) hv3, a3, C, dx3, _, _, rfl, S1 _ _ ea3, TV.cl, TV.parts, vl_parts, ?_⟩
      have fewr : ∀ y ∈ rl, ∀ l', y = .list l' → l'.length ≤ 20000 := fun y hy l' hl' => ((few _ m3 rl hrl).2 y hy l' hl').1
      refine ⟨c, l, .ref p3, rl, initM (argV gs 1) (argV gs 2), l :: c :: M, rfl, offc, col, ok0, ((dp3.more nc).more hlH).same S1, fewr, fun H2 s2 col2 => ?_⟩
      have S2 : Same H H2 := fun b o e => s2 b o (S1 b o e) (by
        simp only [List.mem_cons, List.not_mem_nil, or_false]
        rintro (z | z)
        · exact ne_of_none e nc z
        · exact ne_of_none e hlH z)
      have off2 : Off (l :: c :: M) H2 := offc.sameB s2 col2.offs
      have ok2 : CSOk (feedM (initM (argV gs 1) (argV gs 2)) rl) := by
        have go : ∀ (rs : List RWire.Value) (s : CS), CSOk s → CSOk (rs.foldl replyM s) := by
          intro rs
          induction rs with
          | nil => intro s h; exact h
          | cons r rs ih => intro s h; exact ih _ (reply_ok h r)
        exact accept_ok (go rl _ ok0) .nothing
      refine ⟨_, rfl, _, rfl, ses, CZ, dxs, _, _, rfl, S2 _ _ es, TZ.cl, TZ.slots, ss_slots, _, rfl, a, _, 0, _, rfl, rfl, SqL.of (S2 _ _ ea), atI_nat (j := 0) hv0, a0, C, dx0, _, _, rfl, S2 _ _ ea0, TV.cl, TV.number, vl_number, sl, _, _, p, rfl, rfl, S2 _ _ x.el, (by rw [hp0, List.length_map, x.len]; exact ix_nat hp), ?_⟩
      have nx := x.put (s := feedM (initM (argV gs 1) (argV gs 2)) rl) hp nc hlH hcl.symm S2 col2 ok2
      have offE : Off (l :: c :: M) (upd H2 sl (.lst ((sts.map slotV).set p (.ref c)))) := Off.upd off2
      refine ⟨0, l :: c :: M, rfl, offE, fun r H4 s4 d4 => q r H4 (l :: c :: N) (l :: c :: M) (sts.set p (some (c, l, feedM (initM (argV gs 1) (argV gs 2)) rl))) ⟨nx.same s4, ?_, offE.same s4, fun b hb => List.mem_cons_of_mem _ (List.mem_cons_of_mem _ hb), fun b hb => ?_, fun b hb => ?_, ?_⟩ d4⟩
      · rw [abs_set]
        unfold fillM
        rw [hslot, if_pos c8, hrl]; rfl

      · rcases List.mem_cons.mp hb with z | z
        · rw [z]; exact .inr hlH
        · rcases List.mem_cons.mp z with z | z
          · rw [z]; exact .inr nc
          · exact .inl z
      · rcases List.mem_cons.mp hb with z | z
        · rw [z]; exact .inr hlH
        · rcases List.mem_cons.mp z with z | z
          · rw [z]; exact .inr nc
          · exact .inl z
      · exact ((SameB.of S2).trans (SameB.upd x.ml)).trans (SameB.of s4)
    · refine itF (by simp only [beq_eq_false_iff_ne]; exact c8) ?_
      refine ⟨_, rfl, _, rfl, ses, CZ, dxs, _, _, rfl, S1 _ _ es, TZ.cl, TZ.slots, ss_slots, _, rfl, a, _, 0, _, rfl, rfl, SqL.of (S1 _ _ ea), atI_nat (j := 0) hv0, a0, C, dx0, _, _, rfl, S1 _ _ ea0, TV.cl, TV.number, vl_number, sl, _, _, p, rfl, rfl, S1 _ _ x.el, (by rw [hp0, List.length_map, x.len]; exact ix_nat hp), ?_⟩
      have nx := x.put (s := initM (argV gs 1) (argV gs 2)) hp nc hlH hcl.symm S1 col ok0
      have offE : Off (l :: c :: M) (upd H1 sl (.lst ((sts.map slotV).set p (.ref c)))) := Off.upd offc
      refine ⟨0, l :: c :: M, rfl, offE, fun r H4 s4 d4 => q r H4 (l :: c :: N) (l :: c :: M) (sts.set p (some (c, l, initM (argV gs 1) (argV gs 2)))) ⟨nx.same s4, ?_, offE.same s4, fun b hb => List.mem_cons_of_mem _ (List.mem_cons_of_mem _ hb), fun b hb => ?_, fun b hb => ?_, ?_⟩ d4⟩
      · rw [abs_set]
        unfold fillM
        rw [hslot, if_neg c8]
      · rcases List.mem_cons.mp hb with z | z
        · rw [z]; exact .inr hlH
        · rcases List.mem_cons.mp z with z | z
          · rw [z]; exact .inr nc
          · exact .inl z
      · rcases List.mem_cons.mp hb with z | z
        · rw [z]; exact .inr hlH
        · rcases List.mem_cons.mp z with z | z
          · rw [z]; exact .inr nc
          · exact .inl z
      · exact ((SameB.of S1).trans (SameB.upd x.ml)).trans (SameB.of s4)
theorem readM_some {door : Int} {gs : List RWire.Value} {ss : SS} {s : CS} (h : ss[slotN gs]? = some (some s)) : readM door gs ss = if door = 9 then (ss, numsD s.asked.toList) else if door = 12 then (ss, s.out) else if door = 10 then (ss.set (slotN gs) (some (acceptM s (argV gs 1))), nothingD)
    else (ss.set (slotN gs) (some (s.fin (failD (datOf (argV gs 1))))), nothingD) := by
  unfold readM
  rw [h]
/-- behind a change of one collector -/
theorem SesAt.next {N M : List Addr} {H H' H4 : Hp} {ses sl c l : Addr} {sts : List Slot} {s s' : CS} {p : Nat} (x : SesAt C CC CZ N M H ses sl sts) (off : Off M H) (hp : sts[p]? = some (some (c, l, s))) (t : SameB [c, l] H H') (col : ColAt C CC M H' c l s') (ok : CSOk s') (s4 : Same H' H4) :
    Next C CC CZ N M H ses sl ((absS sts).set p (some s')) N M H4 (sts.set p (some (c, l, s'))) := by
  obtain ⟨_, _, _, mc, ml⟩ := x.at_ p c l s hp
  refine ⟨(x.step hp t col ok).same s4, abs_set _ _ _ _ _, (off.sameB t col.offs).same s4, fun b hb => hb, fun b hb => .inl hb, fun b hb => .inl hb, (t.mono fun b hb => ?_).trans (SameB.of s4)⟩
  simp only [List.mem_cons, List.not_mem_nil, or_false] at hb
  rcases hb with z | z <;> rw [z] <;> assumption
theorem ok_read (D : DfM K CZ "read" "Session.read" s_Session_read p_Session_read f fd) (TZ : ClS K CZ) (TV : ClV K C) (T : ClC K CC) (Kc : Csts mg) (M_Collector_wanted : OwnM P w K mg base CX0 CC 1 "wanted" p_Collector_wanted (spWanted C CC)) (M_Collector_accept : OwnM P w K mg base CX0 CC 8 "accept" p_Collector_accept (spAccept C CC))
    (M_Collector_give_up : OwnM P w K mg base CX0 CC 6 "give_up" p_Collector_give_up (spGiveUp C CC)) (O_number_list : Own P w K mg base CX0 4 "number_list" p_number_list (spNumList C)) (O_simple_value : Own P w K mg base CX0 3 "simple_value" p_simple_value (spSimple C)) :
    OwnM P w K mg base CX0 CZ 9 "read" p_Session_read (spRead C CC CZ) := by
  refine D.own TZ.cl (D.F.ok sc_Session_read (fun vs H Q E h => ?_) (fun cdv A outer s H vs Q E hr h => ⟨_, pss_cons (ps_set (i := 3) sc_Session_read.nd rfl (Or.inl rfl) (pe_ix (ix_listK (K := K) rfl) (pe_fldK (K := K) (pv 0)) (pe_fldK (K := K) (pe_ix (ix_listK (K := K) rfl) (pv 2) pe_int (fun _ _ => rfl))) (fun _ _ => rfl))) (pss_cons (ps_if (pt_cmpR op_eq (pv 1) pe_int (nomark _)) (pss_one (ps_ret (pe_own O_number_list hr (pa_cons (pe_mth0 M_Collector_wanted hr (pv 3)) pa_nil)))) pss_nil) (pss_cons (ps_if (pt_cmpR op_eq (pv 1) pe_int (nomark _)) (pss_one (ps_ret (pe_fldK (K := K) (pv 3)))) pss_nil) (pss_cons (ps_if (pt_cmpR op_eq (pv 1) pe_int (nomark _)) (pss_one (ps_expr (pe_mth M_Collector_accept hr (pv 3) (pa_cons (pe_ix (ix_listK (K := K) rfl) (pv 2) pe_int (fun _ _ => rfl)) pa_nil)))) (pss_one (ps_expr (pe_mth M_Collector_give_up hr (pv 3) (pa_cons (pe_ix (ix_listK (K := K) rfl) (pv 2) pe_int (fun _ _ => rfl)) pa_nil))))) (pss_one (ps_ret (pe_own O_simple_value hr (pa_cons (pe_k Kc.NOTHING) pa_nil))))))), ?_⟩))
  · obtain ⟨ses, sl, door, v, gs, sts, p, s, N, M, rfl, _⟩ := h
    rfl
  · obtain ⟨ses, sl, door, v, gs, sts, p, s, N, M, rfl, off, x, d, h4, few, hp0, hs, h10, q⟩ := h
    obtain ⟨a, ys, rfl, _, ea, dy⟩ := d.lstAt
    obtain ⟨v0, hv0, d0, _⟩ := arg_at dy (i := 0) (by omega)
    obtain ⟨v1, hv1, d1, m1⟩ := arg_at dy (i := 1) (by omega)
    obtain ⟨a0, dx0, o0, nm0, p0, xs0, rfl, ea0, _⟩ := datAt d0
    obtain ⟨dxs, es⟩ := x.es
    have hslot : slotN gs = p := by unfold slotN; rw [hp0]; exact Int.toNat_natCast p
    obtain ⟨c, l, hsl⟩ := abs_get hs
    have hlt : p < sts.length := get_some hsl
    have hget : (sts.map slotV)[p]? = some (.ref c) := by rw [List.getElem?_map, hsl]; rfl
    obtain ⟨col, ok, nsl, mc, ml⟩ := x.at_ p c l s hsl
    rw [readM_some (s := s) (by rw [hslot]; exact hs), hslot] at q
    refine ⟨_, rfl, ses, CZ, dxs, _, _, rfl, es, TZ.cl, TZ.slots, ss_slots, _, rfl, a, _, 0, _, rfl, rfl, SqL.of ea, atI_nat (j := 0) hv0, a0, C, dx0, _, _, rfl, ea0, TV.cl, TV.number, vl_number, sl, _, _, _, rfl, rfl, SqL.of x.el, at_of (j := p) hp0 hget, ?_⟩
    have hcol := col
    obtain ⟨dxc, oc, xc, h1, h2, h3, ec, el, h6, h7⟩ := hcol
    refine ⟨_, rfl, rfl, _, rfl, ?_⟩
    rw [dec_int]
    by_cases c9 : door = 9
    · rw [if_pos c9] at q
      refine itT (by rw [c9]; rfl) ⟨_, rfl, c, dxc, _, rfl, ec, cl_meth (by decide +kernel), c, l, s, M, rfl, col, fun r H1 s1 n1 e1 => ?_⟩
      have hal : s.asked.toList.length ≤ 1 := by cases s.asked <;> simp
      refine ⟨.ref r, s.asked.toList.map natI, M, rfl, off.same s1, by rw [List.length_map, sizeLine_eq]; omega, .dI (off.new n1) e1, fun r2 H2 s2 d2 => ?_⟩
      exact q r2 H2 N M sts (Next.refl x off (s1.trans s2)) d2
    · rw [if_neg c9] at q
      refine itF (by simp only [beq_eq_false_iff_ne]; exact c9) ⟨_, rfl, rfl, _, rfl, ?_⟩
      rw [dec_int]
      by_cases c12 : door = 12
      · rw [if_pos c12] at q
        exact itT (by rw [c12]; rfl) ⟨_, rfl, c, CC, dxc, _, _, rfl, ec, T.cl, T.outcome, cl_outcome, q (.ref oc) H N M sts (Next.refl x off (Same.refl _)) h7⟩
      · rw [if_neg c12] at q
        refine itF (by simp only [beq_eq_false_iff_ne]; exact c12) ⟨_, rfl, rfl, _, rfl, ?_⟩
        rw [dec_int]
        by_cases c10 : door = 10
        · rw [if_pos c10] at q
          obtain ⟨ask, hask⟩ := h10 c10
          refine itT (by rw [c10]; rfl) ⟨_, rfl, c, dxc, _, rfl, ec, cl_meth (by decide +kernel), _, rfl, a, _, 1, _, rfl, rfl, SqL.of ea, atI_nat (j := 1) hv1, ?_⟩
          refine ⟨c, l, v1, argV gs 1, s, ask, M, rfl, off, col, hask, ok ask hask, d1, fun l' hl' => (few _ m1 l' hl').1, fun H1 s1 col1 => ?_⟩
          refine ⟨0, M, rfl, off.sameB s1 col1.offs, fun r2 H2 s2 d2 => ?_⟩
          exact q r2 H2 N M _ (x.next off hsl s1 col1 (accept_ok ok _) s2) d2
        · rw [if_neg c10] at q
          refine itF (by simp only [beq_eq_false_iff_ne]; exact c10) ⟨_, rfl, c, dxc, _, rfl, ec, cl_meth (by decide +kernel), _, rfl, a, _, 1, _, rfl, rfl, SqL.of ea, atI_nat (j := 1) hv1, ?_⟩
          refine ⟨c, l, v1, datOf (argV gs 1), s, M, rfl, off, col, d1, fun H1 s1 col1 => ?_⟩
          have s1' : SameB [c, l] H H1 := s1.mono fun b hb => by simp at hb; simp [hb]
          refine ⟨0, M, rfl, off.sameB s1' col1.offs, fun r2 H2 s2 d2 => ?_⟩
          exact q r2 H2 N M _ (x.next off hsl s1' col1 (fun b hb => nomatch hb) s2) d2
theorem ok_returned (D : DfM K CZ "returned" "Session.returned" s_Session_returned p_Session_returned f fd) (TZ : ClS K CZ) (O_log_answer : Own P w K mg base (CXm P w) 8 "log_answer" p_log_answer (spLogAnswer C XO XW)) (M_Session_fill : OwnM P w K mg base CX0 CZ 10 "fill" p_Session_fill (spFill C CC CZ)) (M_Session_read : OwnM P w K mg base CX0 CZ 9 "read" p_Session_read (spRead C CC CZ)) :
    OwnM P w K mg base (CXm P w) CZ 11 "returned" p_Session_returned (spReturned C CC CZ XO XW) := by
  refine D.own TZ.cl (fun_okM D.F sc_Session_returned (fun vs H Q E h => ?_) (fun cdv A outer s H vs Q E hr h => ⟨_, pss_cons (ps_if (pt_cmpR op_le (pv 1) pe_int (nomark _)) (pss_one (ps_ret (pe_ownS O_log_answer hr (takesM_of rfl rfl rfl rfl) (pa_cons (pv 1) (pa_cons (pv 2) pa_nil))))) pss_nil) (pss_cons (ps_if (pt_cmpR op_le (pv 1) pe_int (nomark _)) (pss_one (ps_ret (pe_mth M_Session_fill hr (pv 0) (pa_cons (pv 1) (pa_cons (pv 2) pa_nil))))) pss_nil) (pss_one (ps_ret (pe_mth M_Session_read hr (pv 0) (pa_cons (pv 1) (pa_cons (pv 2) pa_nil)))))), ?_⟩))
  · obtain ⟨ses, sl, door, v, gs, sts, N, M, rfl, _⟩ := h
    rfl
  · obtain ⟨ses, sl, door, v, gs, sts, N, M, rfl, off, x, d, due, q, gw, gr⟩ := h
    obtain ⟨dxs, es⟩ := x.es
    unfold sesM at q gw gr
    refine ⟨_, rfl, _, _, rfl, rfl, _, rfl, ?_⟩
    by_cases c6 : door ≤ 6
    · rw [if_pos c6] at q gw gr
      refine itT (decide_eq_true c6) ⟨_, rfl, _, rfl, door, v, gs, M, rfl, off, d, due.four, due.few, due.tabs, ?_⟩
      cases hres : logRes door gs with
      | ok dd => exact fun r H1 s1 d1 => q dd hres r H1 N M sts (Next.refl x off s1) d1
      | wrong m => exact gw m hres
      | range m => exact gr m hres
    · rw [if_neg c6] at q gw gr
      refine itF (decide_eq_false c6) ⟨_, rfl, _, _, rfl, rfl, _, rfl, ?_⟩
      obtain ⟨p, hp, hp0⟩ := due.slot (by omega)
      by_cases c8 : door ≤ 8
      · rw [if_pos c8] at q
        exact itT (decide_eq_true c8) ⟨_, rfl, ses, dxs, _, rfl, es, ss_meth (by decide +kernel), _, rfl, _, rfl, ses, sl, door, v, gs, sts, p, N, M, rfl, off, x, d, due.four, due.few, hp0, hp, due.reps, fun r H1 N' M' sts' nx d1 => q nothingD rfl r H1 N' M' sts' nx d1⟩
      · rw [if_neg c8] at q
        obtain ⟨s, hs, h10⟩ := due.col (by omega)
        have hslot : slotN gs = p := by unfold slotN; rw [hp0]; exact Int.toNat_natCast p
        rw [hslot] at hs
        exact itF (decide_eq_false c8) ⟨_, rfl, ses, dxs, _, rfl, es, ss_meth (by decide +kernel), _, rfl, _, rfl, ses, sl, door, v, gs, sts, p, s, N, M, rfl, off, x, d, due.four, due.few, hp0, hs, h10, fun r H1 N' M' sts' nx d1 => q _ rfl r H1 N' M' sts' nx d1⟩
end
end Pg

/-! PhC: read_given, answered -/
namespace Pg
open PySem PySem.Spec PyProof.Rows L2 L2H
/-- what is told of a door's result -/
def Tells : Res → List UInt8 → Prop
  | .ok d, out => ∃ x, d = datOf x ∧ plain x = true ∧ RWire.fine x = true ∧ RWire.depth x ≤ 32 ∧ (RWire.write x).length ≤ 65536 ∧ out = 0 :: RWire.write x
  | .wrong m, out => ∃ u, codes m = octs u ∧ m.cps.all (· < 128) = true ∧ u.length ≤ 1000 ∧ out = 1 :: 1 :: RWire.writeText u
  | .range m, out => ∃ u, codes m = octs u ∧ m.cps.all (· < 128) = true ∧ u.length ≤ 1000 ∧ out = 1 :: 2 :: RWire.writeText u
def fourMore (l : List RWire.Value) : List RWire.Value := l ++ List.replicate 4 .nothing
structure ExcF (K : PySem.W.Frag) (XO XW : Addr) : Prop where
  ww : PySem.W.exmOne K (.ref XW) (.ref XW) = some true
  ow : PySem.W.exmOne K (.ref XO) (.ref XW) = some false
  oo : PySem.W.exmOne K (.ref XO) (.ref XO) = some true
def refuseC (C XC : Addr) (k : Int) : Clause := fun a cls d => match d with
  | some t => tRet (tOwn (spRefusal C) (tCons (tC (.int k)) (tCons (tStrE XC a t cls (tVar 3)) tNil)))
  | none => fun _ _ _ => False
def tMthS (C : Addr) (m : Str) (sp : Sp) (E : L2.St → XK) (ta : TE) (t : TA) : TE := fun σ H Q => ta σ H fun x H1 => ∃ a dx fs, x = .ref a ∧ H1 a = some (.ins C dx fs) ∧ fs.lookup m = none ∧ t σ H1 fun vs H2 => sp (x :: vs) H2 Q (E σ)
theorem pe_methM {X : Cx} {W : WX} {C : Addr} {k j : Nat} {m : Str} {ps : List Str} {sp : Sp} {pos apos : Pos} {e o : Expr} {es : List Expr} {ta : TE} {t : TA} {pl : Sem Bool} (O : OwnM X.prog X.w X.K X.mg X.base (CXm X.prog X.w) C k m ps sp) (hr : Room j X.A) (he : PE X o ta) (tk : TakesM X W) (ha : PA X (e :: es) t)
    (hk : k ≤ j := by first | decide | omega) (hst : starEach (e :: es) X.env = (false, eval e X.env) :: starEach es X.env := by rfl) (hpl : (backTo pos (starEach es X.env)).any (·.1) = false := by rfl)
    (ht : eval (.Call (.Attribute o m apos) (e :: es) [] pos) X.env = (do
      let ov ← eval o X.env
      standAt apos.atName
      let (f, first) ← holding [ov] (getMethod ov m pl)
      callWith pos f first (backTo pos (starEach (e :: es) X.env)) (backToKw pos (keywordEach [] X.env))) := by rfl) :
    PE X (.Call (.Attribute o m apos) (e :: es) [] pos) (tMthS C m sp (WE W) ta t) := by
  obtain ⟨f, fd, c, hm, b, F⟩ := O.ex
  refine ⟨fun pins s σ H Q I h => ?_⟩
  refine PySem.W.methodCall_KW (pl := pl) (thn (he.run pins s σ H _ I h) fun u s1 ⟨x, H1, I1, rx, a, dx, fs, ex, ea, l, q⟩ => ?_) ht
  subst ex
  obtain rfl : u = Value.ref a := rx
  refine getmeth_ok I1 ea c hm l ?_
  refine PySem.W.callWith_K (first := [.ref a]) (h₀ := X.base) I.ok.mod.kin hm.kp (thn (ha.run pos pins s1 σ H1 _ I1 q) fun us s2 ⟨vs, H2, I2, r, q2⟩ => ⟨I2.kIn, ?_⟩) hst hpl
  exact run_fnS (us := .ref a :: us) (vs := .ref a :: vs) F (hr.mono hk) b (passAtM tk σ) I2 (.cons rfl r) q2
abbrev s_read_given : Stmt := top 100
abbrev n_read_given : List Str := ["octets", "given", "place", "turn"]
abbrev p_read_given : List Str := ["octets"]
theorem sc_read_given : FnScope n_read_given p_read_given (defScope s_read_given) := ⟨rfl, rfl, rfl, by decide +kernel, rfl, by decide +kernel, by decide +kernel⟩
abbrev s_answered : Stmt := top 102
abbrev n_answered : List Str := ["session", "octets", "value", "error"]
abbrev p_answered : List Str := ["session", "octets"]
theorem sc_answered : FnScope n_answered p_answered (defScope s_answered) := ⟨rfl, rfl, rfl, by decide +kernel, rfl, by decide +kernel, by decide +kernel⟩
section
variable (C CC CZ XO XW : Addr)
def spReadGiven : Sp := fun vs H Q _ => ∃ (v : V) (bs : List UInt8) (n : UInt8) (l : List RWire.Value) (M : List Addr), vs = [v] ∧ Off M H ∧ DAt C M H v (dI (octs bs)) ∧ bs.length ≤ 60000 ∧ bs[2]? = some n ∧ RWire.readMany (RWire.readF 32) n.toNat (bs.drop 3) = some (l, []) ∧ plains l = true ∧ Gives C M H Q (.lst (datsOf (fourMore l)))
def spAnswered : Sp := fun vs H Q _ => ∃ (ses sl : Addr) (v : V) (bs : List UInt8) (door : Nat) (l : List RWire.Value) (out : List UInt8) (sts : List Slot) (N M : List Addr), vs = [.ref ses, v] ∧ Off M H ∧ SesAt C CC CZ N M H ses sl sts ∧ DAt C M H v (dI (octs bs)) ∧ bs.length ≤ 60000 ∧
  RWire.readRequest bs = some (door, l) ∧ plains l = true ∧ Due (door : Nat) (fourMore l) (absS sts) ∧ Tells (sesM (door : Nat) (fourMore l) (absS sts)).2 out ∧
  ∀ p H' N' M' sts', Next C CC CZ N M H ses sl (sesM (door : Nat) (fourMore l) (absS sts)).1 N' M' H' sts' → p ∉ M → H' p = some (.lst (iV (octs out))) → Q (.ref p) H'
end
theorem datsOf_app : ∀ a b : List RWire.Value, datsOf (a ++ b) = datsOf a ++ datsOf b
  | [], b => rfl
  | x :: a, b => by
    show datOf x :: datsOf (a ++ b) = datOf x :: (datsOf a ++ datsOf b)
    rw [datsOf_app a b]
section
variable {P : Program} {w : World} {K : PySem.W.Frag} {mg : Str → Option Value} {base : Heap} {C XO XW CC CZ : Addr} {f : Addr} {fd : FuncData}
theorem ok_read_given (D : Df K mg "read_given" s_read_given p_read_given f fd) (B : Blt mg) (Kc : Csts mg) (O_read_values : Own P w K mg base CX0 69 "read_values" p_read_values (spReadValues C 32)) (O_simple_value : Own P w K mg base CX0 3 "simple_value" p_simple_value (spSimple C)) :
    Own P w K mg base CX0 70 "read_given" p_read_given (spReadGiven C) := by
  refine D.own (D.F.ok sc_read_given (fun vs H Q E h => ?_) (fun cdv A outer s H vs Q E hr h => ⟨_, pss_cons (ps_asg (pe_own O_read_values hr (pa_cons (pv 0) (pa_cons pe_int (pa_cons (pe_ix (ix_listK (K := K) rfl) (pv 0) pe_int (fun _ _ => rfl)) pa_nil)))) (pg_tup rfl (pgs_cons (pg_name (i := 1) sc_read_given.nd rfl (Or.inl rfl)) (pgs_cons (pg_name (i := 2) sc_read_given.nd rfl (Or.inl rfl)) pgs_nil)))) (pss_one (ps_ret (pe_op op_cat (pv 1) (pe_lc (own := [("turn", 3)]) (g := gName 3) (tt := tYes) rfl sc_read_given.nd (pi_range1 rfl B.range (pa_cons pe_int pa_nil)) (blkOk_by (N := n_read_given) (sc := defScope s_read_given) (by decide +kernel)) (fun _ _ _ _ _ => pg_name (i := 3) sc_read_given.nd rfl (Or.inl rfl)) (fun _ _ _ _ _ => pts_nil) (fun _ _ _ _ _ => (pe_own O_simple_value hr (pa_cons (pe_k Kc.NOTHING) pa_nil))))))), ?_⟩))
  · obtain ⟨v, bs, n, l, M, rfl, _⟩ := h
    rfl
  · obtain ⟨v, bs, n, l, M, rfl, off, d, hb, hn, hm, hp, g⟩ := h
    obtain ⟨a, rfl, _, ea⟩ := d.dIAt
    have h2 := get_some hn
    have hget : ((octs bs).map V.int)[2]? = some (.int (n.toNat : Int)) := by rw [List.getElem?_map, octs_get hn]; rfl
    have hn255 : n.toNat < 256 := n.toNat_lt
    have hlen := (readMany_len (f := RWire.readF 32) (ok := fun x => plain x = true) (fun b x r => readF_len 32 b r x) _ _ _ _ hm (plains_mem hp)).2
    refine ⟨_, rfl, _, rfl, a, _, 2, _, rfl, rfl, SqL.of ea, atI_nat (j := 2) hget, ?_⟩
    refine ⟨.ref a, bs, [], l, 3, n.toNat, M, rfl, off, d, by omega, hb, by omega, hm, hp, fun a' ha' hr' r1 H1 s1 d1 => ?_⟩
    obtain ⟨t, u, rfl, et, du⟩ := pair_at d1
    obtain ⟨p, xs, rfl, _, ep, dx⟩ := du.lstAt
    have hxl : xs.length = l.length := by rw [dx.length, datsOf_length]
    have o1 := off.same s1
    refine ⟨t, _, rfl, SqT.of et, rfl, _, _, rfl, _, _, rfl, rfl, ?_⟩
    refine ⟨_, rfl, 4, rfl, by omega, by omega, fun D hD => ?_⟩
    rw [show (4 : Int).toNat = 4 from rfl]
    refine lc_rangeF (C := C) (M := M) (tt := tYes) (lo := 0) (n := 4) (fun _ => true) (fun _ => nothingD) o1 hD (by rw [sizeLine_eq]; omega) (fun j H' Q' _ _ _ q => q H' (Same.refl _)) (fun j H' Q' _ _ s o q => ⟨0, D :: M, rfl, o, fun r H4 s4 d4 => q r H4 s4 d4⟩) fun H2 s2 d2 => ?_
    rw [pick_all] at d2
    obtain ⟨D', zs, eD, _, e2, dz⟩ := d2.lstAt
    cases eD
    have hzl : zs.length = 4 := by rw [dz.length]; rfl
    refine ⟨p, D, xs, zs, rfl, rfl, s2 _ _ ep, e2, by rw [hxl, hzl, hlen, sizeLine_eq]; omega, fun q hq => ?_⟩
    have e4 : datsOf (fourMore l) = datsOf l ++ (List.range 4).map (fun _ => nothingD) := by
      unfold fourMore
      rw [datsOf_app]
      congr 1
    refine g _ _ ((s1.trans s2).trans (Same.new hq)) ?_
    rw [e4]
    exact (new_lst (C := C) (o1.same s2) hq ((dx.same s2).append dz)).2.2
theorem request_parts {bs : List UInt8} {door : Nat} {l : List RWire.Value} (h : RWire.readRequest bs = some (door, l)) : ∃ n, bs[2]? = some n ∧ RWire.readMany (RWire.readF 32) n.toNat (bs.drop 3) = some (l, []) ∧ RWire.numOf ((bs.drop 0).take 2) = door ∧ 3 ≤ bs.length := by
  match bs, h with
  | [], h => simp [RWire.readRequest] at h
  | [_], h => simp [RWire.readRequest] at h
  | [_, _], h => simp [RWire.readRequest] at h
  | a :: b :: n :: r, h =>
    change (match RWire.readArgs n.toNat r with | none => none | some l => some (a.toNat + 256 * b.toNat, l)) = some (door, l) at h
    cases hz : RWire.readArgs n.toNat r with
    | none => rw [hz] at h; cases h
    | some l' =>
      rw [hz] at h
      cases h
      refine ⟨n, rfl, ?_, ?_, by simp⟩
      · unfold RWire.readArgs at hz
        show RWire.readMany (RWire.readF 32) n.toNat r = _
        change (match RWire.readMany (RWire.readF 32) n.toNat r with | some (l, []) => some l | _ => none) = _ at hz
        cases hm : RWire.readMany (RWire.readF 32) n.toNat r with
        | none => rw [hm] at hz; cases hz
        | some p =>
          rw [hm] at hz
          obtain ⟨l2, r2⟩ := p
          cases r2 with
          | nil => cases hz; rfl
          | cons _ _ => cases hz
      · show RWire.numOf [a, b] = _
        simp [RWire.numOf]
theorem ok_answered (D : Df K mg "answered" s_answered p_answered f fd) (B : Blt mg) (TZ : ClS K CZ) (XF : ExcF K XO XW) (X_WrongKind : XCls K mg "WrongKind" XW) (X_OutOfRange : XCls K mg "OutOfRange" XO) (M_Session_returned : OwnM P w K mg base (CXm P w) CZ 11 "returned" p_Session_returned (spReturned C CC CZ XO XW))
    (O_read_low_first : Own P w K mg base CX0 1 "read_low_first" p_read_low_first (spReadLow C)) (O_read_given : Own P w K mg base CX0 70 "read_given" p_read_given (spReadGiven C)) (O_write_value : Own P w K mg base CX0 67 "write_value" p_write_value (spWriteValue C 32)) (O_refusal : OwnH P w K mg base 3 "refusal" p_refusal (spRefusal C)) :
    Own P w K mg base CX0 71 "answered" p_answered (spAnswered C CC CZ) := by
  refine D.own (D.F.ok sc_answered (fun vs H Q E h => ?_) (fun cdv A outer s H vs Q E hr h => ⟨_, pss_cons (ps_tryM (i := 3) (Wout := fun _ _ _ _ => False) rfl rfl sc_answered.nd rfl rfl takesM0
      (fun W pn xe tk po => pss_one (ps_set (i := 2) sc_answered.nd rfl (Or.inl rfl) (pe_methM M_Session_returned hr (pv 0) tk (pa_cons (pe_own O_read_low_first hr (pa_cons (pv 1) (pa_cons pe_int (pa_cons pe_int pa_nil)))) (pa_cons (pe_own O_read_given hr (pa_cons (pv 1) pa_nil)) pa_nil)))))
      (HdsM.cons (c := .ref XW) (ts := refuseC C XW 1) ⟨rfl, by decide, .inl X_WrongKind.g⟩ (fun a oe cls t pn hz hd => pss_one (ps_ret (pe_ownH O_refusal (room_suite hr) (hot_suite hz hd) (pa_cons pe_int (pa_cons (pe_strE X_WrongKind hz hd B.str hr (pv 3)) pa_nil)))))
      (HdsM.cons (c := .ref XO) (ts := refuseC C XO 2) ⟨rfl, by decide, .inl X_OutOfRange.g⟩ (fun a oe cls t pn hz hd => pss_one (ps_ret (pe_ownH O_refusal (room_suite hr) (hot_suite hz hd) (pa_cons pe_int (pa_cons (pe_strE X_OutOfRange hz hd B.str hr (pv 3)) pa_nil))))) HdsM.nil)))
      (pss_one (ps_ret (pe_op op_cat (pe_lst (pa_cons pe_int pa_nil)) (pe_own O_write_value hr (pa_cons (pv 2) pa_nil))))), ?_⟩))
  · obtain ⟨ses, sl, v, bs, door, l, out, sts, N, M, rfl, _⟩ := h
    rfl
  · obtain ⟨ses, sl, v, bs, door, l, out, sts, N, M, rfl, off, x, d, hb, hreq, hp, due, tells, q⟩ := h
    obtain ⟨n, hn, hm, hdoor, h3⟩ := request_parts hreq
    obtain ⟨dxs, es⟩ := x.es
    refine ⟨_, rfl, ses, dxs, _, rfl, es, ss_meth (by decide +kernel), ?_⟩
    refine ⟨_, rfl, v, bs, 0, 2, M, rfl, d, by omega, by decide, hb, ?_⟩
    rw [hdoor]
    refine ⟨_, rfl, v, bs, n, l, M, rfl, off, d, hb, hn, hm, hp, fun r1 H1 s1 d1 => ?_⟩
    have off1 := off.same s1
    refine ⟨ses, sl, (door : Nat), r1, fourMore l, sts, N, M, rfl, off1, x.same s1, d1, due, fun dd hres r2 H2 N' M' sts' nx d2 => ?_, fun m hres => ?_, fun m hres => ?_⟩
    · rw [hres] at tells
      obtain ⟨y, rfl, py, fy, hy, ly, rfl⟩ := tells
      have nx0 : Next C CC CZ N M H ses sl (sesM (door : Nat) (fourMore l) (absS sts)).1 N' M' H2 sts' := Next.from s1 nx
      refine ⟨by show 1 ≤ sizeLine; rw [sizeLine_eq]; omega, fun p hp' => ?_⟩
      have s3 : Same H2 (upd H2 p (.lst [.int 0])) := Same.new hp'
      refine ⟨_, rfl, r2, y, M', rfl, nx.off.same s3, d2.same s3, py, fy, hy, ly, fun r4 H4 s4 d4 => ?_⟩
      obtain ⟨w4, rfl, _, e4⟩ := d4.dIAt
      refine ⟨p, w4, _, _, rfl, rfl, s4 _ _ upd_same, e4, by rw [List.length_map, octs_length, sizeLine_eq]; show 1 + _ ≤ _; omega, fun z hz => ?_⟩
      have nz : z ∉ M' := ((nx.off.same s3).same s4).new hz
      exact q z _ N' M' sts' (((nx0.more s3).more s4).more (Same.new hz)) (fun h => nz (nx.sub z h)) upd_same
    · rw [hres] at tells
      obtain ⟨u, hu, hasc, hul, rfl⟩ := tells
      intro t H2 s2 et
      refine ⟨true, XF.ww, fun _ a ha => ?_, fun z => nomatch z⟩
      refine ⟨_, rfl, rfl, rfl, m, et, 1, m, u, M, rfl, off1.same s2, hu, hasc, hul, fun r3 H3 s3 d3 => ?_⟩
      obtain ⟨w3, rfl, nw3, e3⟩ := d3.dIAt
      have e1 : (sesM (door : Nat) (fourMore l) (absS sts)).1 = absS sts := by
        unfold sesM at hres ⊢
        split at hres
        · next c => rw [if_pos c]
        · split at hres <;> cases hres
      have nx := Next.refl x off ((s1.trans s2).trans s3)
      rw [← e1] at nx
      exact q w3 H3 N M sts nx nw3 e3
    · rw [hres] at tells
      obtain ⟨u, hu, hasc, hul, rfl⟩ := tells
      intro t H2 s2 et
      refine ⟨false, XF.ow, (fun z => nomatch z), fun _ => ⟨true, XF.oo, fun _ a ha => ?_, fun z => nomatch z⟩⟩
      refine ⟨_, rfl, rfl, rfl, m, et, 2, m, u, M, rfl, off1.same s2, hu, hasc, hul, fun r3 H3 s3 d3 => ?_⟩
      obtain ⟨w3, rfl, nw3, e3⟩ := d3.dIAt
      have e1 : (sesM (door : Nat) (fourMore l) (absS sts)).1 = absS sts := by
        unfold sesM at hres ⊢
        split at hres
        · next c => rw [if_pos c]
        · split at hres <;> cases hres
      have nx := Next.refl x off ((s1.trans s2).trans s3)
      rw [← e1] at nx
      exact q w3 H3 N M sts nx nw3 e3
end
end Pg

/-! PhD: answers -/
namespace Pg
open PySem PySem.Spec PyProof.Rows L2
/-- requests one behind the other, as one list of numbers -/
def flatR : List (List UInt8) → List Int
  | [] => []
  | b :: r => 0 :: (b.length : Int) :: octs b ++ flatR r
def toldR : List (List UInt8) → List Int
  | [] => []
  | b :: r => (b.length : Int) :: octs b ++ toldR r
/-- these answers are due to these requests -/
inductive Plays : SS → List (List UInt8) → List (List UInt8) → Prop
  | nil (ss : SS) : Plays ss [] []
  | cons {ss : SS} {bs out : List UInt8} {door : Nat} {l : List RWire.Value} {cs outs : List (List UInt8)} : bs.length ≤ 60000 → RWire.readRequest bs = some (door, l) → plains l = true → Due (door : Nat) (fourMore l) ss → Tells (sesM (door : Nat) (fourMore l) ss).2 out →
      Plays (sesM (door : Nat) (fourMore l) ss).1 cs outs → Plays ss (bs :: cs) (out :: outs)
theorem flatR_app : ∀ a b : List (List UInt8), flatR (a ++ b) = flatR a ++ flatR b
  | [], b => rfl
  | x :: a, b => by
    show 0 :: (x.length : Int) :: octs x ++ flatR (a ++ b) = (0 :: (x.length : Int) :: octs x ++ flatR a) ++ flatR b
    rw [flatR_app a b]
    simp
theorem toldR_app : ∀ a b : List (List UInt8), toldR (a ++ b) = toldR a ++ toldR b
  | [], b => rfl
  | x :: a, b => by
    show (x.length : Int) :: octs x ++ toldR (a ++ b) = ((x.length : Int) :: octs x ++ toldR a) ++ toldR b
    rw [toldR_app a b]
    simp
/-- a class that is made -/
structure OwnS (P : Program) (w : World) (K : PySem.W.Frag) (mg : Str → Option Value) (base : Heap) (CZ : Addr) : Prop where
  ex : ∃ (f : Addr) (fd : FuncData), mg "Session" = some (.ref CZ) ∧ Mk K CZ f ∧ Binds K fd p_Session_init [] ∧ FnOk P w K mg base CX0 1 f fd p_Session_init (spSInit CZ)
theorem pe_ses {X : Cx} {CZ : Addr} {j : Nat} {p pos : Pos} (O : OwnS X.prog X.w X.K X.mg X.base CZ) (hr : Room j X.A) (hk : 2 ≤ j := by first | decide | omega) (hg : Gl X "Session" := by rfl) :
    PE X (.Call (.Name "Session" p) [] [] pos) (tMake CZ (spSInit CZ) [] E0 tNil) := by
  obtain ⟨f, fd, g, M, b, F⟩ := O.ex
  exact pe_make0 (p := p) (pos := pos) M F (hr.mono hk) hg g b .nil pass0 (by decide)
theorem SesAt.upd {C CC CZ : Addr} {N M : List Addr} {H : Hp} {ses sl q : Addr} {sts : List Slot} {o : HO} (x : SesAt C CC CZ N M H ses sl sts) (hq : q ∈ M) (nq : q ∉ N) : SesAt C CC CZ N M (L2.upd H q o) ses sl sts := by
  have ne : ∀ b ∈ N, b ≠ q := fun b hb z => nq (by rw [← z]; exact hb)
  refine ⟨x.sub, x.ms, x.ml, let ⟨dx, e⟩ := x.es; ⟨dx, by rw [upd_ne (ne _ x.ms)]; exact e⟩, by rw [upd_ne (ne _ x.ml)]; exact x.el, x.len, fun i c l t h => ?_, x.ne⟩
  obtain ⟨a1, a2, a3, a4, a5⟩ := x.at_ i c l t h
  exact ⟨a1.other (N := [q]) (SameB.upd (by simp)) (fun b hb => by simp at hb; rw [hb]; exact hq) (by simpa using ne _ a4) (by simpa using ne _ a5), a2, a3, a4, a5⟩
abbrev s_answers : Stmt := top 104
abbrev n_answers : List Str := ["calls", "session", "found", "at", "behind", "octets"]
abbrev p_answers : List Str := ["calls"]
theorem sc_answers : FnScope n_answers p_answers (defScope s_answers) := ⟨rfl, rfl, rfl, by decide +kernel, rfl, by decide +kernel, by decide +kernel⟩
def spAnswers (K : PySem.W.Frag) : Sp := fun vs H Q _ => ∃ (a : Addr) (cs outs : List (List UInt8)), vs = [.ref a] ∧ SqL K H a (iV (flatR cs)) ∧ Plays [none, none, none] cs outs ∧ (toldR outs).length ≤ 10000000 ∧ ∀ p H', H' p = some (.lst (iV (toldR outs))) → Q (.ref p) H'
def leftOf (n : Nat) (σ : List (Option V)) : Nat := match σ[3]? with
  | some (some (V.int i)) => n - i.toNat
  | _ => 0
section
variable {P : Program} {w : World} {K : PySem.W.Frag} {mg : Str → Option Value} {base : Heap} {C XO XW CC CZ : Addr} {f : Addr} {fd : FuncData}
theorem ok_answers (D : Df K mg "answers" s_answers p_answers f fd) (B : Blt mg) (OS : OwnS P w K mg base CZ) (O_answered : Own P w K mg base CX0 71 "answered" p_answered (spAnswered C CC CZ)) : FnOk P w K mg base CX0 72 f fd p_answers (spAnswers K) := by
  refine D.F.ok sc_answers (fun vs H Q E h => ?_) (fun cdv A outer s H vs Q E hr h => ⟨_, pss_cons (ps_set (i := 1) sc_answers.nd rfl (Or.inl rfl) (pe_ses OS hr)) (pss_cons (ps_set (i := 2) sc_answers.nd rfl (Or.inl rfl) (pe_lst pa_nil)) (pss_cons (ps_set (i := 3) sc_answers.nd rfl (Or.inl rfl) pe_int) (pss_cons (ps_while PassesOwn.never (pt_cmpR op_lt (pv 3) (pe_callB (call_lenK (K := K) rfl) rfl B.len boot_len (pa_cons (pv 0) pa_nil)) (nomark _)) (pss_cons (ps_set (i := 4) sc_answers.nd rfl (Or.inl rfl) (pe_op op_add (pe_op op_add (pv 3) pe_int) (pe_ix (ix_listK (K := K) rfl) (pv 0) (pe_op op_add (pv 3) pe_int) (fun _ _ => rfl)))) (pss_cons (ps_set (i := 5) sc_answers.nd rfl (Or.inl rfl) (pe_own O_answered hr (pa_cons (pv 1) (pa_cons (pe_slice sl_list (pv 0) (po_some (pe_op op_add (pv 3) pe_int)) (po_some (pv 4))) pa_nil)))) (pss_cons (ps_expr (pe_bm PySem.F.plainAttrs_list PySem.F.slot_list_append PySem.F.type_list_append mt_append (pv 2) (pa_cons (pe_callB (call_lenK (K := K) rfl) rfl B.len boot_len (pa_cons (pv 5) pa_nil)) pa_nil))) (pss_cons (ps_expr (pe_bm PySem.F.plainAttrs_list PySem.F.slot_list_extend PySem.F.type_list_extend mt_extend (pv 2) (pa_cons (pv 5) pa_nil))) (pss_one (ps_set (i := 3) sc_answers.nd rfl (Or.inl rfl) (pv 4)))))))) (pss_one (ps_ret (pv 2)))))), ?_⟩)
  · obtain ⟨a, cs, outs, rfl, _⟩ := h
    rfl
  · obtain ⟨a, cs, outs, rfl, sq, plays, htot, g⟩ := h
    refine fun ses dx nx nd ne => ⟨ses, dx, rfl, upd_same, fun sl H1 hsl t es el => ⟨rfl, ?_⟩⟩
    have hss : sl ≠ ses := fun z => by rw [z, upd_same] at hsl; cases hsl
    have hsd : sl ≠ dx := fun z => by rw [z, upd_ne ne, upd_same] at hsl; cases hsl
    have hslH : H sl = none := by rw [upd_ne hss, upd_ne hsd] at hsl; exact hsl
    have S1 : Same H H1 := fun b o e => t b o ((Same.updNew (Same.new nd) nx) b o e) (by simp only [List.mem_singleton]; exact ne_of_none e nx)
    refine ⟨zero_line, fun q hq => ?_⟩
    have nqs : q ≠ ses := fun z => by rw [z, es] at hq; cases hq
    have nql : q ≠ sl := fun z => by rw [z, el] at hq; cases hq
    have hqH := S1.free hq
    have S2 : Same H (upd H1 q (.lst [])) := Same.updNew S1 hqH
    have hz : ∀ i : Nat, ([none, none, none] : List Slot)[i]? = none ∨ ([none, none, none] : List Slot)[i]? = some none := by
      intro i
      match i with
      | 0 => exact .inr rfl
      | 1 => exact .inr rfl
      | 2 => exact .inr rfl
      | i + 3 => exact .inl rfl
    have x0 : SesAt C CC CZ [ses, sl] [q, ses, sl] (upd H1 q (.lst [])) ses sl [none, none, none] := by
      refine ⟨fun b hb => List.mem_cons_of_mem _ hb, by simp, by simp, ⟨dx, by rw [upd_ne (Ne.symm nqs)]; exact es⟩, by rw [upd_ne (Ne.symm nql)]; exact el, rfl, fun i c l s hi => ?_, fun i j c l s c' l' s' _ hi => ?_⟩
      · rcases hz i with z | z <;> rw [z] at hi <;> cases hi
      · rcases hz i with z | z <;> rw [z] at hi <;> cases hi
    show tWhile _ _ _ [some (V.ref a), some (V.ref ses), some (V.ref q), some (V.int 0), none, none] (L2.upd H1 q (.lst []))
    refine while_by (fun σ H' => ∃ (cs1 outs1 cs2 outs2 : List (List UInt8)) (sts : List Slot) (N M : List Addr) (z z2 : Option V), cs = cs1 ++ cs2 ∧ outs = outs1 ++ outs2 ∧ σ = [some (.ref a), some (.ref ses), some (.ref q), some (.int ((flatR cs1).length : Nat)), z, z2] ∧ Same H H' ∧
      SesAt C CC CZ N M H' ses sl sts ∧ Off M H' ∧ q ∈ M ∧ q ∉ N ∧ (∀ b ∈ N, H b = none) ∧ H' q = some (.lst (iV (toldR outs1))) ∧ Plays (absS sts) cs2 outs2) (fun σ H' => leftOf (flatR cs).length σ)
      ⟨[], [], cs, outs, [none, none, none], [ses, sl], [q, ses, sl], none, none, rfl, rfl, rfl, S2, x0, ?_, by simp, by simp [nqs, nql], ?_, upd_same, plays⟩ ?_ ?_
    · intro b hb
      simp only [List.mem_cons, List.not_mem_nil, or_false] at hb
      rcases hb with z | z | z
      · rw [z]; exact ⟨_, upd_same⟩
      · rw [z]; exact ⟨_, by rw [upd_ne (Ne.symm nqs)]; exact es⟩
      · rw [z]; exact ⟨_, by rw [upd_ne (Ne.symm nql)]; exact el⟩
    · intro b hb
      simp only [List.mem_cons, List.not_mem_nil, or_false] at hb
      rcases hb with z | z
      · rw [z]; exact nx
      · rw [z]; exact hslH
    · rintro σ H' ⟨cs1, outs1, cs2, outs2, sts, N, M, z, z2, hcs, houts, rfl, S, x, off, mq, nq, hN, eq, pl⟩
      have sq' : SqL K H' a (iV (flatR cs)) := S.seq sq
      refine ⟨_, rfl, _, rfl, a, _, rfl, .inl sq', _, _, rfl, rfl, _, rfl, ?_⟩
      rw [List.length_map]
      have hfl : flatR cs = flatR cs1 ++ flatR cs2 := by rw [hcs, flatR_app]
      cases pl with
      | nil =>
        refine itF (decide_eq_false ?_) ⟨_, rfl, ?_⟩
        · rw [hfl]; simp [flatR]
        · rw [List.append_nil] at houts
          rw [← houts] at eq
          exact g q _ eq
      | @cons _ bs out door l cs3 outs3 hb hreq hp due tells pl2 =>
        have e2 : flatR (bs :: cs3) = 0 :: (bs.length : Int) :: octs bs ++ flatR cs3 := rfl
        have hlen : (flatR cs).length = (flatR cs1).length + (2 + bs.length + (flatR cs3).length) := by
          rw [hfl, e2]
          simp [octs_length]
          omega
        generalize hat : (flatR cs1).length = at_ at hlen
        have hnum : (iV (flatR cs))[at_ + 1]? = some (.int (bs.length : Nat)) := by
          rw [List.getElem?_map, hfl, e2, List.getElem?_append_right (by omega), hat]
          simp
        refine itT (decide_eq_true (by omega)) ?_
        refine ⟨_, rfl, _, _, rfl, rfl, _, rfl, _, rfl, _, _, rfl, rfl, a, _, _, _, rfl, rfl, sq', at_of (j := at_ + 1) (by show (at_ : Int) + 1 = _; omega) hnum, _, _, rfl, rfl, ?_⟩
        refine ⟨_, rfl, _, rfl, _, rfl, _, _, rfl, rfl, _, rfl, _, rfl, _, rfl, a, _, rfl, sq', fun p hp' => ?_⟩
        have ecut : cutV (iV (flatR cs)) (some ((at_ : Int) + 2)) (some ((at_ : Int) + 2 + (bs.length : Nat))) = iV (octs bs) := by
          rw [show (at_ : Int) + 2 = ((at_ + 2 : Nat) : Int) from by omega, show ((at_ + 2 : Nat) : Int) + (bs.length : Nat) = ((at_ + 2 + bs.length : Nat) : Int) from by omega, cut_any, ← List.map_drop, ← List.map_take, hfl, e2]
          congr 1
          have h1 : (flatR cs1 ++ (0 :: (bs.length : Int) :: octs bs ++ flatR cs3)).drop (at_ + 2) = octs bs ++ flatR cs3 := by
            rw [← hat]
            simp [List.drop_append]
          rw [h1, List.take_append_of_le_length (by rw [octs_length]; exact Nat.le_refl _), List.take_of_length_le (by rw [octs_length]; exact Nat.le_refl _)]
        have ecut' : (HO.lst (cutV (iV (flatR cs)) (some ((at_ : Int) + 2)) (some ((at_ : Int) + 2 + (bs.length : Nat))))) = HO.lst (iV (octs bs)) := congrArg HO.lst ecut
        have Sp : Same H' (L2.upd H' p (.lst (cutV (iV (flatR cs)) (some ((at_ : Int) + 2)) (some ((at_ : Int) + 2 + (bs.length : Nat)))))) := Same.new hp'
        have np : p ∉ M := off.new hp'
        refine ⟨ses, sl, .ref p, bs, door, l, out, sts, N, M, rfl, off.same Sp, x.same Sp, .dI np (by rw [upd_same]; exact congrArg some ecut'), hb, hreq, hp, due, tells, fun w3 H3 N3 M3 sts3 nx3 nw3 e3 => ?_⟩
        have S3 : Same H H3 := fun b o e => nx3.same b o (Sp b o (S b o e)) fun z => by rw [hN b z] at e; cases e
        have eq3 : H3 q = some (.lst (iV (toldR outs1))) := nx3.same q _ (Sp _ _ eq) nq
        have nwq : w3 ≠ q := fun z => nw3 (by rw [z]; exact mq)
        have hoct : (iV (octs out)).length = out.length := by rw [List.length_map, octs_length]
        have htl : (toldR outs).length = (toldR outs1).length + (1 + out.length + (toldR outs3).length) := by
          rw [houts, toldR_app]
          show (toldR outs1 ++ ((out.length : Int) :: octs out ++ toldR outs3)).length = _
          simp [octs_length]
          omega
        refine ⟨_, rfl, .inl ⟨rfl, _, SqL.of eq3⟩, _, rfl, w3, _, rfl, .inl (SqL.of e3), q, _, _, rfl, rfl, eq3, by rw [List.length_map, sizeLine_eq]; omega, ?_⟩
        refine ⟨_, rfl, .inl ⟨rfl, _, SqL.of upd_same⟩, _, rfl, q, w3, _, _, rfl, rfl, upd_same, (by rw [upd_ne nwq]; exact e3), by rw [List.length_append, List.length_map, List.length_map, octs_length, sizeLine_eq]; simp only [List.length_singleton]; omega, ?_⟩
        have hl2 : (((flatR (cs1 ++ [bs])).length : Nat) : Int) = (at_ : Int) + 2 + (bs.length : Nat) := by
          rw [flatR_app, List.length_append, hat]
          show ((at_ + (0 :: (bs.length : Int) :: octs bs ++ []).length : Nat) : Int) = _
          simp [octs_length]
          omega
        have nq3 : q ∉ N3 := fun z => by
          rcases nx3.newN q z with z | z
          · exact nq z
          · rw [Sp _ _ eq] at z; cases z
        refine ⟨_, rfl, ⟨cs1 ++ [bs], outs1 ++ [out], cs3, outs3, sts3, N3, M3, some (.int ((at_ : Int) + 2 + (bs.length : Nat))), some (.ref w3), by rw [hcs]; simp, by rw [houts]; simp, ?_, Same.updNew (Same.updNew S3 hqH) hqH, (nx3.ses.upd (nx3.sub q mq) nq3).upd (nx3.sub q mq) nq3, Off.upd (Off.upd nx3.off), nx3.sub q mq, nq3, ?_, ?_, ?_⟩, ?_⟩
        · rw [hl2]
          rfl
        · intro b hb'
          rcases nx3.newN b hb' with z | z
          · exact hN b z
          · exact (S.trans Sp).free z
        · rw [upd_same, toldR_app]
          show _ = some (HO.lst (iV (toldR outs1 ++ ((out.length : Int) :: octs out ++ []))))
          rw [List.length_map, octs_length]
          simp
        · rw [nx3.abs]
          exact pl2
        · show (flatR cs).length - ((at_ : Int) + 2 + (bs.length : Nat)).toNat < (flatR cs).length - ((at_ : Nat) : Int).toNat
          omega
    · rintro σ H' Q1 Q2 hQ ⟨v1, e1, v2, e2, p, ys, e3, h4, i, j, e5, e6, k, e7, q1⟩
      exact ⟨v1, e1, v2, e2, p, ys, e3, h4, i, j, e5, e6, k, e7, hQ _ _ q1⟩
end
end Pg

/-! MaB: merged rows, the mirror is the specification -/
namespace Pg
open R7249h.Spec (isFirst mergeFrom merged seen distinct)
/-! ### order of coming -/
theorem foldl_filter_new : ∀ (l acc : List Nat), l.foldl addNew acc = acc ++ (l.foldl addNew []).filter fun y => decide (y ∉ acc)
  | [], acc => by simp
  | a :: l, acc => by
    rw [List.foldl_cons, List.foldl_cons, foldl_filter_new l (addNew acc a), foldl_filter_new l (addNew [] a)]
    have e0 : addNew [] a = [a] := rfl
    rw [e0]
    by_cases h : a ∈ acc
    · have e1 : addNew acc a = acc := if_pos h
      rw [e1, List.filter_append, List.filter_filter]
      have e2 : [a].filter (fun y => decide (y ∉ acc)) = [] := by simp [h]
      rw [e2, List.nil_append]
      congr 1
      apply List.filter_congr
      intro y _
      by_cases k : y ∈ acc
      · simp [k]
      · have : y ≠ a := fun z => k (by rw [z]; exact h)
        simp [k, this]
    · have e1 : addNew acc a = acc ++ [a] := if_neg h
      rw [e1, List.filter_append, List.filter_filter]
      have e2 : [a].filter (fun y => decide (y ∉ acc)) = [a] := by simp [h]
      rw [e2, List.append_assoc]
      congr 2
      apply List.filter_congr
      intro y _
      by_cases k : y ∈ acc
      · simp [k]
      · by_cases k2 : y = a
        · simp [k2]
        · simp [k, k2]
theorem distinct_eq : ∀ l : List Nat, distinct l = l.foldl addNew []
  | [] => rfl
  | a :: l => by
    rw [List.foldl_cons]
    have e0 : addNew [] a = [a] := rfl
    rw [e0, foldl_filter_new l [a]]
    show a :: (distinct l).filter (fun y => y != a) = _
    rw [distinct_eq l]
    show _ = a :: _
    congr 1
    apply List.filter_congr
    intro y _
    by_cases h : y = a <;> simp [h]
theorem seen_eq (l : List Page) : seen l = firstCome (l.map (·.rows)) := by
  unfold seen firstCome
  rw [distinct_eq]
  rfl
/-! ### how many lists have a rank behind the head -/
def one (c : Prop) [Decidable c] : Int := if c then 1 else 0
theorem one_cons {r a : Nat} {l : List Nat} (h : ¬ r = a) : one (r ∈ a :: l) = one (r ∈ l) := by
  unfold one
  by_cases k : r ∈ l
  · rw [if_pos k, if_pos (List.mem_cons_of_mem _ k)]
  · rw [if_neg k, if_neg (by rw [List.mem_cons]; rintro (z | z); exact h z; exact k z)]
def bcnt : List (List Nat) → List Nat → Nat → Int
  | m :: ms, h :: hs, r => one (r ∈ m.drop (h + 1)) + bcnt ms hs r
  | _, _, _ => 0
theorem drop_next {m : List Nat} {h : Nat} (hl : h < m.length) : m.drop h = m.getD h 0 :: m.drop (h + 1) := by
  rw [List.drop_eq_getElem_cons hl]
  simp [hl]
theorem nodup_drop {m : List Nat} (nd : m.Nodup) (h : Nat) : (m.drop h).Nodup := nd.sublist (List.drop_sublist h m)
theorem set_getD {b : List Int} {i j : Nat} {x : Int} (hi : i < b.length) : (b.set i x).getD j 0 = if j = i then x else b.getD j 0 := by
  by_cases h : j = i
  · subst h
    simp [hi]
  · rw [if_neg h, List.getD_eq_getElem?_getD, List.getD_eq_getElem?_getD, List.getElem?_set_ne (Ne.symm h)]
theorem takeStep_cnt {t : Nat} {m : List Nat} {h : Nat} {b : List Int} (nd : m.Nodup) (hm : ∀ r ∈ m, r < b.length) (r : Nat) :
    (takeStep t m h b).2.getD r 0 = b.getD r 0 - one (r ∈ m.drop (h + 1)) + one (r ∈ m.drop ((takeStep t m h b).1 + 1)) := by
  unfold takeStep
  split
  · next c =>
    show (if h + 1 < m.length then b.set (m.getD (h + 1) 0) (b.getD (m.getD (h + 1) 0) 0 - 1) else b).getD r 0 = b.getD r 0 - one (r ∈ m.drop (h + 1)) + one (r ∈ m.drop (h + 1 + 1))
    split
    · next c2 =>
      have hd := drop_next c2
      have nd2 := nodup_drop nd (h + 1)
      rw [hd, List.nodup_cons] at nd2
      have hmem : m.getD (h + 1) 0 ∈ m := by
        have : m.getD (h + 1) 0 ∈ m.drop (h + 1) := by rw [hd]; exact List.mem_cons_self
        exact List.mem_of_mem_drop this
      rw [set_getD (hm _ hmem), hd]
      by_cases e : r = m.getD (h + 1) 0
      · rw [if_pos e, e]
        have h1 : one (m.getD (h + 1) 0 ∈ m.getD (h + 1) 0 :: m.drop (h + 1 + 1)) = 1 := if_pos List.mem_cons_self
        have h2 : one (m.getD (h + 1) 0 ∈ m.drop (h + 1 + 1)) = 0 := if_neg nd2.1
        rw [h1, h2]
        omega
      · rw [if_neg e]
        rw [one_cons e]
        omega
    · next c2 =>
      have h1 : m.drop (h + 1) = [] := List.drop_of_length_le (by omega)
      have h2 : m.drop (h + 1 + 1) = [] := List.drop_of_length_le (by omega)
      rw [h1, h2]
      omega
  · show b.getD r 0 = b.getD r 0 - one (r ∈ m.drop (h + 1)) + one (r ∈ m.drop (h + 1))
    omega
theorem takeM_cnt (t : Nat) : ∀ (ms : List (List Nat)) (hs : List Nat) (b : List Int), ms.length = hs.length → (∀ m ∈ ms, m.Nodup ∧ ∀ r ∈ m, r < b.length) → ∀ r, (takeM t ms hs b).2.getD r 0 = b.getD r 0 - bcnt ms hs r + bcnt ms (takeM t ms hs b).1 r
  | [], [], b, _, _, r => by simp [takeM, bcnt]
  | m :: ms, h :: hs, b, e, hm, r => by
    have h0 := hm m List.mem_cons_self
    have ih := takeM_cnt t ms hs (takeStep t m h b).2 (by simpa using e) (fun m' hm' => by
      rw [takeStep_length]
      exact hm m' (List.mem_cons_of_mem _ hm')) r
    show (takeM t ms hs (takeStep t m h b).2).2.getD r 0 = b.getD r 0 - (one (r ∈ m.drop (h + 1)) + bcnt ms hs r) + (one (r ∈ m.drop ((takeStep t m h b).1 + 1)) + bcnt ms (takeM t ms hs (takeStep t m h b).2).1 r)
    rw [ih, takeStep_cnt h0.1 h0.2 r]
    omega
/-- the heads behind a step, list by list -/
def headStep (t : Nat) (m : List Nat) (h : Nat) : Nat := if h < m.length ∧ m.getD h 0 = t then h + 1 else h
theorem takeStep_head (t : Nat) (m : List Nat) (h : Nat) (b : List Int) : (takeStep t m h b).1 = headStep t m h := by
  unfold takeStep headStep
  split <;> rfl
theorem takeM_heads (t : Nat) : ∀ (ms : List (List Nat)) (hs : List Nat) (b : List Int), ms.length = hs.length → (takeM t ms hs b).1 = (ms.zip hs).map fun p => headStep t p.1 p.2
  | [], [], b, _ => rfl
  | m :: ms, h :: hs, b, e => by
    show (takeStep t m h b).1 :: (takeM t ms hs (takeStep t m h b).2).1 = _
    rw [takeM_heads t ms hs _ (by simpa using e), takeStep_head]
    rfl
theorem bumps_cnt : ∀ (l : List Nat) (b : List Int), l.Nodup → (∀ r ∈ l, r < b.length) → ∀ r, (l.foldl bump b).getD r 0 = b.getD r 0 + one (r ∈ l)
  | [], b, _, _, r => by simp [one]
  | a :: l, b, nd, hm, r => by
    rw [List.nodup_cons] at nd
    rw [List.foldl_cons, bumps_cnt l (bump b a) nd.2 (fun r hr => by rw [bump_length]; exact hm r (List.mem_cons_of_mem _ hr)) r]
    unfold bump
    rw [set_getD (hm a List.mem_cons_self)]
    by_cases e : r = a
    · subst e
      have h1 : one (r ∈ l) = 0 := if_neg nd.1
      have h2 : one (r ∈ r :: l) = 1 := if_pos List.mem_cons_self
      rw [h1, h2, if_pos rfl]
      omega
    · rw [one_cons e, if_neg e]
theorem behinds_cnt : ∀ (ms : List (List Nat)) (b : List Int), (∀ m ∈ ms, m.Nodup ∧ ∀ r ∈ m, r < b.length) → ∀ r, (ms.foldl (fun b ranks => (ranks.drop 1).foldl bump b) b).getD r 0 = b.getD r 0 + bcnt ms (ms.map fun _ => 0) r
  | [], b, _, r => by simp [bcnt]
  | m :: ms, b, hm, r => by
    have h0 := hm m List.mem_cons_self
    rw [List.foldl_cons, behinds_cnt ms _ (fun m' hm' => by rw [bumps_length]; exact hm m' (List.mem_cons_of_mem _ hm')) r,
      bumps_cnt _ _ (nodup_drop h0.1 1) (fun r hr => h0.2 r (List.mem_of_mem_drop hr)) r]
    show _ = _ + (one (r ∈ m.drop (0 + 1)) + bcnt ms (ms.map fun _ => 0) r)
    rw [Nat.zero_add]
    omega
theorem bcnt_nonneg : ∀ (ms : List (List Nat)) (hs : List Nat) (r : Nat), 0 ≤ bcnt ms hs r
  | [], _, _ => by simp [bcnt]
  | _ :: _, [], _ => by simp [bcnt]
  | m :: ms, h :: hs, r => by
    have := bcnt_nonneg ms hs r
    show 0 ≤ one (r ∈ m.drop (h + 1)) + bcnt ms hs r
    unfold one
    split <;> omega
theorem bcnt_zero : ∀ {ms : List (List Nat)} {hs : List Nat} {r : Nat}, bcnt ms hs r = 0 ↔ ∀ p ∈ ms.zip hs, r ∉ p.1.drop (p.2 + 1)
  | [], _, _ => by simp [bcnt]
  | _ :: _, [], _ => by simp [bcnt]
  | m :: ms, h :: hs, r => by
    have ih := bcnt_zero (ms := ms) (hs := hs) (r := r)
    have nn := bcnt_nonneg ms hs r
    show one (r ∈ m.drop (h + 1)) + bcnt ms hs r = 0 ↔ _
    rw [List.zip_cons_cons]
    unfold one
    constructor
    · intro e p hp
      split at e
      · omega
      · next c =>
        rcases List.mem_cons.mp hp with z | z
        · rw [z]; exact c
        · exact ih.mp (by omega) p z
    · intro hall
      have c := hall (m, h) List.mem_cons_self
      rw [if_neg c, ih.mpr fun p hp => hall p (List.mem_cons_of_mem _ hp)]
      rfl
/-! ### the least free rank -/
def Cand (ms : List (List Nat)) (hs : List Nat) (b : List Int) (r : Nat) : Prop := ∃ p ∈ ms.zip hs, p.2 < p.1.length ∧ p.1.getD p.2 0 = r ∧ b.getD r 0 = 0
theorem freeStep_spec (b : List Int) (best : Option Nat) (m : List Nat) (h : Nat) (Pc : Nat → Prop) (hb : ∀ r, best = some r → Pc r ∧ ∀ r', Pc r' → r ≤ r') (hn : best = none → ∀ r, ¬ Pc r) :
    (∀ r, freeStep b best m h = some r → (Pc r ∨ (h < m.length ∧ m.getD h 0 = r ∧ b.getD r 0 = 0)) ∧ ∀ r', (Pc r' ∨ (h < m.length ∧ m.getD h 0 = r' ∧ b.getD r' 0 = 0)) → r ≤ r') ∧
    (freeStep b best m h = none → ∀ r, ¬ (Pc r ∨ (h < m.length ∧ m.getD h 0 = r ∧ b.getD r 0 = 0))) := by
  unfold freeStep
  by_cases c : h < m.length ∧ b.getD (m.getD h 0) 0 = 0 ∧ ∀ b, best = some b → m.getD h 0 < b
  · rw [if_pos c]
    refine ⟨fun r hr => ?_, fun z => nomatch z⟩
    cases hr
    refine ⟨.inr ⟨c.1, rfl, c.2.1⟩, fun r' hr' => ?_⟩
    rcases hr' with z | ⟨_, z, _⟩
    · cases hbest : best with
      | none => exact absurd z (hn hbest r')
      | some s => exact Nat.le_of_lt (Nat.lt_of_lt_of_le (c.2.2 s hbest) ((hb s hbest).2 r' z))
    · exact Nat.le_of_eq z
  · rw [if_neg c]
    refine ⟨fun r hr => ⟨.inl (hb r hr).1, fun r' hr' => ?_⟩, fun hr r hr' => ?_⟩
    · rcases hr' with z | ⟨h1, h2, h3⟩
      · exact (hb r hr).2 r' z
      · rcases Nat.lt_or_ge r' r with k | k
        · exfalso
          refine c ⟨h1, by rw [h2]; exact h3, fun s hs => ?_⟩
          rw [hr] at hs
          cases hs
          rw [h2]
          exact k
        · exact k
    · rcases hr' with z | ⟨h1, h2, h3⟩
      · exact hn hr r z
      · exact c ⟨h1, by rw [h2]; exact h3, fun s hs => by rw [hr] at hs; cases hs⟩
theorem firstFree_spec (ms : List (List Nat)) (hs : List Nat) (b : List Int) : (∀ r, firstFree ms hs b = some r → Cand ms hs b r ∧ ∀ r', Cand ms hs b r' → r ≤ r') ∧ (firstFree ms hs b = none → ∀ r, ¬ Cand ms hs b r) := by
  unfold firstFree Cand
  have go : ∀ (l : List (List Nat × Nat)) (best : Option Nat) (Pc : Nat → Prop), (∀ r, best = some r → Pc r ∧ ∀ r', Pc r' → r ≤ r') → (best = none → ∀ r, ¬ Pc r) →
      (∀ r, l.foldl (fun best p => freeStep b best p.1 p.2) best = some r → (Pc r ∨ ∃ p ∈ l, p.2 < p.1.length ∧ p.1.getD p.2 0 = r ∧ b.getD r 0 = 0) ∧ ∀ r', (Pc r' ∨ ∃ p ∈ l, p.2 < p.1.length ∧ p.1.getD p.2 0 = r' ∧ b.getD r' 0 = 0) → r ≤ r') ∧
      (l.foldl (fun best p => freeStep b best p.1 p.2) best = none → ∀ r, ¬ (Pc r ∨ ∃ p ∈ l, p.2 < p.1.length ∧ p.1.getD p.2 0 = r ∧ b.getD r 0 = 0)) := by
    intro l
    induction l with
    | nil =>
      intro best Pc hb hn
      refine ⟨fun r hr => ⟨.inl (hb r hr).1, fun r' hr' => ?_⟩, fun hr r hr' => ?_⟩
      · rcases hr' with z | ⟨p, hp, _⟩
        · exact (hb r hr).2 r' z
        · cases hp
      · rcases hr' with z | ⟨p, hp, _⟩
        · exact hn hr r z
        · cases hp
    | cons q l ih =>
      intro best Pc hb hn
      obtain ⟨s1, s2⟩ := freeStep_spec b best q.1 q.2 Pc hb hn
      have key := ih (freeStep b best q.1 q.2) (fun r => Pc r ∨ (q.2 < q.1.length ∧ q.1.getD q.2 0 = r ∧ b.getD r 0 = 0)) s1 s2
      have conv : ∀ r, ((Pc r ∨ (q.2 < q.1.length ∧ q.1.getD q.2 0 = r ∧ b.getD r 0 = 0)) ∨ ∃ p ∈ l, p.2 < p.1.length ∧ p.1.getD p.2 0 = r ∧ b.getD r 0 = 0) ↔ (Pc r ∨ ∃ p ∈ q :: l, p.2 < p.1.length ∧ p.1.getD p.2 0 = r ∧ b.getD r 0 = 0) := by
        intro r
        constructor
        · rintro ((z | z) | ⟨p, hp, z⟩)
          · exact .inl z
          · exact .inr ⟨q, List.mem_cons_self, z⟩
          · exact .inr ⟨p, List.mem_cons_of_mem _ hp, z⟩
        · rintro (z | ⟨p, hp, z⟩)
          · exact .inl (.inl z)
          · rcases List.mem_cons.mp hp with k | k
            · rw [k] at z; exact .inl (.inr z)
            · exact .inr ⟨p, k, z⟩
      refine ⟨fun r hr => ?_, fun hr r hr' => key.2 hr r ((conv r).mpr hr')⟩
      obtain ⟨k1, k2⟩ := key.1 r hr
      exact ⟨(conv r).mp k1, fun r' hr' => k2 r' ((conv r').mpr hr')⟩
  obtain ⟨g1, g2⟩ := go (ms.zip hs) none (fun _ => False) (fun r h => nomatch h) (fun _ r h => h)
  refine ⟨fun r hr => ?_, fun hr r hr' => g2 hr r (.inr hr')⟩
  obtain ⟨k1, k2⟩ := g1 r hr
  exact ⟨k1.elim False.elim id, fun r' hr' => k2 r' (.inr hr')⟩
end Pg

/-! MaC: merged rows, the mirror is the specification (the end) -/
namespace Pg
open R7249h.Spec (isFirst mergeFrom merged seen distinct)
structure MInv (n : Nat) (marks : List (List Nat)) (heads : List Nat) (behind : List Int) (rest : List Nat) : Prop where
  hl : marks.length = heads.length
  bl : behind.length = n
  mr : ∀ m ∈ marks, m.Nodup ∧ ∀ r ∈ m, r < n
  bc : ∀ r, r < n → behind.getD r 0 = bcnt marks heads r
  ps : ∀ p ∈ marks.zip heads, (∀ r ∈ p.1.take p.2, r ∉ rest) ∧ ∀ r ∈ p.1.drop p.2, r ∈ rest
  so : rest.Pairwise (· < ·)
  lt : ∀ r ∈ rest, r < n
  ex : ∀ r ∈ rest, ∃ p ∈ marks.zip heads, r ∈ p.1.drop p.2
theorem zip_left {ms : List (List Nat)} {hs : List Nat} {p : List Nat × Nat} (h : p ∈ ms.zip hs) : p.1 ∈ ms := (List.of_mem_zip (show (p.1, p.2) ∈ _ from h)).1
theorem zip_has : ∀ {ms : List (List Nat)} {hs : List Nat} {m : List Nat}, ms.length = hs.length → m ∈ ms → ∃ h, (m, h) ∈ ms.zip hs
  | m' :: ms, h' :: hs, m, e, hm => by
    rcases List.mem_cons.mp hm with z | z
    · exact ⟨h', by rw [z]; exact List.mem_cons_self⟩
    · obtain ⟨h, hh⟩ := zip_has (ms := ms) (hs := hs) (by simpa using e) z
      exact ⟨h, List.mem_cons_of_mem _ hh⟩
section
variable {n : Nat} {marks : List (List Nat)} {heads : List Nat} {behind : List Int} {rest : List Nat}
theorem MInv.cand (J : MInv n marks heads behind rest) (r : Nat) : Cand marks heads behind r ↔ r ∈ rest ∧ ∀ p ∈ marks.zip heads, r ∉ p.1.drop (p.2 + 1) := by
  constructor
  · rintro ⟨p, hp, h1, h2, h3⟩
    have hd := drop_next h1
    have hr : r ∈ p.1.drop p.2 := by rw [hd, h2]; exact List.mem_cons_self
    have hrest := (J.ps p hp).2 r hr
    refine ⟨hrest, bcnt_zero.mp ?_⟩
    rw [← J.bc r (J.lt r hrest)]
    exact h3
  · rintro ⟨hr, hall⟩
    obtain ⟨p, hp, hd⟩ := J.ex r hr
    have h1 : p.2 < p.1.length := by
      rcases Nat.lt_or_ge p.2 p.1.length with z | z
      · exact z
      · rw [List.drop_of_length_le z] at hd; cases hd
    have e := drop_next h1
    rw [e] at hd
    rcases List.mem_cons.mp hd with z | z
    · exact ⟨p, hp, h1, z.symm, by rw [J.bc r (J.lt r hr)]; exact bcnt_zero.mpr hall⟩
    · exact absurd z (hall p hp)
theorem takeWhile_at {α : Type} [DecidableEq α] {x : α} : ∀ {A B : List α}, x ∉ A → (A ++ x :: B).takeWhile (fun y => y != x) = A
  | [], B, _ => by simp
  | a :: A, B, h => by
    have h1 : a ≠ x := fun z => h (by rw [z]; exact List.mem_cons_self)
    have h2 : x ∉ A := fun z => h (List.mem_cons_of_mem _ z)
    rw [List.cons_append, List.takeWhile_cons]
    have e : (a != x) = true := by simp [h1]
    rw [if_pos e, takeWhile_at h2]
theorem map_inj {ord : Nat → Nat} (inj : ∀ a b, a < n → b < n → ord a = ord b → a = b) {l : List Nat} (hl : ∀ r ∈ l, r < n) {r : Nat} (hr : r < n) : ord r ∈ l.map ord ↔ r ∈ l := by
  constructor
  · intro h
    obtain ⟨a, ha, e⟩ := List.mem_map.mp h
    rw [← inj a r (hl a ha) hr e]
    exact ha
  · exact fun h => List.mem_map_of_mem h
/-- one list: nothing that remains is ahead of the row -/
theorem ahead_iff {ord : Nat → Nat} (inj : ∀ a b, a < n → b < n → ord a = ord b → a = b) {m : List Nat} {h r : Nat} (nd : m.Nodup) (hm : ∀ r ∈ m, r < n) (hrest : ∀ r ∈ rest, r < n) (hr : r ∈ rest) (h1 : ∀ r ∈ m.take h, r ∉ rest) (h2 : ∀ r ∈ m.drop h, r ∈ rest) :
    (!(m.map ord).contains (ord r) || ((m.map ord).takeWhile fun x => x != ord r).all fun x => !(rest.map ord).contains x) = true ↔ r ∉ m.drop (h + 1) := by
  have rn := hrest r hr
  have tn : ∀ x ∈ m.take h, x < n := fun x hx => hm x (List.mem_of_mem_take hx)
  have dn : ∀ x ∈ m.drop h, x < n := fun x hx => hm x (List.mem_of_mem_drop hx)
  by_cases c : r ∈ m
  · have c' : ord r ∈ m.map ord := List.mem_map_of_mem c
    have e1 : (m.map ord).contains (ord r) = true := by simpa using c'
    rw [e1]
    simp only [Bool.not_true, Bool.false_or]
    have nt : r ∉ m.take h := fun z => h1 r z hr
    have md : r ∈ m.drop h := by
      rw [← List.take_append_drop h m] at c
      rcases List.mem_append.mp c with z | z
      · exact absurd z nt
      · exact z
    have hh : h < m.length := by
      rcases Nat.lt_or_ge h m.length with z | z
      · exact z
      · rw [List.drop_of_length_le z] at md; cases md
    have hd := drop_next hh
    have nd2 := nodup_drop nd h
    rw [hd, List.nodup_cons] at nd2
    generalize hg : m.getD h 0 = g at hd nd2
    have em : m = m.take h ++ g :: m.drop (h + 1) := by rw [← hd, List.take_append_drop]
    have ntm : ord r ∉ (m.take h).map ord := fun z => nt ((map_inj inj tn rn).mp z)
    by_cases k : r = g
    · have e2 : (m.map ord).takeWhile (fun x => x != ord r) = (m.take h).map ord := by
        conv => lhs; rw [em]
        rw [List.map_append, List.map_cons, ← k]
        exact takeWhile_at ntm
      rw [e2]
      constructor
      · intro _
        rw [k]
        exact nd2.1
      · intro _
        rw [List.all_eq_true]
        intro x hx
        obtain ⟨y, hy, rfl⟩ := List.mem_map.mp hx
        have : ord y ∉ rest.map ord := fun z => h1 y hy ((map_inj inj hrest (tn y hy)).mp z)
        simpa using this
    · have mt : r ∈ m.drop (h + 1) := by
        rw [hd] at md
        rcases List.mem_cons.mp md with z | z
        · exact absurd z k
        · exact z
      constructor
      · intro hall
        exfalso
        rw [List.all_eq_true] at hall
        have gm : g ∈ m.drop h := by rw [hd]; exact List.mem_cons_self
        have gin : ord g ∈ (m.map ord).takeWhile fun x => x != ord r := by
          rw [em, List.map_append, List.map_cons]
          have e3 : ∀ (A : List Nat), ord r ∉ A → ord g ∈ (A ++ ord g :: (m.drop (h + 1)).map ord).takeWhile fun x => x != ord r := by
            intro A
            induction A with
            | nil =>
              intro _
              have e : (ord g != ord r) = true := by
                simp only [bne_iff_ne]
                exact fun z => k (inj _ _ rn (dn g gm) z.symm)
              rw [List.nil_append, List.takeWhile_cons, if_pos e]
              exact List.mem_cons_self
            | cons a A ih =>
              intro hA
              have e : (a != ord r) = true := by
                simp only [bne_iff_ne]
                exact fun z => hA (by rw [z]; exact List.mem_cons_self)
              rw [List.cons_append, List.takeWhile_cons, if_pos e]
              exact List.mem_cons_of_mem _ (ih fun z => hA (List.mem_cons_of_mem _ z))
          exact e3 _ ntm
        have := hall (ord g) gin
        have gr : ord g ∈ rest.map ord := List.mem_map_of_mem (h2 g gm)
        simp at this
        exact this g (h2 g gm) rfl
      · intro z
        exact absurd mt z
  · have c' : ord r ∉ m.map ord := fun z => c ((map_inj inj hm rn).mp z)
    have e1 : (m.map ord).contains (ord r) = false := by simpa using c'
    rw [e1]
    constructor
    · intro _ z
      exact c (List.mem_of_mem_drop z)
    · intro _
      rfl
theorem MInv.first {l : List Page} {ord : Nat → Nat} (J : MInv n marks heads behind rest) (inj : ∀ a b, a < n → b < n → ord a = ord b → a = b) (hl : l.map (·.rows) = marks.map fun m => m.map ord) {r : Nat} (hr : r ∈ rest) :
    isFirst l (rest.map ord) (ord r) = true ↔ ∀ p ∈ marks.zip heads, r ∉ p.1.drop (p.2 + 1) := by
  have e1 : isFirst l (rest.map ord) (ord r) = (l.map (·.rows)).all fun rows => !rows.contains (ord r) || (rows.takeWhile fun x => x != ord r).all fun x => !(rest.map ord).contains x := by
    unfold isFirst
    rw [List.all_map]
    rfl
  rw [e1, hl, List.all_eq_true]
  constructor
  · intro hall p hp
    have pm := zip_left hp
    obtain ⟨nd, hm⟩ := J.mr _ pm
    obtain ⟨h1, h2⟩ := J.ps p hp
    exact (ahead_iff inj nd hm J.lt hr h1 h2).mp (hall _ (List.mem_map_of_mem pm))
  · intro hall rows hrows
    obtain ⟨m, hm, rfl⟩ := List.mem_map.mp hrows
    obtain ⟨h, hp⟩ := zip_has J.hl hm
    obtain ⟨nd, hmn⟩ := J.mr _ hm
    obtain ⟨h1, h2⟩ := J.ps _ hp
    exact (ahead_iff inj nd hmn J.lt hr h1 h2).mpr (hall _ hp)
theorem find_least {Pb : Nat → Bool} : ∀ {rest : List Nat} {r : Nat}, rest.Pairwise (· < ·) → r ∈ rest → Pb r = true → (∀ r' ∈ rest, Pb r' = true → r ≤ r') → rest.find? Pb = some r
  | [], r, _, h, _, _ => nomatch h
  | a :: rest, r, so, h, hp, hle => by
    rw [List.pairwise_cons] at so
    by_cases c : Pb a = true
    · have h1 := hle a List.mem_cons_self c
      rcases List.mem_cons.mp h with z | z
      · rw [List.find?_cons_of_pos c, z]
      · have := so.1 r z
        omega
    · rw [List.find?_cons_of_neg c]
      rcases List.mem_cons.mp h with z | z
      · rw [z] at hp; exact absurd hp c
      · exact find_least so.2 z hp fun r' hr' => hle r' (List.mem_cons_of_mem _ hr')
theorem sorted_nodup {rest : List Nat} (so : rest.Pairwise (· < ·)) : rest.Nodup := so.imp fun h z => by omega
theorem filter_ne_length : ∀ {rest : List Nat} {r : Nat}, rest.Nodup → r ∈ rest → (rest.filter fun x => decide (x ≠ r)).length + 1 = rest.length
  | [], r, _, h => nomatch h
  | a :: rest, r, nd, h => by
    rw [List.nodup_cons] at nd
    by_cases c : a = r
    · subst c
      have e : rest.filter (fun x => decide (x ≠ a)) = rest := List.filter_eq_self.mpr fun x hx => decide_eq_true fun z => nd.1 (by rw [← z]; exact hx)
      rw [List.filter_cons_of_neg (by simp), e]
      rfl
    · rcases List.mem_cons.mp h with z | z
      · exact absurd z.symm c
      · rw [List.filter_cons_of_pos (by simp [c])]
        rw [List.length_cons, List.length_cons, filter_ne_length nd.2 z]
theorem MInv.next (J : MInv n marks heads behind rest) {r : Nat} (hr : r ∈ rest) (hf : ∀ p ∈ marks.zip heads, r ∉ p.1.drop (p.2 + 1)) : MInv n marks (takeM r marks heads behind).1 (takeM r marks heads behind).2 (rest.filter fun x => decide (x ≠ r)) := by
  obtain ⟨l1, l2⟩ := takeM_length r marks heads behind
  have hh := takeM_heads r marks heads behind J.hl
  have zz : marks.zip (takeM r marks heads behind).1 = (marks.zip heads).map fun p => (p.1, headStep r p.1 p.2) := by
    rw [hh]
    have go : ∀ (ms : List (List Nat)) (hs : List Nat), ms.zip ((ms.zip hs).map fun p => headStep r p.1 p.2) = (ms.zip hs).map fun p => (p.1, headStep r p.1 p.2) := by
      intro ms
      induction ms with
      | nil => intro hs; rfl
      | cons m ms ih =>
        intro hs
        cases hs with
        | nil => rfl
        | cons h hs =>
          rw [List.zip_cons_cons, List.map_cons, List.map_cons, List.zip_cons_cons, ih]
    exact go marks heads
  have step : ∀ p ∈ marks.zip heads, (∀ x ∈ p.1.take (headStep r p.1 p.2), x ∉ rest.filter fun x => decide (x ≠ r)) ∧ ∀ x, (x ∈ p.1.drop (headStep r p.1 p.2) ↔ x ∈ p.1.drop p.2 ∧ x ≠ r) := by
    intro p hp
    obtain ⟨h1, h2⟩ := J.ps p hp
    obtain ⟨nd, hm⟩ := J.mr _ (zip_left hp)
    unfold headStep
    by_cases c : p.2 < p.1.length ∧ p.1.getD p.2 0 = r
    · rw [if_pos c]
      have hd := drop_next c.1
      rw [c.2] at hd
      have nd2 := nodup_drop nd p.2
      rw [hd, List.nodup_cons] at nd2
      refine ⟨fun x hx z => ?_, fun x => ?_⟩
      · have ht : p.1.take (p.2 + 1) = p.1.take p.2 ++ [r] := by
          rw [List.take_add_one]
          have e : p.1[p.2]? = some r := by
            rw [List.getElem?_eq_getElem c.1]
            have := c.2
            rw [List.getD_eq_getElem?_getD, List.getElem?_eq_getElem c.1] at this
            exact congrArg some this
          rw [e]
          rfl
        rw [ht] at hx
        obtain ⟨z1, z2⟩ := List.mem_filter.mp z
        rcases List.mem_append.mp hx with k | k
        · exact h1 x k z1
        · simp only [List.mem_singleton] at k
          simp [k] at z2
      · rw [hd, List.mem_cons]
        constructor
        · intro hx
          exact ⟨.inr hx, fun z => nd2.1 (by rw [← z]; exact hx)⟩
        · rintro ⟨z | z, hne⟩
          · exact absurd z hne
          · exact z
    · rw [if_neg c]
      refine ⟨fun x hx z => h1 x hx (List.mem_filter.mp z).1, fun x => ⟨fun hx => ⟨hx, fun z => ?_⟩, fun hx => hx.1⟩⟩
      subst z
      have hlt : p.2 < p.1.length := by
        rcases Nat.lt_or_ge p.2 p.1.length with k | k
        · exact k
        · rw [List.drop_of_length_le k] at hx; cases hx
      have hd := drop_next hlt
      rw [hd] at hx
      rcases List.mem_cons.mp hx with k | k
      · exact c ⟨hlt, k.symm⟩
      · exact hf p hp k
  refine ⟨by rw [l1]; exact J.hl, by rw [l2]; exact J.bl, J.mr, fun x hx => ?_, fun q hq => ?_, J.so.filter _, fun x hx => J.lt x (List.mem_filter.mp hx).1, fun x hx => ?_⟩
  · rw [takeM_cnt r marks heads behind J.hl (fun m hm => by rw [J.bl]; exact J.mr m hm) x, J.bc x hx]
    omega
  · rw [zz] at hq
    obtain ⟨p, hp, rfl⟩ := List.mem_map.mp hq
    obtain ⟨s1, s2⟩ := step p hp
    refine ⟨s1, fun x hx => ?_⟩
    obtain ⟨h1, h2⟩ := (s2 x).mp hx
    exact List.mem_filter.mpr ⟨(J.ps p hp).2 x h1, decide_eq_true h2⟩
  · obtain ⟨z1, z2⟩ := List.mem_filter.mp hx
    obtain ⟨p, hp, hd⟩ := J.ex x z1
    refine ⟨(p.1, headStep r p.1 p.2), by rw [zz]; exact List.mem_map_of_mem hp, ?_⟩
    exact ((step p hp).2 x).mpr ⟨hd, of_decide_eq_true z2⟩
theorem merge_eq {l : List Page} {order : List Nat} (inj : ∀ a b, a < n → b < n → order.getD a 0 = order.getD b 0 → a = b) (hl : l.map (·.rows) = marks.map fun m => m.map fun r => order.getD r 0) :
    ∀ (k : Nat) (heads : List Nat) (behind : List Int) (rest : List Nat), MInv n marks heads behind rest → rest.length = k →
      mergeFrom k l (rest.map fun r => order.getD r 0) = if (mergeGo order marks k heads behind).length = k then some (mergeGo order marks k heads behind) else none
  | 0, heads, behind, rest, J, e => by
    rw [List.length_eq_zero_iff] at e
    subst e
    rfl
  | k + 1, heads, behind, rest, J, e => by
    obtain ⟨a, rest0, hcons⟩ : ∃ a rest0, rest = a :: rest0 := by
      cases rest with
      | nil => cases e
      | cons a r => exact ⟨a, r, rfl⟩
    have unf : mergeFrom (k + 1) l (rest.map fun r => order.getD r 0) = match (rest.map fun r => order.getD r 0).find? (isFirst l (rest.map fun r => order.getD r 0)) with
        | some r => (mergeFrom k l ((rest.map fun r => order.getD r 0).filter fun x => x != r)).map (r :: ·)
        | none => none := by
      rw [hcons]
      rfl
    rw [unf, List.find?_map]
    obtain ⟨f1, f2⟩ := firstFree_spec marks heads behind
    cases hff : firstFree marks heads behind with
    | none =>
      have e1 : rest.find? ((isFirst l (rest.map fun r => order.getD r 0)) ∘ fun r => order.getD r 0) = none := by
        rw [List.find?_eq_none]
        intro r hr hp
        exact f2 hff r ((J.cand r).mpr ⟨hr, (J.first inj hl hr).mp hp⟩)
      have e2 : mergeGo order marks (k + 1) heads behind = [] := by unfold mergeGo; rw [hff]
      rw [e1, e2]
      rfl
    | some r =>
      obtain ⟨c1, c2⟩ := f1 r hff
      obtain ⟨hr, hfr⟩ := (J.cand r).mp c1
      have e1 : rest.find? ((isFirst l (rest.map fun r => order.getD r 0)) ∘ fun r => order.getD r 0) = some r := by
        refine find_least J.so hr ((J.first inj hl hr).mpr hfr) fun r' hr' hp' => c2 r' ((J.cand r').mpr ⟨hr', (J.first inj hl hr').mp hp'⟩)
      have e2 : mergeGo order marks (k + 1) heads behind = order.getD r 0 :: mergeGo order marks k (takeM r marks heads behind).1 (takeM r marks heads behind).2 := by rw [mergeGo, hff]
      rw [e1, e2]
      show (mergeFrom k l ((rest.map fun r => order.getD r 0).filter fun x => x != order.getD r 0)).map (order.getD r 0 :: ·) = _
      have e3 : (rest.map fun r => order.getD r 0).filter (fun x => x != order.getD r 0) = (rest.filter fun x => decide (x ≠ r)).map fun r => order.getD r 0 := by
        rw [List.filter_map]
        congr 1
        apply List.filter_congr
        intro x hx
        simp only [Function.comp_apply]
        by_cases c : x = r
        · simp [c]
        · have : order.getD x 0 ≠ order.getD r 0 := fun z => c (inj x r (J.lt x hx) (J.lt r hr) z)
          rw [decide_eq_true c]
          exact bne_iff_ne.mpr this
      have len := filter_ne_length (sorted_nodup J.so) hr
      rw [e3, merge_eq inj hl k _ _ _ (J.next hr hfr) (by omega)]
      rw [List.length_cons]
      by_cases c : (mergeGo order marks k (takeM r marks heads behind).1 (takeM r marks heads behind).2).length = k
      · rw [if_pos c, if_pos (by omega)]
        rfl
      · rw [if_neg c, if_neg (by omega)]
        rfl
end
theorem idx_get {o : List Nat} {r : Nat} (h : r ∈ o) : o.getD (o.idxOf r) 0 = r := by
  have hlt := List.idxOf_lt_length_of_mem h
  rw [List.getD_eq_getElem?_getD, List.getElem?_eq_getElem hlt]
  exact List.getElem_idxOf hlt
theorem merged_spec (l : List Page) (nd : ∀ p ∈ l, p.rows.Nodup) : merged l = if agreeM (l.map (·.rows)) = true then some (mergedM (l.map (·.rows))) else none := by
  generalize hxs : l.map (·.rows) = xs
  have hnd : ∀ rows ∈ xs, rows.Nodup := by
    intro rows hr
    rw [← hxs] at hr
    obtain ⟨p, hp, rfl⟩ := List.mem_map.mp hr
    exact nd p hp
  obtain ⟨ondp, omem⟩ := firstCome_mem (xs := xs)
  unfold merged
  rw [seen_eq, hxs]
  have hag : (agreeM xs = true) ↔ (mergedM xs).length = (firstCome xs).length := by unfold agreeM; exact decide_eq_true_iff
  have hmg : mergedM xs = mergeGo (firstCome xs) (rankedM xs (firstCome xs)) (firstCome xs).length ((rankedM xs (firstCome xs)).map fun _ => 0) (behindM (rankedM xs (firstCome xs)) (firstCome xs).length) := rfl
  generalize hord : firstCome xs = order at *
  have inj : ∀ a b, a < order.length → b < order.length → order.getD a 0 = order.getD b 0 → a = b := by
    intro a b ha hb e
    have ea : order[a]? = some (order.getD a 0) := by simp [ha]
    have eb : order[b]? = some (order.getD b 0) := by simp [hb]
    rw [e] at ea
    exact L2.nd_ix ondp ea eb
  have hin : ∀ rows ∈ xs, ∀ r ∈ rows, r ∈ order := fun rows hr r hr2 => (omem r).mpr ⟨rows, hr, hr2⟩
  have hl : l.map (·.rows) = (rankedM xs order).map fun m => m.map fun r => order.getD r 0 := by
    rw [hxs]
    unfold rankedM
    rw [List.map_map]
    conv => lhs; rw [← List.map_id xs]
    apply List.map_congr_left
    intro rows hr
    simp only [Function.comp_apply, List.map_map, id]
    conv => lhs; rw [← List.map_id rows]
    apply List.map_congr_left
    intro r hr2
    exact (idx_get (hin rows hr r hr2)).symm
  have mkm : ∀ m ∈ rankedM xs order, m.Nodup ∧ ∀ r ∈ m, r < order.length := by
    intro m hm
    obtain ⟨rows, hr, rfl⟩ := List.mem_map.mp hm
    refine ⟨?_, fun r hr2 => ?_⟩
    · have h0 := hnd rows hr
      have hin' := hin rows hr
      clear hm hr
      induction rows with
      | nil => exact List.nodup_nil
      | cons a rows ih =>
        rw [List.nodup_cons] at h0
        rw [List.map_cons, List.nodup_cons]
        refine ⟨fun z => ?_, ih h0.2 fun r hr => hin' r (List.mem_cons_of_mem _ hr)⟩
        obtain ⟨b, hb, e⟩ := List.mem_map.mp z
        have e1 := idx_get (hin' a List.mem_cons_self)
        have e2 := idx_get (hin' b (List.mem_cons_of_mem _ hb))
        rw [e, e1] at e2
        rw [e2] at h0
        exact h0.1 hb
    · obtain ⟨z, hz, rfl⟩ := List.mem_map.mp hr2
      exact idxOf_lt (hin rows hr z hz)
  have J : MInv order.length (rankedM xs order) ((rankedM xs order).map fun _ => 0) (behindM (rankedM xs order) order.length) (List.range order.length) := by
    have zz : ∀ (ms : List (List Nat)) (p : List Nat × Nat), p ∈ ms.zip (ms.map fun _ => 0) ↔ p.1 ∈ ms ∧ p.2 = 0 := by
      intro ms
      induction ms with
      | nil => intro p; simp
      | cons m ms ih =>
        intro p
        rw [List.map_cons, List.zip_cons_cons, List.mem_cons, ih p, List.mem_cons]
        constructor
        · rintro (z | ⟨z1, z2⟩)
          · rw [z]; exact ⟨.inl rfl, rfl⟩
          · exact ⟨.inr z1, z2⟩
        · rintro ⟨z | z, z2⟩
          · left
            obtain ⟨p1, p2⟩ := p
            simp only at z z2
            rw [z, z2]
          · exact .inr ⟨z, z2⟩
    refine ⟨by rw [List.length_map], by unfold behindM; rw [behinds_length, List.length_replicate], mkm, fun r hr => ?_, fun p hp => ?_, List.pairwise_lt_range, fun r hr => List.mem_range.mp hr, fun r hr => ?_⟩
    · unfold behindM
      rw [behinds_cnt _ _ (fun m hm => by rw [List.length_replicate]; exact mkm m hm) r]
      have e : (List.replicate order.length (0 : Int)).getD r 0 = 0 := by simp [hr]
      rw [e]
      omega
    · obtain ⟨h1, h2⟩ := (zz _ _).mp hp
      rw [h2]
      refine ⟨fun r hr => (by simp at hr), fun r hr => List.mem_range.mpr ((mkm _ h1).2 r (List.mem_of_mem_drop hr))⟩
    · have hr' := List.mem_range.mp hr
      have hm : order.getD r 0 ∈ order := by
        have e : order[r]? = some (order.getD r 0) := by simp [hr']
        exact List.mem_of_getElem? e
      obtain ⟨rows, hrows, hr2⟩ := (omem _).mp hm
      have e1 : order.idxOf (order.getD r 0) = r := inj _ _ (idxOf_lt hm) hr' (idx_get hm)
      refine ⟨(rows.map order.idxOf, 0), (zz _ _).mpr ⟨List.mem_map_of_mem hrows, rfl⟩, ?_⟩
      show r ∈ (rows.map order.idxOf).drop 0
      rw [List.drop_zero]
      exact List.mem_map.mpr ⟨_, hr2, e1⟩
  have er : (List.range order.length).map (fun r => order.getD r 0) = order := by
    apply List.ext_getElem?
    intro j
    rw [List.getElem?_map]
    by_cases h : j < order.length
    · rw [List.getElem?_range h]; simp [h]
    · rw [List.getElem?_eq_none (by rw [List.length_range]; omega), List.getElem?_eq_none (by omega)]; rfl
  have key := merge_eq inj hl order.length _ _ _ J List.length_range
  rw [er] at key
  rw [key, ← hmg]
  by_cases c : (mergedM xs).length = order.length
  · rw [if_pos c, if_pos (hag.mpr c)]
  · rw [if_neg c, if_neg fun z => c (hag.mp z)]
end Pg

/-! MaD: groups of pages, the mirror is the specification -/
namespace Pg
open R7249h.Spec (shares pageAt near linked groupOf groups leastOf leastOffset mostMissed isCertain freshFrom isBehind greatestOffset exampleTables nextOffset)
/-- linked by a chain -/
inductive Cl (E : Nat → Nat → Prop) : Nat → Nat → Prop
  | rfl (i : Nat) : Cl E i i
  | step {i k j : Nat} : Cl E i k → E k j → Cl E i j
theorem Cl.trans {E : Nat → Nat → Prop} {i j k : Nat} (h1 : Cl E i j) (h2 : Cl E j k) : Cl E i k := by
  induction h2 with
  | rfl => exact h1
  | step _ e ih => exact .step ih e
theorem Cl.symm {E : Nat → Nat → Prop} (sy : ∀ a b, E a b → E b a) {i j : Nat} (h : Cl E i j) : Cl E j i := by
  induction h with
  | rfl => exact .rfl _
  | step _ e ih => exact (Cl.step (.rfl _) (sy _ _ e)).trans ih
theorem Cl.mono {E F : Nat → Nat → Prop} (h : ∀ a b, E a b → F a b) {i j : Nat} (x : Cl E i j) : Cl F i j := by
  induction x with
  | rfl => exact .rfl _
  | step _ e ih => exact .step ih (h _ _ e)
structure MkInv (n : Nat) (E : Nat → Nat → Prop) (marks : List Nat) : Prop where
  len : marks.length = n
  eq : ∀ i j, i < n → j < n → (marks.getD i 0 = marks.getD j 0 ↔ Cl E i j)
  le : ∀ i, i < n → marks.getD i 0 ≤ i
  fix : ∀ i, i < n → marks.getD (marks.getD i 0) 0 = marks.getD i 0
theorem joined_getD {marks : List Nat} {f s i : Nat} (h : i < marks.length) : (joinedM marks f s).getD i 0 = if marks.getD i 0 = (if s > f then s else f) then (if s < f then s else f) else marks.getD i 0 := by
  unfold joinedM
  rw [List.getD_eq_getElem?_getD, List.getElem?_map, List.getElem?_eq_getElem h]
  simp [h]
theorem MkInv.join {n : Nat} {E : Nat → Nat → Prop} {marks : List Nat} (J : MkInv n E marks) (sy : ∀ a b, E a b → E b a) (bd : ∀ a b, E a b → a < n ∧ b < n) {e l : Nat} (he : e < n) (hl : l < n) :
    MkInv n (fun a b => E a b ∨ (a = e ∧ b = l) ∨ (a = l ∧ b = e)) (joinedM marks (marks.getD e 0) (marks.getD l 0)) := by
  generalize hme : marks.getD e 0 = me
  generalize hml : marks.getD l 0 = ml
  have hlow : (if ml < me then ml else me) = min me ml := by rcases Nat.lt_or_ge ml me with c | c; rw [if_pos c]; omega; rw [if_neg (by omega)]; omega
  have hhigh : (if ml > me then ml else me) = max me ml := by rcases Nat.lt_or_ge me ml with c | c; rw [if_pos c]; omega; rw [if_neg (by omega)]; omega
  have get : ∀ i, i < n → (joinedM marks me ml).getD i 0 = if marks.getD i 0 = max me ml then min me ml else marks.getD i 0 := by
    intro i hi
    rw [joined_getD (by rw [J.len]; exact hi), hlow, hhigh]
  have mee : me ≤ e := by rw [← hme]; exact J.le e he
  have mll : ml ≤ l := by rw [← hml]; exact J.le l hl
  have mem : marks.getD me 0 = me := by rw [← hme]; exact J.fix e he
  have mlm : marks.getD ml 0 = ml := by rw [← hml]; exact J.fix l hl
  have cmono : ∀ i j, Cl E i j → Cl (fun a b => E a b ∨ (a = e ∧ b = l) ∨ (a = l ∧ b = e)) i j := fun i j h => h.mono fun a b h => .inl h
  have sy' : ∀ a b, (E a b ∨ (a = e ∧ b = l) ∨ (a = l ∧ b = e)) → (E b a ∨ (b = e ∧ a = l) ∨ (b = l ∧ a = e)) := by
    rintro a b (h | ⟨h1, h2⟩ | ⟨h1, h2⟩)
    · exact .inl (sy _ _ h)
    · exact .inr (.inr ⟨h2, h1⟩)
    · exact .inr (.inl ⟨h2, h1⟩)
  -- what lies in a class of one of the two
  have toE : ∀ i, i < n → marks.getD i 0 = me → Cl E i e := fun i hi h => (J.eq i e hi he).mp (by rw [h, hme])
  have toL : ∀ i, i < n → marks.getD i 0 = ml → Cl E i l := fun i hi h => (J.eq i l hi hl).mp (by rw [h, hml])
  have el : Cl (fun a b => E a b ∨ (a = e ∧ b = l) ∨ (a = l ∧ b = e)) e l := .step (.rfl e) (.inr (.inl ⟨rfl, rfl⟩))
  have le' : Cl (fun a b => E a b ∨ (a = e ∧ b = l) ∨ (a = l ∧ b = e)) l e := .step (.rfl l) (.inr (.inr ⟨rfl, rfl⟩))
  have both : ∀ i, i < n → (marks.getD i 0 = me ∨ marks.getD i 0 = ml) → Cl (fun a b => E a b ∨ (a = e ∧ b = l) ∨ (a = l ∧ b = e)) i e := by
    rintro i hi (h | h)
    · exact cmono _ _ (toE i hi h)
    · exact (cmono _ _ (toL i hi h)).trans le'
  have fwd : ∀ i j, i < n → j < n → (joinedM marks me ml).getD i 0 = (joinedM marks me ml).getD j 0 → Cl (fun a b => E a b ∨ (a = e ∧ b = l) ∨ (a = l ∧ b = e)) i j := by
    intro i j hi hj h
    rw [get i hi, get j hj] at h
    by_cases c1 : marks.getD i 0 = max me ml
    · by_cases c2 : marks.getD j 0 = max me ml
      · exact cmono _ _ ((J.eq i j hi hj).mp (by rw [c1, c2]))
      · rw [if_pos c1, if_neg c2] at h
        exact (both i hi (by omega)).trans ((both j hj (by omega)).symm sy')
    · by_cases c2 : marks.getD j 0 = max me ml
      · rw [if_neg c1, if_pos c2] at h
        exact (both i hi (by omega)).trans ((both j hj (by omega)).symm sy')
      · rw [if_neg c1, if_neg c2] at h
        exact cmono _ _ ((J.eq i j hi hj).mp h)
  refine ⟨by rw [joined_length]; exact J.len, fun i j hi hj => ⟨fwd i j hi hj, fun h => ?_⟩, fun i hi => ?_, fun i hi => ?_⟩
  · have low : ∀ k, k < n → (marks.getD k 0 = me ∨ marks.getD k 0 = ml) → (joinedM marks me ml).getD k 0 = min me ml := by
      intro k hk h
      rw [get k hk]
      split <;> omega
    clear hj
    induction h with
    | rfl => rfl
    | @step k j h1 h2 ih =>
      rw [ih]
      rcases h2 with h2 | ⟨h2, h3⟩ | ⟨h2, h3⟩
      · obtain ⟨hk, hj⟩ := bd _ _ h2
        rw [get k hk, get j hj, (J.eq k j hk hj).mpr (.step (.rfl k) h2)]
      · rw [h2, h3, low e he (.inl hme), low l hl (.inr hml)]
      · rw [h2, h3, low e he (.inl hme), low l hl (.inr hml)]
  · rw [get i hi]
    have := J.le i hi
    split <;> omega
  · have h1 := J.le i hi
    have h2 := J.fix i hi
    rw [get i hi]
    by_cases c : marks.getD i 0 = max me ml
    · rw [if_pos c]
      have hmin : min me ml < n := by omega
      have hm2 : marks.getD (min me ml) 0 = min me ml := by
        rcases Nat.le_total me ml with k | k
        · rw [Nat.min_eq_left k]; exact mem
        · rw [Nat.min_eq_right k]; exact mlm
      rw [get _ hmin, hm2]
      split <;> rfl
    · rw [if_neg c, get _ (by omega), h2, if_neg c]
/-- what is linked by one of these pairs -/
def EdgeP (lists : List (List Nat)) (P : List (Nat × Nat)) (a b : Nat) : Prop := ∃ p ∈ P, shareM (lists.getD p.2 []) (lists.getD p.1 []) = true ∧ ((a = p.2 ∧ b = p.1) ∨ (a = p.1 ∧ b = p.2))
theorem edge_sym {lists : List (List Nat)} {P : List (Nat × Nat)} (a b : Nat) (h : EdgeP lists P a b) : EdgeP lists P b a := by
  obtain ⟨p, hp, hs, h | h⟩ := h
  · exact ⟨p, hp, hs, .inr ⟨h.2, h.1⟩⟩
  · exact ⟨p, hp, hs, .inl ⟨h.2, h.1⟩⟩
theorem cl_iff {E F : Nat → Nat → Prop} (h : ∀ a b, E a b ↔ F a b) (i j : Nat) : Cl E i j ↔ Cl F i j := ⟨fun x => x.mono fun a b => (h a b).mp, fun x => x.mono fun a b => (h a b).mpr⟩
theorem MkInv.iff {n : Nat} {E F : Nat → Nat → Prop} {marks : List Nat} (J : MkInv n E marks) (h : ∀ a b, E a b ↔ F a b) : MkInv n F marks := ⟨J.len, fun i j hi hj => (J.eq i j hi hj).trans (cl_iff h i j), J.le, J.fix⟩
theorem fold_pairs (lists : List (List Nat)) (n : Nat) : ∀ (P done : List (Nat × Nat)) (marks : List Nat), (∀ p ∈ P ++ done, p.1 < n ∧ p.2 < n) → MkInv n (EdgeP lists done) marks → ∃ done', (∀ p, p ∈ done' ↔ p ∈ P ∨ p ∈ done) ∧ MkInv n (EdgeP lists done') (P.foldl (fun m p => joinStep lists p.1 m p.2) marks)
  | [], done, marks, _, J => ⟨done, fun p => by simp, J⟩
  | q :: P, done, marks, hb, J => by
    obtain ⟨hq1, hq2⟩ := hb q List.mem_cons_self
    have bd : ∀ a b, EdgeP lists done a b → a < n ∧ b < n := by
      rintro a b ⟨p, hp, _, h | h⟩
      · have := hb p (List.mem_append_right _ hp)
        exact ⟨by rw [h.1]; exact this.2, by rw [h.2]; exact this.1⟩
      · have := hb p (List.mem_append_right _ hp)
        exact ⟨by rw [h.1]; exact this.1, by rw [h.2]; exact this.2⟩
    have J2 : MkInv n (EdgeP lists (q :: done)) (joinStep lists q.1 marks q.2) := by
      unfold joinStep
      by_cases c : shareM (lists.getD q.2 []) (lists.getD q.1 []) = true
      · rw [if_pos c]
        refine (J.join edge_sym bd hq2 hq1).iff fun a b => ?_
        constructor
        · rintro (⟨p, hp, h⟩ | h)
          · exact ⟨p, List.mem_cons_of_mem _ hp, h⟩
          · exact ⟨q, List.mem_cons_self, c, h⟩
        · rintro ⟨p, hp, h1, h2⟩
          rcases List.mem_cons.mp hp with z | z
          · rw [z] at h2; exact .inr h2
          · exact .inl ⟨p, z, h1, h2⟩
      · rw [if_neg c]
        refine J.iff fun a b => ?_
        constructor
        · rintro ⟨p, hp, h⟩
          exact ⟨p, List.mem_cons_of_mem _ hp, h⟩
        · rintro ⟨p, hp, h1, h2⟩
          rcases List.mem_cons.mp hp with z | z
          · rw [z] at h1; exact absurd h1 c
          · exact ⟨p, z, h1, h2⟩
    obtain ⟨done', h1, h2⟩ := fold_pairs lists n P (q :: done) _ (fun p hp => hb p (by
      rcases List.mem_append.mp hp with z | z
      · exact List.mem_cons_of_mem _ (List.mem_append_left _ z)
      · rcases List.mem_cons.mp z with z | z
        · rw [z]; exact List.mem_cons_self
        · exact List.mem_cons_of_mem _ (List.mem_append_right _ z))) J2
    refine ⟨done', fun p => ?_, h2⟩
    rw [h1, List.mem_cons, List.mem_cons]
    constructor
    · rintro (z | z | z)
      · exact .inl (.inr z)
      · exact .inl (.inl z)
      · exact .inr z
    · rintro ((z | z) | z)
      · exact .inr (.inl z)
      · exact .inl z
      · exact .inr (.inr z)
def pairsTo (n : Nat) : List (Nat × Nat) := (List.range n).flatMap fun l => (List.range l).map fun e => (l, e)
theorem group_pairs (lists : List (List Nat)) : groupM lists = (pairsTo lists.length).foldl (fun m p => joinStep lists p.1 m p.2) (List.range lists.length) := by
  unfold groupM pairsTo
  generalize List.range lists.length = marks
  suffices h : ∀ (ls : List Nat) (marks : List Nat), ls.foldl (fun marks later => (List.range later).foldl (joinStep lists later) marks) marks = (ls.flatMap fun l => (List.range l).map fun e => (l, e)).foldl (fun m p => joinStep lists p.1 m p.2) marks from h _ _
  intro ls
  induction ls with
  | nil => intro marks; rfl
  | cons l ls ih =>
    intro marks
    rw [List.foldl_cons, List.flatMap_cons, List.foldl_append, ih, List.foldl_map]
/-- the pages' links -/
def Link (ps : List Page) (a b : Nat) : Prop := a < ps.length ∧ b < ps.length ∧ shares (pageAt ps a) (pageAt ps b) = true
theorem shares_eq (p q : Page) : shares p q = shareM p.rows q.rows := by
  unfold shares shareM
  congr 1
  funext r
  simp
theorem share_sym (a b : List Nat) : shareM a b = shareM b a := by
  rw [Bool.eq_iff_iff]
  unfold shareM
  rw [List.any_eq_true, List.any_eq_true]
  constructor
  · rintro ⟨r, h1, h2⟩
    exact ⟨r, of_decide_eq_true h2, decide_eq_true h1⟩
  · rintro ⟨r, h1, h2⟩
    exact ⟨r, of_decide_eq_true h2, decide_eq_true h1⟩
theorem rows_at (ps : List Page) (i : Nat) : (ps.map (·.rows)).getD i [] = (pageAt ps i).rows := by
  unfold pageAt
  rw [List.getD_eq_getElem?_getD, List.getElem?_map, List.getD_eq_getElem?_getD]
  cases ps[i]? <;> rfl
theorem marks_inv (ps : List Page) : MkInv ps.length (Link ps) (marksOf ps) := by
  unfold marksOf
  rw [group_pairs]
  have hl : (ps.map (·.rows)).length = ps.length := List.length_map ..
  rw [hl]
  have J0 : MkInv ps.length (EdgeP (ps.map (·.rows)) []) (List.range ps.length) := by
    have g : ∀ i, i < ps.length → (List.range ps.length).getD i 0 = i := fun i hi => by simp [hi]
    refine ⟨List.length_range, fun i j hi hj => ?_, fun i hi => Nat.le_of_eq (g i hi), fun i hi => by rw [g i hi, g i hi]⟩
    rw [g i hi, g j hj]
    constructor
    · intro h; rw [h]; exact .rfl _
    · intro h
      cases h with
      | rfl => rfl
      | step _ e => obtain ⟨p, hp, _⟩ := e; cases hp
  have mem : ∀ p : Nat × Nat, p ∈ pairsTo ps.length ↔ p.1 < ps.length ∧ p.2 < p.1 := by
    intro p
    unfold pairsTo
    rw [List.mem_flatMap]
    constructor
    · rintro ⟨l, hl, h⟩
      obtain ⟨e, he, rfl⟩ := List.mem_map.mp h
      exact ⟨List.mem_range.mp hl, List.mem_range.mp he⟩
    · rintro ⟨h1, h2⟩
      exact ⟨p.1, List.mem_range.mpr h1, List.mem_map.mpr ⟨p.2, List.mem_range.mpr h2, rfl⟩⟩
  obtain ⟨done', h1, h2⟩ := fold_pairs (ps.map (·.rows)) ps.length (pairsTo ps.length) [] _ (fun p hp => by
    rw [List.append_nil] at hp
    have := (mem p).mp hp
    exact ⟨this.1, by omega⟩) J0
  refine ⟨h2.len, fun i j hi hj => (h2.eq i j hi hj).trans ?_, h2.le, h2.fix⟩
  constructor
  · intro h
    refine h.mono fun a b => ?_
    rintro ⟨p, hp, hs, h | h⟩
    · have := (mem p).mp (((h1 p).mp hp).resolve_right (by simp))
      rw [h.1, h.2]
      rw [rows_at, rows_at] at hs
      exact ⟨by omega, this.1, by rw [shares_eq]; exact hs⟩
    · have := (mem p).mp (((h1 p).mp hp).resolve_right (by simp))
      rw [h.1, h.2]
      rw [rows_at, rows_at] at hs
      exact ⟨this.1, by omega, by rw [shares_eq, share_sym]; exact hs⟩
  · intro h
    induction h with
    | rfl => exact .rfl _
    | @step k j h1' h2' ih =>
      obtain ⟨hk, hj', hs⟩ := h2'
      rw [shares_eq] at hs
      rcases Nat.lt_trichotomy k j with c | c | c
      · refine .step (ih hk) ⟨(j, k), (h1 _).mpr (.inl ((mem _).mpr ⟨hj', c⟩)), ?_, .inl ⟨rfl, rfl⟩⟩
        rw [rows_at, rows_at]
        exact hs
      · rw [← c]; exact ih hk
      · refine .step (ih hk) ⟨(k, j), (h1 _).mpr (.inl ((mem _).mpr ⟨hk, c⟩)), ?_, .inr ⟨rfl, rfl⟩⟩
        rw [rows_at, rows_at, share_sym]
        exact hs
/-! ### chains of any length are found -/
theorem near_mono {ps : List Page} {i j : Nat} : ∀ {f g : Nat}, f ≤ g → near ps f i j = true → near ps g i j = true
  | f, g, h, hn => by
    induction h with
    | refl => exact hn
    | step _ ih =>
      show (near ps _ i j || _) = true
      rw [ih]
      rfl
theorem near_cl {ps : List Page} {i : Nat} : ∀ {f j : Nat}, i < ps.length → j < ps.length → near ps f i j = true → Cl (Link ps) i j
  | 0, j, _, _, h => by
    have : i = j := by simpa [near] using h
    rw [this]; exact .rfl _
  | f + 1, j, hi, hj, h => by
    have h' : (near ps f i j || (List.range ps.length).any fun k => near ps f i k && shares (pageAt ps k) (pageAt ps j)) = true := h
    rw [Bool.or_eq_true] at h'
    rcases h' with z | z
    · exact near_cl hi hj z
    · rw [List.any_eq_true] at z
      obtain ⟨k, hk, z⟩ := z
      rw [Bool.and_eq_true] at z
      have hk' := List.mem_range.mp hk
      exact .step (near_cl hi hk' z.1) ⟨hk', hj, z.2⟩
/-- nothing new is found from here on -/
def Still (ps : List Page) (i f : Nat) : Prop := ∀ j, j < ps.length → near ps (f + 1) i j = true → near ps f i j = true
theorem still_next {ps : List Page} {i f : Nat} (h : Still ps i f) : Still ps i (f + 1) := by
  intro j hj hn
  have h' : (near ps (f + 1) i j || (List.range ps.length).any fun k => near ps (f + 1) i k && shares (pageAt ps k) (pageAt ps j)) = true := hn
  rw [Bool.or_eq_true] at h'
  rcases h' with z | z
  · exact z
  · rw [List.any_eq_true] at z
    obtain ⟨k, hk, z⟩ := z
    rw [Bool.and_eq_true] at z
    show (near ps f i j || (List.range ps.length).any fun k => near ps f i k && shares (pageAt ps k) (pageAt ps j)) = true
    rw [Bool.or_eq_true]
    right
    rw [List.any_eq_true]
    exact ⟨k, hk, by rw [Bool.and_eq_true]; exact ⟨h k (List.mem_range.mp hk) z.1, z.2⟩⟩
theorem still_on {ps : List Page} {i f : Nat} (h : Still ps i f) : ∀ g, f ≤ g → Still ps i g := by
  intro g hg
  induction hg with
  | refl => exact h
  | step _ ih => exact still_next ih
def cnt (ps : List Page) (i f : Nat) : Nat := ((List.range ps.length).filter fun j => near ps f i j).length
theorem filter_more {p q : Nat → Bool} {x : Nat} : ∀ {l : List Nat}, (∀ y ∈ l, p y = true → q y = true) → x ∈ l → p x = false → q x = true → (l.filter p).length + 1 ≤ (l.filter q).length
  | [], _, h, _, _ => nomatch h
  | a :: l, hpq, hx, h1, h2 => by
    have sub : ∀ l' : List Nat, (∀ y ∈ l', p y = true → q y = true) → (l'.filter p).length ≤ (l'.filter q).length := by
      intro l'
      induction l' with
      | nil => intro _; exact Nat.le_refl _
      | cons b l' ih =>
        intro hb
        have ih' := ih fun y hy => hb y (List.mem_cons_of_mem _ hy)
        by_cases c : p b = true
        · rw [List.filter_cons_of_pos c, List.filter_cons_of_pos (hb b List.mem_cons_self c)]
          simp only [List.length_cons]
          omega
        · rw [List.filter_cons_of_neg c]
          by_cases c2 : q b = true
          · rw [List.filter_cons_of_pos c2]; simp only [List.length_cons]; omega
          · rw [List.filter_cons_of_neg c2]; exact ih'
    rcases List.mem_cons.mp hx with z | z
    · subst z
      rw [List.filter_cons_of_neg (by rw [h1]; decide), List.filter_cons_of_pos h2]
      have := sub l fun y hy => hpq y (List.mem_cons_of_mem _ hy)
      simp only [List.length_cons]
      omega
    · have ih := filter_more (l := l) (fun y hy => hpq y (List.mem_cons_of_mem _ hy)) z h1 h2
      by_cases c : p a = true
      · rw [List.filter_cons_of_pos c, List.filter_cons_of_pos (hpq a List.mem_cons_self c)]
        simp only [List.length_cons]
        omega
      · rw [List.filter_cons_of_neg c]
        by_cases c2 : q a = true
        · rw [List.filter_cons_of_pos c2]; simp only [List.length_cons]; omega
        · rw [List.filter_cons_of_neg c2]; exact ih
theorem cnt_grows {ps : List Page} {i : Nat} (hi : i < ps.length) : ∀ f, f + 1 ≤ cnt ps i f ∨ ∃ g, g ≤ f ∧ Still ps i g
  | 0 => by
    left
    unfold cnt
    have : i ∈ (List.range ps.length).filter fun j => near ps 0 i j := List.mem_filter.mpr ⟨List.mem_range.mpr hi, by simp [near]⟩
    exact List.length_pos_of_mem this
  | f + 1 => by
    rcases cnt_grows hi f with h | ⟨g, hg, h⟩
    · by_cases st : Still ps i f
      · exact .inr ⟨f, Nat.le_succ _, st⟩
      · left
        unfold Still at st
        obtain ⟨j, hj⟩ := Classical.not_forall.mp st
        have hj1 : j < ps.length := Classical.byContradiction fun z => hj fun a => absurd a z
        have hj2 : near ps (f + 1) i j = true := Classical.byContradiction fun z => hj fun _ b => absurd b z
        have hj3 : near ps f i j = false := by
          cases c : near ps f i j with
          | false => rfl
          | true => exact absurd (fun _ _ => c) hj
        have := filter_more (l := List.range ps.length) (p := fun j => near ps f i j) (q := fun j => near ps (f + 1) i j) (x := j) (fun y _ hy => near_mono (Nat.le_succ _) hy) (List.mem_range.mpr hj1) hj3 hj2
        unfold cnt at h ⊢
        omega
    · exact .inr ⟨g, Nat.le_succ_of_le hg, h⟩
theorem filter_full {p : Nat → Bool} : ∀ {l : List Nat}, l.length ≤ (l.filter p).length → ∀ y ∈ l, p y = true
  | [], _, y, hy => nomatch hy
  | a :: l, h, y, hy => by
    have le := List.length_filter_le p l
    by_cases c : p a = true
    · rw [List.filter_cons_of_pos c] at h
      simp only [List.length_cons] at h
      rcases List.mem_cons.mp hy with z | z
      · rw [z]; exact c
      · exact filter_full (by omega) y z
    · rw [List.filter_cons_of_neg c] at h
      simp only [List.length_cons] at h
      omega
theorem linked_iff {ps : List Page} {i j : Nat} (hi : i < ps.length) (hj : j < ps.length) : linked ps i j = true ↔ Cl (Link ps) i j := by
  unfold linked
  refine ⟨near_cl hi hj, fun h => ?_⟩
  have st : Still ps i (ps.length - 1) := by
    rcases cnt_grows hi (ps.length - 1) with h | ⟨g, hg, h⟩
    · intro k hk _
      have full := filter_full (p := fun j => near ps (ps.length - 1) i j) (l := List.range ps.length) (by rw [List.length_range]; unfold cnt at h; omega)
      exact full k (List.mem_range.mpr hk)
    · exact still_on h _ hg
  clear hj
  induction h with
  | rfl => exact near_mono (Nat.zero_le _) (show near ps 0 i i = true by simp [near])
  | @step k j _ e ih =>
    obtain ⟨hk, hj, hs⟩ := e
    refine st j hj ?_
    show (near ps (ps.length - 1) i j || (List.range ps.length).any fun k => near ps (ps.length - 1) i k && shares (pageAt ps k) (pageAt ps j)) = true
    rw [Bool.or_eq_true]
    right
    rw [List.any_eq_true]
    exact ⟨k, List.mem_range.mpr hk, by rw [Bool.and_eq_true]; exact ⟨ih, hs⟩⟩
theorem linked_marks {ps : List Page} {i j : Nat} (hi : i < ps.length) (hj : j < ps.length) : linked ps i j = decide ((marksOf ps).getD j 0 = (marksOf ps).getD i 0) := by
  rw [Bool.eq_iff_iff, linked_iff hi hj, decide_eq_true_iff, ← (marks_inv ps).eq i j hi hj]
  exact eq_comm
theorem group_eq {ps : List Page} {i : Nat} (hi : i < ps.length) : groupOf ps i = markedM (marksOf ps) ((marksOf ps).getD i 0) := by
  unfold groupOf markedM
  rw [marks_length]
  apply List.filter_congr
  intro j hj
  exact linked_marks hi (List.mem_range.mp hj)
end Pg

/-! MaE: what is asked of pages, the mirror is the specification -/
namespace Pg
open R7249h.Spec (shares pageAt near linked groupOf groups leastOf leastOffset mostMissed isCertain freshFrom isBehind greatestOffset exampleTables nextOffset)
theorem leastOf_none {L : List Nat} : leastOf L = none ↔ L = [] := by
  cases L with
  | nil => exact ⟨fun _ => rfl, fun _ => rfl⟩
  | cons n l =>
    refine ⟨fun h => ?_, fun h => nomatch h⟩
    unfold leastOf at h
    cases e : leastOf l <;> rw [e] at h <;> cases h
theorem leastOf_some : ∀ {L : List Nat} {m : Nat}, leastOf L = some m ↔ m ∈ L ∧ ∀ x ∈ L, m ≤ x
  | [], m => ⟨(fun h => nomatch h), (fun h => nomatch h.1)⟩
  | n :: l, m => by
    unfold leastOf
    cases e : leastOf l with
    | none =>
      rw [leastOf_none.mp e]
      constructor
      · intro h
        cases h
        exact ⟨List.mem_cons_self, fun x hx => by simp at hx; omega⟩
      · rintro ⟨h, _⟩
        simp at h
        rw [h]
    | some k =>
      obtain ⟨h1, h2⟩ := leastOf_some.mp e
      constructor
      · intro h
        simp only [Option.some.injEq] at h
        refine ⟨?_, fun x hx => ?_⟩
        · rcases Nat.le_total n k with c | c
          · rw [Nat.min_eq_left c] at h; rw [← h]; exact List.mem_cons_self
          · rw [Nat.min_eq_right c] at h; rw [← h]; exact List.mem_cons_of_mem _ h1
        · rcases List.mem_cons.mp hx with z | z
          · omega
          · have := h2 x z
            omega
      · rintro ⟨h3, h4⟩
        have h5 := h4 n List.mem_cons_self
        have h6 := h4 k (List.mem_cons_of_mem _ h1)
        simp only [Option.some.injEq]
        rcases List.mem_cons.mp h3 with z | z
        · omega
        · have := h2 m z
          omega
def optI (d : Int) : Option Nat → Int
  | none => d
  | some m => (m : Int)
theorem leastI_eq (d : Int) (L : List Nat) : leastI d (L.map natI) = optI d (leastOf L) := by
  cases L with
  | nil => rfl
  | cons n l =>
    have go : ∀ (l : List Nat) (n : Nat), ∃ m : Nat, (l.map natI).foldl min (n : Int) = m ∧ m ∈ n :: l ∧ ∀ x ∈ n :: l, m ≤ x := by
      intro l
      induction l with
      | nil => intro n; exact ⟨n, rfl, List.mem_cons_self, fun x hx => by simp at hx; omega⟩
      | cons a l ih =>
        intro n
        obtain ⟨m, h1, h2, h3⟩ := ih (min n a)
        refine ⟨m, ?_, ?_, fun x hx => ?_⟩
        · rw [← h1]
          show (l.map natI).foldl min (min (n : Int) (a : Int)) = _
          congr 1
          omega
        · rcases List.mem_cons.mp h2 with z | z
          · rcases Nat.le_total n a with c | c
            · rw [z, Nat.min_eq_left c]; exact List.mem_cons_self
            · rw [z, Nat.min_eq_right c]; exact List.mem_cons_of_mem _ List.mem_cons_self
          · exact List.mem_cons_of_mem _ (List.mem_cons_of_mem _ z)
        · have hm := h3 (min n a) List.mem_cons_self
          rcases List.mem_cons.mp hx with z | z
          · omega
          · rcases List.mem_cons.mp z with z | z
            · omega
            · exact h3 x (List.mem_cons_of_mem _ z)
    obtain ⟨m, h1, h2, h3⟩ := go l n
    have e : leastOf (n :: l) = some m := leastOf_some.mpr ⟨h2, h3⟩
    rw [e]
    exact h1
theorem leastOf_same {A B : List Nat} (h1 : ∀ a ∈ A, ∃ b ∈ B, b ≤ a) (h2 : ∀ b ∈ B, b ∈ A) : leastOf A = leastOf B := by
  cases e : leastOf B with
  | none =>
    rw [leastOf_none] at e ⊢
    subst e
    cases A with
    | nil => rfl
    | cons a l =>
      obtain ⟨b, hb, _⟩ := h1 a List.mem_cons_self
      cases hb
  | some m =>
    obtain ⟨k1, k2⟩ := leastOf_some.mp e
    refine leastOf_some.mpr ⟨h2 m k1, fun a ha => ?_⟩
    obtain ⟨b, hb, hle⟩ := h1 a ha
    have := k2 b hb
    omega
theorem ending_iff {size : Nat} {ps : List Page} {i : Nat} (hi : i < ps.length) : (endingM size ps).getD i false = true ↔ ∃ j, j < ps.length ∧ (pgAt ps j).rows.length < size ∧ (marksOf ps).getD j 0 = (marksOf ps).getD i 0 := by
  have hm := marks_length ps
  have e : (endingM size ps).getD i false = decide ((marksOf ps).getD i 0 ∈ endMarksM size ps (marksOf ps)) := by
    unfold endingM
    rw [List.getD_eq_getElem?_getD, List.getElem?_map, List.getElem?_eq_getElem (by omega)]
    simp [show i < (marksOf ps).length from by omega]
  rw [e, decide_eq_true_iff]
  unfold endMarksM
  rw [List.mem_map]
  constructor
  · rintro ⟨j, hj, h⟩
    obtain ⟨h1, h2⟩ := List.mem_filter.mp hj
    exact ⟨j, List.mem_range.mp h1, of_decide_eq_true h2, h⟩
  · rintro ⟨j, h1, h2, h3⟩
    exact ⟨j, List.mem_filter.mpr ⟨List.mem_range.mpr h1, decide_eq_true h2⟩, h3⟩
theorem mem_group {ps : List Page} {i j : Nat} (hi : i < ps.length) : j ∈ groupOf ps i ↔ j < ps.length ∧ (marksOf ps).getD j 0 = (marksOf ps).getD i 0 := by
  rw [group_eq hi]
  unfold markedM
  rw [List.mem_filter, List.mem_range, marks_length, decide_eq_true_iff]
theorem ending_behind {size : Nat} {ps : List Page} {i : Nat} (hi : i < ps.length) : (endingM size ps).getD i false = isBehind size ps i := by
  rw [Bool.eq_iff_iff, ending_iff hi]
  unfold isBehind
  rw [List.any_eq_true]
  constructor
  · rintro ⟨j, h1, h2, h3⟩
    exact ⟨j, (mem_group hi).mpr ⟨h1, h3⟩, decide_eq_true h2⟩
  · rintro ⟨j, h1, h2⟩
    obtain ⟨h3, h4⟩ := (mem_group hi).mp h1
    exact ⟨j, h3, of_decide_eq_true h2, h4⟩
theorem leastOffset_some {ps : List Page} {i m : Nat} (hi : i < ps.length) : leastOffset ps i = some m ↔ (∃ j, j < ps.length ∧ (marksOf ps).getD j 0 = (marksOf ps).getD i 0 ∧ (pgAt ps j).offset = m) ∧ ∀ j, j < ps.length → (marksOf ps).getD j 0 = (marksOf ps).getD i 0 → m ≤ (pgAt ps j).offset := by
  unfold leastOffset
  rw [leastOf_some]
  constructor
  · rintro ⟨h1, h2⟩
    refine ⟨?_, fun j hj hm => h2 _ (List.mem_map.mpr ⟨j, (mem_group hi).mpr ⟨hj, hm⟩, rfl⟩)⟩
    obtain ⟨j, hj, e⟩ := List.mem_map.mp h1
    obtain ⟨h3, h4⟩ := (mem_group hi).mp hj
    exact ⟨j, h3, h4, e⟩
  · rintro ⟨⟨j, h1, h2, h3⟩, h4⟩
    refine ⟨List.mem_map.mpr ⟨j, (mem_group hi).mpr ⟨h1, h2⟩, h3⟩, fun x hx => ?_⟩
    obtain ⟨k, hk, rfl⟩ := List.mem_map.mp hx
    obtain ⟨h5, h6⟩ := (mem_group hi).mp hk
    exact h4 k h5 h6
theorem leastOffset_is {ps : List Page} {i : Nat} (hi : i < ps.length) : ∃ m, leastOffset ps i = some m := by
  cases e : leastOffset ps i with
  | some m => exact ⟨m, rfl⟩
  | none =>
    unfold leastOffset at e
    rw [leastOf_none, List.map_eq_nil_iff] at e
    have : i ∈ groupOf ps i := (mem_group hi).mpr ⟨hi, rfl⟩
    rw [e] at this
    cases this
theorem most_eq (size : Nat) (ps : List Page) : mostI size ps = optI (-1) (mostMissed size ps) := by
  unfold mostI
  have e0 : (((List.range ps.length).filter fun i => (endingM size ps).getD i false).map fun i => ((pgAt ps i).offset : Int)) = (((List.range ps.length).filter fun i => (endingM size ps).getD i false).map fun i => (pgAt ps i).offset).map natI := by rw [List.map_map]; rfl
  rw [e0, leastI_eq]
  congr 1
  unfold mostMissed
  refine leastOf_same (fun a ha => ?_) fun b hb => ?_
  · obtain ⟨i, hi, rfl⟩ := List.mem_map.mp ha
    obtain ⟨h1, h2⟩ := List.mem_filter.mp hi
    have hi' := List.mem_range.mp h1
    obtain ⟨j, hj, hs, hm⟩ := (ending_iff hi').mp h2
    obtain ⟨m, hmo⟩ := leastOffset_is hj
    refine ⟨m, List.mem_filterMap.mpr ⟨j, List.mem_filter.mpr ⟨List.mem_range.mpr hj, decide_eq_true hs⟩, hmo⟩, ?_⟩
    exact ((leastOffset_some hj).mp hmo).2 i hi' hm.symm
  · obtain ⟨i, hi, e⟩ := List.mem_filterMap.mp hb
    obtain ⟨h1, h2⟩ := List.mem_filter.mp hi
    have hi' := List.mem_range.mp h1
    obtain ⟨⟨j, h3, h4, h5⟩, _⟩ := (leastOffset_some hi').mp e
    exact List.mem_map.mpr ⟨j, List.mem_filter.mpr ⟨List.mem_range.mpr h3, (ending_iff h3).mpr ⟨i, hi', of_decide_eq_true h2, h4.symm⟩⟩, h5⟩
theorem certain_eq (size : Nat) (ps : List Page) : certainM size ps = isCertain size ps := by
  unfold certainM isCertain
  rw [most_eq]
  cases mostMissed size ps with
  | none => rfl
  | some m =>
    cases m with
    | zero => rfl
    | succ k =>
      have h : ¬ optI (-1) (some (k + 1)) = 0 := by show ¬ ((k + 1 : Nat) : Int) = 0; omega
      rw [decide_eq_false h]
      rfl
theorem head_least {p : Nat → Bool} {n k : Nat} (hk : k < n) (hp : p k = true) (hl : ∀ j, j < k → p j = false) : ((List.range n).filter p).head? = some k := by
  rw [List.head?_filter, List.find?_range_eq_some]
  exact ⟨hp, List.mem_range.mpr hk, fun j hj => by rw [hl j hj]; rfl⟩
theorem groups_eq (ps : List Page) : groups ps = linkedM ps := by
  unfold groups linkedM firstsM
  rw [marks_length]
  have J := marks_inv ps
  have e1 : (List.range ps.length).filter (fun i => (groupOf ps i).head? == some i) = (List.range ps.length).filter fun i => decide ((marksOf ps).getD i 0 = i) := by
    apply List.filter_congr
    intro i hi
    have hi' := List.mem_range.mp hi
    have h1 := J.le i hi'
    have h2 := J.fix i hi'
    have e : (groupOf ps i).head? = some ((marksOf ps).getD i 0) := by
      rw [group_eq hi']
      unfold markedM
      rw [marks_length]
      refine head_least (by omega) (decide_eq_true h2) fun j hj => decide_eq_false fun z => ?_
      have := J.le j (by omega)
      omega
    rw [e]
    by_cases c : (marksOf ps).getD i 0 = i
    · rw [c]; simp
    · rw [decide_eq_false c]
      simp only [beq_eq_false_iff_ne, ne_eq, Option.some.injEq]
      exact c
  rw [e1]
  apply List.map_congr_left
  intro i hi
  obtain ⟨h1, h2⟩ := List.mem_filter.mp hi
  rw [group_eq (List.mem_range.mp h1), of_decide_eq_true h2]
theorem begin_eq {ps : List Page} (h : 0 < ps.length) : beginM ps = (leastOffset ps (ps.length - 1) == some 0) := by
  have hi : ps.length - 1 < ps.length := by omega
  rw [Bool.eq_iff_iff, beq_iff_eq, leastOffset_some hi]
  unfold beginM markedM
  rw [List.any_eq_true]
  constructor
  · rintro ⟨j, hj, h0⟩
    obtain ⟨h1, h2⟩ := List.mem_filter.mp hj
    rw [List.mem_range, marks_length] at h1
    exact ⟨⟨j, h1, of_decide_eq_true h2, of_decide_eq_true h0⟩, fun _ _ _ => Nat.zero_le _⟩
  · rintro ⟨⟨j, h1, h2, h3⟩, _⟩
    exact ⟨j, List.mem_filter.mpr ⟨by rw [List.mem_range, marks_length]; exact h1, decide_eq_true h2⟩, decide_eq_true h3⟩
theorem next_eq {size : Nat} {ps : List Page} (hs : 1 ≤ size) : nextI size ps = if isCertain size ps = true then -1 else ((nextOffset size ps : Nat) : Int) := by
  unfold nextI
  rw [certain_eq]
  by_cases c : isCertain size ps = true
  · rw [if_pos c, if_pos c]
  · rw [if_neg c, if_neg c]
    unfold nextOffset
    by_cases c0 : ps.length = 0
    · rw [if_pos c0]
      rw [List.length_eq_zero_iff] at c0
      subst c0
      rfl
    · rw [if_neg c0]
      have hl : ps.getLast? = some (pgAt ps (ps.length - 1)) := by
        rw [List.getLast?_eq_getElem?]
        exact pgAt_get (by omega)
      rw [hl, begin_eq (by omega)]
      simp only
      by_cases c1 : (leastOffset ps (ps.length - 1) == some 0) = true
      · rw [if_pos c1, if_pos c1]
        omega
      · rw [if_neg c1, if_neg c1]
        split <;> omega
theorem great_eq (ps : List Page) : (greatM ps).toNat = greatestOffset ps := by
  unfold greatM greatestOffset
  cases ps with
  | nil => rfl
  | cons p r =>
    have go : ∀ (l : List Nat) (n : Nat), (l.map natI).foldl max (n : Int) = ((l.foldl max n : Nat) : Int) := by
      intro l
      induction l with
      | nil => intro n; rfl
      | cons a l ih =>
        intro n
        show (l.map natI).foldl max (max (n : Int) (a : Int)) = _
        have e : max (n : Int) (a : Int) = ((max n a : Nat) : Int) := by omega
        rw [e, ih]
        rfl
    show ((r.map fun p => (p.offset : Int)).foldl max (p.offset : Int)).toNat = (r.map fun p => p.offset).foldl max (max 0 p.offset)
    have e0 : (r.map fun p => (p.offset : Int)) = (r.map fun p => p.offset).map natI := by rw [List.map_map]; rfl
    rw [e0, go, Nat.zero_max]
    rfl
theorem fresh_eq (ps : List Page) : aboveM (ps.map (·.rows)).flatten = freshFrom ps := by
  unfold aboveM freshFrom
  rfl
theorem example_eq (size k : Nat) (ps : List Page) : exampleM size k ps = exampleTables size k ps := by
  unfold exampleM exampleTables
  apply List.map_congr_left
  intro i hi
  have hi' := List.mem_range.mp hi
  unfold exampleAt
  rw [ending_behind hi', fresh_eq, great_eq]
  rfl
end Pg

/-! MaF: values that are handed in and out; messages -/
namespace Pg
open PySem (Str)
open R7249h.Spec
open Rust (taken takenAll takenFields given givenAll givenFields narrow narrowAll narrowFields unitOf octetOf)
abbrev Pl := R7249h.Spec.Plain
/-! ### numbers -/
theorem range_taken (a b : Nat) (x : RWire.Value) : rangeIn a b (taken x) = rangeV a b x := by
  cases x with
  | int i =>
    have e : taken (.int i) = .num (some i) := by simp [taken, RShim.F64.ofInt]
    rw [e]
    show (if (Int.ofNat a) ≤ i ∧ i ≤ (Int.ofNat b) then some i else none).map Int.toNat = if (a : Int) ≤ i ∧ i ≤ (b : Int) then some i.toNat else none
    by_cases c : (a : Int) ≤ i ∧ i ≤ (b : Int)
    · rw [if_pos c]
      have c' : (Int.ofNat a) ≤ i ∧ i ≤ (Int.ofNat b) := c
      rw [if_pos c']
      rfl
    · rw [if_neg c]
      have c' : ¬ ((Int.ofNat a) ≤ i ∧ i ≤ (Int.ofNat b)) := c
      rw [if_neg c']
      rfl
  | _ => simp [taken, rangeIn, rangeInt, whole, rangeV]
theorem whole_range (hi : Nat) (x : RWire.Value) : wholeV hi x = rangeV 0 hi x := by
  cases x <;> rfl
theorem takenAll_length : ∀ l : List RWire.Value, (takenAll l).length = l.length
  | [] => by simp [takenAll]
  | x :: l => by simp [takenAll, takenAll_length l]
theorem numbers_taken (hi : Nat) : ∀ l : List RWire.Value, numbersIn hi (takenAll l) = match allV (wholeV hi) l with | some ns => if ns.Nodup then some ns else none | none => none
  | [] => by simp [takenAll, numbersIn, allV]
  | x :: l => by
    have ih := numbers_taken hi l
    rw [show takenAll (x :: l) = taken x :: takenAll l from by simp [takenAll]]
    unfold numbersIn
    rw [range_taken, ← whole_range, ih]
    cases h1 : wholeV hi x with
    | none =>
      rw [show allV (wholeV hi) (x :: l) = none from by simp [allV, h1]]
    | some n =>
      cases h2 : allV (wholeV hi) l with
      | none =>
        rw [show allV (wholeV hi) (x :: l) = none from by simp [allV, h1, h2]]
      | some ns =>
        rw [show allV (wholeV hi) (x :: l) = some (n :: ns) from by simp [allV, h1, h2]]
        simp only
        by_cases c : ns.Nodup
        · rw [if_pos c]
          simp only
          by_cases k : n ∈ ns
          · have e : ns.contains n = true := by simpa using k
            rw [if_pos e, if_neg fun z => (List.nodup_cons.mp z).1 k]
          · have e : ¬ ns.contains n = true := by simpa using k
            rw [if_neg e, if_pos (List.nodup_cons.mpr ⟨k, c⟩)]
        · rw [if_neg c, if_neg fun z => c (List.nodup_cons.mp z).2]
theorem table_taken {x : RWire.Value} (hp : plain x = true) : tableIn (taken x) = wholesV 1001000 x := by
  cases x with
  | list l =>
    rw [show taken (.list l) = .arr (takenAll l) from by simp [taken]]
    show numbersIn 1001000 (takenAll l) = _
    rw [numbers_taken]
    rfl
  | octets u => simp [plain] at hp
  | _ => simp [taken, tableIn, wholesV]
theorem wholes_len {hi : Nat} {l : List RWire.Value} {ns : List Nat} (h : wholesV hi (.list l) = some ns) : ns.length = l.length := by
  obtain ⟨l', e, _, h2, _⟩ := wholesV_list h
  cases e
  exact h2
theorem rows_taken {x : RWire.Value} (s : Nat) (hp : plain x = true) : rowsIn s (taken x) = rowsV s x := by
  cases x with
  | list l =>
    rw [show taken (.list l) = .arr (takenAll l) from by simp [taken]]
    show (if (takenAll l).length ≤ s then numbersIn 1000000 (takenAll l) else none) = _
    rw [takenAll_length, numbers_taken]
    show (if l.length ≤ s then wholesV 1000000 (.list l) else none) = _
    unfold rowsV
    cases h : wholesV 1000000 (.list l) with
    | none => simp
    | some ns =>
      simp only
      rw [wholes_len h]
  | octets u => simp [plain] at hp
  | _ => simp [taken, rowsIn, rowsV, wholesV]
theorem page_taken {x : RWire.Value} (s : Nat) (hp : plain x = true) : pageIn s (taken x) = pageV s x := by
  cases x with
  | list l =>
    rw [show taken (.list l) = .arr (takenAll l) from by simp [taken]]
    match l, hp with
    | [], _ => simp [takenAll, pageIn, pageV]
    | [_], _ => simp [takenAll, pageIn, pageV]
    | [o, r], hp =>
      have hp' : plain o = true ∧ plain r = true := by simpa [plain, plains] using hp
      rw [show takenAll [o, r] = [taken o, taken r] from by simp [takenAll], pageV_two]
      show (match rangeIn 0 200 (taken o), rowsIn s (taken r) with | some o, some rows => some (⟨o, rows⟩ : Page) | _, _ => none) = _
      rw [range_taken, rows_taken s hp'.2, whole_range]
      all_goals (cases rangeV 0 200 o <;> cases rowsV s r <;> rfl)
    | _ :: _ :: _ :: _, _ => simp [takenAll, pageIn, pageV]
  | octets u => simp [plain] at hp
  | _ => simp [taken, pageIn, pageV]
theorem allSome_taken {β : Type} {f : Pl → Option β} {g : RWire.Value → Option β} : ∀ l : List RWire.Value, (∀ x ∈ l, f (taken x) = g x) → allSome f (takenAll l) = allV g l
  | [], _ => by simp [takenAll, allSome, allV]
  | x :: l, h => by
    rw [show takenAll (x :: l) = taken x :: takenAll l from by simp [takenAll]]
    unfold allSome allV
    rw [h x List.mem_cons_self, allSome_taken l fun y hy => h y (List.mem_cons_of_mem _ hy)]
    cases g x with
    | none => rfl
    | some a => cases allV g l <;> rfl
theorem plains_all {l : List RWire.Value} (h : plains l = true) : ∀ x ∈ l, plain x = true := plains_mem h
theorem pagesArg_taken {x : RWire.Value} (s : Nat) (hp : plain x = true) : pagesArg s (taken x) = match pagesV s x with | some ps => .ok ps | none => .error noPages := by
  cases x with
  | list l =>
    rw [show taken (.list l) = .arr (takenAll l) from by simp [taken]]
    have hp' : plains l = true := by simpa [plain] using hp
    have e := allSome_taken (f := pageIn s) (g := pageV s) l fun x hx => page_taken s (plains_all hp' x hx)
    show (match if (takenAll l).length ≤ 20 then allSome (pageIn s) (takenAll l) else none with | some ps => Except.ok ps | none => .error noPages) = _
    rw [takenAll_length, e]
    rfl
  | octets u => simp [plain] at hp
  | _ => simp [taken, pagesArg, pagesV]
theorem tablesArg_taken {x : RWire.Value} (n : Nat) (hp : plain x = true) : tablesArg n (taken x) = match tablesV n x with | some ts => .ok ts | none => .error noTables := by
  cases x with
  | list l =>
    rw [show taken (.list l) = .arr (takenAll l) from by simp [taken]]
    have hp' : plains l = true := by simpa [plain] using hp
    have e := allSome_taken (f := tableIn) (g := wholesV 1001000) l fun x hx => table_taken (plains_all hp' x hx)
    show (match if (takenAll l).length = n then allSome tableIn (takenAll l) else none with | some ts => Except.ok ts | none => .error noTables) = _
    rw [takenAll_length, e]
    rfl
  | octets u => simp [plain] at hp
  | _ => simp [taken, tablesArg, tablesV]
/-! ### what is handed out again -/
theorem octet_unit (o : UInt8) : octetOf (unitOf o) = o := by
  unfold octetOf unitOf
  apply UInt8.toNat_inj.mp
  have h : o.toNat < 256 := o.toNat_lt
  simp [UInt16.toNat_ofNat, UInt8.toNat_ofNat]
theorem octets_units (u : List UInt8) : (u.map unitOf).map octetOf = u := by
  rw [List.map_map]
  conv => rhs; rw [← List.map_id u]
  apply List.map_congr_left
  intro o _
  exact octet_unit o
theorem given_text (u : List UInt16) : Rust.givenText u = .text (u.map octetOf) := by
  unfold Rust.givenText Rust.wideTold
  simp
mutual
theorem given_taken : ∀ x : RWire.Value, plain x = true → given (taken x) = x
  | .nothing, _ => by simp [taken, given]
  | .null, _ => by simp [taken, given]
  | .bool b, _ => by simp [taken, given]
  | .int i, _ => by simp [taken, given, RShim.F64.ofInt, RShim.F64.toInt?]
  | .big i, h => by simp [plain] at h
  | .text u, _ => by simp only [taken, given]; rw [given_text, octets_units]
  | .octets u, h => by simp [plain] at h
  | .wide u, h => by simp [plain] at h
  | .list l, h => by
    simp only [taken, given]
    rw [givens_taken l (by simpa [plain] using h)]
  | .record l, h => by
    simp only [taken, given]
    rw [fields_taken l (by simpa [plain] using h)]
theorem givens_taken : ∀ l : List RWire.Value, plains l = true → givenAll (takenAll l) = l
  | [], _ => by simp [takenAll, givenAll]
  | x :: l, h => by
    have h' : plain x = true ∧ plains l = true := by simpa [plains] using h
    simp only [takenAll, givenAll]
    rw [given_taken x h'.1, givens_taken l h'.2]
theorem fields_taken : ∀ l : List (RWire.Text × RWire.Value), plainsE l = true → givenFields (takenFields l) = l
  | [], _ => by simp [takenFields, givenFields]
  | (n, x) :: l, h => by
    have h' : plain x = true ∧ plainsE l = true := by simpa [plainsE] using h
    simp only [takenFields, givenFields]
    rw [given_taken x h'.1, fields_taken l h'.2, octets_units]
end
mutual
theorem narrow_plain : ∀ p : Pl, narrow p = true → plain (given p) = true
  | .undef, _ => by simp [given, plain]
  | .null, _ => by simp [given, plain]
  | .bool b, _ => by simp [given, plain]
  | .num x, _ => by simp [given, plain]
  | .big i, h => by simp [narrow] at h
  | .str u, _ => by simp only [given]; rw [given_text]; simp [plain]
  | .arr l, h => by
    simp only [given, plain]
    exact narrows_plain l (by simpa [narrow] using h)
  | .obj l, h => by
    simp only [given, plain]
    exact fieldsN_plain l (by simpa [narrow] using h)
theorem narrows_plain : ∀ l : List Pl, narrowAll l = true → plains (givenAll l) = true
  | [], _ => by simp [givenAll, plains]
  | x :: l, h => by
    have h' : narrow x = true ∧ narrowAll l = true := by simpa [narrowAll] using h
    simp only [givenAll, plains]
    rw [narrow_plain x h'.1, narrows_plain l h'.2]
    rfl
theorem fieldsN_plain : ∀ l : List (Units × Pl), narrowFields l = true → plainsE (givenFields l) = true
  | [], _ => by simp [givenFields, plainsE]
  | (n, x) :: l, h => by
    have h' : Rust.narrowText n = true ∧ narrow x = true ∧ narrowFields l = true := by simpa [narrowFields] using h
    simp only [givenFields, plainsE]
    rw [narrow_plain x h'.2.1, fieldsN_plain l h'.2.2]
    rfl
end
/-! ### messages -/
structure MsgOk (m : Str) (u : Units) : Prop where
  eq : codes m = octs (u.map octetOf)
  asc : m.cps.all (· < 128) = true
  len : u.length ≤ 1000
theorem codes_app (a b : Str) : codes (a ++ b) = codes a ++ codes b := by
  show (a.cps ++ b.cps).toList.map natI = _
  rw [Array.toList_append, List.map_append]
  rfl
theorem MsgOk.app {a b : Str} {u v : Units} (x : MsgOk a u) (y : MsgOk b v) (h : (u ++ v).length ≤ 1000) : MsgOk (a ++ b) (u ++ v) := by
  refine ⟨by rw [codes_app, x.eq, y.eq, List.map_append, octs_append], ?_, h⟩
  show (a.cps ++ b.cps).all (· < 128) = true
  rw [Array.all_append, x.asc, y.asc]
  rfl
theorem units_app (s t : String) : units (s ++ t) = units s ++ units t := by
  unfold units
  rw [String.toList_append, List.flatMap_append]
theorem num_ok {i : Nat} (h : i < 600) : MsgOk (numS i) (units (toString i)) ∧ (units (toString i)).length ≤ 3 := by
  have k : ∀ i : Fin 600, (codes (numS i.val) = octs ((units (toString i.val)).map octetOf) ∧ (numS i.val).cps.all (· < 128) = true) ∧ (units (toString i.val)).length ≤ 3 := by decide +kernel
  obtain ⟨⟨h1, h2⟩, h3⟩ := k ⟨i, h⟩
  have h3' : (units (toString i)).length ≤ 3 := h3
  exact ⟨⟨h1, h2, by omega⟩, h3'⟩
theorem emp_app (a : Str) : Str.empty ++ a = a := by
  show (⟨Str.empty.cps ++ a.cps⟩ : Str) = a
  have e : Str.empty.cps = #[] := by decide +kernel
  rw [e, Array.empty_append]
theorem shown_ok {i : Nat} (h : i < 600) : MsgOk (shownMsg i) (units ("table " ++ toString i ++ " does not show page " ++ toString i)) := by
  obtain ⟨n1, n2⟩ := num_ok h
  unfold shownMsg
  rw [emp_app, units_app, units_app, units_app]
  have l1 : (units "table ").length = 6 := by decide +kernel
  have l2 : (units " does not show page ").length = 20 := by decide +kernel
  have a1 : MsgOk ("table " : Str) (units "table ") := ⟨by decide +kernel, by decide +kernel, by decide +kernel⟩
  have a2 : MsgOk (" does not show page " : Str) (units " does not show page ") := ⟨by decide +kernel, by decide +kernel, by decide +kernel⟩
  refine ((a1.app n1 ?_).app a2 ?_).app n1 ?_ <;> simp only [List.length_append, l1, l2] <;> omega
theorem many_ok {i : Nat} (h : i < 600) : MsgOk (manyMsg i) (units ("not certain after " ++ toString i ++ " pages")) := by
  obtain ⟨n1, n2⟩ := num_ok h
  unfold manyMsg
  rw [emp_app, units_app, units_app]
  have l1 : (units "not certain after ").length = 18 := by decide +kernel
  have l2 : (units " pages").length = 6 := by decide +kernel
  have a1 : MsgOk ("not certain after " : Str) (units "not certain after ") := ⟨by decide +kernel, by decide +kernel, by decide +kernel⟩
  have a2 : MsgOk (" pages" : Str) (units " pages") := ⟨by decide +kernel, by decide +kernel, by decide +kernel⟩
  refine (a1.app n1 ?_).app a2 ?_ <;> simp only [List.length_append, l1, l2] <;> omega
theorem fetch_ok {a s : Nat} (h : a < 600) (h' : s < 600) : MsgOk (fetchMsg a s) (units ("fetch(" ++ toString a ++ ") must return an array of at most " ++ toString s ++ " different row numbers")) := by
  obtain ⟨n1, n2⟩ := num_ok h
  obtain ⟨n3, n4⟩ := num_ok h'
  unfold fetchMsg
  rw [emp_app, units_app, units_app, units_app, units_app]
  have l1 : (units "fetch(").length = 6 := by decide +kernel
  have l2 : (units ") must return an array of at most ").length = 34 := by decide +kernel
  have l3 : (units " different row numbers").length = 22 := by decide +kernel
  have a1 : MsgOk ("fetch(" : Str) (units "fetch(") := ⟨by decide +kernel, by decide +kernel, by decide +kernel⟩
  have a2 : MsgOk (") must return an array of at most " : Str) (units ") must return an array of at most ") := ⟨by decide +kernel, by decide +kernel, by decide +kernel⟩
  have a3 : MsgOk (" different row numbers" : Str) (units " different row numbers") := ⟨by decide +kernel, by decide +kernel, by decide +kernel⟩
  refine ((((a1.app n1 ?_).app a2 ?_).app n3 ?_).app a3 ?_) <;> simp only [List.length_append, l1, l2, l3] <;> omega
end Pg

/-! MaG: the doors 0 to 6, the mirror is the specification -/
namespace Pg
open PySem (Str)
open R7249h.Spec
open Rust (taken takenAll takenFields given givenAll givenFields narrow narrowAll narrowFields unitOf octetOf)
theorem count_all {x : Nat} : ∀ {ts : List (List Nat)}, (∀ t ∈ ts, t.Nodup) → ts.flatten.count x ≤ ts.length ∧ (ts.flatten.count x = ts.length ↔ ∀ t ∈ ts, x ∈ t)
  | [], _ => by simp
  | t :: ts, h => by
    obtain ⟨h1, h2⟩ := count_all (x := x) (ts := ts) fun u hu => h u (List.mem_cons_of_mem _ hu)
    have nd := h t List.mem_cons_self
    rw [List.flatten_cons, List.count_append, List.length_cons]
    by_cases c : x ∈ t
    · rw [nd.count, if_pos c]
      refine ⟨by omega, ?_⟩
      constructor
      · intro e u hu
        rcases List.mem_cons.mp hu with z | z
        · rw [z]; exact c
        · exact h2.mp (by omega) u z
      · intro hall
        have := h2.mpr fun u hu => hall u (List.mem_cons_of_mem _ hu)
        omega
    · rw [nd.count, if_neg c]
      refine ⟨by omega, ?_⟩
      constructor
      · intro e
        omega
      · intro hall
        exact absurd (hall t List.mem_cons_self) c
theorem missed_eq {ps : List Page} {ts : List (List Nat)} (h : ∀ t ∈ ts, t.Nodup) : missedM ps ts = missedIn ps ts := by
  cases ts with
  | nil => rfl
  | cons t r =>
    show t.filter (fun x => decide ((t :: r).flatten.count x = (t :: r).length) && !decide (x ∈ (ps.map (·.rows)).flatten)) = t.filter fun x => r.all (fun u => u.contains x) && ps.all fun p => !p.rows.contains x
    apply List.filter_congr
    intro x hx
    congr 1
    · rw [Bool.eq_iff_iff, decide_eq_true_iff, (count_all h).2, List.all_eq_true]
      constructor
      · intro hall u hu
        simpa using hall u (List.mem_cons_of_mem _ hu)
      · intro hall u hu
        rcases List.mem_cons.mp hu with z | z
        · rw [z]; exact hx
        · simpa using hall u z
    · rw [Bool.eq_iff_iff, List.all_eq_true]
      simp only [Bool.not_eq_true', decide_eq_false_iff_not, List.mem_flatten, List.mem_map, List.contains_eq_mem]
      constructor
      · intro hn p hp hc
        exact hn ⟨p.rows, ⟨p, hp, rfl⟩, hc⟩
      · rintro hall ⟨rows, ⟨p, hp, rfl⟩, hc⟩
        exact hall p hp hc
theorem shows_eq (s : Nat) (p : Page) (t : List Nat) : showsM s p t = shows s t p := by
  unfold showsM shows
  by_cases h : (t.drop p.offset).take s = p.rows
  · rw [decide_eq_true h, h]; simp
  · rw [decide_eq_false h]
    exact (beq_eq_false_iff_ne.mpr h).symm
theorem unshown_eq (s : Nat) (ps : List Page) (ts : List (List Nat)) : unshownM s ps ts = notShown s ps ts := by
  unfold unshownM notShown
  congr 1
  funext i
  rw [shows_eq]
  rfl
/-! ### values -/
theorem dat_nat (n : Nat) : datOf (given (nat n)) = dInt (n : Int) := by
  simp [nat, given, RShim.F64.ofNat, RShim.F64.ofInt, RShim.F64.toInt?, datOf, dInt]
theorem datsOf_map {α : Type} (f : α → Pl) : ∀ l : List α, datsOf (givenAll (l.map f)) = l.map fun a => datOf (given (f a))
  | [] => by simp [givenAll, datsOf]
  | a :: l => by
    rw [List.map_cons, List.map_cons]
    simp only [givenAll, datsOf]
    rw [datsOf_map f l]
theorem dat_rows (l : List Nat) : datOf (given (rowsPlain l)) = numsD l := by
  unfold rowsPlain numsD
  simp only [given, datOf]
  rw [datsOf_map, List.map_map]
  congr 1
theorem dat_lists (ls : List (List Nat)) : datOf (given (.arr (ls.map rowsPlain))) = listsD ls := by
  unfold listsD
  simp only [given, datOf]
  rw [datsOf_map]
  congr 1
  apply List.map_congr_left
  intro l _
  exact dat_rows l
theorem dat_opt (o : Option Nat) : datOf (given (optional o)) = numD (optI (-1) o) := by
  cases o with
  | none =>
    show datOf (given .null) = _
    simp [given, datOf, numD, optI, nullD]
  | some n =>
    show datOf (given (nat n)) = _
    rw [dat_nat]
    have h : ¬ ((n : Int) < 0) := by omega
    show dInt (n : Int) = if (n : Int) < 0 then nullD else dInt (n : Int)
    rw [if_neg h]
theorem dat_bool (b : Bool) : datOf (given (.bool b)) = truthD b := by
  cases b <;> simp [given, datOf, truthD]
theorem over_opt (k : Nat) (o : Option Nat) : decide (0 ≤ optI (-1) o ∧ optI (-1) o < (k : Int)) = !isWithin k o := by
  cases o with
  | none => exact decide_eq_false fun z => absurd z.1 (by decide)
  | some m =>
    by_cases c : k ≤ m
    · have h : ¬ (0 ≤ optI (-1) (some m) ∧ optI (-1) (some m) < (k : Int)) := fun z => by
        have h2 : (m : Int) < (k : Int) := z.2
        omega
      rw [decide_eq_false h]
      show false = !decide (k ≤ m)
      rw [decide_eq_true c]
      rfl
    · have h : 0 ≤ optI (-1) (some m) ∧ optI (-1) (some m) < (k : Int) := by
        show 0 ≤ (m : Int) ∧ (m : Int) < (k : Int)
        omega
      rw [decide_eq_true h]
      show true = !decide (k ≤ m)
      rw [decide_eq_false c]
      rfl
def Fits : Res → Ans → Prop
  | .ok d, .ret p => d = datOf (given p)
  | .wrong m, .fail e => e.cls = .typeError ∧ MsgOk m e.msg
  | .range m, .fail e => e.cls = .rangeError ∧ MsgOk m e.msg
  | _, _ => False
def logAns : Nat → Pl → Pl → Pl → Ans
  | 0, x, y, _ => answer id (mostMissedFn x y)
  | 1, x, y, _ => answer id (isCertainFn x y)
  | 2, x, y, _ => answer id (groupsFn x y)
  | 3, x, y, _ => answer id (mergedFn x y)
  | 4, x, y, _ => answer id (nextOffsetFn x y)
  | 5, x, y, z => answer id (exampleFn x y z)
  | _, x, y, z => answer id (missedFn x y z)
theorem pages_nodup {size : Nat} {x : RWire.Value} {ps : List Page} (h : pagesV size x = some ps) : ∀ p ∈ ps, p.rows.Nodup := by
  obtain ⟨l, rfl, hl, ha⟩ := pagesV_list h
  intro p hp
  obtain ⟨x, _, e⟩ := allV_mem ha p hp
  obtain ⟨o, r, _, ho, hr⟩ := pageV_parts e
  obtain ⟨_, _, _, _, nd, _⟩ := wholesV_list (rowsV_wholes hr).1
  exact nd
theorem tables_nodup {n : Nat} {x : RWire.Value} {ts : List (List Nat)} (h : tablesV n x = some ts) : ∀ t ∈ ts, t.Nodup := by
  obtain ⟨l, rfl, hl, ha⟩ := tablesV_list h
  intro t ht
  obtain ⟨x, _, e⟩ := allV_mem ha t ht
  obtain ⟨_, _, _, _, nd, _⟩ := wholesV_list e
  exact nd
theorem merged_tables {ts : List (List Nat)} (h : ∀ t ∈ ts, t.Nodup) : merged (ts.map fun t => (⟨0, t⟩ : Page)) = if agreeM ts = true then some (mergedM ts) else none := by
  have e : (ts.map fun t => (⟨0, t⟩ : Page)).map (·.rows) = ts := by
    rw [List.map_map]
    conv => rhs; rw [← List.map_id ts]
    rfl
  have q := merged_spec (ts.map fun t => (⟨0, t⟩ : Page)) (fun p hp => by
    obtain ⟨t, ht, rfl⟩ := List.mem_map.mp hp
    exact h t ht)
  rw [e] at q
  exact q
theorem log_fits {door : Nat} (hd : door ≤ 6) {gs : List RWire.Value} (h1 : plain (argV gs 1) = true) (h2 : plain (argV gs 2) = true) : Fits (logRes (door : Nat) gs) (logAns door (taken (argV gs 0)) (taken (argV gs 1)) (taken (argV gs 2))) := by
  have c1 : MsgOk ("size must be an integer from 2 to 20" : Str) (units "size must be an integer from 2 to 20") := ⟨by decide +kernel, by decide +kernel, by decide +kernel⟩
  have c2 : MsgOk ("pages must be a list of at most 20 pages of this size" : Str) (units "pages must be a list of at most 20 pages of this size") := ⟨by decide +kernel, by decide +kernel, by decide +kernel⟩
  have c3 : MsgOk orderW (units "rows have changed their order") := ⟨by decide +kernel, by decide +kernel, by decide +kernel⟩
  have c4 : MsgOk ("missed must be an integer from 0 to 200" : Str) (units "missed must be an integer from 0 to 200") := ⟨by decide +kernel, by decide +kernel, by decide +kernel⟩
  have c5 : MsgOk ("no history misses so many rows" : Str) (units "no history misses so many rows") := ⟨by decide +kernel, by decide +kernel, by decide +kernel⟩
  have c6 : MsgOk ("tables must be a list of lists of different row numbers, one for each page" : Str) (units "tables must be a list of lists of different row numbers, one for each page") := ⟨by decide +kernel, by decide +kernel, by decide +kernel⟩
  have eS : sizeArg (taken (argV gs 0)) = match rangeV 2 20 (argV gs 0) with | some s => .ok s | none => bad "size must be an integer from 2 to 20" := by
    unfold sizeArg
    rw [range_taken]
    cases rangeV 2 20 (argV gs 0) <;> rfl
  generalize taken (argV gs 0) = x at *
  unfold logRes
  cases hs : rangeV 2 20 (argV gs 0) with
  | none =>
    rw [hs] at eS
    have eL : ∀ y, logArg x y = .error (beyond "size must be an integer from 2 to 20") := fun y => by unfold logArg; rw [eS]; rfl
    have eA : ∀ y, agreeArg x y = .error (beyond "size must be an integer from 2 to 20") := fun y => by unfold agreeArg; rw [eL]; rfl
    have d : ∀ y z, logAns door x y z = .fail (beyond "size must be an integer from 2 to 20") := by
      intro y z
      unfold logAns
      split <;> simp only [mostMissedFn, isCertainFn, groupsFn, mergedFn, nextOffsetFn, exampleFn, missedFn, eL, eA, andThen, answer]
    rw [d]
    exact ⟨rfl, c1⟩
  | some size =>
    rw [hs] at eS
    have eP := pagesArg_taken size h1
    simp only
    cases hp : pagesV size (argV gs 1) with
    | none =>
      rw [hp] at eP
      have eL : logArg x (taken (argV gs 1)) = .error noPages := by unfold logArg; rw [eS]; simp only [andThen]; rw [eP]
      have eA : agreeArg x (taken (argV gs 1)) = .error noPages := by unfold agreeArg; rw [eL]; rfl
      have d : ∀ z, logAns door x (taken (argV gs 1)) z = .fail noPages := by
        intro z
        unfold logAns
        split <;> simp only [mostMissedFn, isCertainFn, groupsFn, mergedFn, nextOffsetFn, exampleFn, missedFn, eL, eA, andThen, answer]
      rw [d]
      exact ⟨rfl, c2⟩
    | some ps =>
      rw [hp] at eP
      simp only
      obtain ⟨_, hs2, hs20⟩ := rangeV_nm hs
      have nd := pages_nodup hp
      have mg := merged_spec ps nd
      have eL : logArg x (taken (argV gs 1)) = .ok (size, ps) := by unfold logArg; rw [eS]; simp only [andThen]; rw [eP]
      generalize taken (argV gs 1) = y at eL
      have mg' : merged ps = if agreeM (rowsL ps) = true then some (mergedM (rowsL ps)) else none := mg
      -- the doors that want an order
      have ag : agreeM (rowsL ps) = false → agreeArg x y = .error changedOrder := fun h => by
        unfold agreeArg
        rw [eL]
        simp only [andThen]
        rw [mg', if_neg (by rw [h]; decide)]
      have agT : agreeM (rowsL ps) = true → agreeArg x y = .ok (size, ps) := fun h => by
        unfold agreeArg
        rw [eL]
        simp only [andThen]
        rw [mg', if_pos h]
      have six : door = 0 ∨ door = 1 ∨ door = 2 ∨ door = 3 ∨ door = 4 ∨ door = 5 ∨ door = 6 := by omega
      rcases six with e | e | e | e | e | e | e <;> subst e
      · rw [if_pos (by decide)]
        show Fits (pagesRes 0 size ps) (answer id (mostMissedFn x y))
        unfold pagesRes mostMissedFn
        rw [if_neg (by decide), if_neg (by decide)]
        cases ha : agreeM (rowsL ps) with
        | false => rw [ag ha, if_pos rfl]; exact ⟨rfl, c3⟩
        | true =>
          rw [agT ha, if_neg (by decide), if_pos rfl, most_eq]
          exact (dat_opt _).symm
      · rw [if_pos (by decide)]
        show Fits (pagesRes 1 size ps) (answer id (isCertainFn x y))
        unfold pagesRes isCertainFn
        rw [if_neg (by decide), if_neg (by decide)]
        cases ha : agreeM (rowsL ps) with
        | false => rw [ag ha, if_pos rfl]; exact ⟨rfl, c3⟩
        | true =>
          rw [agT ha, if_neg (by decide), if_neg (by decide), if_pos rfl, certain_eq]
          exact (dat_bool _).symm
      · rw [if_pos (by decide)]
        show Fits (pagesRes 2 size ps) (answer id (groupsFn x y))
        unfold pagesRes groupsFn
        rw [if_pos rfl, eL, ← groups_eq]
        exact (dat_lists _).symm
      · rw [if_pos (by decide)]
        show Fits (pagesRes 3 size ps) (answer id (mergedFn x y))
        unfold pagesRes mergedFn mergedD
        rw [if_neg (by decide), if_pos rfl, eL]
        simp only [andThen]
        rw [mg']
        cases ha : agreeM (rowsL ps) with
        | false =>
          rw [if_neg (by decide), if_neg (by decide)]
          show nullD = datOf (given .null)
          simp [given, datOf, nullD]
        | true =>
          rw [if_pos rfl, if_pos rfl]
          exact (dat_rows _).symm
      · rw [if_pos (by decide)]
        show Fits (pagesRes 4 size ps) (answer id (nextOffsetFn x y))
        unfold pagesRes nextOffsetFn
        rw [if_neg (by decide), if_neg (by decide)]
        cases ha : agreeM (rowsL ps) with
        | false => rw [ag ha, if_pos rfl]; exact ⟨rfl, c3⟩
        | true =>
          rw [agT ha, if_neg (by decide), if_neg (by decide), if_neg (by decide), next_eq (by omega)]
          show numD _ = datOf (given (if isCertain size ps = true then .null else nat (nextOffset size ps)))
          by_cases c : isCertain size ps = true
          · rw [if_pos c, if_pos c]
            simp [given, datOf, nullD, numD]
          · rw [if_neg c, if_neg c, dat_nat]
            unfold numD
            rw [if_neg (by omega)]
      · rw [if_neg (by decide), if_pos (by decide)]
        show Fits (exampleRes size ps (argV gs 2)) (answer id (exampleFn x y (taken (argV gs 2))))
        unfold exampleRes exampleFn countArg
        rw [eL, range_taken]
        simp only [andThen]
        rw [show maxOffset = 200 from rfl]
        cases hk : rangeV 0 200 (argV gs 2) with
        | none => exact ⟨rfl, c4⟩
        | some k =>
          simp only
          rw [mg']
          cases ha : agreeM (rowsL ps) with
          | false =>
            rw [if_pos rfl, if_neg (by decide)]
            exact ⟨rfl, c3⟩
          | true =>
            rw [if_neg (by decide), if_pos rfl]
            simp only
            have eW : isWithin k (mostMissed size ps) = !overM size k ps := by
              unfold overM
              rw [most_eq, over_opt]
              cases isWithin k (mostMissed size ps) <;> rfl
            rw [eW]
            cases ho : overM size k ps with
            | true =>
              rw [if_pos rfl, if_neg (by decide)]
              exact ⟨rfl, c5⟩
            | false =>
              rw [if_neg (by decide), if_pos (by decide), example_eq]
              exact (dat_lists _).symm
      · rw [if_neg (by decide), if_neg (by decide)]
        show Fits (missedRes size ps (argV gs 2)) (answer id (missedFn x y (taken (argV gs 2))))
        unfold missedRes missedFn
        rw [eL]
        simp only [andThen]
        rw [tablesArg_taken ps.length h2]
        cases ht : tablesV ps.length (argV gs 2) with
        | none => exact ⟨rfl, c6⟩
        | some ts =>
          have tnd := tables_nodup ht
          simp only
          rw [← unshown_eq]
          cases hu : unshownM size ps ts with
          | some i =>
            have hi : i < 600 := by
              unfold unshownM at hu
              have h3 := List.mem_range.mp (List.mem_of_find?_eq_some hu)
              have := (pages_ok hs20 hp).len
              omega
            exact ⟨rfl, shown_ok hi⟩
          | none =>
            simp only
            rw [merged_tables tnd]
            cases ha : agreeM ts with
            | false =>
              rw [if_pos rfl, if_neg (by decide)]
              exact ⟨rfl, c3⟩
            | true =>
              rw [if_neg (by decide), if_pos rfl, missed_eq tnd]
              exact (dat_rows _).symm
end Pg

/-! MaH: collectors, the mirror is the specification -/
namespace Pg
open PySem (Str)
open R7249h.Spec
open Rust (taken takenAll takenFields given givenAll givenFields narrow narrowAll narrowFields unitOf octetOf)
structure RelC (c : Collector) (s : CS) : Prop where
  ask : s.asked = c.question
  out : s.out = datOf (given (outcomePlain c.outcome))
  xor : c.outcome.isSome = c.question.isNone
  live : ∀ a, c.question = some a → s.size = (c.size : Nat) ∧ s.most = (c.most : Nat) ∧ s.pages = c.pages ∧ ∀ p ∈ c.pages, p.rows.Nodup
  ok : CSOk s
theorem dat_text (u : Units) : datOf (given (.str u)) = .val 6 0 (octs (u.map octetOf)) [] [] := by
  simp only [given]
  rw [given_text]
  simp [datOf]
theorem word_dat {m : Str} {u : Units} (h : MsgOk m u) : datOf (given (.str u)) = wordD m := by
  rw [dat_text, ← h.eq]
  rfl
theorem ok_rejected : MsgOk ("rejected" : Str) (units "rejected") := ⟨by decide +kernel, by decide +kernel, by decide +kernel⟩
theorem ok_failed : MsgOk ("failed" : Str) (units "failed") := ⟨by decide +kernel, by decide +kernel, by decide +kernel⟩
theorem ok_fulfilled : MsgOk ("fulfilled" : Str) (units "fulfilled") := ⟨by decide +kernel, by decide +kernel, by decide +kernel⟩
theorem ok_range : MsgOk ("RangeError" : Str) (units "RangeError") := ⟨by decide +kernel, by decide +kernel, by decide +kernel⟩
theorem ok_type : MsgOk ("TypeError" : Str) (units "TypeError") := ⟨by decide +kernel, by decide +kernel, by decide +kernel⟩
theorem ok_stop : MsgOk ("stop" : Str) (units "stop") := ⟨by decide +kernel, by decide +kernel, by decide +kernel⟩
theorem ok_order : MsgOk ("rows have changed their order" : Str) (units "rows have changed their order") := ⟨by decide +kernel, by decide +kernel, by decide +kernel⟩
theorem ok_size : MsgOk ("size must be an integer from 2 to 20" : Str) (units "size must be an integer from 2 to 20") := ⟨by decide +kernel, by decide +kernel, by decide +kernel⟩
theorem ok_most : MsgOk ("most must be an integer from 1 to 20" : Str) (units "most must be an integer from 1 to 20") := ⟨by decide +kernel, by decide +kernel, by decide +kernel⟩
theorem rej_dat {sort m : Str} {v u : Units} (hv : MsgOk sort v) (hu : MsgOk m u) : datOf (given (.arr [text "rejected", .str v, .str u])) = rejD sort m := by
  have e : datOf (given (.arr [text "rejected", .str v, .str u])) = .val 7 0 [] [] [datOf (given (text "rejected")), datOf (given (.str v)), datOf (given (.str u))] := by simp [given, givenAll, datOf, datsOf]
  rw [e, word_dat hv, word_dat hu]
  unfold text
  rw [word_dat ok_rejected]
  rfl
theorem fail_dat (x : Pl) : datOf (given (.arr [text "failed", x])) = failD (datOf (given x)) := by
  have e : datOf (given (.arr [text "failed", x])) = .val 7 0 [] [] [datOf (given (text "failed")), datOf (given x)] := by simp [given, givenAll, datOf, datsOf]
  rw [e]
  unfold text
  rw [word_dat ok_failed]
  rfl
theorem ful_dat (rows : List Nat) (n : Nat) : datOf (given (.arr [text "fulfilled", resultOf rows n])) = .val 7 0 [] [] [wordD "fulfilled", .val 8 0 [] [codes "rows", codes "pages"] [numsD rows, dInt (n : Nat)]] := by
  have e : datOf (given (.arr [text "fulfilled", resultOf rows n])) = .val 7 0 [] [] [datOf (given (text "fulfilled")), datOf (given (resultOf rows n))] := by simp [given, givenAll, datOf, datsOf]
  have e2 : datOf (given (resultOf rows n)) = .val 8 0 [] [octs ((units "rows").map octetOf), octs ((units "pages").map octetOf)] [datOf (given (rowsPlain rows)), datOf (given (nat n))] := by
    simp [resultOf, record, given, givenFields, datOf, datsOfE, namesOf, rowsPlain]
  have k1 : octs ((units "rows").map octetOf) = codes "rows" := by decide +kernel
  have k2 : octs ((units "pages").map octetOf) = codes "pages" := by decide +kernel
  rw [e, e2, dat_rows, dat_nat, k1, k2]
  unfold text
  rw [word_dat ok_fulfilled]
theorem proceed_rel {s : CS} {sz mo : Nat} (hs : s.size = (sz : Nat)) (hm : s.most = (mo : Nat)) (ok : GoOk s) (nd : ∀ p ∈ s.pages, p.rows.Nodup) (ho : s.out = nullD) : RelC (proceed sz mo s.pages) (goOnM s) := by
  have mg : merged s.pages = if agreeM (rowsL s.pages) = true then some (mergedM (rowsL s.pages)) else none := merged_spec s.pages nd
  have csok := goOn_ok ok
  have hsz : s.size.toNat = sz := by omega
  have h2 := ok.s2
  have hl := ok.len
  unfold proceed
  rw [mg]
  unfold goOnM at csok ⊢
  rw [hsz] at csok ⊢
  cases ha : agreeM (rowsL s.pages) with
  | false =>
    rw [ha, if_pos (rfl : false = false)] at csok
    rw [if_pos (rfl : false = false), if_neg (show ¬ (false = true) from by decide)]
    exact ⟨rfl, (rej_dat ok_range ok_order).symm, rfl, (fun a h => nomatch h), csok⟩
  | true =>
    rw [ha, if_neg (show ¬ (true = false) from by decide)] at csok
    rw [if_neg (show ¬ (true = false) from by decide), if_pos (rfl : true = true)]
    simp only
    rw [certain_eq] at csok ⊢
    by_cases c : isCertain sz s.pages = true
    · rw [if_pos c] at csok ⊢
      rw [if_pos c]
      exact ⟨rfl, (ful_dat _ _).symm, rfl, (fun a h => nomatch h), csok⟩
    · rw [if_neg c] at csok ⊢
      rw [if_neg c]
      by_cases c2 : mo ≤ s.pages.length
      · have c3 : (s.pages.length : Int) = s.most := by omega
        rw [if_pos c3] at csok ⊢
        rw [if_pos c2]
        have hp := ok.plen
        exact ⟨rfl, (rej_dat ok_range (many_ok (i := s.pages.length) (by omega))).symm, rfl, (fun a h => nomatch h), csok⟩
      · have c3 : ¬ (s.pages.length : Int) = s.most := by omega
        rw [if_neg c3] at csok ⊢
        rw [if_neg c2]
        have hn : (nextI sz s.pages).toNat = nextOffset sz s.pages := by
          rw [next_eq (by omega), if_neg c]
          exact Int.toNat_natCast _
        refine ⟨by show some (nextI sz s.pages).toNat = some _; rw [hn], ?_, rfl, fun a h => ⟨hs, hm, rfl, nd⟩, csok⟩
        show s.out = datOf (given .null)
        rw [ho]
        simp [given, datOf, nullD]
theorem null_dat : datOf (given (outcomePlain none)) = nullD := by
  show datOf (given .null) = _
  simp [given, datOf, nullD]
theorem kd_null {x : RWire.Value} (hp : plain x = true) : kdI x = 1 ↔ taken x = .null := by
  cases x with
  | bool b => cases b <;> simp [kdI, datOf, taken]
  | octets u => simp [plain] at hp
  | big i => simp [plain] at hp
  | wide u => simp [plain] at hp
  | _ => simp [kdI, datOf, taken]
theorem RelC.none_of {c : Collector} {s : CS} (r : RelC c s) {a : Nat} (h : c.question = some a) : c.outcome = none := by
  have x := r.xor
  rw [h] at x
  cases e : c.outcome with
  | none => rfl
  | some o => rw [e] at x; cases x
theorem accept_rel {c : Collector} {s : CS} (r : RelC c s) {x : RWire.Value} (hp : plain x = true) : RelC (c.receive (.value (taken x))) (acceptM s x) := by
  have okA := accept_ok r.ok x
  unfold Collector.receive acceptM at *
  rw [r.ask] at okA ⊢
  cases hq : c.question with
  | none => exact r
  | some a =>
    obtain ⟨h1, h2, h3, h4⟩ := r.live a hq
    have askok := r.ok a (by rw [r.ask]; exact hq)
    rw [hq] at okA
    simp only at okA ⊢
    have hsz : s.size.toNat = c.size := by omega
    rw [hsz] at okA ⊢
    rw [rows_taken c.size hp]
    cases hw : rowsV c.size x with
    | some rows =>
      have go := askok.go (x := x) (rows := rows) (by rw [hsz]; exact hw)
      have nd : ∀ p ∈ ({ s with pages := s.pages ++ [(⟨a, rows⟩ : Page)] } : CS).pages, p.rows.Nodup := by
        intro p hp2
        rcases List.mem_append.mp hp2 with z | z
        · rw [h3] at z; exact h4 p z
        · simp only [List.mem_singleton] at z
          rw [z]
          obtain ⟨_, _, _, _, nd, _⟩ := wholesV_list (rowsV_wholes hw).1
          exact nd
      have pr := proceed_rel (s := { s with pages := s.pages ++ [(⟨a, rows⟩ : Page)] }) (sz := c.size) (mo := c.most) h1 h2 go nd (by
        show s.out = nullD
        rw [r.out, r.none_of hq, null_dat])
      have e : ({ s with pages := s.pages ++ [(⟨a, rows⟩ : Page)] } : CS).pages = c.pages ++ [⟨a, rows⟩] := by show s.pages ++ _ = _; rw [h3]
      rw [e] at pr
      exact pr
    | none =>
      have ha : a < 600 := by
        have := askok.ask
        have := askok.len
        have := askok.m20
        omega
      have hs20 := askok.s20
      refine ⟨rfl, ?_, rfl, (fun b h => nomatch h), fun b hb => nomatch hb⟩
      exact (rej_dat ok_type (fetch_ok ha (by omega))).symm
theorem giveup_rel {c : Collector} {s : CS} (r : RelC c s) {a : Nat} (hq : c.question = some a) (x : Pl) : RelC (c.receive (.failed x)) (s.fin (failD (datOf (given x)))) := by
  unfold Collector.receive
  rw [hq]
  exact ⟨rfl, (fail_dat x).symm, rfl, (fun b h => nomatch h), fun b hb => nomatch hb⟩
theorem feed_ended {s : CS} (h : s.asked = none) : ∀ rs : List RWire.Value, feedM s rs = s := by
  intro rs
  have hr : ∀ x, replyM s x = s := fun x => by unfold replyM; rw [h]
  have go : ∀ rs : List RWire.Value, rs.foldl replyM s = s := by
    intro rs
    induction rs with
    | nil => rfl
    | cons x rs ih => rw [List.foldl_cons, hr, ih]
  unfold feedM acceptM
  rw [go rs, h]
theorem feed_rel : ∀ (rs : List RWire.Value) {c : Collector} {s : CS}, plains rs = true → RelC c s → RelC (c.run ((takenAll rs).map replyOf ++ [.value .undef])) (feedM s rs)
  | [], c, s, _, r => by
    rw [show takenAll [] = [] from by simp [takenAll]]
    show RelC (if c.outcome.isSome then c else c.receive (.value .undef)) (acceptM s .nothing)
    cases hq : c.question with
    | none =>
      have x := r.xor
      rw [hq] at x
      have x' : c.outcome.isSome = true := x
      rw [if_pos x']
      have : acceptM s .nothing = s := by unfold acceptM; rw [r.ask, hq]
      rw [this]
      exact r
    | some a =>
      rw [r.none_of hq, if_neg (by decide)]
      have := accept_rel r (x := .nothing) rfl
      rw [show taken .nothing = .undef from by simp [taken]] at this
      exact this
  | x :: rs, c, s, hp, r => by
    have hp' : plain x = true ∧ plains rs = true := by simpa [plains] using hp
    rw [show takenAll (x :: rs) = taken x :: takenAll rs from by simp [takenAll]]
    show RelC (if c.outcome.isSome then c else (c.receive (replyOf (taken x))).run ((takenAll rs).map replyOf ++ [.value .undef])) (feedM s (x :: rs))
    cases hq : c.question with
    | none =>
      have y := r.xor
      rw [hq] at y
      have y' : c.outcome.isSome = true := y
      rw [if_pos y', feed_ended (by rw [r.ask]; exact hq)]
      exact r
    | some a =>
      rw [r.none_of hq, if_neg (by decide)]
      have ef : feedM s (x :: rs) = feedM (replyM s x) rs := rfl
      rw [ef]
      refine feed_rel rs hp'.2 ?_
      unfold replyM
      rw [r.ask, hq]
      simp only
      by_cases k : kdI x = 1
      · rw [if_pos k, (kd_null hp'.1).mp k]
        have := giveup_rel r hq (text "stop")
        rw [show datOf (given (text "stop")) = wordD "stop" from word_dat ok_stop] at this
        exact this
      · rw [if_neg k]
        have e : replyOf (taken x) = .value (taken x) := by
          have h : taken x ≠ .null := fun z => k ((kd_null hp'.1).mpr z)
          unfold replyOf
          split
          · next h2 => exact absurd h2 h
          · rfl
        rw [e]
        exact accept_rel r hp'.1
theorem begun_rel (x y : RWire.Value) : RelC (begun (taken x) (taken y)) (initM x y) := by
  have okI := init_ok x y
  have eS : sizeArg (taken x) = match rangeV 2 20 x with | some s => .ok s | none => bad "size must be an integer from 2 to 20" := by
    unfold sizeArg
    rw [range_taken]
    cases rangeV 2 20 x <;> rfl
  have eM : mostArg (taken y) = match rangeV 1 20 y with | some s => .ok s | none => bad "most must be an integer from 1 to 20" := by
    unfold mostArg
    rw [show maxPages = 20 from rfl, range_taken]
    cases rangeV 1 20 y <;> rfl
  unfold begun collectArg
  unfold initM at okI ⊢
  rw [eS]
  cases h1 : rangeV 2 20 x with
  | none =>
    rw [if_pos rfl]
    exact ⟨rfl, (rej_dat ok_range ok_size).symm, rfl, (fun a h => nomatch h), fun a h => nomatch h⟩
  | some s =>
    rw [h1, if_neg (fun z => nomatch z)] at okI
    rw [if_neg (fun z => nomatch z)]
    simp only [andThen]
    rw [eM]
    cases h2 : rangeV 1 20 y with
    | none =>
      rw [if_pos rfl]
      exact ⟨rfl, (rej_dat ok_range ok_most).symm, rfl, (fun a h => nomatch h), fun a h => nomatch h⟩
    | some n =>
      rw [h2, if_neg (fun z => nomatch z)] at okI
      rw [if_neg (fun z => nomatch z)]
      simp only
      obtain ⟨e1, e2, e3⟩ := rangeV_nm h1
      obtain ⟨e4, e5, e6⟩ := rangeV_nm h2
      have ep : proceed s n [] = ⟨s, n, [], some 0, none⟩ := by
        unfold proceed
        have m0 : merged [] = some [] := rfl
        have c0 : isCertain s [] = false := rfl
        have n0 : nextOffset s [] = 0 := rfl
        rw [m0]
        simp only
        rw [c0, n0, if_neg (by decide), if_neg (by show ¬ n ≤ 0; omega)]
      rw [ep]
      exact ⟨rfl, null_dat.symm, rfl, fun a h => ⟨e1, e4, rfl, fun p hp => nomatch hp⟩, okI⟩
end Pg

/-! MaI: sessions, one request -/
namespace Pg
open PySem (Str)
open R7249h.Spec
open Rust (taken takenAll takenFields given givenAll givenFields narrow narrowAll narrowFields unitOf octetOf argAt slotOf slotAt taking calls0 callOf)
/-! ### sizes -/
theorem size_pos : ∀ (n : Nat) (p : Pl), 1 ≤ Plain.size n p
  | 0, .undef | 0, .null | 0, .bool _ | 0, .num _ | 0, .big _ | 0, .arr _ | 0, .obj _ => by simp [Plain.size]
  | 0, .str _ => by simp [Plain.size]
  | n + 1, .undef | n + 1, .null | n + 1, .bool _ | n + 1, .num _ | n + 1, .big _ => by simp [Plain.size]
  | n + 1, .str _ => by simp [Plain.size]
  | n + 1, .arr _ => by simp [Plain.size]
  | n + 1, .obj _ => by simp [Plain.size]
theorem size_arr (n : Nat) (l : List RWire.Value) : Plain.size (n + 1) (taken (.list l)) = (l.map fun x => Plain.size n (taken x)).sum + 1 := by
  rw [show taken (.list l) = .arr (takenAll l) from by simp [taken]]
  have e : ∀ l : List RWire.Value, (takenAll l).map (Plain.size n) = l.map fun x => Plain.size n (taken x) := by
    intro l
    induction l with
    | nil => simp [takenAll]
    | cons x l ih => simp only [takenAll, List.map_cons, ih]
  show ((takenAll l).map (Plain.size n)).sum + 1 = _
  rw [e]
theorem sum_ge {α : Type} {f : α → Nat} {x : α} : ∀ {l : List α}, x ∈ l → f x ≤ (l.map f).sum
  | a :: l, h => by
    rw [List.map_cons, List.sum_cons]
    rcases List.mem_cons.mp h with z | z
    · rw [z]; omega
    · have := sum_ge (f := f) z
      omega
theorem sum_length {α : Type} {f : α → Nat} : ∀ {l : List α}, (∀ x ∈ l, 1 ≤ f x) → l.length ≤ (l.map f).sum
  | [], _ => by simp
  | a :: l, h => by
    rw [List.map_cons, List.sum_cons, List.length_cons]
    have := sum_length (l := l) fun x hx => h x (List.mem_cons_of_mem _ hx)
    have := h a List.mem_cons_self
    omega
theorem list_le {n k : Nat} {l : List RWire.Value} (h : Plain.size (n + 1) (taken (.list l)) ≤ k) : l.length ≤ k ∧ ∀ x ∈ l, Plain.size n (taken x) ≤ k := by
  rw [size_arr] at h
  have h1 := sum_length (l := l) (f := fun x => Plain.size n (taken x)) fun x _ => size_pos n _
  refine ⟨by omega, fun x hx => ?_⟩
  have := sum_ge (f := fun x => Plain.size n (taken x)) hx
  omega
theorem few_of {x : RWire.Value} (h : Plain.size 8 (taken x) ≤ 20000) : Few x := by
  rintro l rfl
  obtain ⟨h1, h2⟩ := list_le h
  refine ⟨h1, fun y hy l' e => ?_⟩
  have hy2 := h2 y hy
  rw [e] at hy2
  obtain ⟨h3, h4⟩ := list_le hy2
  refine ⟨h3, fun z hz l'' e2 => ?_⟩
  have hz2 := h4 z hz
  rw [e2] at hz2
  exact (list_le hz2).1
theorem tabs_of {x : RWire.Value} (h : Plain.size 8 (taken x) ≤ 20000) {k : Nat} {ts : List (List Nat)} (ht : tablesV k x = some ts) : ts.flatten.length ≤ 20000 := by
  obtain ⟨l, rfl, _, ha⟩ := tablesV_list ht
  rw [size_arr] at h
  have go : ∀ (l : List RWire.Value) (ts : List (List Nat)), allV (wholesV 1001000) l = some ts → ts.flatten.length ≤ (l.map fun x => Plain.size 7 (taken x)).sum := by
    intro l
    induction l with
    | nil =>
      intro ts h
      simp only [allV] at h
      cases h
      simp
    | cons x l ih =>
      intro ts h
      obtain ⟨a, l', e1, e2, rfl⟩ := allV_cons h
      have h1 := ih l' e2
      obtain ⟨lx, rfl, _, hlen, _⟩ := wholesV_list e1
      have h2 := sum_length (l := lx) (f := fun x => Plain.size 6 (taken x)) fun x _ => size_pos 6 _
      rw [List.flatten_cons, List.length_append, List.map_cons, List.sum_cons, size_arr]
      omega
  have := go l ts ha
  omega
/-! ### arguments -/
theorem arg_taken (l : List RWire.Value) (i : Nat) : argAt (takenAll l) i = taken (argV (fourMore l) i) := by
  have e0 : taken .nothing = .undef := by simp [taken]
  have go : ∀ (l : List RWire.Value) (i : Nat), (takenAll l).getD i .undef = taken ((l ++ List.replicate 4 RWire.Value.nothing).getD i RWire.Value.nothing) := by
    intro l
    induction l with
    | nil =>
      intro i
      have : (List.replicate 4 RWire.Value.nothing).getD i .nothing = .nothing := by
        match i with
        | 0 | 1 | 2 | 3 => rfl
        | i + 4 => rfl
      rw [List.nil_append, this, e0]
      simp [takenAll]
    | cons x l ih =>
      intro i
      cases i with
      | zero => simp [takenAll]
      | succ i =>
        have := ih i
        simpa [takenAll] using this
  exact go l i
theorem arg_plain {l : List RWire.Value} (h : plains l = true) (i : Nat) : plain (argV (fourMore l) i) = true := by
  have hall : ∀ x ∈ fourMore l, plain x = true := by
    intro x hx
    rcases List.mem_append.mp hx with z | z
    · exact plains_all h x z
    · rw [List.eq_of_mem_replicate z]; rfl
  unfold argV
  rw [List.getD_eq_getElem?_getD]
  cases e : (fourMore l)[i]? with
  | none => rfl
  | some x => exact hall x (List.mem_of_getElem? e)
theorem slot_taken {x : RWire.Value} {p : Nat} (h : slotOf 2 (taken x) = some p) : nmI x = (p : Nat) ∧ p < 3 ∧ x = .int (p : Nat) := by
  cases x with
  | int i =>
    rw [show taken (.int i) = .num (some i) from by simp [taken, RShim.F64.ofInt]] at h
    have h' : (if decide (0 ≤ i) && Nat.ble i.toNat 2 then some i.toNat else none) = some p := h
    by_cases c : (decide (0 ≤ i) && Nat.ble i.toNat 2) = true
    · rw [if_pos c] at h'
      cases h'
      rw [Bool.and_eq_true] at c
      have c1 := of_decide_eq_true c.1
      have c2 := Nat.le_of_ble_eq_true c.2
      have e : ((i.toNat : Nat) : Int) = i := Int.toNat_of_nonneg c1
      refine ⟨by simp [nmI, datOf, e], by omega, by rw [e]⟩
    · rw [if_neg c] at h'
      cases h'
  | _ => simp [taken, slotOf] at h
theorem kinds_plain {l : List RWire.Value} (h : Rust.ofKinds l = true) : plains l = true := by
  unfold Rust.ofKinds Rust.bigTold Rust.octetsTold Rust.wideTold at h
  simp only [Bool.false_or, Bool.and_eq_true] at h
  exact plains_of l h.1.1 h.1.2 h.2
/-! ### sessions -/
def RelO : Option Collector → Option CS → Prop
  | none, none => True
  | some c, some s => RelC c s
  | _, _ => False
structure RelS (w : World) (ss : SS) : Prop where
  lw : w.collectors.length = 3
  ls : ss.length = 3
  at_ : ∀ p, p < 3 → RelO (w.collectors.getD p none) (ss.getD p none)
theorem RelS.start : RelS World.start [none, none, none] := ⟨rfl, rfl, fun p hp => by
  match p with
  | 0 | 1 | 2 => exact trivial
  | p + 3 => omega⟩
theorem RelS.created {w : World} {ss : SS} (R : RelS w ss) (n : Nat) : RelS { w with created := n } ss := ⟨R.lw, R.ls, R.at_⟩
theorem RelS.put {w : World} {ss : SS} (R : RelS w ss) {p : Nat} {c : Collector} {s : CS} (r : RelC c s) : RelS (setCollector w p c) (ss.set p (some s)) := by
  refine ⟨by unfold setCollector; simp [R.lw], by simp [R.ls], fun q hq => ?_⟩
  show RelO ((w.collectors.set p (some c)).getD q none) ((ss.set p (some s)).getD q none)
  rw [List.getD_eq_getElem?_getD, List.getD_eq_getElem?_getD]
  by_cases e : p = q
  · subst e
    rw [List.getElem?_set_self (by rw [R.lw]; exact hq), List.getElem?_set_self (by rw [R.ls]; exact hq)]
    exact r
  · rw [List.getElem?_set_ne e, List.getElem?_set_ne e]
    have := R.at_ q hq
    rw [List.getD_eq_getElem?_getD, List.getD_eq_getElem?_getD] at this
    exact this
theorem RelS.some_of {w : World} {ss : SS} (R : RelS w ss) {p : Nat} {c : Collector} (hp : p < 3) (h : w.collectors.getD p none = some c) : ∃ s, ss[p]? = some (some s) ∧ RelC c s := by
  have := R.at_ p hp
  rw [h] at this
  cases e : ss.getD p none with
  | none => rw [e] at this; cases this
  | some s =>
    rw [e] at this
    refine ⟨s, ?_, this⟩
    rw [List.getD_eq_getElem?_getD] at e
    cases e2 : ss[p]? with
    | none => rw [e2] at e; cases e
    | some o => rw [e2] at e; simp at e; rw [e]
theorem dat_undef : nothingD = datOf (given .undef) := by simp [given, datOf, nothingD]
theorem fits_each {l : List Pl} (h : fits l = true) : ∀ p ∈ l, Plain.size 8 p ≤ 20000 := by
  intro p hp
  unfold fits at h
  rw [Bool.and_eq_true] at h
  have h2 := of_decide_eq_true h.2
  have h3 : Plain.size 8 p ≤ (l.map (Plain.size 8)).sum := sum_ge (f := Plain.size 8) hp
  have h4 : (l.map (Plain.size 8)).sum ≤ 20000 := h2
  omega
theorem takes {n : Nat} {l : List Pl} {c : Option Call} {call : Call} (h : taking n l c = some call) : l.length ≤ n ∧ c = some call := by
  unfold taking at h
  by_cases k : Nat.ble l.length n = true
  · rw [if_pos k] at h; exact ⟨Nat.le_of_ble_eq_true k, h⟩
  · rw [if_neg k] at h; cases h
theorem due_base {l : List RWire.Value} {n : Nat} (hl : l.length ≤ n) (hn : n ≤ 4) (hs : ∀ i, i < n → Plain.size 8 (taken (argV (fourMore l) i)) ≤ 20000) : 4 ≤ (fourMore l).length ∧ (∀ x ∈ fourMore l, Few x) ∧ ∀ k ts, tablesV k (argV (fourMore l) 2) = some ts → ts.flatten.length ≤ 20000 := by
  have hall : ∀ i, Plain.size 8 (taken (argV (fourMore l) i)) ≤ 20000 := by
    intro i
    by_cases c : i < n
    · exact hs i c
    · rw [← arg_taken]
      unfold argAt
      rw [List.getD_eq_getElem?_getD, List.getElem?_eq_none (by rw [takenAll_length]; omega)]
      show Plain.size 8 .undef ≤ 20000
      simp [Plain.size]
  refine ⟨by simp [fourMore], fun x hx => ?_, fun k ts ht => tabs_of (hall 2) ht⟩
  obtain ⟨i, hi, e⟩ := List.getElem_of_mem hx
  have : argV (fourMore l) i = x := by unfold argV; rw [List.getD_eq_getElem?_getD, List.getElem?_eq_getElem hi, e]; rfl
  rw [← this]
  exact few_of (hall i)
end Pg

/-! MaJ: one request, the mirror is the specification -/
namespace Pg
open PySem (Str)
open R7249h.Spec
open Rust (taken takenAll takenFields given givenAll givenFields narrow narrowAll narrowFields unitOf octetOf argAt slotOf slotAt taking calls0 callOf)
structure StepOk (door : Nat) (l : List RWire.Value) (ss : SS) (w : World) (call : Call) : Prop where
  due : Due (door : Nat) (fourMore l) ss
  fit : Fits (sesM (door : Nat) (fourMore l) ss).2 (R7249h.Spec.step w call).2
  rel : RelS (R7249h.Spec.step w call).1 (sesM (door : Nat) (fourMore l) ss).1
theorem within_valid {w : World} {c : Call} (h : Rust.canBe w c = true) : validInput w c = true := by
  unfold Rust.canBe within at h
  rw [Bool.and_eq_true, Bool.and_eq_true] at h
  exact h.1.1
section
variable {l : List RWire.Value} {ss : SS} {w : World}
theorem log_step {door : Nat} {call : Call} (hd : door ≤ 6) (R : RelS w ss) (hp : plains l = true) {n : Nat} (hl : l.length ≤ n) (hn : n ≤ 4) (hs : ∀ i, i < n → Plain.size 8 (taken (argV (fourMore l) i)) ≤ 20000)
    (hw : (execute w call).1 = w) (hans : (execute w call).2 = logAns door (argAt (takenAll l) 0) (argAt (takenAll l) 1) (argAt (takenAll l) 2)) : StepOk door l ss w call := by
  obtain ⟨d1, d2, d3⟩ := due_base hl hn hs
  have hd6 : ((door : Nat) : Int) ≤ 6 := by omega
  have e : sesM (door : Nat) (fourMore l) ss = (ss, logRes (door : Nat) (fourMore l)) := by unfold sesM; rw [if_pos hd6]
  refine ⟨⟨d1, d2, d3, fun h => by omega, fun h => by omega, fun h => by omega⟩, ?_, ?_⟩
  · rw [e]
    show Fits (logRes (door : Nat) (fourMore l)) (execute w call).2
    rw [hans, arg_taken, arg_taken, arg_taken]
    exact log_fits hd (arg_plain hp 1) (arg_plain hp 2)
  · rw [e]
    show RelS { (execute w call).1 with created := _ } ss
    rw [hw]
    exact R.created _
theorem three {p : Nat → Prop} (h0 : p 0) (h1 : p 1) : ∀ i, i < 2 → p i := fun i hi => by
  match i with
  | 0 => exact h0
  | 1 => exact h1
  | i + 2 => omega
theorem slot_size {x : RWire.Value} {p : Nat} (h : slotOf 2 (taken x) = some p) : Plain.size 8 (taken x) ≤ 20000 := by
  obtain ⟨_, _, rfl⟩ := slot_taken h
  simp [taken, Plain.size]
theorem slotN_of {p : Nat} (h : nmI (argV (fourMore l) 0) = (p : Nat)) : slotN (fourMore l) = p := by
  unfold slotN
  rw [h]
  exact Int.toNat_natCast p
theorem read_step {door : Nat} {call : Call} {p : Nat} (hd : 9 ≤ door) (R : RelS w ss) {n : Nat} (hl : l.length ≤ n) (hn : n ≤ 4) (hs : ∀ i, i < n → Plain.size 8 (taken (argV (fourMore l) i)) ≤ 20000) (hp3 : p < 3) (hnm : nmI (argV (fourMore l) 0) = (p : Nat))
    {c : Collector} {s : CS} (hss : ss[p]? = some (some s)) (rc : RelC c s) (h10 : door = 10 → ∃ a, s.asked = some a) {w' : World} {a : Ans} (hex : execute w call = (w', a)) (hfit : Fits (.ok (readM (door : Nat) (fourMore l) ss).2) a) (hrel : RelS w' (readM (door : Nat) (fourMore l) ss).1) : StepOk door l ss w call := by
  obtain ⟨d1, d2, d3⟩ := due_base hl hn hs
  have e : sesM (door : Nat) (fourMore l) ss = ((readM (door : Nat) (fourMore l) ss).1, .ok (readM (door : Nat) (fourMore l) ss).2) := by
    unfold sesM
    rw [if_neg (by omega), if_neg (by omega)]
  refine ⟨⟨d1, d2, d3, fun _ => ⟨p, hp3, hnm⟩, fun h => by omega, fun _ => ⟨s, by rw [slotN_of hnm]; exact hss, fun h => h10 (by omega)⟩⟩, ?_, ?_⟩
  · rw [e]
    show Fits _ (execute w call).2
    rw [hex]
    exact hfit
  · rw [e]
    show RelS { (execute w call).1 with created := _ } _
    rw [hex]
    exact hrel.created _
theorem fill_step {door : Nat} {call : Call} {p : Nat} (hd : door = 7 ∨ door = 8) (R : RelS w ss) {n : Nat} (hl : l.length ≤ n) (hn : n ≤ 4) (hs : ∀ i, i < n → Plain.size 8 (taken (argV (fourMore l) i)) ≤ 20000) (hp3 : p < 3) (hnm : nmI (argV (fourMore l) 0) = (p : Nat))
    (h8 : door = 8 → ∃ rs, argV (fourMore l) 3 = .list rs) {c : Collector} (hex : execute w call = (setCollector w p c, .ret .undef))
    (rc : RelC c (if ((door : Nat) : Int) = 8 then feedM (initM (argV (fourMore l) 1) (argV (fourMore l) 2)) (listV (argV (fourMore l) 3)) else initM (argV (fourMore l) 1) (argV (fourMore l) 2))) : StepOk door l ss w call := by
  obtain ⟨d1, d2, d3⟩ := due_base hl hn hs
  have e : sesM (door : Nat) (fourMore l) ss = (fillM (door : Nat) (fourMore l) ss, .ok nothingD) := by
    unfold sesM
    rw [if_neg (by omega), if_pos (by omega)]
  refine ⟨⟨d1, d2, d3, fun _ => ⟨p, hp3, hnm⟩, fun h => h8 (by omega), fun h => by omega⟩, ?_, ?_⟩
  · rw [e]
    show Fits _ (execute w call).2
    rw [hex]
    exact dat_undef
  · rw [e]
    show RelS { (execute w call).1 with created := _ } _
    rw [hex]
    refine RelS.created ?_ _
    unfold fillM
    rw [slotN_of hnm]
    exact R.put rc
theorem fits2 {x y : Pl} (h : fits [x, y] = true) : Plain.size 8 x ≤ 20000 ∧ Plain.size 8 y ≤ 20000 := ⟨fits_each h x (by simp), fits_each h y (by simp)⟩
theorem fits3 {x y z : Pl} (h : fits [x, y, z] = true) : Plain.size 8 x ≤ 20000 ∧ Plain.size 8 y ≤ 20000 ∧ Plain.size 8 z ≤ 20000 := ⟨fits_each h x (by simp), fits_each h y (by simp), fits_each h z (by simp)⟩
theorem below2 {l : List RWire.Value} (h0 : Plain.size 8 (argAt (takenAll l) 0) ≤ 20000) (h1 : Plain.size 8 (argAt (takenAll l) 1) ≤ 20000) : ∀ i, i < 2 → Plain.size 8 (taken (argV (fourMore l) i)) ≤ 20000 := by
  intro i hi
  rw [← arg_taken]
  match i with
  | 0 => exact h0
  | 1 => exact h1
  | i + 2 => omega
theorem below3 {l : List RWire.Value} (h0 : Plain.size 8 (argAt (takenAll l) 0) ≤ 20000) (h1 : Plain.size 8 (argAt (takenAll l) 1) ≤ 20000) (h2 : Plain.size 8 (argAt (takenAll l) 2) ≤ 20000) : ∀ i, i < 3 → Plain.size 8 (taken (argV (fourMore l) i)) ≤ 20000 := by
  intro i hi
  rw [← arg_taken]
  match i with
  | 0 => exact h0
  | 1 => exact h1
  | 2 => exact h2
  | i + 3 => omega
theorem below4 {l : List RWire.Value} (h0 : Plain.size 8 (argAt (takenAll l) 0) ≤ 20000) (h1 : Plain.size 8 (argAt (takenAll l) 1) ≤ 20000) (h2 : Plain.size 8 (argAt (takenAll l) 2) ≤ 20000) (h3 : Plain.size 8 (argAt (takenAll l) 3) ≤ 20000) : ∀ i, i < 4 → Plain.size 8 (taken (argV (fourMore l) i)) ≤ 20000 := by
  intro i hi
  rw [← arg_taken]
  match i with
  | 0 => exact h0
  | 1 => exact h1
  | 2 => exact h2
  | 3 => exact h3
  | i + 4 => omega
theorem slot_arg {l : List RWire.Value} {p : Nat} (h : slotAt (takenAll l) 0 2 = some p) : nmI (argV (fourMore l) 0) = (p : Nat) ∧ p < 3 ∧ Plain.size 8 (argAt (takenAll l) 0) ≤ 20000 := by
  unfold slotAt at h
  rw [arg_taken] at h ⊢
  obtain ⟨h1, h2, _⟩ := slot_taken h
  exact ⟨h1, h2, slot_size h⟩
theorem has_col {w : World} {ss : SS} (R : RelS w ss) {p : Nat} (hp : p < 3) (h : hasCollector w p = true) : ∃ c s, w.collectors.getD p none = some c ∧ ss[p]? = some (some s) ∧ RelC c s := by
  unfold hasCollector at h
  rw [Bool.and_eq_true] at h
  cases e : w.collectors.getD p none with
  | none => rw [e] at h; cases h.2
  | some c =>
    obtain ⟨s, h1, h2⟩ := R.some_of hp e
    exact ⟨c, s, rfl, h1, h2⟩
theorem step_ok {door : Nat} {call : Call} (R : RelS w ss) (hp : plains l = true) (hc : callOf door (takenAll l) = some call) (hcan : Rust.canBe w call = true) : StepOk door l ss w call := by
  have hv := within_valid hcan
  unfold callOf at hc
  have hd16 : door / 16 = 0 := by
    cases e : door / 16 with
    | zero => rfl
    | succ k => rw [e] at hc; cases hc
  rw [hd16] at hc
  simp only at hc
  have hlt : door < 16 := by omega
  unfold calls0 at hc
  split at hc
  · -- 0
    obtain ⟨hl, e⟩ := takes hc
    cases e
    rw [takenAll_length] at hl
    obtain ⟨f0, f1⟩ := fits2 hv
    exact log_step (by omega) R hp hl (by omega) (below2 f0 f1) rfl rfl
  · obtain ⟨hl, e⟩ := takes hc
    cases e
    rw [takenAll_length] at hl
    obtain ⟨f0, f1⟩ := fits2 hv
    exact log_step (by omega) R hp hl (by omega) (below2 f0 f1) rfl rfl
  · obtain ⟨hl, e⟩ := takes hc
    cases e
    rw [takenAll_length] at hl
    obtain ⟨f0, f1⟩ := fits2 hv
    exact log_step (by omega) R hp hl (by omega) (below2 f0 f1) rfl rfl
  · obtain ⟨hl, e⟩ := takes hc
    cases e
    rw [takenAll_length] at hl
    obtain ⟨f0, f1⟩ := fits2 hv
    exact log_step (by omega) R hp hl (by omega) (below2 f0 f1) rfl rfl
  · obtain ⟨hl, e⟩ := takes hc
    cases e
    rw [takenAll_length] at hl
    obtain ⟨f0, f1⟩ := fits2 hv
    exact log_step (by omega) R hp hl (by omega) (below2 f0 f1) rfl rfl
  · obtain ⟨hl, e⟩ := takes hc
    cases e
    rw [takenAll_length] at hl
    obtain ⟨f0, f1, f2⟩ := fits3 hv
    exact log_step (by omega) R hp hl (by omega) (below3 f0 f1 f2) rfl rfl
  · obtain ⟨hl, e⟩ := takes hc
    cases e
    rw [takenAll_length] at hl
    obtain ⟨f0, f1, f2⟩ := fits3 hv
    exact log_step (by omega) R hp hl (by omega) (below3 f0 f1 f2) rfl rfl
  · -- 7
    obtain ⟨hl, e⟩ := takes hc
    rw [takenAll_length] at hl
    cases hsl : slotAt (takenAll l) 0 2 with
    | none => rw [hsl] at e; cases e
    | some p =>
      rw [hsl] at e
      cases e
      obtain ⟨hnm, hp3, f0⟩ := slot_arg hsl
      have hv' : (decide (p < slots) && fits [argAt (takenAll l) 1, argAt (takenAll l) 2]) = true := hv
      rw [Bool.and_eq_true] at hv'
      obtain ⟨f1, f2⟩ := fits2 hv'.2
      refine fill_step (.inl rfl) R hl (by omega) (below3 f0 f1 f2) hp3 hnm (fun h => by omega) (c := begun (argAt (takenAll l) 1) (argAt (takenAll l) 2)) rfl ?_
      rw [if_neg (by decide), arg_taken, arg_taken]
      exact begun_rel _ _
  · -- 8
    obtain ⟨hl, e⟩ := takes hc
    rw [takenAll_length] at hl
    cases hsl : slotAt (takenAll l) 0 2 with
    | none => rw [hsl] at e; cases e
    | some p =>
      rw [hsl] at e
      cases e
      obtain ⟨hnm, hp3, f0⟩ := slot_arg hsl
      have hv' : (decide (p < slots) && isList (argAt (takenAll l) 3) && fits [argAt (takenAll l) 1, argAt (takenAll l) 2, argAt (takenAll l) 3]) = true := hv
      rw [Bool.and_eq_true, Bool.and_eq_true] at hv'
      obtain ⟨f1, f2, f3⟩ := fits3 hv'.2
      have hli := hv'.1.2
      rw [arg_taken] at hli
      have hrs : ∃ rs, argV (fourMore l) 3 = .list rs := by
        have hpl := arg_plain hp 3
        cases e3 : argV (fourMore l) 3 with
        | list rs => exact ⟨rs, rfl⟩
        | octets u => rw [e3] at hpl; simp [plain] at hpl
        | _ => rw [e3] at hli; simp [taken, isList] at hli
      obtain ⟨rs, hrs⟩ := hrs
      refine fill_step (.inr rfl) R hl (by omega) (below4 f0 f1 f2 f3) hp3 hnm (fun _ => ⟨rs, hrs⟩) (c := (begun (argAt (takenAll l) 1) (argAt (takenAll l) 2)).run (repliesOf (argAt (takenAll l) 3))) rfl ?_
      have hpl := arg_plain hp 3
      rw [if_pos (by decide), arg_taken, arg_taken, arg_taken, hrs]
      rw [hrs] at hpl
      have er : repliesOf (taken (.list rs)) = (takenAll rs).map replyOf ++ [.value .undef] := by
        unfold repliesOf
        rw [show taken (.list rs) = .arr (takenAll rs) from by simp [taken]]
        rfl
      rw [er]
      exact feed_rel rs (by simpa [plain] using hpl) (begun_rel _ _)
  · -- 9
    obtain ⟨hl, e⟩ := takes hc
    rw [takenAll_length] at hl
    cases hsl : slotAt (takenAll l) 0 2 with
    | none => rw [hsl] at e; cases e
    | some p =>
      rw [hsl] at e
      cases e
      obtain ⟨hnm, hp3, f0⟩ := slot_arg hsl
      obtain ⟨c, s, hcw, hss, rc⟩ := has_col R hp3 hv
      have er := readM_some (door := 9) (gs := fourMore l) (s := s) (ss := ss) (by rw [slotN_of hnm]; exact hss)
      rw [if_pos rfl] at er
      refine read_step (by omega) R hl (by omega) (fun i hi => by rw [← arg_taken]; match i with | 0 => exact f0 | i + 1 => omega) hp3 hnm hss rc (fun h => by omega) (w' := w) (a := .ret (.arr (c.question.toList.map nat))) (by show onCollector w p _ = _; unfold onCollector; rw [hcw]) ?_ ?_
      · show Fits (.ok (readM 9 (fourMore l) ss).2) _
        rw [er]
        show numsD s.asked.toList = _
        rw [rc.ask]
        exact (dat_rows _).symm
      · show RelS w (readM 9 (fourMore l) ss).1
        rw [er]
        exact R
  · -- 10
    obtain ⟨hl, e⟩ := takes hc
    rw [takenAll_length] at hl
    cases hsl : slotAt (takenAll l) 0 2 with
    | none => rw [hsl] at e; cases e
    | some p =>
      rw [hsl] at e
      cases e
      obtain ⟨hnm, hp3, f0⟩ := slot_arg hsl
      have hv' : (hasCollector w p && hasOpen w p && fits [argAt (takenAll l) 1]) = true := hv
      rw [Bool.and_eq_true, Bool.and_eq_true] at hv'
      obtain ⟨c, s, hcw, hss, rc⟩ := has_col R hp3 hv'.1.1
      have ho := hv'.1.2
      unfold hasOpen at ho
      rw [hcw] at ho
      obtain ⟨a, ha⟩ := Option.isSome_iff_exists.mp ho
      have f1 := fits_each hv'.2 (argAt (takenAll l) 1) (by simp)
      have er := readM_some (door := 10) (gs := fourMore l) (s := s) (ss := ss) (by rw [slotN_of hnm]; exact hss)
      rw [if_neg (by decide), if_neg (by decide), if_pos rfl, slotN_of hnm] at er
      refine read_step (by omega) R hl (by omega) (below2 f0 f1) hp3 hnm hss rc (fun _ => ⟨a, by rw [rc.ask]; exact ha⟩) (w' := setCollector w p (c.receive (.value (argAt (takenAll l) 1)))) (a := .ret .undef) (by show onCollector w p _ = _; unfold onCollector; rw [hcw]) ?_ ?_
      · show Fits (.ok (readM 10 (fourMore l) ss).2) _
        rw [er]
        exact dat_undef
      · show RelS _ (readM 10 (fourMore l) ss).1
        rw [er, arg_taken]
        exact R.put (accept_rel rc (arg_plain hp 1))
  · -- 11
    obtain ⟨hl, e⟩ := takes hc
    rw [takenAll_length] at hl
    cases hsl : slotAt (takenAll l) 0 2 with
    | none => rw [hsl] at e; cases e
    | some p =>
      rw [hsl] at e
      cases e
      obtain ⟨hnm, hp3, f0⟩ := slot_arg hsl
      have hv' : (hasCollector w p && hasOpen w p && fits [argAt (takenAll l) 1]) = true := hv
      rw [Bool.and_eq_true, Bool.and_eq_true] at hv'
      obtain ⟨c, s, hcw, hss, rc⟩ := has_col R hp3 hv'.1.1
      have ho := hv'.1.2
      unfold hasOpen at ho
      rw [hcw] at ho
      obtain ⟨a, ha⟩ := Option.isSome_iff_exists.mp ho
      have f1 := fits_each hv'.2 (argAt (takenAll l) 1) (by simp)
      have er := readM_some (door := 11) (gs := fourMore l) (s := s) (ss := ss) (by rw [slotN_of hnm]; exact hss)
      rw [if_neg (by decide), if_neg (by decide), if_neg (by decide), slotN_of hnm] at er
      refine read_step (by omega) R hl (by omega) (below2 f0 f1) hp3 hnm hss rc (fun h => by omega) (w' := setCollector w p (c.receive (.failed (argAt (takenAll l) 1)))) (a := .ret .undef) (by show onCollector w p _ = _; unfold onCollector; rw [hcw]) ?_ ?_
      · show Fits (.ok (readM 11 (fourMore l) ss).2) _
        rw [er]
        exact dat_undef
      · show RelS _ (readM 11 (fourMore l) ss).1
        rw [er, arg_taken]
        have g := giveup_rel rc ha (taken (argV (fourMore l) 1))
        rw [given_taken _ (arg_plain hp 1)] at g
        exact R.put g
  · -- 12
    obtain ⟨hl, e⟩ := takes hc
    rw [takenAll_length] at hl
    cases hsl : slotAt (takenAll l) 0 2 with
    | none => rw [hsl] at e; cases e
    | some p =>
      rw [hsl] at e
      cases e
      obtain ⟨hnm, hp3, f0⟩ := slot_arg hsl
      obtain ⟨c, s, hcw, hss, rc⟩ := has_col R hp3 hv
      have er := readM_some (door := 12) (gs := fourMore l) (s := s) (ss := ss) (by rw [slotN_of hnm]; exact hss)
      rw [if_neg (by decide), if_pos rfl] at er
      refine read_step (by omega) R hl (by omega) (fun i hi => by rw [← arg_taken]; match i with | 0 => exact f0 | i + 1 => omega) hp3 hnm hss rc (fun h => by omega) (w' := w) (a := .ret (outcomePlain c.outcome)) (by show onCollector w p _ = _; unfold onCollector; rw [hcw]) ?_ ?_
      · show Fits (.ok (readM 12 (fourMore l) ss).2) _
        rw [er]
        exact rc.out
      · show RelS w (readM 12 (fourMore l) ss).1
        rw [er]
        exact R
  · cases hc
end
end Pg

/-! MaK: what is asked gives what is played -/
namespace Pg
open PySem (Str)
open R7249h.Spec
open Rust (taken takenAll takenFields given givenAll givenFields narrow narrowAll narrowFields unitOf octetOf callOf)
theorem tells_of {r : Res} {a : Ans} (hf : Fits r a) (ht : Rust.tellable a = true) (hl : (RWire.writeAnswer (Rust.answerOf a)).length ≤ 65536) : Tells r (RWire.writeAnswer (Rust.answerOf a)) := by
  cases r with
  | ok d =>
    cases a with
    | ret p =>
      have ht' : (narrow p && RWire.writable (given p)) = true := ht
      rw [Bool.and_eq_true] at ht'
      have hw : (RWire.fine (given p) && decide (RWire.depth (given p) ≤ RWire.nestMost)) = true := ht'.2
      rw [Bool.and_eq_true] at hw
      have hl' : (0 :: RWire.write (given p)).length ≤ 65536 := hl
      rw [List.length_cons] at hl'
      exact ⟨given p, hf, narrow_plain p ht'.1, hw.1, of_decide_eq_true hw.2, by omega, rfl⟩
    | fail e => exact False.elim hf
  | wrong m =>
    cases a with
    | ret p => exact False.elim hf
    | fail e =>
      obtain ⟨h1, h2⟩ := hf
      obtain ⟨cls, msg⟩ := e
      cases h1
      exact ⟨msg.map octetOf, h2.eq, h2.asc, by rw [List.length_map]; exact h2.len, rfl⟩
  | range m =>
    cases a with
    | ret p => exact False.elim hf
    | fail e =>
      obtain ⟨h1, h2⟩ := hf
      obtain ⟨cls, msg⟩ := e
      cases h1
      exact ⟨msg.map octetOf, h2.eq, h2.asc, by rw [List.length_map]; exact h2.len, rfl⟩
def outsL : Rust.St → List (List UInt8) → List (List UInt8)
  | _, [] => []
  | w, b :: r => (Rust.step w b).2 :: outsL (Rust.step w b).1 r
theorem asked_parts {b : List UInt8} {c : Call} (h : Rust.asked b = some c) : ∃ d l, RWire.readRequest b = some (d, l) ∧ Rust.ofKinds l = true ∧ callOf d (takenAll l) = some c := by
  unfold Rust.asked at h
  cases e : RWire.readRequest b with
  | none => rw [e] at h; cases h
  | some p =>
    obtain ⟨d, l⟩ := p
    rw [e] at h
    simp only at h
    split at h
    · next k => exact ⟨d, l, rfl, k, h⟩
    · cases h
theorem goes_plays : ∀ (bs : List (List UInt8)) {w : Rust.St} {left : Nat} {ss : SS}, RelS w ss → (∀ b ∈ bs, b.length ≤ 60000) → Rust.goes w left bs = true → Plays ss bs (outsL w bs)
  | [], w, left, ss, R, _, _ => .nil ss
  | b :: r, w, left, ss, R, hb, hg => by
    unfold Rust.goes at hg
    cases ha : Rust.asked b with
    | none => rw [ha] at hg; cases hg
    | some c =>
      rw [ha] at hg
      simp only [Bool.and_eq_true] at hg
      obtain ⟨⟨⟨⟨g1, g2⟩, g3⟩, g4⟩, g5⟩ := hg
      obtain ⟨d, l, hreq, hk, hcall⟩ := asked_parts ha
      have hp := kinds_plain hk
      have so := step_ok R hp hcall g1
      have es : Rust.step w b = ((R7249h.Spec.step w c).1, RWire.writeAnswer (Rust.answerOf (R7249h.Spec.step w c).2)) := by
        unfold Rust.step
        rw [ha]
        simp only
        rw [if_pos g1]
      have hlen := Nat.le_of_ble_eq_true g3
      rw [es] at hlen
      show Plays ss (b :: r) ((Rust.step w b).2 :: outsL (Rust.step w b).1 r)
      rw [es]
      exact .cons (hb b List.mem_cons_self) hreq hp so.due (tells_of so.fit g2 hlen) (goes_plays r so.rel (fun b hb' => hb b (List.mem_cons_of_mem _ hb')) g5)
/-! ### one list of whole numbers -/
def flatI : List (List Int) → List Int
  | [] => []
  | x :: r => 0 :: (x.length : Int) :: x ++ flatI r
theorem shape_some {p : Int} {q : Nat × Nat} (h : PyZn95.shape p = some q) : p = 0 ∧ q = (0, 1) := by
  unfold PyZn95.shape at h
  split at h
  · next e => cases h; exact ⟨e, rfl⟩
  · cases h
theorem call_parts {l : List Int} {c : List (List Int)} {t : List Int} (h : PyFlat.call PyZn95.shape l = some (c, t)) : ∃ x, c = [[0], x] ∧ l = 0 :: (x.length : Int) :: x ++ t := by
  cases l with
  | nil => cases h
  | cons p r =>
    change (match PyZn95.shape p with | none => none | some (n, k) => if r.length < n then none else match PyFlat.rows k (r.drop n) with | none => none | some (xs, t) => some ((p :: r.take n) :: xs, t)) = some (c, t) at h
    cases hs : PyZn95.shape p with
    | none => rw [hs] at h; cases h
    | some q =>
      obtain ⟨rfl, rfl⟩ := shape_some hs
      rw [hs] at h
      simp only at h
      rw [if_neg (by omega)] at h
      have hr : PyFlat.rows 1 (r.drop 0) = match PyFlat.row r with | none => none | some (x, s) => some ([x], s) := by
        show (match PyFlat.row r with | none => none | some (x, s) => (match some ([], s) with | none => none | some (xs, t) => some (x :: xs, t))) = _
        cases PyFlat.row r <;> rfl
      rw [hr] at h
      cases r with
      | nil => cases h
      | cons n r =>
        by_cases c1 : 0 ≤ n ∧ n.toNat ≤ r.length
        · have e : PyFlat.row (n :: r) = some (r.take n.toNat, r.drop n.toNat) := if_pos c1
          rw [e] at h
          cases h
          refine ⟨r.take n.toNat, rfl, ?_⟩
          have e2 : ((r.take n.toNat).length : Int) = n := by rw [List.length_take]; omega
          rw [e2]
          simp
        · have e : PyFlat.row (n :: r) = none := if_neg c1
          rw [e] at h
          cases h
theorem calls_flat : ∀ (f : Nat) {l : List Int} {cs : List (List (List Int))}, PyFlat.calls PyZn95.shape f l = some cs → l = flatI ((cs.map PyZn95.whole).map fun c => c.headD []) ∧ ∀ c ∈ cs.map PyZn95.whole, ∃ x, c = [x]
  | f, [], cs, h => by
    have e : PyFlat.calls PyZn95.shape f [] = some [] := by cases f <;> rfl
    rw [e] at h
    cases h
    exact ⟨rfl, fun c hc => nomatch hc⟩
  | 0, _ :: _, cs, h => by cases h
  | f + 1, p :: r, cs, h => by
    unfold PyFlat.calls at h
    cases hc : PyFlat.call PyZn95.shape (p :: r) with
    | none => rw [hc] at h; cases h
    | some q =>
      obtain ⟨c, t⟩ := q
      rw [hc] at h
      simp only at h
      cases hcs : PyFlat.calls PyZn95.shape f t with
      | none => rw [hcs] at h; cases h
      | some cs2 =>
        rw [hcs] at h
        cases h
        obtain ⟨x, rfl, e⟩ := call_parts hc
        obtain ⟨i1, i2⟩ := calls_flat f hcs
        refine ⟨?_, fun c hc2 => ?_⟩
        · rw [e, i1]
          rfl
        · rw [List.map_cons] at hc2
          rcases List.mem_cons.mp hc2 with z | z
          · exact ⟨x, z⟩
          · exact i2 c z
theorem octs_bytes {c : List Int} (h : NeutralIO.bytes c = true) : octs (Zn95Neutral.bytesOf c) = c := by
  unfold NeutralIO.bytes at h
  rw [List.all_eq_true] at h
  unfold octs Zn95Neutral.bytesOf
  rw [List.map_map]
  conv => rhs; rw [← List.map_id c]
  apply List.map_congr_left
  intro n hn
  have := h n hn
  rw [Bool.and_eq_true] at this
  have h1 := of_decide_eq_true this.1
  have h2 := of_decide_eq_true this.2
  show ((UInt8.ofNat n.toNat).toNat : Int) = n
  rw [UInt8.toNat_ofNat']
  omega
theorem flat_bytes : ∀ {rs : List (List Int)}, rs.all Zn95Neutral.asked1 = true → flatI rs = flatR (rs.map Zn95Neutral.bytesOf)
  | [], _ => rfl
  | x :: rs, h => by
    rw [List.all_cons, Bool.and_eq_true] at h
    have e := octs_bytes h.1
    have el : (Zn95Neutral.bytesOf x).length = x.length := by unfold Zn95Neutral.bytesOf; rw [List.length_map]
    show 0 :: (x.length : Int) :: x ++ flatI rs = 0 :: ((Zn95Neutral.bytesOf x).length : Int) :: octs (Zn95Neutral.bytesOf x) ++ flatR (rs.map Zn95Neutral.bytesOf)
    rw [e, el, flat_bytes h.2]
theorem told_outs : ∀ (cs : List (List (List Int))) (w : Rust.St), PyFlat.told (PyFlat.played (fun s c => Zn95Neutral.step s (c.headD [])) w cs) = toldR (outsL w ((cs.map fun c => c.headD []).map Zn95Neutral.bytesOf))
  | [], w => rfl
  | c :: cs, w => by
    have ih := told_outs cs (Rust.step w (Zn95Neutral.bytesOf (c.headD []))).1
    show (((Zn95Neutral.numbersOf (Rust.step w (Zn95Neutral.bytesOf (c.headD []))).2).length : Int) :: Zn95Neutral.numbersOf (Rust.step w (Zn95Neutral.bytesOf (c.headD []))).2) ++ PyFlat.told (PyFlat.played (fun s c => Zn95Neutral.step s (c.headD [])) (Rust.step w (Zn95Neutral.bytesOf (c.headD []))).1 cs) = _
    rw [ih]
    have e : Zn95Neutral.numbersOf (Rust.step w (Zn95Neutral.bytesOf (c.headD []))).2 = octs (Rust.step w (Zn95Neutral.bytesOf (c.headD []))).2 := rfl
    rw [e, octs_length]
    rfl
theorem asked_plays {l : List Int} (h : PyZn95.answers_asked l = true) : ∃ cs outs, l = flatR cs ∧ Plays [none, none, none] cs outs ∧ PyZn95.answers l = toldR outs ∧ (toldR outs).length ≤ 10000000 := by
  unfold PyZn95.answers_asked at h
  cases hc : PyZn95.calls l with
  | none => rw [hc] at h; cases h
  | some cs =>
    rw [hc] at h
    simp only [Bool.and_eq_true] at h
    obtain ⟨⟨_, h2⟩, h3⟩ := h
    have ha : PyZn95.answers l = PyFlat.told (PyFlat.played (fun s c => Zn95Neutral.step s (c.headD [])) Zn95Neutral.start cs) := by unfold PyZn95.answers; rw [hc]
    have hc' : ∃ cs0, PyFlat.calls PyZn95.shape l.length l = some cs0 ∧ cs = cs0.map PyZn95.whole := by
      unfold PyZn95.calls at hc
      cases e : PyFlat.calls PyZn95.shape l.length l with
      | none => rw [e] at hc; cases hc
      | some cs0 => rw [e] at hc; cases hc; exact ⟨cs0, rfl, rfl⟩
    obtain ⟨cs0, e0, rfl⟩ := hc'
    obtain ⟨i1, _⟩ := calls_flat _ e0
    unfold Zn95Neutral.asked at h2
    simp only [Bool.and_eq_true] at h2
    obtain ⟨k1, _, k3⟩ := h2
    unfold Rust.fits at k3
    simp only [Bool.and_eq_true] at k3
    obtain ⟨⟨⟨_, k4⟩, _⟩, k5⟩ := k3
    refine ⟨_, outsL Rust.start (((cs0.map PyZn95.whole).map fun c => c.headD []).map Zn95Neutral.bytesOf), ?_, goes_plays _ RelS.start (fun b hb => ?_) k5, ?_, ?_⟩
    · rw [← flat_bytes k1]
      exact i1
    · rw [List.all_eq_true] at k4
      exact Nat.le_of_ble_eq_true (k4 b hb)
    · rw [ha]
      exact told_outs _ _
    · have h3' := of_decide_eq_true h3
      rw [ha, show Zn95Neutral.start = Rust.start from rfl, told_outs] at h3'
      exact h3'
end Pg

/-! PhE: the end, printed by gen_end.py -/
namespace Pg
open PySem PySem.Spec PyProof.Rows L2 He
def fnd (a : Str × Option Str) (n q : Str) (st : Stmt) : FnD := ⟨a, n, q, defArgs st, defBody st, defScope st⟩
def excB (K : PySem.W.Frag) (x : Str) : Bool := PySem.W.excIn K (ga K x) [.type "Exception", .type "BaseException", .type "object"] "Exception.__new__" && (decide (PySem.W.subIn K (.ref (ga K x)) (.type "BaseException") = some true) && (decide (PySem.W.typeIn K (.ref (ga K x)) = some (.type "type")) && eqO (PySem.W.findIn K (.ref (ga K x)) "__str__") (some (some (.builtin "BaseException.__str__")))))
theorem xcls_mk {K : PySem.W.Frag} {mg : Str → Option Value} {x : Str} (g : mg x = some (.ref (ga K x))) (k : PySem.W.keepIn K (.ref (ga K x)) = true) (c : excB K x = true) : XCls K mg x (ga K x) := by
  obtain ⟨c1, c⟩ := ba c
  obtain ⟨c2, c⟩ := ba c
  obtain ⟨c3, c4⟩ := ba c
  exact ⟨c1, g, k, of_decide_eq_true c2, of_decide_eq_true c3, eqO_ok c4⟩
theorem kst_int {mg : Str → Option Value} {x : Str} {i : Int} (h : ∃ t, mg x = some (.int i t)) : Kst mg x (.int i) := by
  obtain ⟨t, e⟩ := h
  exact ⟨_, e, t, rfl⟩
theorem kst_str {mg : Str → Option Value} {x z : Str} (h : ∃ t, mg x = some (.str z t)) : Kst mg x (.str z) := by
  obtain ⟨t, e⟩ := h
  exact ⟨_, e, t, rfl⟩
def fas : List Fa := [.glo "Value",
  .cls "Value",
  .mkr "Value",
  .noat "Value" "kind",
  .noat "Value" "number",
  .noat "Value" "octets",
  .noat "Value" "names",
  .noat "Value" "parts",
  .glo "Collector",
  .cls "Collector",
  .mkr "Collector",
  .noat "Collector" "size",
  .noat "Collector" "most",
  .noat "Collector" "pages",
  .noat "Collector" "asked",
  .noat "Collector" "outcome",
  .glo "Session",
  .cls "Session",
  .mkr "Session",
  .noat "Session" "slots",
  .glo "simple_value",
  .keep "simple_value",
  .glo "truth_value",
  .keep "truth_value",
  .glo "integer_value",
  .keep "integer_value",
  .glo "text_value",
  .keep "text_value",
  .glo "list_value",
  .keep "list_value",
  .glo "record_value",
  .keep "record_value",
  .glo "word_octets",
  .keep "word_octets",
  .glo "word_value",
  .keep "word_value",
  .glo "number_list",
  .keep "number_list",
  .glo "is_whole",
  .keep "is_whole",
  .glo "read_low_first",
  .keep "read_low_first",
  .glo "read_integer",
  .keep "read_integer",
  .glo "read_text",
  .keep "read_text",
  .glo "read_values",
  .keep "read_values",
  .glo "read_record",
  .keep "read_record",
  .glo "read_value",
  .keep "read_value",
  .glo "write_low_first",
  .keep "write_low_first",
  .glo "write_integer",
  .keep "write_integer",
  .glo "write_text",
  .keep "write_text",
  .glo "write_list",
  .keep "write_list",
  .glo "write_record",
  .keep "write_record",
  .glo "write_value",
  .keep "write_value",
  .glo "numbers_of",
  .keep "numbers_of",
  .glo "rows_of",
  .keep "rows_of",
  .glo "are_wholes",
  .keep "are_wholes",
  .glo "are_rows",
  .keep "are_rows",
  .glo "is_page",
  .keep "is_page",
  .glo "are_pages",
  .keep "are_pages",
  .glo "are_tables",
  .keep "are_tables",
  .glo "checked_size",
  .keep "checked_size",
  .glo "checked_pages",
  .keep "checked_pages",
  .glo "checked_missed",
  .keep "checked_missed",
  .glo "checked_tables",
  .keep "checked_tables",
  .glo "first_come",
  .keep "first_come",
  .glo "rank_list",
  .keep "rank_list",
  .glo "ranked",
  .keep "ranked",
  .glo "counted_behind",
  .keep "counted_behind",
  .glo "first_free",
  .keep "first_free",
  .glo "take",
  .keep "take",
  .glo "merged",
  .keep "merged",
  .glo "agree",
  .keep "agree",
  .glo "share",
  .keep "share",
  .glo "joined",
  .keep "joined",
  .glo "group_marks",
  .keep "group_marks",
  .glo "pages_marked",
  .keep "pages_marked",
  .glo "linked_groups",
  .keep "linked_groups",
  .glo "ending_marks",
  .keep "ending_marks",
  .glo "ending_pages",
  .keep "ending_pages",
  .glo "most_missed",
  .keep "most_missed",
  .glo "is_certain",
  .keep "is_certain",
  .glo "last_has_begin",
  .keep "last_has_begin",
  .glo "next_offset",
  .keep "next_offset",
  .glo "above_rows",
  .keep "above_rows",
  .glo "run",
  .keep "run",
  .glo "example_tables",
  .keep "example_tables",
  .glo "checked_example",
  .keep "checked_example",
  .glo "shows",
  .keep "shows",
  .glo "check_shown",
  .keep "check_shown",
  .glo "check_order",
  .keep "check_order",
  .glo "tally",
  .keep "tally",
  .glo "missed_rows",
  .keep "missed_rows",
  .glo "checked_missed_rows",
  .keep "checked_missed_rows",
  .glo "fulfilled_value",
  .keep "fulfilled_value",
  .glo "rejected_value",
  .keep "rejected_value",
  .glo "failed_value",
  .keep "failed_value",
  .meth "Collector" "finish",
  .meth "Collector" "go_on",
  .meth "Collector" "accept",
  .meth "Collector" "give_up",
  .meth "Collector" "feed",
  .meth "Collector" "wanted",
  .glo "number_or_null",
  .keep "number_or_null",
  .glo "lists_value",
  .keep "lists_value",
  .glo "merged_value",
  .keep "merged_value",
  .glo "pages_answer",
  .keep "pages_answer",
  .glo "example_answer",
  .keep "example_answer",
  .glo "missed_answer",
  .keep "missed_answer",
  .glo "log_answer",
  .keep "log_answer",
  .meth "Session" "fill",
  .meth "Session" "read",
  .meth "Session" "returned",
  .glo "read_given",
  .keep "read_given",
  .glo "refusal",
  .keep "refusal",
  .glo "answered",
  .keep "answered",
  .glo "answers",
  .keep "answers",
  .int "NOTHING" 0,
  .int "NULL" 1,
  .int "FALSE" 2,
  .int "TRUE" 3,
  .int "INTEGER" 4,
  .int "TEXT" 6,
  .int "LIST" 7,
  .int "RECORD" 8,
  .str "SIZE_WORDS" "size must be an integer from 2 to 20",
  .str "MOST_WORDS" "most must be an integer from 1 to 20",
  .str "PAGES_WORDS" "pages must be a list of at most 20 pages of this size",
  .str "ORDER_WORDS" "rows have changed their order",
  .str "MISSED_WORDS" "missed must be an integer from 0 to 200",
  .str "HISTORY_WORDS" "no history misses so many rows",
  .str "TABLES_WORDS" "tables must be a list of lists of different row numbers, one for each page",
  .free "range",
  .free "len",
  .free "enumerate",
  .free "list",
  .free "set",
  .free "min",
  .free "max",
  .free "ord",
  .free "divmod",
  .free "str",
  .glo "OutOfRange",
  .glo "WrongKind",
  .keep "OutOfRange",
  .keep "WrongKind",
  .exm "WrongKind" "WrongKind" true,
  .exm "OutOfRange" "WrongKind" false,
  .exm "OutOfRange" "OutOfRange" true]
def fns : List FnD := [fnd ("Value", some "__init__") "__init__" "Value.__init__" s_Value_init,
  fnd ("simple_value", none) "simple_value" "simple_value" s_simple_value,
  fnd ("truth_value", none) "truth_value" "truth_value" s_truth_value,
  fnd ("integer_value", none) "integer_value" "integer_value" s_integer_value,
  fnd ("text_value", none) "text_value" "text_value" s_text_value,
  fnd ("list_value", none) "list_value" "list_value" s_list_value,
  fnd ("record_value", none) "record_value" "record_value" s_record_value,
  fnd ("word_octets", none) "word_octets" "word_octets" s_word_octets,
  fnd ("word_value", none) "word_value" "word_value" s_word_value,
  fnd ("number_list", none) "number_list" "number_list" s_number_list,
  fnd ("is_whole", none) "is_whole" "is_whole" s_is_whole,
  fnd ("read_low_first", none) "read_low_first" "read_low_first" s_read_low_first,
  fnd ("read_integer", none) "read_integer" "read_integer" s_read_integer,
  fnd ("read_text", none) "read_text" "read_text" s_read_text,
  fnd ("read_values", none) "read_values" "read_values" s_read_values,
  fnd ("read_record", none) "read_record" "read_record" s_read_record,
  fnd ("read_value", none) "read_value" "read_value" s_read_value,
  fnd ("write_low_first", none) "write_low_first" "write_low_first" s_write_low_first,
  fnd ("write_integer", none) "write_integer" "write_integer" s_write_integer,
  fnd ("write_text", none) "write_text" "write_text" s_write_text,
  fnd ("write_list", none) "write_list" "write_list" s_write_list,
  fnd ("write_record", none) "write_record" "write_record" s_write_record,
  fnd ("write_value", none) "write_value" "write_value" s_write_value,
  fnd ("numbers_of", none) "numbers_of" "numbers_of" s_numbers_of,
  fnd ("rows_of", none) "rows_of" "rows_of" s_rows_of,
  fnd ("are_wholes", none) "are_wholes" "are_wholes" s_are_wholes,
  fnd ("are_rows", none) "are_rows" "are_rows" s_are_rows,
  fnd ("is_page", none) "is_page" "is_page" s_is_page,
  fnd ("are_pages", none) "are_pages" "are_pages" s_are_pages,
  fnd ("are_tables", none) "are_tables" "are_tables" s_are_tables,
  fnd ("checked_size", none) "checked_size" "checked_size" s_checked_size,
  fnd ("checked_pages", none) "checked_pages" "checked_pages" s_checked_pages,
  fnd ("checked_missed", none) "checked_missed" "checked_missed" s_checked_missed,
  fnd ("checked_tables", none) "checked_tables" "checked_tables" s_checked_tables,
  fnd ("first_come", none) "first_come" "first_come" s_first_come,
  fnd ("rank_list", none) "rank_list" "rank_list" s_rank_list,
  fnd ("ranked", none) "ranked" "ranked" s_ranked,
  fnd ("counted_behind", none) "counted_behind" "counted_behind" s_counted_behind,
  fnd ("first_free", none) "first_free" "first_free" s_first_free,
  fnd ("take", none) "take" "take" s_take,
  fnd ("merged", none) "merged" "merged" s_merged,
  fnd ("agree", none) "agree" "agree" s_agree,
  fnd ("share", none) "share" "share" s_share,
  fnd ("joined", none) "joined" "joined" s_joined,
  fnd ("group_marks", none) "group_marks" "group_marks" s_group_marks,
  fnd ("pages_marked", none) "pages_marked" "pages_marked" s_pages_marked,
  fnd ("linked_groups", none) "linked_groups" "linked_groups" s_linked_groups,
  fnd ("ending_marks", none) "ending_marks" "ending_marks" s_ending_marks,
  fnd ("ending_pages", none) "ending_pages" "ending_pages" s_ending_pages,
  fnd ("most_missed", none) "most_missed" "most_missed" s_most_missed,
  fnd ("is_certain", none) "is_certain" "is_certain" s_is_certain,
  fnd ("last_has_begin", none) "last_has_begin" "last_has_begin" s_last_has_begin,
  fnd ("next_offset", none) "next_offset" "next_offset" s_next_offset,
  fnd ("above_rows", none) "above_rows" "above_rows" s_above_rows,
  fnd ("run", none) "run" "run" s_run,
  fnd ("example_tables", none) "example_tables" "example_tables" s_example_tables,
  fnd ("checked_example", none) "checked_example" "checked_example" s_checked_example,
  fnd ("shows", none) "shows" "shows" s_shows,
  fnd ("check_shown", none) "check_shown" "check_shown" s_check_shown,
  fnd ("check_order", none) "check_order" "check_order" s_check_order,
  fnd ("tally", none) "tally" "tally" s_tally,
  fnd ("missed_rows", none) "missed_rows" "missed_rows" s_missed_rows,
  fnd ("checked_missed_rows", none) "checked_missed_rows" "checked_missed_rows" s_checked_missed_rows,
  fnd ("fulfilled_value", none) "fulfilled_value" "fulfilled_value" s_fulfilled_value,
  fnd ("rejected_value", none) "rejected_value" "rejected_value" s_rejected_value,
  fnd ("failed_value", none) "failed_value" "failed_value" s_failed_value,
  fnd ("Collector", some "__init__") "__init__" "Collector.__init__" s_Collector_init,
  fnd ("Collector", some "finish") "finish" "Collector.finish" s_Collector_finish,
  fnd ("Collector", some "go_on") "go_on" "Collector.go_on" s_Collector_go_on,
  fnd ("Collector", some "accept") "accept" "Collector.accept" s_Collector_accept,
  fnd ("Collector", some "give_up") "give_up" "Collector.give_up" s_Collector_give_up,
  fnd ("Collector", some "feed") "feed" "Collector.feed" s_Collector_feed,
  fnd ("Collector", some "wanted") "wanted" "Collector.wanted" s_Collector_wanted,
  fnd ("number_or_null", none) "number_or_null" "number_or_null" s_number_or_null,
  fnd ("lists_value", none) "lists_value" "lists_value" s_lists_value,
  fnd ("merged_value", none) "merged_value" "merged_value" s_merged_value,
  fnd ("pages_answer", none) "pages_answer" "pages_answer" s_pages_answer,
  fnd ("example_answer", none) "example_answer" "example_answer" s_example_answer,
  fnd ("missed_answer", none) "missed_answer" "missed_answer" s_missed_answer,
  fnd ("log_answer", none) "log_answer" "log_answer" s_log_answer,
  fnd ("Session", some "__init__") "__init__" "Session.__init__" s_Session_init,
  fnd ("Session", some "fill") "fill" "Session.fill" s_Session_fill,
  fnd ("Session", some "read") "read" "Session.read" s_Session_read,
  fnd ("Session", some "returned") "returned" "Session.returned" s_Session_returned,
  fnd ("read_given", none) "read_given" "read_given" s_read_given,
  fnd ("refusal", none) "refusal" "refusal" s_refusal,
  fnd ("answered", none) "answered" "answered" s_answered,
  fnd ("answers", none) "answers" "answers" s_answers]
theorem all_ok {P : Program} {w : World} {K : PySem.W.Frag} {mg : Str → Option Value} {base : Heap} {C CC CZ XO XW : Addr} {f0 f1 f2 f3 f4 f5 f6 f7 f8 f9 f10 f11 f12 f13 f14 f15 f16 f17 f18 f19 f20 f21 f22 f23 f24 f25 f26 f27 f28 f29 f30 f31 f32 f33 f34 f35 f36 f37 f38 f39 f40 f41 f42 f43 f44 f45 f46 f47 f48 f49 f50 f51 f52 f53 f54 f55 f56 f57 f58 f59 f60 f61 f62 f63 f64 f65 f66 f67 f68 f69 f70 f71 f72 f73 f74 f75 f76 f77 f78 f79 f80 f81 f82 f83 f84 f85 f86 f87 : Addr} {fd0 fd1 fd2 fd3 fd4 fd5 fd6 fd7 fd8 fd9 fd10 fd11 fd12 fd13 fd14 fd15 fd16 fd17 fd18 fd19 fd20 fd21 fd22 fd23 fd24 fd25 fd26 fd27 fd28 fd29 fd30 fd31 fd32 fd33 fd34 fd35 fd36 fd37 fd38 fd39 fd40 fd41 fd42 fd43 fd44 fd45 fd46 fd47 fd48 fd49 fd50 fd51 fd52 fd53 fd54 fd55 fd56 fd57 fd58 fd59 fd60 fd61 fd62 fd63 fd64 fd65 fd66 fd67 fd68 fd69 fd70 fd71 fd72 fd73 fd74 fd75 fd76 fd77 fd78 fd79 fd80 fd81 fd82 fd83 fd84 fd85 fd86 fd87 : FuncData}
    (F_Value_init : Fun K "__init__" "Value.__init__" s_Value_init f0 fd0) (b_Value_init : Binds K fd0 ["self", "kind", "number", "octets", "names", "parts"] [])
    (gV : mg "Value" = some (.ref C)) (mV : Mk K C f0)
    (D_simple_value : Df K mg "simple_value" s_simple_value p_simple_value f1 fd1)
    (D_truth_value : Df K mg "truth_value" s_truth_value p_truth_value f2 fd2)
    (D_integer_value : Df K mg "integer_value" s_integer_value p_integer_value f3 fd3)
    (D_text_value : Df K mg "text_value" s_text_value p_text_value f4 fd4)
    (D_list_value : Df K mg "list_value" s_list_value p_list_value f5 fd5)
    (D_record_value : Df K mg "record_value" s_record_value p_record_value f6 fd6)
    (D_word_octets : Df K mg "word_octets" s_word_octets p_word_octets f7 fd7)
    (D_word_value : Df K mg "word_value" s_word_value p_word_value f8 fd8)
    (D_number_list : Df K mg "number_list" s_number_list p_number_list f9 fd9)
    (D_is_whole : Df K mg "is_whole" s_is_whole p_is_whole f10 fd10)
    (D_read_low_first : Df K mg "read_low_first" s_read_low_first p_read_low_first f11 fd11)
    (D_read_integer : Df K mg "read_integer" s_read_integer p_read_integer f12 fd12)
    (D_read_text : Df K mg "read_text" s_read_text p_read_text f13 fd13)
    (D_read_values : Df K mg "read_values" s_read_values p_read_values f14 fd14)
    (D_read_record : Df K mg "read_record" s_read_record p_read_record f15 fd15)
    (D_read_value : Df K mg "read_value" s_read_value p_read_value f16 fd16)
    (D_write_low_first : Df K mg "write_low_first" s_write_low_first p_write_low_first f17 fd17)
    (D_write_integer : Df K mg "write_integer" s_write_integer p_write_integer f18 fd18)
    (D_write_text : Df K mg "write_text" s_write_text p_write_text f19 fd19)
    (D_write_list : Df K mg "write_list" s_write_list p_write_list f20 fd20)
    (D_write_record : Df K mg "write_record" s_write_record p_write_record f21 fd21)
    (D_write_value : Df K mg "write_value" s_write_value p_write_value f22 fd22)
    (D_numbers_of : Df K mg "numbers_of" s_numbers_of p_numbers_of f23 fd23)
    (D_rows_of : Df K mg "rows_of" s_rows_of p_rows_of f24 fd24)
    (D_are_wholes : Df K mg "are_wholes" s_are_wholes p_are_wholes f25 fd25)
    (D_are_rows : Df K mg "are_rows" s_are_rows p_are_rows f26 fd26)
    (D_is_page : Df K mg "is_page" s_is_page p_is_page f27 fd27)
    (D_are_pages : Df K mg "are_pages" s_are_pages p_are_pages f28 fd28)
    (D_are_tables : Df K mg "are_tables" s_are_tables p_are_tables f29 fd29)
    (D_checked_size : Df K mg "checked_size" s_checked_size p_checked_size f30 fd30)
    (D_checked_pages : Df K mg "checked_pages" s_checked_pages p_checked_pages f31 fd31)
    (D_checked_missed : Df K mg "checked_missed" s_checked_missed p_checked_missed f32 fd32)
    (D_checked_tables : Df K mg "checked_tables" s_checked_tables p_checked_tables f33 fd33)
    (D_first_come : Df K mg "first_come" s_first_come p_first_come f34 fd34)
    (D_rank_list : Df K mg "rank_list" s_rank_list p_rank_list f35 fd35)
    (D_ranked : Df K mg "ranked" s_ranked p_ranked f36 fd36)
    (D_counted_behind : Df K mg "counted_behind" s_counted_behind p_counted_behind f37 fd37)
    (D_first_free : Df K mg "first_free" s_first_free p_first_free f38 fd38)
    (D_take : Df K mg "take" s_take p_take f39 fd39)
    (D_merged : Df K mg "merged" s_merged p_merged f40 fd40)
    (D_agree : Df K mg "agree" s_agree p_agree f41 fd41)
    (D_share : Df K mg "share" s_share p_share f42 fd42)
    (D_joined : Df K mg "joined" s_joined p_joined f43 fd43)
    (D_group_marks : Df K mg "group_marks" s_group_marks p_group_marks f44 fd44)
    (D_pages_marked : Df K mg "pages_marked" s_pages_marked p_pages_marked f45 fd45)
    (D_linked_groups : Df K mg "linked_groups" s_linked_groups p_linked_groups f46 fd46)
    (D_ending_marks : Df K mg "ending_marks" s_ending_marks p_ending_marks f47 fd47)
    (D_ending_pages : Df K mg "ending_pages" s_ending_pages p_ending_pages f48 fd48)
    (D_most_missed : Df K mg "most_missed" s_most_missed p_most_missed f49 fd49)
    (D_is_certain : Df K mg "is_certain" s_is_certain p_is_certain f50 fd50)
    (D_last_has_begin : Df K mg "last_has_begin" s_last_has_begin p_last_has_begin f51 fd51)
    (D_next_offset : Df K mg "next_offset" s_next_offset p_next_offset f52 fd52)
    (D_above_rows : Df K mg "above_rows" s_above_rows p_above_rows f53 fd53)
    (D_run : Df K mg "run" s_run p_run f54 fd54)
    (D_example_tables : Df K mg "example_tables" s_example_tables p_example_tables f55 fd55)
    (D_checked_example : Df K mg "checked_example" s_checked_example p_checked_example f56 fd56)
    (D_shows : Df K mg "shows" s_shows p_shows f57 fd57)
    (D_check_shown : Df K mg "check_shown" s_check_shown p_check_shown f58 fd58)
    (D_check_order : Df K mg "check_order" s_check_order p_check_order f59 fd59)
    (D_tally : Df K mg "tally" s_tally p_tally f60 fd60)
    (D_missed_rows : Df K mg "missed_rows" s_missed_rows p_missed_rows f61 fd61)
    (D_checked_missed_rows : Df K mg "checked_missed_rows" s_checked_missed_rows p_checked_missed_rows f62 fd62)
    (D_fulfilled_value : Df K mg "fulfilled_value" s_fulfilled_value p_fulfilled_value f63 fd63)
    (D_rejected_value : Df K mg "rejected_value" s_rejected_value p_rejected_value f64 fd64)
    (D_failed_value : Df K mg "failed_value" s_failed_value p_failed_value f65 fd65)
    (F_Collector_init : Fun K "__init__" "Collector.__init__" s_Collector_init f66 fd66) (b_Collector_init : Binds K fd66 p_Collector_init [])
    (gC : mg "Collector" = some (.ref CC)) (mC : Mk K CC f66)
    (D_Collector_finish : DfM K CC "finish" "Collector.finish" s_Collector_finish p_Collector_finish f67 fd67)
    (D_Collector_go_on : DfM K CC "go_on" "Collector.go_on" s_Collector_go_on p_Collector_go_on f68 fd68)
    (D_Collector_accept : DfM K CC "accept" "Collector.accept" s_Collector_accept p_Collector_accept f69 fd69)
    (D_Collector_give_up : DfM K CC "give_up" "Collector.give_up" s_Collector_give_up p_Collector_give_up f70 fd70)
    (D_Collector_feed : DfM K CC "feed" "Collector.feed" s_Collector_feed p_Collector_feed f71 fd71)
    (D_Collector_wanted : DfM K CC "wanted" "Collector.wanted" s_Collector_wanted p_Collector_wanted f72 fd72)
    (D_number_or_null : Df K mg "number_or_null" s_number_or_null p_number_or_null f73 fd73)
    (D_lists_value : Df K mg "lists_value" s_lists_value p_lists_value f74 fd74)
    (D_merged_value : Df K mg "merged_value" s_merged_value p_merged_value f75 fd75)
    (D_pages_answer : Df K mg "pages_answer" s_pages_answer p_pages_answer f76 fd76)
    (D_example_answer : Df K mg "example_answer" s_example_answer p_example_answer f77 fd77)
    (D_missed_answer : Df K mg "missed_answer" s_missed_answer p_missed_answer f78 fd78)
    (D_log_answer : Df K mg "log_answer" s_log_answer p_log_answer f79 fd79)
    (F_Session_init : Fun K "__init__" "Session.__init__" s_Session_init f80 fd80) (b_Session_init : Binds K fd80 p_Session_init [])
    (gZ : mg "Session" = some (.ref CZ)) (mZ : Mk K CZ f80)
    (D_Session_fill : DfM K CZ "fill" "Session.fill" s_Session_fill p_Session_fill f81 fd81)
    (D_Session_read : DfM K CZ "read" "Session.read" s_Session_read p_Session_read f82 fd82)
    (D_Session_returned : DfM K CZ "returned" "Session.returned" s_Session_returned p_Session_returned f83 fd83)
    (D_read_given : Df K mg "read_given" s_read_given p_read_given f84 fd84)
    (D_refusal : Df K mg "refusal" s_refusal p_refusal f85 fd85)
    (D_answered : Df K mg "answered" s_answered p_answered f86 fd86)
    (D_answers : Df K mg "answers" s_answers p_answers f87 fd87)
    (TV : ClV K C) (TC : ClC K CC) (TZ : ClS K CZ) (B : Blt mg) (Kc : Csts mg) (X_OutOfRange : XCls K mg "OutOfRange" XO) (X_WrongKind : XCls K mg "WrongKind" XW) (XF : ExcF K XO XW) :
    FnOk P w K mg base CX0 72 f87 fd87 p_answers (spAnswers K) := by
  have OV : OwnV P w K mg base C := ⟨_, _, gV, mV, b_Value_init, ok_Value_init F_Value_init TV⟩
  have O_simple_value := ok_simple_value (mg := mg) (K := K) (C := C) (P := P) (w := w) (base := base) D_simple_value OV
  have O_integer_value := ok_integer_value (mg := mg) (K := K) (C := C) (P := P) (w := w) (base := base) D_integer_value OV Kc
  have O_text_value := ok_text_value (mg := mg) (K := K) (C := C) (P := P) (w := w) (base := base) D_text_value OV Kc
  have O_list_value := ok_list_value (mg := mg) (K := K) (C := C) (P := P) (w := w) (base := base) D_list_value OV Kc
  have O_record_value := ok_record_value (mg := mg) (K := K) (C := C) (P := P) (w := w) (base := base) D_record_value OV Kc
  have O_truth_value := ok_truth_value (mg := mg) (K := K) (C := C) (P := P) (w := w) (base := base) D_truth_value O_simple_value Kc
  have O_is_whole := ok_is_whole (mg := mg) (K := K) (C := C) (P := P) (w := w) (base := base) D_is_whole TV Kc
  have O_number_list := ok_number_list (mg := mg) (K := K) (C := C) (P := P) (w := w) (base := base) D_number_list O_list_value O_integer_value
  have O_word_octets := ok_word_octets (mg := mg) (K := K) (C := C) (P := P) (w := w) (base := base) D_word_octets B
  have O_word_value := ok_word_value (mg := mg) (K := K) (C := C) (P := P) (w := w) (base := base) D_word_value O_text_value O_word_octets
  have O_read_low_first := ok_read_low_first (mg := mg) (K := K) (C := C) (P := P) (w := w) (base := base) D_read_low_first B
  have O_read_integer := ok_read_integer (mg := mg) (K := K) (C := C) (P := P) (w := w) (base := base) D_read_integer O_read_low_first
  have O_read_text := ok_read_text (mg := mg) (K := K) (C := C) (P := P) (w := w) (base := base) D_read_text O_read_low_first
  have O_read_all : ∀ n, Own P w K mg base CX0 (4 + 2 * n) "read_value" p_read_value (spReadValue C n) := by
    intro n
    induction n with
    | zero => exact ok_read_value0 D_read_value
    | succ n ih =>
      have O_read_value := ih
      have O_read_values := ok_read_values (P := P) (w := w) (base := base) (C := C) D_read_values B O_read_value
      have O_read_record := ok_read_record (P := P) (w := w) (base := base) (C := C) D_read_record B (by omega) O_read_value O_read_low_first O_read_text O_record_value
      have q := ok_read_value (P := P) (w := w) (base := base) (C := C) (k0 := 4 + 2 * n + 1) D_read_value B Kc (by omega) O_read_values O_read_record O_read_low_first O_read_text O_read_integer O_simple_value O_integer_value O_text_value O_list_value
      rw [show 4 + 2 * (n + 1) = 4 + 2 * n + 1 + 1 from by omega]
      exact q
  have O_read_values := ok_read_values D_read_values B (O_read_all 32)
  have O_write_low_first := ok_write_low_first (mg := mg) (K := K) (P := P) (w := w) (base := base) D_write_low_first B
  have O_write_integer := ok_write_integer (mg := mg) (K := K) (C := C) (P := P) (w := w) (base := base) D_write_integer O_write_low_first
  have O_write_text := ok_write_text (mg := mg) (K := K) (C := C) (P := P) (w := w) (base := base) D_write_text B O_write_low_first
  have O_write_all : ∀ n, Own P w K mg base CX0 (3 + 2 * n) "write_value" p_write_value (spWriteValue C n) := by
    intro n
    induction n with
    | zero => exact ok_write_value0 D_write_value
    | succ n ih =>
      have O_write_value := ih
      have O_write_list := ok_write_list (mg := mg) (K := K) (C := C) (P := P) (w := w) (base := base) D_write_list B (by omega) O_write_value O_write_low_first
      have O_write_record := ok_write_record (mg := mg) (K := K) (C := C) (P := P) (w := w) (base := base) D_write_record B (by omega) O_write_value O_write_low_first O_write_text
      have q := ok_write_value (P := P) (w := w) (base := base) (C := C) (k0 := 3 + 2 * n + 1) D_write_value TV Kc (by omega) O_write_list O_write_record O_write_integer O_write_text
      rw [show 3 + 2 * (n + 1) = 3 + 2 * n + 1 + 1 from by omega]
      exact q
  have O_write_value := O_write_all 32
  have H_word_octets := ok_word_octetsH (mg := mg) (K := K) (C := C) (P := P) (w := w) (base := base) D_word_octets B
  have H_write_low_first := ok_write_low_firstH (mg := mg) (K := K) (P := P) (w := w) (base := base) D_write_low_first B
  have H_write_text := ok_write_textH (mg := mg) (K := K) (C := C) (P := P) (w := w) (base := base) D_write_text B H_write_low_first
  have H_refusal := ok_refusalH (mg := mg) (K := K) (C := C) (P := P) (w := w) (base := base) D_refusal H_write_text H_word_octets
  have O_numbers_of := ok_numbers_of (mg := mg) (K := K) (C := C) (P := P) (w := w) (base := base) D_numbers_of TV
  have O_rows_of := ok_rows_of (mg := mg) (K := K) (C := C) (P := P) (w := w) (base := base) D_rows_of
  have O_are_wholes := ok_are_wholes (mg := mg) (K := K) (C := C) (P := P) (w := w) (base := base) D_are_wholes TV Kc B O_is_whole O_numbers_of
  have O_are_rows := ok_are_rows (mg := mg) (K := K) (C := C) (P := P) (w := w) (base := base) D_are_rows TV B O_are_wholes
  have O_is_page := ok_is_page (mg := mg) (K := K) (C := C) (P := P) (w := w) (base := base) D_is_page TV Kc B O_is_whole O_are_rows
  have O_are_pages := ok_are_pages (mg := mg) (K := K) (C := C) (P := P) (w := w) (base := base) D_are_pages TV Kc B O_is_page
  have O_are_tables := ok_are_tables (mg := mg) (K := K) (C := C) (P := P) (w := w) (base := base) D_are_tables TV Kc B O_are_wholes
  have O_checked_size := ok_checked_size (mg := mg) (K := K) (C := C) (XO := XO) (P := P) (w := w) (base := base) D_checked_size TV Kc X_OutOfRange O_is_whole
  have O_checked_missed := ok_checked_missed (mg := mg) (K := K) (C := C) (XO := XO) (P := P) (w := w) (base := base) D_checked_missed TV Kc X_OutOfRange O_is_whole
  have O_checked_pages := ok_checked_pages (mg := mg) (K := K) (C := C) (XW := XW) (P := P) (w := w) (base := base) D_checked_pages TV Kc X_WrongKind O_are_pages O_numbers_of
  have O_checked_tables := ok_checked_tables (mg := mg) (K := K) (C := C) (XW := XW) (P := P) (w := w) (base := base) D_checked_tables TV Kc X_WrongKind O_are_tables O_numbers_of
  have O_first_come := ok_first_come (mg := mg) (K := K) (C := C) (P := P) (w := w) (base := base) D_first_come B
  have O_rank_list := ok_rank_list (mg := mg) (K := K) (C := C) (P := P) (w := w) (base := base) D_rank_list
  have O_ranked := ok_ranked (mg := mg) (K := K) (C := C) (P := P) (w := w) (base := base) D_ranked B O_rank_list
  have O_counted_behind := ok_counted_behind (mg := mg) (K := K) (C := C) (P := P) (w := w) (base := base) D_counted_behind B
  have O_first_free := ok_first_free (mg := mg) (K := K) (C := C) (P := P) (w := w) (base := base) D_first_free B
  have O_take := ok_take (mg := mg) (K := K) (C := C) (P := P) (w := w) (base := base) D_take B
  have O_merged := ok_merged (mg := mg) (K := K) (C := C) (P := P) (w := w) (base := base) D_merged B O_first_come O_ranked O_counted_behind O_first_free O_take
  have O_agree := ok_agree (mg := mg) (K := K) (C := C) (P := P) (w := w) (base := base) D_agree B O_first_come O_merged
  have O_share := ok_share (mg := mg) (K := K) (C := C) (P := P) (w := w) (base := base) D_share
  have O_joined := ok_joined (mg := mg) (K := K) (C := C) (P := P) (w := w) (base := base) D_joined B
  have O_group_marks := ok_group_marks (mg := mg) (K := K) (C := C) (P := P) (w := w) (base := base) D_group_marks B O_rows_of O_share O_joined
  have O_pages_marked := ok_pages_marked (mg := mg) (K := K) (C := C) (P := P) (w := w) (base := base) D_pages_marked B
  have O_linked_groups := ok_linked_groups (mg := mg) (K := K) (C := C) (P := P) (w := w) (base := base) D_linked_groups B O_group_marks O_pages_marked
  have O_ending_marks := ok_ending_marks (mg := mg) (K := K) (C := C) (P := P) (w := w) (base := base) D_ending_marks B
  have O_ending_pages := ok_ending_pages (mg := mg) (K := K) (C := C) (P := P) (w := w) (base := base) D_ending_pages O_group_marks O_ending_marks
  have O_most_missed := ok_most_missed (mg := mg) (K := K) (C := C) (P := P) (w := w) (base := base) D_most_missed B O_ending_pages
  have O_is_certain := ok_is_certain (mg := mg) (K := K) (C := C) (P := P) (w := w) (base := base) D_is_certain O_most_missed
  have O_last_has_begin := ok_last_has_begin (mg := mg) (K := K) (C := C) (P := P) (w := w) (base := base) D_last_has_begin B O_group_marks O_pages_marked
  have O_next_offset := ok_next_offset (mg := mg) (K := K) (C := C) (P := P) (w := w) (base := base) D_next_offset B O_is_certain O_last_has_begin
  have O_above_rows := ok_above_rows (mg := mg) (K := K) (C := C) (P := P) (w := w) (base := base) D_above_rows B O_rows_of
  have O_run := ok_run (mg := mg) (K := K) (P := P) (w := w) (base := base) D_run B
  have O_example_tables := ok_example_tables (mg := mg) (K := K) (C := C) (P := P) (w := w) (base := base) D_example_tables B O_above_rows O_run O_ending_pages
  have O_checked_example := ok_checked_example (mg := mg) (K := K) (C := C) (XO := XO) (P := P) (w := w) (base := base) D_checked_example Kc X_OutOfRange O_most_missed O_example_tables
  have O_shows := ok_shows (mg := mg) (K := K) (C := C) (P := P) (w := w) (base := base) D_shows
  have O_check_shown := ok_check_shown (mg := mg) (K := K) (C := C) (XO := XO) (P := P) (w := w) (base := base) D_check_shown B X_OutOfRange O_shows
  have O_check_order := ok_check_order (mg := mg) (K := K) (C := C) (XO := XO) (P := P) (w := w) (base := base) D_check_order Kc X_OutOfRange O_agree
  have O_tally := ok_tally (mg := mg) (K := K) (C := C) (P := P) (w := w) (base := base) D_tally B
  have O_missed_rows := ok_missed_rows (mg := mg) (K := K) (C := C) (P := P) (w := w) (base := base) D_missed_rows B O_rows_of O_tally
  have O_checked_missed_rows := ok_checked_missed_rows (mg := mg) (K := K) (C := C) (XO := XO) (P := P) (w := w) (base := base) D_checked_missed_rows O_check_shown O_check_order O_missed_rows
  have O_failed_value := ok_failed_value (mg := mg) (K := K) (C := C) (P := P) (w := w) (base := base) D_failed_value O_list_value O_word_value
  have O_rejected_value := ok_rejected_value (mg := mg) (K := K) (C := C) (P := P) (w := w) (base := base) D_rejected_value O_list_value O_word_value
  have O_fulfilled_value := ok_fulfilled_value (mg := mg) (K := K) (C := C) (P := P) (w := w) (base := base) D_fulfilled_value B O_list_value O_word_value O_word_octets O_number_list O_merged O_rows_of O_integer_value O_record_value
  have M_Collector_finish := ok_finish (mg := mg) (K := K) (CC := CC) (P := P) (w := w) (base := base) D_Collector_finish TC
  have M_Collector_give_up := ok_give_up (mg := mg) (K := K) (C := C) (CC := CC) (P := P) (w := w) (base := base) D_Collector_give_up TC M_Collector_finish O_failed_value
  have M_Collector_go_on := ok_go_on (mg := mg) (K := K) (C := C) (CC := CC) (P := P) (w := w) (base := base) D_Collector_go_on TC B Kc M_Collector_finish O_agree O_rows_of O_rejected_value O_is_certain O_fulfilled_value O_next_offset
  have M_Collector_accept := ok_accept (mg := mg) (K := K) (C := C) (CC := CC) (P := P) (w := w) (base := base) D_Collector_accept TC M_Collector_finish M_Collector_go_on O_are_rows O_numbers_of O_rejected_value
  have M_Collector_wanted := ok_wanted (mg := mg) (K := K) (C := C) (CC := CC) (P := P) (w := w) (base := base) D_Collector_wanted TC
  have M_Collector_feed := ok_feed (mg := mg) (K := K) (C := C) (CC := CC) (P := P) (w := w) (base := base) D_Collector_feed TC TV Kc M_Collector_give_up M_Collector_accept O_word_value O_simple_value
  have OC : OwnC P w K mg base C CC := ⟨_, _, gC, mC, b_Collector_init, ok_Collector_init F_Collector_init TC TV Kc M_Collector_finish O_simple_value O_is_whole O_rejected_value⟩
  have O_number_or_null := ok_number_or_null (mg := mg) (K := K) (C := C) (P := P) (w := w) (base := base) D_number_or_null Kc O_simple_value O_integer_value
  have O_lists_value := ok_lists_value (mg := mg) (K := K) (C := C) (P := P) (w := w) (base := base) D_lists_value O_list_value O_number_list
  have O_merged_value := ok_merged_value (mg := mg) (K := K) (C := C) (P := P) (w := w) (base := base) D_merged_value Kc O_rows_of O_agree O_merged O_number_list O_simple_value
  have O_pages_answer := ok_pages_answer (mg := mg) (K := K) (C := C) (XO := XO) (XW := XW) (P := P) (w := w) (base := base) D_pages_answer O_lists_value O_linked_groups O_merged_value O_check_order O_rows_of O_number_or_null O_most_missed O_truth_value O_is_certain O_next_offset
  have O_example_answer := ok_example_answer (mg := mg) (K := K) (C := C) (XO := XO) (XW := XW) (P := P) (w := w) (base := base) D_example_answer O_lists_value O_checked_missed O_check_order O_rows_of O_checked_example
  have O_missed_answer := ok_missed_answer (mg := mg) (K := K) (C := C) (XO := XO) (XW := XW) (P := P) (w := w) (base := base) D_missed_answer B O_number_list O_checked_tables O_checked_missed_rows
  have O_log_answer := ok_log_answer (mg := mg) (K := K) (C := C) (XO := XO) (XW := XW) (P := P) (w := w) (base := base) D_log_answer O_checked_size O_checked_pages O_pages_answer O_example_answer O_missed_answer
  have OS : OwnS P w K mg base CZ := ⟨_, _, gZ, mZ, b_Session_init, ok_Session_init F_Session_init TZ⟩
  have M_Session_fill := ok_fill (mg := mg) (K := K) (C := C) (CC := CC) (CZ := CZ) (P := P) (w := w) (base := base) D_Session_fill TZ TV TC Kc OC M_Collector_feed O_simple_value
  have M_Session_read := ok_read (mg := mg) (K := K) (C := C) (CC := CC) (CZ := CZ) (P := P) (w := w) (base := base) D_Session_read TZ TV TC Kc M_Collector_wanted M_Collector_accept M_Collector_give_up O_number_list O_simple_value
  have M_Session_returned := ok_returned (mg := mg) (K := K) (C := C) (CC := CC) (CZ := CZ) (XO := XO) (XW := XW) (P := P) (w := w) (base := base) D_Session_returned TZ O_log_answer M_Session_fill M_Session_read
  have O_read_given := ok_read_given (mg := mg) (K := K) (C := C) (P := P) (w := w) (base := base) D_read_given B Kc O_read_values O_simple_value
  have O_answered := ok_answered (mg := mg) (K := K) (C := C) (CC := CC) (CZ := CZ) (XO := XO) (XW := XW) (P := P) (w := w) (base := base) D_answered B TZ XF X_WrongKind X_OutOfRange M_Session_returned O_read_low_first O_read_given O_write_value H_refusal
  have O_answers := ok_answers (mg := mg) (K := K) (C := C) (CC := CC) (CZ := CZ) (P := P) (w := w) (base := base) D_answers B OS O_answered
  exact O_answers
def headB (K : PySem.W.Frag) : Bool := excB K "OutOfRange" && (excB K "WrongKind" && (PySem.W.keepIn K (.ref (ma K (ga K "Value") "__init__")) && (PySem.W.keepIn K (.ref (ma K (ga K "Collector") "__init__")) && PySem.W.keepIn K (.ref (ma K (ga K "Session") "__init__")))))
theorem all_mk {P : Program} {w : World} {K : PySem.W.Frag} {h : Heap} {mg : Str → Option Value} {fa : Addr} (X : K.In h) (G : h.Ns mainGlobals mg) (hfa : mg "answers" = some (.ref fa)) (sy : SaysE fas fns K) (hb : headB K = true) :
    ∃ fd : FuncData, (∀ (s : Shared) (us : List Value), us.length = (["calls"] : List Str).length → BindsTo s fd ⟨us, []⟩ ((["calls"] : List Str).zip us)) ∧ ∀ base : Heap, K.In base → base.Ns mainGlobals mg → FnOk P w K mg base CX0 72 fa fd ["calls"] (spAnswers K) := by
  obtain ⟨xOutOfRange, hb⟩ := ba hb
  obtain ⟨xWrongKind, hb⟩ := ba hb
  obtain ⟨ikValue, hb⟩ := ba hb
  obtain ⟨ikCollector, ikSession⟩ := ba hb
  obtain ⟨oc0, od0, sl0, kV0, dc0, pm0, an0, cd0, ct0, l0, c0⟩ := sy.def_ 0 (d := fnd ("Value", some "__init__") "__init__" "Value.__init__" s_Value_init) rfl
  have F_Value_init := fun_mk (st := s_Value_init) l0 c0 ikValue
  have b_Value_init := F_Value_init.binds (ps := ["self", "kind", "number", "octets", "names", "parts"]) fun _ _ _ _ _ _ us hl => match us, hl with | [_, _, _, _, _, _], _ => rfl
  obtain ⟨oc1, od1, sl1, kV1, dc1, pm1, an1, cd1, ct1, l1, c1⟩ := sy.def_ 1 (d := fnd ("simple_value", none) "simple_value" "simple_value" s_simple_value) rfl
  have F_simple_value := fun_mk (st := s_simple_value) l1 c1 (keep_ok (sy.fact 21 rfl))
  have D_simple_value : Df K mg "simple_value" s_simple_value p_simple_value _ _ := ⟨F_simple_value, glo_ok X G (sy.fact 20 rfl), F_simple_value.binds (ps := p_simple_value) fun _ _ _ _ _ _ us hl => match us, hl with | [_], _ => rfl⟩
  obtain ⟨oc2, od2, sl2, kV2, dc2, pm2, an2, cd2, ct2, l2, c2⟩ := sy.def_ 2 (d := fnd ("truth_value", none) "truth_value" "truth_value" s_truth_value) rfl
  have F_truth_value := fun_mk (st := s_truth_value) l2 c2 (keep_ok (sy.fact 23 rfl))
  have D_truth_value : Df K mg "truth_value" s_truth_value p_truth_value _ _ := ⟨F_truth_value, glo_ok X G (sy.fact 22 rfl), F_truth_value.binds (ps := p_truth_value) fun _ _ _ _ _ _ us hl => match us, hl with | [_], _ => rfl⟩
  obtain ⟨oc3, od3, sl3, kV3, dc3, pm3, an3, cd3, ct3, l3, c3⟩ := sy.def_ 3 (d := fnd ("integer_value", none) "integer_value" "integer_value" s_integer_value) rfl
  have F_integer_value := fun_mk (st := s_integer_value) l3 c3 (keep_ok (sy.fact 25 rfl))
  have D_integer_value : Df K mg "integer_value" s_integer_value p_integer_value _ _ := ⟨F_integer_value, glo_ok X G (sy.fact 24 rfl), F_integer_value.binds (ps := p_integer_value) fun _ _ _ _ _ _ us hl => match us, hl with | [_], _ => rfl⟩
  obtain ⟨oc4, od4, sl4, kV4, dc4, pm4, an4, cd4, ct4, l4, c4⟩ := sy.def_ 4 (d := fnd ("text_value", none) "text_value" "text_value" s_text_value) rfl
  have F_text_value := fun_mk (st := s_text_value) l4 c4 (keep_ok (sy.fact 27 rfl))
  have D_text_value : Df K mg "text_value" s_text_value p_text_value _ _ := ⟨F_text_value, glo_ok X G (sy.fact 26 rfl), F_text_value.binds (ps := p_text_value) fun _ _ _ _ _ _ us hl => match us, hl with | [_], _ => rfl⟩
  obtain ⟨oc5, od5, sl5, kV5, dc5, pm5, an5, cd5, ct5, l5, c5⟩ := sy.def_ 5 (d := fnd ("list_value", none) "list_value" "list_value" s_list_value) rfl
  have F_list_value := fun_mk (st := s_list_value) l5 c5 (keep_ok (sy.fact 29 rfl))
  have D_list_value : Df K mg "list_value" s_list_value p_list_value _ _ := ⟨F_list_value, glo_ok X G (sy.fact 28 rfl), F_list_value.binds (ps := p_list_value) fun _ _ _ _ _ _ us hl => match us, hl with | [_], _ => rfl⟩
  obtain ⟨oc6, od6, sl6, kV6, dc6, pm6, an6, cd6, ct6, l6, c6⟩ := sy.def_ 6 (d := fnd ("record_value", none) "record_value" "record_value" s_record_value) rfl
  have F_record_value := fun_mk (st := s_record_value) l6 c6 (keep_ok (sy.fact 31 rfl))
  have D_record_value : Df K mg "record_value" s_record_value p_record_value _ _ := ⟨F_record_value, glo_ok X G (sy.fact 30 rfl), F_record_value.binds (ps := p_record_value) fun _ _ _ _ _ _ us hl => match us, hl with | [_, _], _ => rfl⟩
  obtain ⟨oc7, od7, sl7, kV7, dc7, pm7, an7, cd7, ct7, l7, c7⟩ := sy.def_ 7 (d := fnd ("word_octets", none) "word_octets" "word_octets" s_word_octets) rfl
  have F_word_octets := fun_mk (st := s_word_octets) l7 c7 (keep_ok (sy.fact 33 rfl))
  have D_word_octets : Df K mg "word_octets" s_word_octets p_word_octets _ _ := ⟨F_word_octets, glo_ok X G (sy.fact 32 rfl), F_word_octets.binds (ps := p_word_octets) fun _ _ _ _ _ _ us hl => match us, hl with | [_], _ => rfl⟩
  obtain ⟨oc8, od8, sl8, kV8, dc8, pm8, an8, cd8, ct8, l8, c8⟩ := sy.def_ 8 (d := fnd ("word_value", none) "word_value" "word_value" s_word_value) rfl
  have F_word_value := fun_mk (st := s_word_value) l8 c8 (keep_ok (sy.fact 35 rfl))
  have D_word_value : Df K mg "word_value" s_word_value p_word_value _ _ := ⟨F_word_value, glo_ok X G (sy.fact 34 rfl), F_word_value.binds (ps := p_word_value) fun _ _ _ _ _ _ us hl => match us, hl with | [_], _ => rfl⟩
  obtain ⟨oc9, od9, sl9, kV9, dc9, pm9, an9, cd9, ct9, l9, c9⟩ := sy.def_ 9 (d := fnd ("number_list", none) "number_list" "number_list" s_number_list) rfl
  have F_number_list := fun_mk (st := s_number_list) l9 c9 (keep_ok (sy.fact 37 rfl))
  have D_number_list : Df K mg "number_list" s_number_list p_number_list _ _ := ⟨F_number_list, glo_ok X G (sy.fact 36 rfl), F_number_list.binds (ps := p_number_list) fun _ _ _ _ _ _ us hl => match us, hl with | [_], _ => rfl⟩
  obtain ⟨oc10, od10, sl10, kV10, dc10, pm10, an10, cd10, ct10, l10, c10⟩ := sy.def_ 10 (d := fnd ("is_whole", none) "is_whole" "is_whole" s_is_whole) rfl
  have F_is_whole := fun_mk (st := s_is_whole) l10 c10 (keep_ok (sy.fact 39 rfl))
  have D_is_whole : Df K mg "is_whole" s_is_whole p_is_whole _ _ := ⟨F_is_whole, glo_ok X G (sy.fact 38 rfl), F_is_whole.binds (ps := p_is_whole) fun _ _ _ _ _ _ us hl => match us, hl with | [_, _, _], _ => rfl⟩
  obtain ⟨oc11, od11, sl11, kV11, dc11, pm11, an11, cd11, ct11, l11, c11⟩ := sy.def_ 11 (d := fnd ("read_low_first", none) "read_low_first" "read_low_first" s_read_low_first) rfl
  have F_read_low_first := fun_mk (st := s_read_low_first) l11 c11 (keep_ok (sy.fact 41 rfl))
  have D_read_low_first : Df K mg "read_low_first" s_read_low_first p_read_low_first _ _ := ⟨F_read_low_first, glo_ok X G (sy.fact 40 rfl), F_read_low_first.binds (ps := p_read_low_first) fun _ _ _ _ _ _ us hl => match us, hl with | [_, _, _], _ => rfl⟩
  obtain ⟨oc12, od12, sl12, kV12, dc12, pm12, an12, cd12, ct12, l12, c12⟩ := sy.def_ 12 (d := fnd ("read_integer", none) "read_integer" "read_integer" s_read_integer) rfl
  have F_read_integer := fun_mk (st := s_read_integer) l12 c12 (keep_ok (sy.fact 43 rfl))
  have D_read_integer : Df K mg "read_integer" s_read_integer p_read_integer _ _ := ⟨F_read_integer, glo_ok X G (sy.fact 42 rfl), F_read_integer.binds (ps := p_read_integer) fun _ _ _ _ _ _ us hl => match us, hl with | [_, _], _ => rfl⟩
  obtain ⟨oc13, od13, sl13, kV13, dc13, pm13, an13, cd13, ct13, l13, c13⟩ := sy.def_ 13 (d := fnd ("read_text", none) "read_text" "read_text" s_read_text) rfl
  have F_read_text := fun_mk (st := s_read_text) l13 c13 (keep_ok (sy.fact 45 rfl))
  have D_read_text : Df K mg "read_text" s_read_text p_read_text _ _ := ⟨F_read_text, glo_ok X G (sy.fact 44 rfl), F_read_text.binds (ps := p_read_text) fun _ _ _ _ _ _ us hl => match us, hl with | [_, _], _ => rfl⟩
  obtain ⟨oc14, od14, sl14, kV14, dc14, pm14, an14, cd14, ct14, l14, c14⟩ := sy.def_ 14 (d := fnd ("read_values", none) "read_values" "read_values" s_read_values) rfl
  have F_read_values := fun_mk (st := s_read_values) l14 c14 (keep_ok (sy.fact 47 rfl))
  have D_read_values : Df K mg "read_values" s_read_values p_read_values _ _ := ⟨F_read_values, glo_ok X G (sy.fact 46 rfl), F_read_values.binds (ps := p_read_values) fun _ _ _ _ _ _ us hl => match us, hl with | [_, _, _], _ => rfl⟩
  obtain ⟨oc15, od15, sl15, kV15, dc15, pm15, an15, cd15, ct15, l15, c15⟩ := sy.def_ 15 (d := fnd ("read_record", none) "read_record" "read_record" s_read_record) rfl
  have F_read_record := fun_mk (st := s_read_record) l15 c15 (keep_ok (sy.fact 49 rfl))
  have D_read_record : Df K mg "read_record" s_read_record p_read_record _ _ := ⟨F_read_record, glo_ok X G (sy.fact 48 rfl), F_read_record.binds (ps := p_read_record) fun _ _ _ _ _ _ us hl => match us, hl with | [_, _], _ => rfl⟩
  obtain ⟨oc16, od16, sl16, kV16, dc16, pm16, an16, cd16, ct16, l16, c16⟩ := sy.def_ 16 (d := fnd ("read_value", none) "read_value" "read_value" s_read_value) rfl
  have F_read_value := fun_mk (st := s_read_value) l16 c16 (keep_ok (sy.fact 51 rfl))
  have D_read_value : Df K mg "read_value" s_read_value p_read_value _ _ := ⟨F_read_value, glo_ok X G (sy.fact 50 rfl), F_read_value.binds (ps := p_read_value) fun _ _ _ _ _ _ us hl => match us, hl with | [_, _], _ => rfl⟩
  obtain ⟨oc17, od17, sl17, kV17, dc17, pm17, an17, cd17, ct17, l17, c17⟩ := sy.def_ 17 (d := fnd ("write_low_first", none) "write_low_first" "write_low_first" s_write_low_first) rfl
  have F_write_low_first := fun_mk (st := s_write_low_first) l17 c17 (keep_ok (sy.fact 53 rfl))
  have D_write_low_first : Df K mg "write_low_first" s_write_low_first p_write_low_first _ _ := ⟨F_write_low_first, glo_ok X G (sy.fact 52 rfl), F_write_low_first.binds (ps := p_write_low_first) fun _ _ _ _ _ _ us hl => match us, hl with | [_, _], _ => rfl⟩
  obtain ⟨oc18, od18, sl18, kV18, dc18, pm18, an18, cd18, ct18, l18, c18⟩ := sy.def_ 18 (d := fnd ("write_integer", none) "write_integer" "write_integer" s_write_integer) rfl
  have F_write_integer := fun_mk (st := s_write_integer) l18 c18 (keep_ok (sy.fact 55 rfl))
  have D_write_integer : Df K mg "write_integer" s_write_integer p_write_integer _ _ := ⟨F_write_integer, glo_ok X G (sy.fact 54 rfl), F_write_integer.binds (ps := p_write_integer) fun _ _ _ _ _ _ us hl => match us, hl with | [_], _ => rfl⟩
  obtain ⟨oc19, od19, sl19, kV19, dc19, pm19, an19, cd19, ct19, l19, c19⟩ := sy.def_ 19 (d := fnd ("write_text", none) "write_text" "write_text" s_write_text) rfl
  have F_write_text := fun_mk (st := s_write_text) l19 c19 (keep_ok (sy.fact 57 rfl))
  have D_write_text : Df K mg "write_text" s_write_text p_write_text _ _ := ⟨F_write_text, glo_ok X G (sy.fact 56 rfl), F_write_text.binds (ps := p_write_text) fun _ _ _ _ _ _ us hl => match us, hl with | [_], _ => rfl⟩
  obtain ⟨oc20, od20, sl20, kV20, dc20, pm20, an20, cd20, ct20, l20, c20⟩ := sy.def_ 20 (d := fnd ("write_list", none) "write_list" "write_list" s_write_list) rfl
  have F_write_list := fun_mk (st := s_write_list) l20 c20 (keep_ok (sy.fact 59 rfl))
  have D_write_list : Df K mg "write_list" s_write_list p_write_list _ _ := ⟨F_write_list, glo_ok X G (sy.fact 58 rfl), F_write_list.binds (ps := p_write_list) fun _ _ _ _ _ _ us hl => match us, hl with | [_], _ => rfl⟩
  obtain ⟨oc21, od21, sl21, kV21, dc21, pm21, an21, cd21, ct21, l21, c21⟩ := sy.def_ 21 (d := fnd ("write_record", none) "write_record" "write_record" s_write_record) rfl
  have F_write_record := fun_mk (st := s_write_record) l21 c21 (keep_ok (sy.fact 61 rfl))
  have D_write_record : Df K mg "write_record" s_write_record p_write_record _ _ := ⟨F_write_record, glo_ok X G (sy.fact 60 rfl), F_write_record.binds (ps := p_write_record) fun _ _ _ _ _ _ us hl => match us, hl with | [_, _], _ => rfl⟩
  obtain ⟨oc22, od22, sl22, kV22, dc22, pm22, an22, cd22, ct22, l22, c22⟩ := sy.def_ 22 (d := fnd ("write_value", none) "write_value" "write_value" s_write_value) rfl
  have F_write_value := fun_mk (st := s_write_value) l22 c22 (keep_ok (sy.fact 63 rfl))
  have D_write_value : Df K mg "write_value" s_write_value p_write_value _ _ := ⟨F_write_value, glo_ok X G (sy.fact 62 rfl), F_write_value.binds (ps := p_write_value) fun _ _ _ _ _ _ us hl => match us, hl with | [_], _ => rfl⟩
  obtain ⟨oc23, od23, sl23, kV23, dc23, pm23, an23, cd23, ct23, l23, c23⟩ := sy.def_ 23 (d := fnd ("numbers_of", none) "numbers_of" "numbers_of" s_numbers_of) rfl
  have F_numbers_of := fun_mk (st := s_numbers_of) l23 c23 (keep_ok (sy.fact 65 rfl))
  have D_numbers_of : Df K mg "numbers_of" s_numbers_of p_numbers_of _ _ := ⟨F_numbers_of, glo_ok X G (sy.fact 64 rfl), F_numbers_of.binds (ps := p_numbers_of) fun _ _ _ _ _ _ us hl => match us, hl with | [_], _ => rfl⟩
  obtain ⟨oc24, od24, sl24, kV24, dc24, pm24, an24, cd24, ct24, l24, c24⟩ := sy.def_ 24 (d := fnd ("rows_of", none) "rows_of" "rows_of" s_rows_of) rfl
  have F_rows_of := fun_mk (st := s_rows_of) l24 c24 (keep_ok (sy.fact 67 rfl))
  have D_rows_of : Df K mg "rows_of" s_rows_of p_rows_of _ _ := ⟨F_rows_of, glo_ok X G (sy.fact 66 rfl), F_rows_of.binds (ps := p_rows_of) fun _ _ _ _ _ _ us hl => match us, hl with | [_], _ => rfl⟩
  obtain ⟨oc25, od25, sl25, kV25, dc25, pm25, an25, cd25, ct25, l25, c25⟩ := sy.def_ 25 (d := fnd ("are_wholes", none) "are_wholes" "are_wholes" s_are_wholes) rfl
  have F_are_wholes := fun_mk (st := s_are_wholes) l25 c25 (keep_ok (sy.fact 69 rfl))
  have D_are_wholes : Df K mg "are_wholes" s_are_wholes p_are_wholes _ _ := ⟨F_are_wholes, glo_ok X G (sy.fact 68 rfl), F_are_wholes.binds (ps := p_are_wholes) fun _ _ _ _ _ _ us hl => match us, hl with | [_, _], _ => rfl⟩
  obtain ⟨oc26, od26, sl26, kV26, dc26, pm26, an26, cd26, ct26, l26, c26⟩ := sy.def_ 26 (d := fnd ("are_rows", none) "are_rows" "are_rows" s_are_rows) rfl
  have F_are_rows := fun_mk (st := s_are_rows) l26 c26 (keep_ok (sy.fact 71 rfl))
  have D_are_rows : Df K mg "are_rows" s_are_rows p_are_rows _ _ := ⟨F_are_rows, glo_ok X G (sy.fact 70 rfl), F_are_rows.binds (ps := p_are_rows) fun _ _ _ _ _ _ us hl => match us, hl with | [_, _], _ => rfl⟩
  obtain ⟨oc27, od27, sl27, kV27, dc27, pm27, an27, cd27, ct27, l27, c27⟩ := sy.def_ 27 (d := fnd ("is_page", none) "is_page" "is_page" s_is_page) rfl
  have F_is_page := fun_mk (st := s_is_page) l27 c27 (keep_ok (sy.fact 73 rfl))
  have D_is_page : Df K mg "is_page" s_is_page p_is_page _ _ := ⟨F_is_page, glo_ok X G (sy.fact 72 rfl), F_is_page.binds (ps := p_is_page) fun _ _ _ _ _ _ us hl => match us, hl with | [_, _], _ => rfl⟩
  obtain ⟨oc28, od28, sl28, kV28, dc28, pm28, an28, cd28, ct28, l28, c28⟩ := sy.def_ 28 (d := fnd ("are_pages", none) "are_pages" "are_pages" s_are_pages) rfl
  have F_are_pages := fun_mk (st := s_are_pages) l28 c28 (keep_ok (sy.fact 75 rfl))
  have D_are_pages : Df K mg "are_pages" s_are_pages p_are_pages _ _ := ⟨F_are_pages, glo_ok X G (sy.fact 74 rfl), F_are_pages.binds (ps := p_are_pages) fun _ _ _ _ _ _ us hl => match us, hl with | [_, _], _ => rfl⟩
  obtain ⟨oc29, od29, sl29, kV29, dc29, pm29, an29, cd29, ct29, l29, c29⟩ := sy.def_ 29 (d := fnd ("are_tables", none) "are_tables" "are_tables" s_are_tables) rfl
  have F_are_tables := fun_mk (st := s_are_tables) l29 c29 (keep_ok (sy.fact 77 rfl))
  have D_are_tables : Df K mg "are_tables" s_are_tables p_are_tables _ _ := ⟨F_are_tables, glo_ok X G (sy.fact 76 rfl), F_are_tables.binds (ps := p_are_tables) fun _ _ _ _ _ _ us hl => match us, hl with | [_, _], _ => rfl⟩
  obtain ⟨oc30, od30, sl30, kV30, dc30, pm30, an30, cd30, ct30, l30, c30⟩ := sy.def_ 30 (d := fnd ("checked_size", none) "checked_size" "checked_size" s_checked_size) rfl
  have F_checked_size := fun_mk (st := s_checked_size) l30 c30 (keep_ok (sy.fact 79 rfl))
  have D_checked_size : Df K mg "checked_size" s_checked_size p_checked_size _ _ := ⟨F_checked_size, glo_ok X G (sy.fact 78 rfl), F_checked_size.binds (ps := p_checked_size) fun _ _ _ _ _ _ us hl => match us, hl with | [_], _ => rfl⟩
  obtain ⟨oc31, od31, sl31, kV31, dc31, pm31, an31, cd31, ct31, l31, c31⟩ := sy.def_ 31 (d := fnd ("checked_pages", none) "checked_pages" "checked_pages" s_checked_pages) rfl
  have F_checked_pages := fun_mk (st := s_checked_pages) l31 c31 (keep_ok (sy.fact 81 rfl))
  have D_checked_pages : Df K mg "checked_pages" s_checked_pages p_checked_pages _ _ := ⟨F_checked_pages, glo_ok X G (sy.fact 80 rfl), F_checked_pages.binds (ps := p_checked_pages) fun _ _ _ _ _ _ us hl => match us, hl with | [_, _], _ => rfl⟩
  obtain ⟨oc32, od32, sl32, kV32, dc32, pm32, an32, cd32, ct32, l32, c32⟩ := sy.def_ 32 (d := fnd ("checked_missed", none) "checked_missed" "checked_missed" s_checked_missed) rfl
  have F_checked_missed := fun_mk (st := s_checked_missed) l32 c32 (keep_ok (sy.fact 83 rfl))
  have D_checked_missed : Df K mg "checked_missed" s_checked_missed p_checked_missed _ _ := ⟨F_checked_missed, glo_ok X G (sy.fact 82 rfl), F_checked_missed.binds (ps := p_checked_missed) fun _ _ _ _ _ _ us hl => match us, hl with | [_], _ => rfl⟩
  obtain ⟨oc33, od33, sl33, kV33, dc33, pm33, an33, cd33, ct33, l33, c33⟩ := sy.def_ 33 (d := fnd ("checked_tables", none) "checked_tables" "checked_tables" s_checked_tables) rfl
  have F_checked_tables := fun_mk (st := s_checked_tables) l33 c33 (keep_ok (sy.fact 85 rfl))
  have D_checked_tables : Df K mg "checked_tables" s_checked_tables p_checked_tables _ _ := ⟨F_checked_tables, glo_ok X G (sy.fact 84 rfl), F_checked_tables.binds (ps := p_checked_tables) fun _ _ _ _ _ _ us hl => match us, hl with | [_, _], _ => rfl⟩
  obtain ⟨oc34, od34, sl34, kV34, dc34, pm34, an34, cd34, ct34, l34, c34⟩ := sy.def_ 34 (d := fnd ("first_come", none) "first_come" "first_come" s_first_come) rfl
  have F_first_come := fun_mk (st := s_first_come) l34 c34 (keep_ok (sy.fact 87 rfl))
  have D_first_come : Df K mg "first_come" s_first_come p_first_come _ _ := ⟨F_first_come, glo_ok X G (sy.fact 86 rfl), F_first_come.binds (ps := p_first_come) fun _ _ _ _ _ _ us hl => match us, hl with | [_], _ => rfl⟩
  obtain ⟨oc35, od35, sl35, kV35, dc35, pm35, an35, cd35, ct35, l35, c35⟩ := sy.def_ 35 (d := fnd ("rank_list", none) "rank_list" "rank_list" s_rank_list) rfl
  have F_rank_list := fun_mk (st := s_rank_list) l35 c35 (keep_ok (sy.fact 89 rfl))
  have D_rank_list : Df K mg "rank_list" s_rank_list p_rank_list _ _ := ⟨F_rank_list, glo_ok X G (sy.fact 88 rfl), F_rank_list.binds (ps := p_rank_list) fun _ _ _ _ _ _ us hl => match us, hl with | [_, _], _ => rfl⟩
  obtain ⟨oc36, od36, sl36, kV36, dc36, pm36, an36, cd36, ct36, l36, c36⟩ := sy.def_ 36 (d := fnd ("ranked", none) "ranked" "ranked" s_ranked) rfl
  have F_ranked := fun_mk (st := s_ranked) l36 c36 (keep_ok (sy.fact 91 rfl))
  have D_ranked : Df K mg "ranked" s_ranked p_ranked _ _ := ⟨F_ranked, glo_ok X G (sy.fact 90 rfl), F_ranked.binds (ps := p_ranked) fun _ _ _ _ _ _ us hl => match us, hl with | [_, _], _ => rfl⟩
  obtain ⟨oc37, od37, sl37, kV37, dc37, pm37, an37, cd37, ct37, l37, c37⟩ := sy.def_ 37 (d := fnd ("counted_behind", none) "counted_behind" "counted_behind" s_counted_behind) rfl
  have F_counted_behind := fun_mk (st := s_counted_behind) l37 c37 (keep_ok (sy.fact 93 rfl))
  have D_counted_behind : Df K mg "counted_behind" s_counted_behind p_counted_behind _ _ := ⟨F_counted_behind, glo_ok X G (sy.fact 92 rfl), F_counted_behind.binds (ps := p_counted_behind) fun _ _ _ _ _ _ us hl => match us, hl with | [_, _], _ => rfl⟩
  obtain ⟨oc38, od38, sl38, kV38, dc38, pm38, an38, cd38, ct38, l38, c38⟩ := sy.def_ 38 (d := fnd ("first_free", none) "first_free" "first_free" s_first_free) rfl
  have F_first_free := fun_mk (st := s_first_free) l38 c38 (keep_ok (sy.fact 95 rfl))
  have D_first_free : Df K mg "first_free" s_first_free p_first_free _ _ := ⟨F_first_free, glo_ok X G (sy.fact 94 rfl), F_first_free.binds (ps := p_first_free) fun _ _ _ _ _ _ us hl => match us, hl with | [_, _, _], _ => rfl⟩
  obtain ⟨oc39, od39, sl39, kV39, dc39, pm39, an39, cd39, ct39, l39, c39⟩ := sy.def_ 39 (d := fnd ("take", none) "take" "take" s_take) rfl
  have F_take := fun_mk (st := s_take) l39 c39 (keep_ok (sy.fact 97 rfl))
  have D_take : Df K mg "take" s_take p_take _ _ := ⟨F_take, glo_ok X G (sy.fact 96 rfl), F_take.binds (ps := p_take) fun _ _ _ _ _ _ us hl => match us, hl with | [_, _, _, _], _ => rfl⟩
  obtain ⟨oc40, od40, sl40, kV40, dc40, pm40, an40, cd40, ct40, l40, c40⟩ := sy.def_ 40 (d := fnd ("merged", none) "merged" "merged" s_merged) rfl
  have F_merged := fun_mk (st := s_merged) l40 c40 (keep_ok (sy.fact 99 rfl))
  have D_merged : Df K mg "merged" s_merged p_merged _ _ := ⟨F_merged, glo_ok X G (sy.fact 98 rfl), F_merged.binds (ps := p_merged) fun _ _ _ _ _ _ us hl => match us, hl with | [_], _ => rfl⟩
  obtain ⟨oc41, od41, sl41, kV41, dc41, pm41, an41, cd41, ct41, l41, c41⟩ := sy.def_ 41 (d := fnd ("agree", none) "agree" "agree" s_agree) rfl
  have F_agree := fun_mk (st := s_agree) l41 c41 (keep_ok (sy.fact 101 rfl))
  have D_agree : Df K mg "agree" s_agree p_agree _ _ := ⟨F_agree, glo_ok X G (sy.fact 100 rfl), F_agree.binds (ps := p_agree) fun _ _ _ _ _ _ us hl => match us, hl with | [_], _ => rfl⟩
  obtain ⟨oc42, od42, sl42, kV42, dc42, pm42, an42, cd42, ct42, l42, c42⟩ := sy.def_ 42 (d := fnd ("share", none) "share" "share" s_share) rfl
  have F_share := fun_mk (st := s_share) l42 c42 (keep_ok (sy.fact 103 rfl))
  have D_share : Df K mg "share" s_share p_share _ _ := ⟨F_share, glo_ok X G (sy.fact 102 rfl), F_share.binds (ps := p_share) fun _ _ _ _ _ _ us hl => match us, hl with | [_, _], _ => rfl⟩
  obtain ⟨oc43, od43, sl43, kV43, dc43, pm43, an43, cd43, ct43, l43, c43⟩ := sy.def_ 43 (d := fnd ("joined", none) "joined" "joined" s_joined) rfl
  have F_joined := fun_mk (st := s_joined) l43 c43 (keep_ok (sy.fact 105 rfl))
  have D_joined : Df K mg "joined" s_joined p_joined _ _ := ⟨F_joined, glo_ok X G (sy.fact 104 rfl), F_joined.binds (ps := p_joined) fun _ _ _ _ _ _ us hl => match us, hl with | [_, _, _], _ => rfl⟩
  obtain ⟨oc44, od44, sl44, kV44, dc44, pm44, an44, cd44, ct44, l44, c44⟩ := sy.def_ 44 (d := fnd ("group_marks", none) "group_marks" "group_marks" s_group_marks) rfl
  have F_group_marks := fun_mk (st := s_group_marks) l44 c44 (keep_ok (sy.fact 107 rfl))
  have D_group_marks : Df K mg "group_marks" s_group_marks p_group_marks _ _ := ⟨F_group_marks, glo_ok X G (sy.fact 106 rfl), F_group_marks.binds (ps := p_group_marks) fun _ _ _ _ _ _ us hl => match us, hl with | [_], _ => rfl⟩
  obtain ⟨oc45, od45, sl45, kV45, dc45, pm45, an45, cd45, ct45, l45, c45⟩ := sy.def_ 45 (d := fnd ("pages_marked", none) "pages_marked" "pages_marked" s_pages_marked) rfl
  have F_pages_marked := fun_mk (st := s_pages_marked) l45 c45 (keep_ok (sy.fact 109 rfl))
  have D_pages_marked : Df K mg "pages_marked" s_pages_marked p_pages_marked _ _ := ⟨F_pages_marked, glo_ok X G (sy.fact 108 rfl), F_pages_marked.binds (ps := p_pages_marked) fun _ _ _ _ _ _ us hl => match us, hl with | [_, _], _ => rfl⟩
  obtain ⟨oc46, od46, sl46, kV46, dc46, pm46, an46, cd46, ct46, l46, c46⟩ := sy.def_ 46 (d := fnd ("linked_groups", none) "linked_groups" "linked_groups" s_linked_groups) rfl
  have F_linked_groups := fun_mk (st := s_linked_groups) l46 c46 (keep_ok (sy.fact 111 rfl))
  have D_linked_groups : Df K mg "linked_groups" s_linked_groups p_linked_groups _ _ := ⟨F_linked_groups, glo_ok X G (sy.fact 110 rfl), F_linked_groups.binds (ps := p_linked_groups) fun _ _ _ _ _ _ us hl => match us, hl with | [_], _ => rfl⟩
  obtain ⟨oc47, od47, sl47, kV47, dc47, pm47, an47, cd47, ct47, l47, c47⟩ := sy.def_ 47 (d := fnd ("ending_marks", none) "ending_marks" "ending_marks" s_ending_marks) rfl
  have F_ending_marks := fun_mk (st := s_ending_marks) l47 c47 (keep_ok (sy.fact 113 rfl))
  have D_ending_marks : Df K mg "ending_marks" s_ending_marks p_ending_marks _ _ := ⟨F_ending_marks, glo_ok X G (sy.fact 112 rfl), F_ending_marks.binds (ps := p_ending_marks) fun _ _ _ _ _ _ us hl => match us, hl with | [_, _, _], _ => rfl⟩
  obtain ⟨oc48, od48, sl48, kV48, dc48, pm48, an48, cd48, ct48, l48, c48⟩ := sy.def_ 48 (d := fnd ("ending_pages", none) "ending_pages" "ending_pages" s_ending_pages) rfl
  have F_ending_pages := fun_mk (st := s_ending_pages) l48 c48 (keep_ok (sy.fact 115 rfl))
  have D_ending_pages : Df K mg "ending_pages" s_ending_pages p_ending_pages _ _ := ⟨F_ending_pages, glo_ok X G (sy.fact 114 rfl), F_ending_pages.binds (ps := p_ending_pages) fun _ _ _ _ _ _ us hl => match us, hl with | [_, _], _ => rfl⟩
  obtain ⟨oc49, od49, sl49, kV49, dc49, pm49, an49, cd49, ct49, l49, c49⟩ := sy.def_ 49 (d := fnd ("most_missed", none) "most_missed" "most_missed" s_most_missed) rfl
  have F_most_missed := fun_mk (st := s_most_missed) l49 c49 (keep_ok (sy.fact 117 rfl))
  have D_most_missed : Df K mg "most_missed" s_most_missed p_most_missed _ _ := ⟨F_most_missed, glo_ok X G (sy.fact 116 rfl), F_most_missed.binds (ps := p_most_missed) fun _ _ _ _ _ _ us hl => match us, hl with | [_, _], _ => rfl⟩
  obtain ⟨oc50, od50, sl50, kV50, dc50, pm50, an50, cd50, ct50, l50, c50⟩ := sy.def_ 50 (d := fnd ("is_certain", none) "is_certain" "is_certain" s_is_certain) rfl
  have F_is_certain := fun_mk (st := s_is_certain) l50 c50 (keep_ok (sy.fact 119 rfl))
  have D_is_certain : Df K mg "is_certain" s_is_certain p_is_certain _ _ := ⟨F_is_certain, glo_ok X G (sy.fact 118 rfl), F_is_certain.binds (ps := p_is_certain) fun _ _ _ _ _ _ us hl => match us, hl with | [_, _], _ => rfl⟩
  obtain ⟨oc51, od51, sl51, kV51, dc51, pm51, an51, cd51, ct51, l51, c51⟩ := sy.def_ 51 (d := fnd ("last_has_begin", none) "last_has_begin" "last_has_begin" s_last_has_begin) rfl
  have F_last_has_begin := fun_mk (st := s_last_has_begin) l51 c51 (keep_ok (sy.fact 121 rfl))
  have D_last_has_begin : Df K mg "last_has_begin" s_last_has_begin p_last_has_begin _ _ := ⟨F_last_has_begin, glo_ok X G (sy.fact 120 rfl), F_last_has_begin.binds (ps := p_last_has_begin) fun _ _ _ _ _ _ us hl => match us, hl with | [_], _ => rfl⟩
  obtain ⟨oc52, od52, sl52, kV52, dc52, pm52, an52, cd52, ct52, l52, c52⟩ := sy.def_ 52 (d := fnd ("next_offset", none) "next_offset" "next_offset" s_next_offset) rfl
  have F_next_offset := fun_mk (st := s_next_offset) l52 c52 (keep_ok (sy.fact 123 rfl))
  have D_next_offset : Df K mg "next_offset" s_next_offset p_next_offset _ _ := ⟨F_next_offset, glo_ok X G (sy.fact 122 rfl), F_next_offset.binds (ps := p_next_offset) fun _ _ _ _ _ _ us hl => match us, hl with | [_, _], _ => rfl⟩
  obtain ⟨oc53, od53, sl53, kV53, dc53, pm53, an53, cd53, ct53, l53, c53⟩ := sy.def_ 53 (d := fnd ("above_rows", none) "above_rows" "above_rows" s_above_rows) rfl
  have F_above_rows := fun_mk (st := s_above_rows) l53 c53 (keep_ok (sy.fact 125 rfl))
  have D_above_rows : Df K mg "above_rows" s_above_rows p_above_rows _ _ := ⟨F_above_rows, glo_ok X G (sy.fact 124 rfl), F_above_rows.binds (ps := p_above_rows) fun _ _ _ _ _ _ us hl => match us, hl with | [_], _ => rfl⟩
  obtain ⟨oc54, od54, sl54, kV54, dc54, pm54, an54, cd54, ct54, l54, c54⟩ := sy.def_ 54 (d := fnd ("run", none) "run" "run" s_run) rfl
  have F_run := fun_mk (st := s_run) l54 c54 (keep_ok (sy.fact 127 rfl))
  have D_run : Df K mg "run" s_run p_run _ _ := ⟨F_run, glo_ok X G (sy.fact 126 rfl), F_run.binds (ps := p_run) fun _ _ _ _ _ _ us hl => match us, hl with | [_, _], _ => rfl⟩
  obtain ⟨oc55, od55, sl55, kV55, dc55, pm55, an55, cd55, ct55, l55, c55⟩ := sy.def_ 55 (d := fnd ("example_tables", none) "example_tables" "example_tables" s_example_tables) rfl
  have F_example_tables := fun_mk (st := s_example_tables) l55 c55 (keep_ok (sy.fact 129 rfl))
  have D_example_tables : Df K mg "example_tables" s_example_tables p_example_tables _ _ := ⟨F_example_tables, glo_ok X G (sy.fact 128 rfl), F_example_tables.binds (ps := p_example_tables) fun _ _ _ _ _ _ us hl => match us, hl with | [_, _, _], _ => rfl⟩
  obtain ⟨oc56, od56, sl56, kV56, dc56, pm56, an56, cd56, ct56, l56, c56⟩ := sy.def_ 56 (d := fnd ("checked_example", none) "checked_example" "checked_example" s_checked_example) rfl
  have F_checked_example := fun_mk (st := s_checked_example) l56 c56 (keep_ok (sy.fact 131 rfl))
  have D_checked_example : Df K mg "checked_example" s_checked_example p_checked_example _ _ := ⟨F_checked_example, glo_ok X G (sy.fact 130 rfl), F_checked_example.binds (ps := p_checked_example) fun _ _ _ _ _ _ us hl => match us, hl with | [_, _, _], _ => rfl⟩
  obtain ⟨oc57, od57, sl57, kV57, dc57, pm57, an57, cd57, ct57, l57, c57⟩ := sy.def_ 57 (d := fnd ("shows", none) "shows" "shows" s_shows) rfl
  have F_shows := fun_mk (st := s_shows) l57 c57 (keep_ok (sy.fact 133 rfl))
  have D_shows : Df K mg "shows" s_shows p_shows _ _ := ⟨F_shows, glo_ok X G (sy.fact 132 rfl), F_shows.binds (ps := p_shows) fun _ _ _ _ _ _ us hl => match us, hl with | [_, _, _], _ => rfl⟩
  obtain ⟨oc58, od58, sl58, kV58, dc58, pm58, an58, cd58, ct58, l58, c58⟩ := sy.def_ 58 (d := fnd ("check_shown", none) "check_shown" "check_shown" s_check_shown) rfl
  have F_check_shown := fun_mk (st := s_check_shown) l58 c58 (keep_ok (sy.fact 135 rfl))
  have D_check_shown : Df K mg "check_shown" s_check_shown p_check_shown _ _ := ⟨F_check_shown, glo_ok X G (sy.fact 134 rfl), F_check_shown.binds (ps := p_check_shown) fun _ _ _ _ _ _ us hl => match us, hl with | [_, _, _], _ => rfl⟩
  obtain ⟨oc59, od59, sl59, kV59, dc59, pm59, an59, cd59, ct59, l59, c59⟩ := sy.def_ 59 (d := fnd ("check_order", none) "check_order" "check_order" s_check_order) rfl
  have F_check_order := fun_mk (st := s_check_order) l59 c59 (keep_ok (sy.fact 137 rfl))
  have D_check_order : Df K mg "check_order" s_check_order p_check_order _ _ := ⟨F_check_order, glo_ok X G (sy.fact 136 rfl), F_check_order.binds (ps := p_check_order) fun _ _ _ _ _ _ us hl => match us, hl with | [_], _ => rfl⟩
  obtain ⟨oc60, od60, sl60, kV60, dc60, pm60, an60, cd60, ct60, l60, c60⟩ := sy.def_ 60 (d := fnd ("tally", none) "tally" "tally" s_tally) rfl
  have F_tally := fun_mk (st := s_tally) l60 c60 (keep_ok (sy.fact 139 rfl))
  have D_tally : Df K mg "tally" s_tally p_tally _ _ := ⟨F_tally, glo_ok X G (sy.fact 138 rfl), F_tally.binds (ps := p_tally) fun _ _ _ _ _ _ us hl => match us, hl with | [_], _ => rfl⟩
  obtain ⟨oc61, od61, sl61, kV61, dc61, pm61, an61, cd61, ct61, l61, c61⟩ := sy.def_ 61 (d := fnd ("missed_rows", none) "missed_rows" "missed_rows" s_missed_rows) rfl
  have F_missed_rows := fun_mk (st := s_missed_rows) l61 c61 (keep_ok (sy.fact 141 rfl))
  have D_missed_rows : Df K mg "missed_rows" s_missed_rows p_missed_rows _ _ := ⟨F_missed_rows, glo_ok X G (sy.fact 140 rfl), F_missed_rows.binds (ps := p_missed_rows) fun _ _ _ _ _ _ us hl => match us, hl with | [_, _], _ => rfl⟩
  obtain ⟨oc62, od62, sl62, kV62, dc62, pm62, an62, cd62, ct62, l62, c62⟩ := sy.def_ 62 (d := fnd ("checked_missed_rows", none) "checked_missed_rows" "checked_missed_rows" s_checked_missed_rows) rfl
  have F_checked_missed_rows := fun_mk (st := s_checked_missed_rows) l62 c62 (keep_ok (sy.fact 143 rfl))
  have D_checked_missed_rows : Df K mg "checked_missed_rows" s_checked_missed_rows p_checked_missed_rows _ _ := ⟨F_checked_missed_rows, glo_ok X G (sy.fact 142 rfl), F_checked_missed_rows.binds (ps := p_checked_missed_rows) fun _ _ _ _ _ _ us hl => match us, hl with | [_, _, _], _ => rfl⟩
  obtain ⟨oc63, od63, sl63, kV63, dc63, pm63, an63, cd63, ct63, l63, c63⟩ := sy.def_ 63 (d := fnd ("fulfilled_value", none) "fulfilled_value" "fulfilled_value" s_fulfilled_value) rfl
  have F_fulfilled_value := fun_mk (st := s_fulfilled_value) l63 c63 (keep_ok (sy.fact 145 rfl))
  have D_fulfilled_value : Df K mg "fulfilled_value" s_fulfilled_value p_fulfilled_value _ _ := ⟨F_fulfilled_value, glo_ok X G (sy.fact 144 rfl), F_fulfilled_value.binds (ps := p_fulfilled_value) fun _ _ _ _ _ _ us hl => match us, hl with | [_], _ => rfl⟩
  obtain ⟨oc64, od64, sl64, kV64, dc64, pm64, an64, cd64, ct64, l64, c64⟩ := sy.def_ 64 (d := fnd ("rejected_value", none) "rejected_value" "rejected_value" s_rejected_value) rfl
  have F_rejected_value := fun_mk (st := s_rejected_value) l64 c64 (keep_ok (sy.fact 147 rfl))
  have D_rejected_value : Df K mg "rejected_value" s_rejected_value p_rejected_value _ _ := ⟨F_rejected_value, glo_ok X G (sy.fact 146 rfl), F_rejected_value.binds (ps := p_rejected_value) fun _ _ _ _ _ _ us hl => match us, hl with | [_, _], _ => rfl⟩
  obtain ⟨oc65, od65, sl65, kV65, dc65, pm65, an65, cd65, ct65, l65, c65⟩ := sy.def_ 65 (d := fnd ("failed_value", none) "failed_value" "failed_value" s_failed_value) rfl
  have F_failed_value := fun_mk (st := s_failed_value) l65 c65 (keep_ok (sy.fact 149 rfl))
  have D_failed_value : Df K mg "failed_value" s_failed_value p_failed_value _ _ := ⟨F_failed_value, glo_ok X G (sy.fact 148 rfl), F_failed_value.binds (ps := p_failed_value) fun _ _ _ _ _ _ us hl => match us, hl with | [_], _ => rfl⟩
  obtain ⟨oc66, od66, sl66, kV66, dc66, pm66, an66, cd66, ct66, l66, c66⟩ := sy.def_ 66 (d := fnd ("Collector", some "__init__") "__init__" "Collector.__init__" s_Collector_init) rfl
  have F_Collector_init := fun_mk (st := s_Collector_init) l66 c66 ikCollector
  have b_Collector_init := F_Collector_init.binds (ps := p_Collector_init) fun _ _ _ _ _ _ us hl => match us, hl with | [_, _, _], _ => rfl
  obtain ⟨oc67, od67, sl67, kV67, dc67, pm67, an67, cd67, ct67, l67, c67⟩ := sy.def_ 67 (d := fnd ("Collector", some "finish") "finish" "Collector.finish" s_Collector_finish) rfl
  have mt_Collector_finish := meth_ok (sy.fact 150 rfl)
  have F_Collector_finish := fun_mk (st := s_Collector_finish) l67 c67 mt_Collector_finish.kp
  have D_Collector_finish : DfM K (ga K "Collector") "finish" "Collector.finish" s_Collector_finish p_Collector_finish _ _ := ⟨F_Collector_finish, mt_Collector_finish, F_Collector_finish.binds (ps := p_Collector_finish) fun _ _ _ _ _ _ us hl => match us, hl with | [_, _], _ => rfl⟩
  obtain ⟨oc68, od68, sl68, kV68, dc68, pm68, an68, cd68, ct68, l68, c68⟩ := sy.def_ 68 (d := fnd ("Collector", some "go_on") "go_on" "Collector.go_on" s_Collector_go_on) rfl
  have mt_Collector_go_on := meth_ok (sy.fact 151 rfl)
  have F_Collector_go_on := fun_mk (st := s_Collector_go_on) l68 c68 mt_Collector_go_on.kp
  have D_Collector_go_on : DfM K (ga K "Collector") "go_on" "Collector.go_on" s_Collector_go_on p_Collector_go_on _ _ := ⟨F_Collector_go_on, mt_Collector_go_on, F_Collector_go_on.binds (ps := p_Collector_go_on) fun _ _ _ _ _ _ us hl => match us, hl with | [_], _ => rfl⟩
  obtain ⟨oc69, od69, sl69, kV69, dc69, pm69, an69, cd69, ct69, l69, c69⟩ := sy.def_ 69 (d := fnd ("Collector", some "accept") "accept" "Collector.accept" s_Collector_accept) rfl
  have mt_Collector_accept := meth_ok (sy.fact 152 rfl)
  have F_Collector_accept := fun_mk (st := s_Collector_accept) l69 c69 mt_Collector_accept.kp
  have D_Collector_accept : DfM K (ga K "Collector") "accept" "Collector.accept" s_Collector_accept p_Collector_accept _ _ := ⟨F_Collector_accept, mt_Collector_accept, F_Collector_accept.binds (ps := p_Collector_accept) fun _ _ _ _ _ _ us hl => match us, hl with | [_, _], _ => rfl⟩
  obtain ⟨oc70, od70, sl70, kV70, dc70, pm70, an70, cd70, ct70, l70, c70⟩ := sy.def_ 70 (d := fnd ("Collector", some "give_up") "give_up" "Collector.give_up" s_Collector_give_up) rfl
  have mt_Collector_give_up := meth_ok (sy.fact 153 rfl)
  have F_Collector_give_up := fun_mk (st := s_Collector_give_up) l70 c70 mt_Collector_give_up.kp
  have D_Collector_give_up : DfM K (ga K "Collector") "give_up" "Collector.give_up" s_Collector_give_up p_Collector_give_up _ _ := ⟨F_Collector_give_up, mt_Collector_give_up, F_Collector_give_up.binds (ps := p_Collector_give_up) fun _ _ _ _ _ _ us hl => match us, hl with | [_, _], _ => rfl⟩
  obtain ⟨oc71, od71, sl71, kV71, dc71, pm71, an71, cd71, ct71, l71, c71⟩ := sy.def_ 71 (d := fnd ("Collector", some "feed") "feed" "Collector.feed" s_Collector_feed) rfl
  have mt_Collector_feed := meth_ok (sy.fact 154 rfl)
  have F_Collector_feed := fun_mk (st := s_Collector_feed) l71 c71 mt_Collector_feed.kp
  have D_Collector_feed : DfM K (ga K "Collector") "feed" "Collector.feed" s_Collector_feed p_Collector_feed _ _ := ⟨F_Collector_feed, mt_Collector_feed, F_Collector_feed.binds (ps := p_Collector_feed) fun _ _ _ _ _ _ us hl => match us, hl with | [_, _], _ => rfl⟩
  obtain ⟨oc72, od72, sl72, kV72, dc72, pm72, an72, cd72, ct72, l72, c72⟩ := sy.def_ 72 (d := fnd ("Collector", some "wanted") "wanted" "Collector.wanted" s_Collector_wanted) rfl
  have mt_Collector_wanted := meth_ok (sy.fact 155 rfl)
  have F_Collector_wanted := fun_mk (st := s_Collector_wanted) l72 c72 mt_Collector_wanted.kp
  have D_Collector_wanted : DfM K (ga K "Collector") "wanted" "Collector.wanted" s_Collector_wanted p_Collector_wanted _ _ := ⟨F_Collector_wanted, mt_Collector_wanted, F_Collector_wanted.binds (ps := p_Collector_wanted) fun _ _ _ _ _ _ us hl => match us, hl with | [_], _ => rfl⟩
  obtain ⟨oc73, od73, sl73, kV73, dc73, pm73, an73, cd73, ct73, l73, c73⟩ := sy.def_ 73 (d := fnd ("number_or_null", none) "number_or_null" "number_or_null" s_number_or_null) rfl
  have F_number_or_null := fun_mk (st := s_number_or_null) l73 c73 (keep_ok (sy.fact 157 rfl))
  have D_number_or_null : Df K mg "number_or_null" s_number_or_null p_number_or_null _ _ := ⟨F_number_or_null, glo_ok X G (sy.fact 156 rfl), F_number_or_null.binds (ps := p_number_or_null) fun _ _ _ _ _ _ us hl => match us, hl with | [_], _ => rfl⟩
  obtain ⟨oc74, od74, sl74, kV74, dc74, pm74, an74, cd74, ct74, l74, c74⟩ := sy.def_ 74 (d := fnd ("lists_value", none) "lists_value" "lists_value" s_lists_value) rfl
  have F_lists_value := fun_mk (st := s_lists_value) l74 c74 (keep_ok (sy.fact 159 rfl))
  have D_lists_value : Df K mg "lists_value" s_lists_value p_lists_value _ _ := ⟨F_lists_value, glo_ok X G (sy.fact 158 rfl), F_lists_value.binds (ps := p_lists_value) fun _ _ _ _ _ _ us hl => match us, hl with | [_], _ => rfl⟩
  obtain ⟨oc75, od75, sl75, kV75, dc75, pm75, an75, cd75, ct75, l75, c75⟩ := sy.def_ 75 (d := fnd ("merged_value", none) "merged_value" "merged_value" s_merged_value) rfl
  have F_merged_value := fun_mk (st := s_merged_value) l75 c75 (keep_ok (sy.fact 161 rfl))
  have D_merged_value : Df K mg "merged_value" s_merged_value p_merged_value _ _ := ⟨F_merged_value, glo_ok X G (sy.fact 160 rfl), F_merged_value.binds (ps := p_merged_value) fun _ _ _ _ _ _ us hl => match us, hl with | [_], _ => rfl⟩
  obtain ⟨oc76, od76, sl76, kV76, dc76, pm76, an76, cd76, ct76, l76, c76⟩ := sy.def_ 76 (d := fnd ("pages_answer", none) "pages_answer" "pages_answer" s_pages_answer) rfl
  have F_pages_answer := fun_mk (st := s_pages_answer) l76 c76 (keep_ok (sy.fact 163 rfl))
  have D_pages_answer : Df K mg "pages_answer" s_pages_answer p_pages_answer _ _ := ⟨F_pages_answer, glo_ok X G (sy.fact 162 rfl), F_pages_answer.binds (ps := p_pages_answer) fun _ _ _ _ _ _ us hl => match us, hl with | [_, _, _], _ => rfl⟩
  obtain ⟨oc77, od77, sl77, kV77, dc77, pm77, an77, cd77, ct77, l77, c77⟩ := sy.def_ 77 (d := fnd ("example_answer", none) "example_answer" "example_answer" s_example_answer) rfl
  have F_example_answer := fun_mk (st := s_example_answer) l77 c77 (keep_ok (sy.fact 165 rfl))
  have D_example_answer : Df K mg "example_answer" s_example_answer p_example_answer _ _ := ⟨F_example_answer, glo_ok X G (sy.fact 164 rfl), F_example_answer.binds (ps := p_example_answer) fun _ _ _ _ _ _ us hl => match us, hl with | [_, _, _], _ => rfl⟩
  obtain ⟨oc78, od78, sl78, kV78, dc78, pm78, an78, cd78, ct78, l78, c78⟩ := sy.def_ 78 (d := fnd ("missed_answer", none) "missed_answer" "missed_answer" s_missed_answer) rfl
  have F_missed_answer := fun_mk (st := s_missed_answer) l78 c78 (keep_ok (sy.fact 167 rfl))
  have D_missed_answer : Df K mg "missed_answer" s_missed_answer p_missed_answer _ _ := ⟨F_missed_answer, glo_ok X G (sy.fact 166 rfl), F_missed_answer.binds (ps := p_missed_answer) fun _ _ _ _ _ _ us hl => match us, hl with | [_, _, _], _ => rfl⟩
  obtain ⟨oc79, od79, sl79, kV79, dc79, pm79, an79, cd79, ct79, l79, c79⟩ := sy.def_ 79 (d := fnd ("log_answer", none) "log_answer" "log_answer" s_log_answer) rfl
  have F_log_answer := fun_mk (st := s_log_answer) l79 c79 (keep_ok (sy.fact 169 rfl))
  have D_log_answer : Df K mg "log_answer" s_log_answer p_log_answer _ _ := ⟨F_log_answer, glo_ok X G (sy.fact 168 rfl), F_log_answer.binds (ps := p_log_answer) fun _ _ _ _ _ _ us hl => match us, hl with | [_, _], _ => rfl⟩
  obtain ⟨oc80, od80, sl80, kV80, dc80, pm80, an80, cd80, ct80, l80, c80⟩ := sy.def_ 80 (d := fnd ("Session", some "__init__") "__init__" "Session.__init__" s_Session_init) rfl
  have F_Session_init := fun_mk (st := s_Session_init) l80 c80 ikSession
  have b_Session_init := F_Session_init.binds (ps := p_Session_init) fun _ _ _ _ _ _ us hl => match us, hl with | [_], _ => rfl
  obtain ⟨oc81, od81, sl81, kV81, dc81, pm81, an81, cd81, ct81, l81, c81⟩ := sy.def_ 81 (d := fnd ("Session", some "fill") "fill" "Session.fill" s_Session_fill) rfl
  have mt_Session_fill := meth_ok (sy.fact 170 rfl)
  have F_Session_fill := fun_mk (st := s_Session_fill) l81 c81 mt_Session_fill.kp
  have D_Session_fill : DfM K (ga K "Session") "fill" "Session.fill" s_Session_fill p_Session_fill _ _ := ⟨F_Session_fill, mt_Session_fill, F_Session_fill.binds (ps := p_Session_fill) fun _ _ _ _ _ _ us hl => match us, hl with | [_, _, _], _ => rfl⟩
  obtain ⟨oc82, od82, sl82, kV82, dc82, pm82, an82, cd82, ct82, l82, c82⟩ := sy.def_ 82 (d := fnd ("Session", some "read") "read" "Session.read" s_Session_read) rfl
  have mt_Session_read := meth_ok (sy.fact 171 rfl)
  have F_Session_read := fun_mk (st := s_Session_read) l82 c82 mt_Session_read.kp
  have D_Session_read : DfM K (ga K "Session") "read" "Session.read" s_Session_read p_Session_read _ _ := ⟨F_Session_read, mt_Session_read, F_Session_read.binds (ps := p_Session_read) fun _ _ _ _ _ _ us hl => match us, hl with | [_, _, _], _ => rfl⟩
  obtain ⟨oc83, od83, sl83, kV83, dc83, pm83, an83, cd83, ct83, l83, c83⟩ := sy.def_ 83 (d := fnd ("Session", some "returned") "returned" "Session.returned" s_Session_returned) rfl
  have mt_Session_returned := meth_ok (sy.fact 172 rfl)
  have F_Session_returned := fun_mk (st := s_Session_returned) l83 c83 mt_Session_returned.kp
  have D_Session_returned : DfM K (ga K "Session") "returned" "Session.returned" s_Session_returned p_Session_returned _ _ := ⟨F_Session_returned, mt_Session_returned, F_Session_returned.binds (ps := p_Session_returned) fun _ _ _ _ _ _ us hl => match us, hl with | [_, _, _], _ => rfl⟩
  obtain ⟨oc84, od84, sl84, kV84, dc84, pm84, an84, cd84, ct84, l84, c84⟩ := sy.def_ 84 (d := fnd ("read_given", none) "read_given" "read_given" s_read_given) rfl
  have F_read_given := fun_mk (st := s_read_given) l84 c84 (keep_ok (sy.fact 174 rfl))
  have D_read_given : Df K mg "read_given" s_read_given p_read_given _ _ := ⟨F_read_given, glo_ok X G (sy.fact 173 rfl), F_read_given.binds (ps := p_read_given) fun _ _ _ _ _ _ us hl => match us, hl with | [_], _ => rfl⟩
  obtain ⟨oc85, od85, sl85, kV85, dc85, pm85, an85, cd85, ct85, l85, c85⟩ := sy.def_ 85 (d := fnd ("refusal", none) "refusal" "refusal" s_refusal) rfl
  have F_refusal := fun_mk (st := s_refusal) l85 c85 (keep_ok (sy.fact 176 rfl))
  have D_refusal : Df K mg "refusal" s_refusal p_refusal _ _ := ⟨F_refusal, glo_ok X G (sy.fact 175 rfl), F_refusal.binds (ps := p_refusal) fun _ _ _ _ _ _ us hl => match us, hl with | [_, _], _ => rfl⟩
  obtain ⟨oc86, od86, sl86, kV86, dc86, pm86, an86, cd86, ct86, l86, c86⟩ := sy.def_ 86 (d := fnd ("answered", none) "answered" "answered" s_answered) rfl
  have F_answered := fun_mk (st := s_answered) l86 c86 (keep_ok (sy.fact 178 rfl))
  have D_answered : Df K mg "answered" s_answered p_answered _ _ := ⟨F_answered, glo_ok X G (sy.fact 177 rfl), F_answered.binds (ps := p_answered) fun _ _ _ _ _ _ us hl => match us, hl with | [_, _], _ => rfl⟩
  obtain ⟨oc87, od87, sl87, kV87, dc87, pm87, an87, cd87, ct87, l87, c87⟩ := sy.def_ 87 (d := fnd ("answers", none) "answers" "answers" s_answers) rfl
  have F_answers := fun_mk (st := s_answers) l87 c87 (keep_ok (sy.fact 180 rfl))
  have D_answers : Df K mg "answers" s_answers p_answers _ _ := ⟨F_answers, glo_ok X G (sy.fact 179 rfl), F_answers.binds (ps := p_answers) fun _ _ _ _ _ _ us hl => match us, hl with | [_], _ => rfl⟩
  have TV : ClV K (ga K "Value") := ⟨cls_ok (sy.fact 1 rfl), noat_ok (sy.fact 3 rfl), noat_ok (sy.fact 4 rfl), noat_ok (sy.fact 5 rfl), noat_ok (sy.fact 6 rfl), noat_ok (sy.fact 7 rfl)⟩
  have TC : ClC K (ga K "Collector") := ⟨cls_ok (sy.fact 9 rfl), noat_ok (sy.fact 11 rfl), noat_ok (sy.fact 12 rfl), noat_ok (sy.fact 13 rfl), noat_ok (sy.fact 14 rfl), noat_ok (sy.fact 15 rfl)⟩
  have TZ : ClS K (ga K "Session") := ⟨cls_ok (sy.fact 17 rfl), noat_ok (sy.fact 19 rfl)⟩
  have B : Blt mg := ⟨free_ok X G (sy.fact 196 rfl), free_ok X G (sy.fact 197 rfl), free_ok X G (sy.fact 198 rfl), free_ok X G (sy.fact 199 rfl), free_ok X G (sy.fact 200 rfl), free_ok X G (sy.fact 201 rfl), free_ok X G (sy.fact 202 rfl), free_ok X G (sy.fact 203 rfl), free_ok X G (sy.fact 204 rfl), free_ok X G (sy.fact 205 rfl)⟩
  have Kc : Csts mg := ⟨kst_int (int_ok X G (sy.fact 181 rfl)), kst_int (int_ok X G (sy.fact 182 rfl)), kst_int (int_ok X G (sy.fact 183 rfl)), kst_int (int_ok X G (sy.fact 184 rfl)), kst_int (int_ok X G (sy.fact 185 rfl)), kst_int (int_ok X G (sy.fact 186 rfl)), kst_int (int_ok X G (sy.fact 187 rfl)), kst_int (int_ok X G (sy.fact 188 rfl)), kst_str (str_ok X G (sy.fact 189 rfl)), kst_str (str_ok X G (sy.fact 190 rfl)), kst_str (str_ok X G (sy.fact 191 rfl)), kst_str (str_ok X G (sy.fact 192 rfl)), kst_str (str_ok X G (sy.fact 193 rfl)), kst_str (str_ok X G (sy.fact 194 rfl)), kst_str (str_ok X G (sy.fact 195 rfl))⟩
  have X_OutOfRange : XCls K mg "OutOfRange" (ga K "OutOfRange") := xcls_mk (glo_ok X G (sy.fact 206 rfl)) (keep_ok (sy.fact 208 rfl)) xOutOfRange
  have X_WrongKind : XCls K mg "WrongKind" (ga K "WrongKind") := xcls_mk (glo_ok X G (sy.fact 207 rfl)) (keep_ok (sy.fact 209 rfl)) xWrongKind
  have XF : ExcF K (ga K "OutOfRange") (ga K "WrongKind") := ⟨exm_ok (sy.fact 210 rfl), exm_ok (sy.fact 211 rfl), exm_ok (sy.fact 212 rfl)⟩
  have e := hfa.symm.trans D_answers.g
  cases e
  refine ⟨PySem.W.fnOf "answers" "answers" (defArgs s_answers) (defBody s_answers) (defScope s_answers) .none kV87 dc87 pm87 an87 cd87 ct87, fun s us hu => match us, hu with | [_], _ => .of_eq rfl, fun base _ _ => ?_⟩
  exact all_ok F_Value_init b_Value_init (glo_ok X G (sy.fact 0 rfl)) (mkr_ok (sy.fact 2 rfl)) D_simple_value D_truth_value D_integer_value D_text_value D_list_value D_record_value D_word_octets D_word_value D_number_list D_is_whole D_read_low_first D_read_integer D_read_text D_read_values D_read_record D_read_value D_write_low_first D_write_integer D_write_text D_write_list D_write_record D_write_value D_numbers_of D_rows_of D_are_wholes D_are_rows D_is_page D_are_pages D_are_tables D_checked_size D_checked_pages D_checked_missed D_checked_tables D_first_come D_rank_list D_ranked D_counted_behind D_first_free D_take D_merged D_agree D_share D_joined D_group_marks D_pages_marked D_linked_groups D_ending_marks D_ending_pages D_most_missed D_is_certain D_last_has_begin D_next_offset D_above_rows D_run D_example_tables D_checked_example D_shows D_check_shown D_check_order D_tally D_missed_rows D_checked_missed_rows D_fulfilled_value D_rejected_value D_failed_value F_Collector_init b_Collector_init (glo_ok X G (sy.fact 8 rfl)) (mkr_ok (sy.fact 10 rfl)) D_Collector_finish D_Collector_go_on D_Collector_accept D_Collector_give_up D_Collector_feed D_Collector_wanted D_number_or_null D_lists_value D_merged_value D_pages_answer D_example_answer D_missed_answer D_log_answer F_Session_init b_Session_init (glo_ok X G (sy.fact 16 rfl)) (mkr_ok (sy.fact 18 rfl)) D_Session_fill D_Session_read D_Session_returned D_read_given D_refusal D_answered D_answers TV TC TZ B Kc X_OutOfRange X_WrongKind XF
end Pg

open PySem PySem.W PyProof.Rows
set_option maxHeartbeats 8000000 in
theorem PySem.Challenge.cw_provenpages_s01_answers_holds : PySem.Challenge.rw_provenpages_s01_answers.Holds := by
  w_on; k_headS; (case hw => exact ⟨[.list ([0, 9, 4, 0, 2, 0, 7, 0, 0, 0, 0].map WData.int)], by decide +kernel, by decide +kernel⟩)
  k_fillS
  refine L2.walk_specK (r := PySem.Challenge.rw_provenpages_s01_answers) (k := 72) (CX := L2.CX0) (ps := ["calls"]) (sp := Pg.spAnswers) (by decide +kernel) rfl rfl ⟨rfl, by decide, by decide⟩ (fun w h Y => PySem.W.kIn_of Y) ?F ?S (fun _ _ _ _ z => z)
  case S =>
    intro K H xs a hO hwi hask hx
    cases hx with
    | cons h1 h2 =>
      cases h2
      cases h1 with
      | lst hs ha =>
        have e := L2.ints_dw a.1 _ ha
        subst e
        obtain ⟨cs, outs, hl, pl, hans, hlen⟩ := Pg.asked_plays (l := a.1) hask
        refine ⟨_, cs, outs, rfl, by rw [← hl]; exact hs, pl, hlen, fun p H' hp => ?_⟩
        have hp2 : H' p = some (.lst ((PyZn95.answers a.1).map L2.V.int)) := by
          rw [hans]
          exact hp
        exact .lst (L2.SqL.of hp2) (L2.dw_ints _)
  case F =>
    intro w mg fa h Y KX G hmg
    refine' Pg.all_mk KX G hmg ?sy ?hb
    (case hb => kernel_rfl)
    (case sy => unfold He.SaysE; kernel_rfl)

